-- Written by a program of this workplace (print2.py) for this claim, over the print's words.
import Derived.Test.YtefkjmkmojmllaaQFnExactGetTermx0
namespace Go.Proofs.Ytefkjmkmojmllaa.QFnExactGetTerm
open Go.RowKit Go.Proofs.YtefkjmkmojmllaaW.PrintWords Go.Proofs.YtefkjmkmojmllaaW.PrintLast Go.Proofs.YtefkjmkmojmllaaW.PrintMore
attribute [local go_sem] max2_int min2_int max_two min_two max_three min_three max_four min_four   -- for this text's walks alone
set_option linter.unusedVariables false
set_option linter.unusedSimpArgs false

/-! ### laws_toByteS: function 5 -/
def laws_toByteS.l0:Nat → List Int → List Int → Int → Option (List Int)
 | 0,_,_,_=>none
 | k + 1,x0,x3,x4=>if x4 < (x0.length:Int) then (if 0≤x4 then (if x4 < (x3.length:Int) then (laws_toByteS.l0 k x0 (x3.set (x4:Int).toNat (rd x0 x4)) (wrap64 (x4 + 1))) else (none)) else (none)) else (some x3)
def laws_toByteS.f (k:Nat) (l0:List Int):Option (List Int):=if 0≤(l0.length:Int) then (if ((l0.length:Int):Int).toNat≤281474976710656 then (laws_toByteS.l0 k l0 (List.replicate ((l0.length:Int):Int).toNat 0) 0) else (none)) else (none)
theorem laws_toByteS.mono_l:∀ k,(∀ y0 y1 y2,LeO (laws_toByteS.l0 k y0 y1 y2) (laws_toByteS.l0 (k + 1) y0 y1 y2))
 | 0=>fun _ _ _ r h=>by simp [laws_toByteS.l0] at h
 | k + 1=>by
  have ih0:=laws_toByteS.mono_l k
  ·intro y0 y1 y2
   unfold laws_toByteS.l0
   with_reducible repeat' first|apply ih0|apply LeO.refl|apply LeO.none|apply LeO.ite|refine LeO.bind ?_ (fun _=>?_)
theorem laws_toByteS.mono:∀ a0 k,LeO (laws_toByteS.f k a0) (laws_toByteS.f (k + 1) a0):=by
 intro a0 k;have ih0:=laws_toByteS.mono_l k
 unfold laws_toByteS.f
 with_reducible repeat' first|apply ih0|apply LeO.refl|apply LeO.none|apply LeO.ite|refine LeO.bind ?_ (fun _=>?_)
set_option maxHeartbeats 8000000 in
set_option maxRecDepth 100000 in
theorem laws_toByteS.calls (k:Nat) (A0:Option Addr) (c0:Nat) (l0:List Int) (r:List Int) (w:World) (hr0:Kd.C (Kd.int .u8) w A0 l0.length l0) (hc0:l0.length≤c0) (h:laws_toByteS.f k l0 = some r) :
  Calls Try.prog 5 #[.slice A0 l0.length c0] w fun e w'=>∃ v0_:Value,e = .returned (v0_)∧Kd.R (Kd.int .u8) 5 w' w.heap.size (fun _=>True) v0_ r∧Below w.heap.size w w':=by
 have HR0:=Aside0.mk hr0;have HC0:=Aside0.mk hc0;clear hr0 hc0;have HB:=Aside0.mk (Below.refl w.heap.size w);have H:(if 0≤(l0.length:Int) then (if ((l0.length:Int):Int).toNat≤281474976710656 then (laws_toByteS.l0 k l0 (List.replicate ((l0.length:Int):Int).toNat 0) 0) else (none)) else (none)) = some r:=h;clear h
 by_cases c2:0≤(l0.length:Int)
 ·rw [if_pos c2] at H
  have c2b0:=eq_true c2;have c2b1:decide (0≤(l0.length:Int)) = true:=decide_eq_true c2;clear c2
  by_cases c3:((l0.length:Int):Int).toNat≤281474976710656
  ·rw [if_pos c3] at H
   have c3b0:=eq_true c3;have c3b1:decide (((l0.length:Int):Int).toNat≤281474976710656) = true:=decide_eq_true c3;clear c3;obtain ⟨y164,hy164⟩:∃ y_:List Int,y_ = (List.replicate ((l0.length:Int):Int).toNat 0):=⟨_,rfl⟩;replace H:(laws_toByteS.l0 k l0 y164 0) = some r:=by first|(rw [hy164];with_reducible exact H)|(have H2_:=(Option.bind_some _ _).symm.trans H;rw [hy164];with_reducible exact H2_)|(have H2_:=(Option.bind_some _ _).symm.trans H;with_reducible exact H2_)|with_reducible exact H|(rw [hy164];exact H)|exact H
   have Ny164:=Aside0.mk hy164;clear hy164;have H':=Aside0.mk H;clear H
   go_enter Try.func5,Try.ntmps5
   go_wp2_with (first|((with_reducible refine gate_dst (N:=7) rfl ?_);refine Kd.R_make (Kd.int .u8) _ 5 rfl (N:=7) rfl 22 _ _ rfl (l0.length:Int) rfl rfl Try.underlying22 (.int .u8 0) 1 info5 rfl (by decide) (by omega) 0 (ok:=fun _=>True) (okp:=fun _=>True) rfl (fun _ hk=>hk) trivial (od) (Nat.le_trans (Nat.mul_le_mul_right _ (od:(l0.length:Int).toNat≤281474976710656)) (by omega)) (Below.refl _ _) (Nat.le_refl _) ?_;intro v165 w4 ho5 hb hg_ hnew_;clear hg_ hnew_;(first|rw [← Ny164.out] at ho5|(simp only [Int.reduceToNat] at ho5;rw [← Ny164.out] at ho5));have n_:=ai (Aside0.mk (Kd.R_lower ho5 (below_size (bl HB.out)))) <| bq HB hb;clear HB;obtain ⟨HO166,HB⟩:=n_;clear hb ho5))
   go_loopg [4] k (fun kq v4 w'=>∃ (x3_1:List Int) (x4_1:Int),v4 = .int .i64 x4_1∧Aside0 (laws_toByteS.l0 kq l0 x3_1 x4_1 = some r)∧Aside0 (kq≤k)∧Aside0 (Kd.R (Kd.int .u8) 5 w' w.heap.size (fun _=>True) v165 x3_1)∧Aside0 (Below w.heap.size w w'))
   case atStart=>exact ⟨(y164),(0),(cl2),H',⟨Nat.le_refl _⟩,⟨rk HO166.out⟩,⟨bl HB.out⟩⟩
   case round =>
    clear H';(try clear c2);(try clear c2b0);(try clear c2b1);(try clear c3);(try clear c3b0);(try clear c3b1);(try clear HB);obtain ⟨x3_1,x4_1,rfl,HA,HK1,HO_3,HB⟩:=hrel
    cases gk with
    | zero=>exact absurd HA.out (by simp [laws_toByteS.l0])
    | succ k1 =>
     have H:=HA.out;clear HA;simp only [laws_toByteS.l0] at H
     by_cases c6:x4_1 < (l0.length:Int)
     ·rw [if_pos c6] at H
      have c6b0:decide (x4_1 < (l0.length:Int)) = true:=decide_eq_true c6;clear c6
      by_cases c7:0≤x4_1
      ·rw [if_pos c7] at H
       have c7b0:decide (0≤x4_1) = true:=decide_eq_true c7;clear c7
       by_cases c8:x4_1 < (x3_1.length:Int)
       ·rw [if_pos c8] at H
        have c8b0:decide (x4_1 < (x3_1.length:Int)) = true:=decide_eq_true c8;clear c8;obtain ⟨y168,hy168⟩:∃ y_:List Int,y_ = (x3_1.set (x4_1:Int).toNat (rd l0 x4_1)):=⟨_,rfl⟩;replace H:(laws_toByteS.l0 k1 l0 y168 (wrap64 (x4_1 + 1))) = some r:=by first|(rw [hy168];with_reducible exact H)|(have H2_:=(Option.bind_some _ _).symm.trans H;rw [hy168];with_reducible exact H2_)|(have H2_:=(Option.bind_some _ _).symm.trans H;with_reducible exact H2_)|with_reducible exact H|(rw [hy168];exact H)|exact H
        have Ny168:=Aside0.mk hy168;clear hy168;have H':=Aside0.mk H;clear H;have p167:0≤(x4_1:Int):=od;have q167:x4_1 < (l0.length:Int):=od;obtain ⟨ad167,e167,hx167_0⟩:=Kd.at_int HR0.out x4_1 p167 q167;cases e167;replace hx167_0:=cb HB hx167_0;replace p167:=eq_true p167;replace q167:=eq_true q167;have p9:0≤(x4_1:Int):=od;have q9:(x4_1:Int) < ((x3_1.length:Int):Int):=od;obtain ⟨go9,co9,eo9,gb9,gl9,cl9,HG9⟩:=Kd.R_form HO_3.out (by omega)
        (first|cases eo9|(injection eo9 with ea_ en_ ec_;(first|subst ea_|(injection ea_ with ea_;subst ea_));subst ec_;clear en_))
        have GB9:=Aside0.mk gb9;have GG9:=Aside0.mk HG9;clear gb9 gl9 HG9;obtain ⟨hx9_0,hf9_0⟩:=Kd.R_celln 0 HO_3.out (x4_1:Int) p9 q9;replace p9:=eq_true p9;replace q9:=eq_true q9;have HP10:=Kd.R_putg HO_3.out (x4_1:Int) (rd l0 x4_1)
        go_wp2_with (first|((with_reducible refine gate_store (t:=5) (p:=20) rfl ?_);refine store_event (t:=5) (p:=20) (v:=?vo_w11) (w1:=(wr.setCell ⟨go9,(x4_1:Int).toNat,none⟩ (.int .u8 (rd l0 x4_1)))) ?hg ?ho ?hn ?hr ?_;(case ho=>rfl);(case hg=>rfl);(case hn=>rfl);(case hr=>first|(go_simp;done)|(go_simp;rfl));intro w11 hw;have hg:wr.grownBy w11 (some go9):=(by rw [hw];exact HP10.2);have hp_:Kd.R (Kd.int .u8) 5 w11 w.heap.size (fun _=>True) (.slice (some ⟨go9,0,none⟩) x3_1.length co9) y168:=(by rw [hw,Ny168.out];exact HP10.1);clear HP10;have n_:=ai (Aside0.mk (hp_)) <| Aside0.mk ((by rw [hw];exact below_set (HB.out) GB9.out:Below w.heap.size w w11));clear HO_3 HB;obtain ⟨HO_3,HB⟩:=n_;clear hg hw hp_))
        go_roundg k1
        case measure=>have:=HK1.out;omega
        case rel=>exact ⟨(y168),(wrap64 (x4_1 + 1)),(cl2),H',⟨by have:=HK1.out;omega⟩,⟨rk HO_3.out⟩,⟨bl HB.out⟩⟩
       ·rw [if_neg c8] at H
        exact absurd H (by simp)
      ·rw [if_neg c7] at H
       exact absurd H (by simp)
     ·rw [if_neg c6] at H
      have c6b0:decide (x4_1 < (l0.length:Int)) = false:=decide_eq_false c6;clear c6;obtain rfl:=Option.some.inj H
      go_wp2
      go_ret
      exact ⟨_,cl,rk HO_3.out,bl HB.out⟩
  ·rw [if_neg c3] at H
   exact absurd H (by simp)
 ·rw [if_neg c2] at H
  exact absurd H (by simp)

/-! ### impl_inRange: function 35 -/
def impl_inRange.f (a0:Int) (a1:Int) (a2:Int):Option (Bool):=if a0 ≥ a1 then (some (decide (a0≤a2))) else (some false)
set_option maxHeartbeats 8000000 in
set_option maxRecDepth 100000 in
theorem impl_inRange.calls (a0:Int) (a1:Int) (a2:Int) (r:Bool) (w:World) (h:impl_inRange.f a0 a1 a2 = some r) :
  Calls Try.prog 35 #[.int .i64 a0,.int .i64 a1,.int .i64 a2] w fun e w'=>e = .returned (.bool r)∧Drawn0 w w':=by
 have H:(if a0 ≥ a1 then (some (decide (a0≤a2))) else (some false)) = some r:=h;clear h
 by_cases c4:a0 ≥ a1
 ·rw [if_pos c4] at H
  have c4b0:decide (a1≤a0) = true:=decide_eq_true c4;clear c4;obtain rfl:=Option.some.inj H
  go_enter Try.func35,Try.ntmps35
  go_wp2
  go_ret
  exact ⟨cl2,by repeat (first|exact Drawn0.refl _|apply Drawn0.step)⟩
 ·rw [if_neg c4] at H
  have c4b0:decide (a1≤a0) = false:=decide_eq_false c4;clear c4;obtain rfl:=Option.some.inj H
  go_enter Try.func35,Try.ntmps35
  go_wp2
  go_ret
  exact ⟨cl2,by repeat (first|exact Drawn0.refl _|apply Drawn0.step)⟩

/-! ### impl_GetNum: function 33 -/
mutual
def impl_GetNum.l0:Nat → List Int → Int → Int → Int → Option (Int × Int × Bool)
 | 0,_,_,_,_=>none
 | k + 1,x0,x1,x7,x8=>if x8 < 6 then (impl_GetNum.j1 k x0 x1 x7 x8 (decide (x1 < (x0.length:Int)))) else (impl_GetNum.j1 k x0 x1 x7 x8 false)
def impl_GetNum.j1:Nat → List Int → Int → Int → Int → Bool → Option (Int × Int × Bool)
 | 0,_,_,_,_,_=>none
 | k + 1,x0,x1,x7,x8,x24=>if x24 = true then (if 0≤x1 then (if x1 < (x0.length:Int) then (if 0≤(IntKind.u64.wrap (wrap64 (7 * x8))) then (if (wrap64 (rd x0 x1)) ≥ 128 then (impl_GetNum.l0 k x0 (wrap64 (x1 + 1)) (Go.bits .or .i64 x7 (shl .i64 (Go.bits .and .i64 (wrap64 (rd x0 x1)) 127) (IntKind.u64.wrap (wrap64 (7 * x8))))) (wrap64 (x8 + 1))) else (if (Int.tmod (Go.bits .or .i64 x7 (shl .i64 (Go.bits .and .i64 (wrap64 (rd x0 x1)) 127) (IntKind.u64.wrap (wrap64 (7 * x8))))) 2) = 1 then (if (wrap64 (rd x0 x1)) = 0 then (if x8 > 0 then (some (0,0,false)) else ((impl_inRange.f (wrap64 (Int.tdiv (wrap64 (-(wrap64 ((Go.bits .or .i64 x7 (shl .i64 (Go.bits .and .i64 (wrap64 (rd x0 x1)) 127) (IntKind.u64.wrap (wrap64 (7 * x8))))) + 1)))) 2)) (-1000000000000) 1000000000000).bind fun t171=>(if t171 = true then (some (wrap64 (Int.tdiv (wrap64 (-(wrap64 ((Go.bits .or .i64 x7 (shl .i64 (Go.bits .and .i64 (wrap64 (rd x0 x1)) 127) (IntKind.u64.wrap (wrap64 (7 * x8))))) + 1)))) 2),wrap64 (x1 + 1),true)) else (some (0,0,false))))) else ((impl_inRange.f (wrap64 (Int.tdiv (wrap64 (-(wrap64 ((Go.bits .or .i64 x7 (shl .i64 (Go.bits .and .i64 (wrap64 (rd x0 x1)) 127) (IntKind.u64.wrap (wrap64 (7 * x8))))) + 1)))) 2)) (-1000000000000) 1000000000000).bind fun t172=>(if t172 = true then (some (wrap64 (Int.tdiv (wrap64 (-(wrap64 ((Go.bits .or .i64 x7 (shl .i64 (Go.bits .and .i64 (wrap64 (rd x0 x1)) 127) (IntKind.u64.wrap (wrap64 (7 * x8))))) + 1)))) 2),wrap64 (x1 + 1),true)) else (some (0,0,false))))) else (if (wrap64 (rd x0 x1)) = 0 then (if x8 > 0 then (some (0,0,false)) else ((impl_inRange.f (wrap64 (Int.tdiv (Go.bits .or .i64 x7 (shl .i64 (Go.bits .and .i64 (wrap64 (rd x0 x1)) 127) (IntKind.u64.wrap (wrap64 (7 * x8))))) 2)) (-1000000000000) 1000000000000).bind fun t173=>(if t173 = true then (some (wrap64 (Int.tdiv (Go.bits .or .i64 x7 (shl .i64 (Go.bits .and .i64 (wrap64 (rd x0 x1)) 127) (IntKind.u64.wrap (wrap64 (7 * x8))))) 2),wrap64 (x1 + 1),true)) else (some (0,0,false))))) else ((impl_inRange.f (wrap64 (Int.tdiv (Go.bits .or .i64 x7 (shl .i64 (Go.bits .and .i64 (wrap64 (rd x0 x1)) 127) (IntKind.u64.wrap (wrap64 (7 * x8))))) 2)) (-1000000000000) 1000000000000).bind fun t174=>(if t174 = true then (some (wrap64 (Int.tdiv (Go.bits .or .i64 x7 (shl .i64 (Go.bits .and .i64 (wrap64 (rd x0 x1)) 127) (IntKind.u64.wrap (wrap64 (7 * x8))))) 2),wrap64 (x1 + 1),true)) else (some (0,0,false))))))) else (none)) else (none)) else (none)) else (some (0,0,false))
end
def impl_GetNum.f (k:Nat) (l0:List Int) (a1:Int):Option (Int × Int × Bool):=(impl_inRange.f a1 0 (wrap64 ((l0.length:Int) - 1))).bind fun t169=>(if t169 = true then (impl_GetNum.l0 k l0 a1 0 0) else (some (0,0,false)))
theorem impl_GetNum.mono_l:∀ k,(∀ y0 y1 y2 y3,LeO (impl_GetNum.l0 k y0 y1 y2 y3) (impl_GetNum.l0 (k + 1) y0 y1 y2 y3))∧(∀ y0 y1 y2 y3 y4,LeO (impl_GetNum.j1 k y0 y1 y2 y3 y4) (impl_GetNum.j1 (k + 1) y0 y1 y2 y3 y4))
 | 0=>⟨fun _ _ _ _ r h=>by simp [impl_GetNum.l0] at h,fun _ _ _ _ _ r h=>by simp [impl_GetNum.j1] at h⟩
 | k + 1=>by
  obtain ⟨ih0,ih1⟩:=impl_GetNum.mono_l k
  refine ⟨?_,?_⟩
  ·intro y0 y1 y2 y3
   unfold impl_GetNum.l0
   with_reducible repeat' first|apply ih0|apply ih1|apply LeO.refl|apply LeO.none|apply LeO.ite|refine LeO.bind ?_ (fun _=>?_)
  ·intro y0 y1 y2 y3 y4
   unfold impl_GetNum.j1
   with_reducible repeat' first|apply ih0|apply ih1|apply LeO.refl|apply LeO.none|apply LeO.ite|refine LeO.bind ?_ (fun _=>?_)
theorem impl_GetNum.mono:∀ a0 a1 k,LeO (impl_GetNum.f k a0 a1) (impl_GetNum.f (k + 1) a0 a1):=by
 intro a0 a1 k;obtain ⟨ih0,ih1⟩:=impl_GetNum.mono_l k
 unfold impl_GetNum.f
 with_reducible repeat' first|apply ih0|apply ih1|apply LeO.refl|apply LeO.none|apply LeO.ite|refine LeO.bind ?_ (fun _=>?_)
set_option maxHeartbeats 8000000 in
set_option maxRecDepth 100000 in
theorem impl_GetNum.calls (k:Nat) (A0:Option Addr) (c0:Nat) (l0:List Int) (a1:Int) (r1:Int) (r2:Int) (r3:Bool) (w:World) (hr0:Kd.C (Kd.int .u8) w A0 l0.length l0) (hc0:l0.length≤c0) (h:impl_GetNum.f k l0 a1 = some (r1,r2,r3)) :
  Calls Try.prog 33 #[.slice A0 l0.length c0,.int .i64 a1] w fun e w'=>e = .returned (.tuple #[.int .i64 r1,.int .i64 r2,.bool r3])∧Drawn0 w w':=by
 have HR0:=Aside0.mk hr0;have HC0:=Aside0.mk hc0;clear hr0 hc0;have H:((impl_inRange.f a1 0 (wrap64 ((l0.length:Int) - 1))).bind fun t169=>(if t169 = true then (impl_GetNum.l0 k l0 a1 0 0) else (some (0,0,false)))) = some (r1,r2,r3):=h;clear h;replace H:=Option.bind_eq_some_iff.mp H;obtain ⟨t169,A30,H⟩:=H;replace H:(if t169 = true then (impl_GetNum.l0 k l0 a1 0 0) else (some (0,0,false))) = some (r1,r2,r3):=H;have A3:=Aside0.mk A30;clear A30
 by_cases c4:t169 = true
 ·subst c4
  have H1:(impl_GetNum.l0 k l0 a1 0 0) = some (r1,r2,r3):=by rw [if_pos rfl] at H;exact H
  clear H;have H:=H1;clear H1;have H':=Aside0.mk H;clear H
  go_enter Try.func33,Try.ntmps33
  go_wp2_with (first|((with_reducible refine gate_callee (f:=35) rfl ?_);refine goesL_ (some 15) rfl rfl Try.func35 (by kernel_rfl) rfl #[.int .i64 a1,.int .i64 0,.int .i64 (wrap64 ((l0.length:Int) - 1))] rfl gs ?_;(with_reducible refine (impl_inRange.calls a1 0 (wrap64 ((l0.length:Int) - 1)) true _ A3.out).mono ?_);rintro e w' ⟨rfl,⟨nd,rfl⟩⟩;refine ⟨_,rfl,?_⟩))
  go_loopg [1,7,8] k (fun kq v1 v7 v8 w'=>∃ (x1_1:Int) (x7_1:Int) (x8_1:Int),v1 = .int .i64 x1_1∧v7 = .int .i64 x7_1∧v8 = .int .i64 x8_1∧Aside0 (impl_GetNum.l0 kq l0 x1_1 x7_1 x8_1 = some (r1,r2,r3))∧Aside0 (kq≤k)∧Drawn0 w w')
  case atStart=>exact ⟨(a1),(0),(0),(cl2),(cl2),(cl2),H',⟨Nat.le_refl _⟩,by repeat (first|exact Drawn0.refl _|apply Drawn0.step)⟩
  case round =>
   clear H';(try clear c4);obtain ⟨x1_1,x7_1,x8_1,rfl,rfl,rfl,HA,HK1,⟨m1,rfl⟩⟩:=hrel
   cases gk with
   | zero=>exact absurd HA.out (by simp [impl_GetNum.l0])
   | succ k1 =>
    have H:=HA.out;clear HA;simp only [impl_GetNum.l0] at H;have HC5:=Aside0.mk H;clear H
    go_upto_region 5 with (fail)
    go_cut [24] (fun v24 wc=>∃ (kq:Nat) (x24_4:Bool),v24 = .bool x24_4∧Aside0 (impl_GetNum.j1 kq l0 x1_1 x7_1 x8_1 x24_4 = some (r1,r2,r3))∧Aside0 (kq≤k1)∧Drawn0 w wc)
    case first =>
     have H:=HC5.out;clear HC5
     by_cases c6:x8_1 < 6
     ·rw [if_pos c6] at H
      have c6b0:decide (x8_1 < 6) = true:=decide_eq_true c6;clear c6
      (first|rw [c6b0]|(simp only [i64_w,i32_w];rw [c6b0])|(simp only [c6b2,Bool.not_true,Bool.not_false])|skip)
      have H':=Aside0.mk H;clear H
      go_wp2
      go_meet
      case rel=>exact ⟨_,(decide (x1_1 < (l0.length:Int))),(cl2),H',⟨by have:=HK1.out;first|omega|exact Nat.le_refl _⟩,by repeat (first|exact Drawn0.refl _|apply Drawn0.step)⟩
     ·rw [if_neg c6] at H
      have c6b0:decide (x8_1 < 6) = false:=decide_eq_false c6;clear c6
      (first|rw [c6b0]|(simp only [i64_w,i32_w];rw [c6b0])|(simp only [c6b2,Bool.not_true,Bool.not_false])|skip)
      have H':=Aside0.mk H;clear H
      go_wp2
      go_meet
      case rel=>exact ⟨_,(false),(cl2),H',⟨by have:=HK1.out;first|omega|exact Nat.le_refl _⟩,by repeat (first|exact Drawn0.refl _|apply Drawn0.step)⟩
    case rest =>
     clear HC5;(try clear c4);(try clear p2);obtain ⟨kq,x24_4,rfl,HA,HJ4,⟨mc4,rfl⟩⟩:=hcut
     cases kq with
     | zero=>exact absurd HA.out (by simp [impl_GetNum.j1])
     | succ kj4 =>
      have H:=HA.out;clear HA;simp only [impl_GetNum.j1] at H
      by_cases c7:x24_4 = true
      ·subst c7
       have H1:(if 0≤x1_1 then (if x1_1 < (l0.length:Int) then (if 0≤(IntKind.u64.wrap (wrap64 (7 * x8_1))) then (if (wrap64 (rd l0 x1_1)) ≥ 128 then (impl_GetNum.l0 kj4 l0 (wrap64 (x1_1 + 1)) (Go.bits .or .i64 x7_1 (shl .i64 (Go.bits .and .i64 (wrap64 (rd l0 x1_1)) 127) (IntKind.u64.wrap (wrap64 (7 * x8_1))))) (wrap64 (x8_1 + 1))) else (if (Int.tmod (Go.bits .or .i64 x7_1 (shl .i64 (Go.bits .and .i64 (wrap64 (rd l0 x1_1)) 127) (IntKind.u64.wrap (wrap64 (7 * x8_1))))) 2) = 1 then (if (wrap64 (rd l0 x1_1)) = 0 then (if x8_1 > 0 then (some (0,0,false)) else ((impl_inRange.f (wrap64 (Int.tdiv (wrap64 (-(wrap64 ((Go.bits .or .i64 x7_1 (shl .i64 (Go.bits .and .i64 (wrap64 (rd l0 x1_1)) 127) (IntKind.u64.wrap (wrap64 (7 * x8_1))))) + 1)))) 2)) (-1000000000000) 1000000000000).bind fun t171=>(if t171 = true then (some (wrap64 (Int.tdiv (wrap64 (-(wrap64 ((Go.bits .or .i64 x7_1 (shl .i64 (Go.bits .and .i64 (wrap64 (rd l0 x1_1)) 127) (IntKind.u64.wrap (wrap64 (7 * x8_1))))) + 1)))) 2),wrap64 (x1_1 + 1),true)) else (some (0,0,false))))) else ((impl_inRange.f (wrap64 (Int.tdiv (wrap64 (-(wrap64 ((Go.bits .or .i64 x7_1 (shl .i64 (Go.bits .and .i64 (wrap64 (rd l0 x1_1)) 127) (IntKind.u64.wrap (wrap64 (7 * x8_1))))) + 1)))) 2)) (-1000000000000) 1000000000000).bind fun t172=>(if t172 = true then (some (wrap64 (Int.tdiv (wrap64 (-(wrap64 ((Go.bits .or .i64 x7_1 (shl .i64 (Go.bits .and .i64 (wrap64 (rd l0 x1_1)) 127) (IntKind.u64.wrap (wrap64 (7 * x8_1))))) + 1)))) 2),wrap64 (x1_1 + 1),true)) else (some (0,0,false))))) else (if (wrap64 (rd l0 x1_1)) = 0 then (if x8_1 > 0 then (some (0,0,false)) else ((impl_inRange.f (wrap64 (Int.tdiv (Go.bits .or .i64 x7_1 (shl .i64 (Go.bits .and .i64 (wrap64 (rd l0 x1_1)) 127) (IntKind.u64.wrap (wrap64 (7 * x8_1))))) 2)) (-1000000000000) 1000000000000).bind fun t173=>(if t173 = true then (some (wrap64 (Int.tdiv (Go.bits .or .i64 x7_1 (shl .i64 (Go.bits .and .i64 (wrap64 (rd l0 x1_1)) 127) (IntKind.u64.wrap (wrap64 (7 * x8_1))))) 2),wrap64 (x1_1 + 1),true)) else (some (0,0,false))))) else ((impl_inRange.f (wrap64 (Int.tdiv (Go.bits .or .i64 x7_1 (shl .i64 (Go.bits .and .i64 (wrap64 (rd l0 x1_1)) 127) (IntKind.u64.wrap (wrap64 (7 * x8_1))))) 2)) (-1000000000000) 1000000000000).bind fun t174=>(if t174 = true then (some (wrap64 (Int.tdiv (Go.bits .or .i64 x7_1 (shl .i64 (Go.bits .and .i64 (wrap64 (rd l0 x1_1)) 127) (IntKind.u64.wrap (wrap64 (7 * x8_1))))) 2),wrap64 (x1_1 + 1),true)) else (some (0,0,false))))))) else (none)) else (none)) else (none)) = some (r1,r2,r3):=by rw [if_pos rfl] at H;exact H
       clear H;have H:=H1;clear H1
       by_cases c8:0≤x1_1
       ·rw [if_pos c8] at H
        have c8b0:decide (0≤x1_1) = true:=decide_eq_true c8;clear c8
        by_cases c9:x1_1 < (l0.length:Int)
        ·rw [if_pos c9] at H
         have c9b0:decide (x1_1 < (l0.length:Int)) = true:=decide_eq_true c9;clear c9;obtain ⟨ji10,hji10⟩:∃ j_:Int,(IntKind.u64.wrap (wrap64 (7 * x8_1))) = j_:=⟨_,rfl⟩;replace H:(if 0≤(ji10) then (if (wrap64 (rd l0 x1_1)) ≥ 128 then (impl_GetNum.l0 kj4 l0 (wrap64 (x1_1 + 1)) (Go.bits .or .i64 x7_1 (shl .i64 (Go.bits .and .i64 (wrap64 (rd l0 x1_1)) 127) (ji10))) (wrap64 (x8_1 + 1))) else (if (Int.tmod (Go.bits .or .i64 x7_1 (shl .i64 (Go.bits .and .i64 (wrap64 (rd l0 x1_1)) 127) (ji10))) 2) = 1 then (if (wrap64 (rd l0 x1_1)) = 0 then (if x8_1 > 0 then (some (0,0,false)) else ((impl_inRange.f (wrap64 (Int.tdiv (wrap64 (-(wrap64 ((Go.bits .or .i64 x7_1 (shl .i64 (Go.bits .and .i64 (wrap64 (rd l0 x1_1)) 127) (ji10))) + 1)))) 2)) (-1000000000000) 1000000000000).bind fun t171=>(if t171 = true then (some (wrap64 (Int.tdiv (wrap64 (-(wrap64 ((Go.bits .or .i64 x7_1 (shl .i64 (Go.bits .and .i64 (wrap64 (rd l0 x1_1)) 127) (ji10))) + 1)))) 2),wrap64 (x1_1 + 1),true)) else (some (0,0,false))))) else ((impl_inRange.f (wrap64 (Int.tdiv (wrap64 (-(wrap64 ((Go.bits .or .i64 x7_1 (shl .i64 (Go.bits .and .i64 (wrap64 (rd l0 x1_1)) 127) (ji10))) + 1)))) 2)) (-1000000000000) 1000000000000).bind fun t172=>(if t172 = true then (some (wrap64 (Int.tdiv (wrap64 (-(wrap64 ((Go.bits .or .i64 x7_1 (shl .i64 (Go.bits .and .i64 (wrap64 (rd l0 x1_1)) 127) (ji10))) + 1)))) 2),wrap64 (x1_1 + 1),true)) else (some (0,0,false))))) else (if (wrap64 (rd l0 x1_1)) = 0 then (if x8_1 > 0 then (some (0,0,false)) else ((impl_inRange.f (wrap64 (Int.tdiv (Go.bits .or .i64 x7_1 (shl .i64 (Go.bits .and .i64 (wrap64 (rd l0 x1_1)) 127) (ji10))) 2)) (-1000000000000) 1000000000000).bind fun t173=>(if t173 = true then (some (wrap64 (Int.tdiv (Go.bits .or .i64 x7_1 (shl .i64 (Go.bits .and .i64 (wrap64 (rd l0 x1_1)) 127) (ji10))) 2),wrap64 (x1_1 + 1),true)) else (some (0,0,false))))) else ((impl_inRange.f (wrap64 (Int.tdiv (Go.bits .or .i64 x7_1 (shl .i64 (Go.bits .and .i64 (wrap64 (rd l0 x1_1)) 127) (ji10))) 2)) (-1000000000000) 1000000000000).bind fun t174=>(if t174 = true then (some (wrap64 (Int.tdiv (Go.bits .or .i64 x7_1 (shl .i64 (Go.bits .and .i64 (wrap64 (rd l0 x1_1)) 127) (ji10))) 2),wrap64 (x1_1 + 1),true)) else (some (0,0,false))))))) else (none)) = some (r1,r2,r3):=by first|(rw [hji10] at H;exact H)|(simp only [hji10] at H ⊢;exact H)
         by_cases c11:0≤(ji10)
         ·rw [if_pos c11] at H
          have c11b0:=eq_true c11;have c11b1:decide (0≤(ji10)) = true:=decide_eq_true c11;clear c11;obtain ⟨ji12,hji12⟩:∃ j_:Int,(shl .i64 (Go.bits .and .i64 (wrap64 (rd l0 x1_1)) 127) (ji10)) = j_:=⟨_,rfl⟩;replace H:(if (wrap64 (rd l0 x1_1)) ≥ 128 then (impl_GetNum.l0 kj4 l0 (wrap64 (x1_1 + 1)) (Go.bits .or .i64 x7_1 (ji12)) (wrap64 (x8_1 + 1))) else (if (Int.tmod (Go.bits .or .i64 x7_1 (ji12)) 2) = 1 then (if (wrap64 (rd l0 x1_1)) = 0 then (if x8_1 > 0 then (some (0,0,false)) else ((impl_inRange.f (wrap64 (Int.tdiv (wrap64 (-(wrap64 ((Go.bits .or .i64 x7_1 (ji12)) + 1)))) 2)) (-1000000000000) 1000000000000).bind fun t171=>(if t171 = true then (some (wrap64 (Int.tdiv (wrap64 (-(wrap64 ((Go.bits .or .i64 x7_1 (ji12)) + 1)))) 2),wrap64 (x1_1 + 1),true)) else (some (0,0,false))))) else ((impl_inRange.f (wrap64 (Int.tdiv (wrap64 (-(wrap64 ((Go.bits .or .i64 x7_1 (ji12)) + 1)))) 2)) (-1000000000000) 1000000000000).bind fun t172=>(if t172 = true then (some (wrap64 (Int.tdiv (wrap64 (-(wrap64 ((Go.bits .or .i64 x7_1 (ji12)) + 1)))) 2),wrap64 (x1_1 + 1),true)) else (some (0,0,false))))) else (if (wrap64 (rd l0 x1_1)) = 0 then (if x8_1 > 0 then (some (0,0,false)) else ((impl_inRange.f (wrap64 (Int.tdiv (Go.bits .or .i64 x7_1 (ji12)) 2)) (-1000000000000) 1000000000000).bind fun t173=>(if t173 = true then (some (wrap64 (Int.tdiv (Go.bits .or .i64 x7_1 (ji12)) 2),wrap64 (x1_1 + 1),true)) else (some (0,0,false))))) else ((impl_inRange.f (wrap64 (Int.tdiv (Go.bits .or .i64 x7_1 (ji12)) 2)) (-1000000000000) 1000000000000).bind fun t174=>(if t174 = true then (some (wrap64 (Int.tdiv (Go.bits .or .i64 x7_1 (ji12)) 2),wrap64 (x1_1 + 1),true)) else (some (0,0,false))))))) = some (r1,r2,r3):=by first|(rw [hji12] at H;exact H)|(simp only [hji12] at H ⊢;exact H)
          have hji12_:(IntKind.i64.wrap ((Go.bits .and .i64 (wrap64 (rd l0 x1_1)) 127) * 2 ^ min (ji10).toNat 64)) = ji12:=hji12;have hji12z:(ji10)≤64 → (IntKind.i64.wrap ((Go.bits .and .i64 (wrap64 (rd l0 x1_1)) 127) * 2 ^ (ji10).toNat)) = ji12:=shl_small hji12;have hji12y:(wrap64 ((Go.bits .and .i64 (wrap64 (rd l0 x1_1)) 127) * 2 ^ min (ji10).toNat 64)) = ji12:=(i64_w _).symm.trans hji12_;have hji12x:(ji10)≤64 → (wrap64 ((Go.bits .and .i64 (wrap64 (rd l0 x1_1)) 127) * 2 ^ (ji10).toNat)) = ji12:=fun h_=>(i64_w _).symm.trans (hji12z h_)
          by_cases c13:(wrap64 (rd l0 x1_1)) ≥ 128
          ·rw [if_pos c13] at H
           have c13b0:decide (128≤(wrap64 (rd l0 x1_1))) = true:=decide_eq_true c13;clear c13;have H':=Aside0.mk H;clear H;have p170:0≤(x1_1:Int):=od;have q170:x1_1 < (l0.length:Int):=od;obtain ⟨ad170,e170,hx170_0⟩:=Kd.at_int HR0.out x1_1 p170 q170;cases e170;replace p170:=eq_true p170;replace q170:=eq_true q170
           go_wp2
           go_roundg kj4
           case measure=>have:=HK1.out;have:=HJ4.out;omega
           case rel=>exact ⟨(wrap64 (x1_1 + 1)),(Go.bits .or .i64 x7_1 (ji12)),(wrap64 (x8_1 + 1)),(cl2),(by first|rfl|(simp;done)|(simp only [← hji12] <;> (first|rfl|simp))|(simp [*];done)),(cl2),H',⟨by have:=HK1.out;have:=HJ4.out;omega⟩,by repeat (first|exact Drawn0.refl _|apply Drawn0.step)⟩
          ·rw [if_neg c13] at H
           have c13b0:decide (128≤(wrap64 (rd l0 x1_1))) = false:=decide_eq_false c13;clear c13
           by_cases c14:(Int.tmod (Go.bits .or .i64 x7_1 (ji12)) 2) = 1
           ·rw [if_pos c14] at H
            have c14b0:((Int.tmod (Go.bits .or .i64 x7_1 (ji12)) 2) == 1) = true:=beq_iff_eq.mpr c14;have c14b1:((Int.tmod (Go.bits .or .i64 x7_1 (ji12)) 2) != 1) = false:=bne_eq_false_iff_eq.mpr c14;clear c14
            by_cases c15:(wrap64 (rd l0 x1_1)) = 0
            ·rw [if_pos c15] at H
             have c15b0:((wrap64 (rd l0 x1_1)) == 0) = true:=beq_iff_eq.mpr c15;have c15b1:((wrap64 (rd l0 x1_1)) != 0) = false:=bne_eq_false_iff_eq.mpr c15;clear c15
             by_cases c16:x8_1 > 0
             ·rw [if_pos c16] at H
              have c16b0:decide (0 < x8_1) = true:=decide_eq_true c16;clear c16;simp only [Option.some.injEq,Prod.mk.injEq] at H;obtain ⟨rfl,rfl,rfl⟩:=H;have p170:0≤(x1_1:Int):=od;have q170:x1_1 < (l0.length:Int):=od;obtain ⟨ad170,e170,hx170_0⟩:=Kd.at_int HR0.out x1_1 p170 q170;cases e170;replace p170:=eq_true p170;replace q170:=eq_true q170
              go_wp2
              go_ret3
              exact ⟨by first|rfl|(simp;done)|(simp only [← hji10,← hji12] <;> (first|rfl|simp))|(simp [*];done),by repeat (first|exact Drawn0.refl _|apply Drawn0.step)⟩
             ·rw [if_neg c16] at H
              have c16b0:decide (0 < x8_1) = false:=decide_eq_false c16;clear c16;replace H:=Option.bind_eq_some_iff.mp H;obtain ⟨t171,A170,H⟩:=H;replace H:(if t171 = true then (some (wrap64 (Int.tdiv (wrap64 (-(wrap64 ((Go.bits .or .i64 x7_1 (ji12)) + 1)))) 2),wrap64 (x1_1 + 1),true)) else (some (0,0,false))) = some (r1,r2,r3):=H;have A17:=Aside0.mk A170;clear A170
              by_cases c18:t171 = true
              ·subst c18
               have H1:(some (wrap64 (Int.tdiv (wrap64 (-(wrap64 ((Go.bits .or .i64 x7_1 (ji12)) + 1)))) 2),wrap64 (x1_1 + 1),true)) = some (r1,r2,r3):=by rw [if_pos rfl] at H;exact H
               clear H;have H:=H1;clear H1;simp only [Option.some.injEq,Prod.mk.injEq] at H;obtain ⟨rfl,rfl,rfl⟩:=H;have p170:0≤(x1_1:Int):=od;have q170:x1_1 < (l0.length:Int):=od;obtain ⟨ad170,e170,hx170_0⟩:=Kd.at_int HR0.out x1_1 p170 q170;cases e170;replace p170:=eq_true p170;replace q170:=eq_true q170
               go_wp2_with (first|(go_at_call 35;(with_reducible refine (impl_inRange.calls (wrap64 (Int.tdiv (wrap64 (-(wrap64 ((Go.bits .or .i64 x7_1 (ji12)) + 1)))) 2)) (-1000000000000) 1000000000000 true _ A17.out).mono ?_);rintro e w' ⟨rfl,⟨nd,rfl⟩⟩))
               go_ret3
               exact ⟨by first|rfl|(simp;done)|(simp only [← hji10,← hji12] <;> (first|rfl|simp))|(simp [*];done),by repeat (first|exact Drawn0.refl _|apply Drawn0.step)⟩
              ·replace c18:=Bool.eq_false_iff.mpr c18
               subst c18;have H1:(some (0,0,false)) = some (r1,r2,r3):=by rw [if_neg (show ¬ (false = true) by decide)] at H;exact H
               clear H;have H:=H1;clear H1;simp only [Option.some.injEq,Prod.mk.injEq] at H;obtain ⟨rfl,rfl,rfl⟩:=H;have p170:0≤(x1_1:Int):=od;have q170:x1_1 < (l0.length:Int):=od;obtain ⟨ad170,e170,hx170_0⟩:=Kd.at_int HR0.out x1_1 p170 q170;cases e170;replace p170:=eq_true p170;replace q170:=eq_true q170
               go_wp2_with (first|(go_at_call 35;(with_reducible refine (impl_inRange.calls (wrap64 (Int.tdiv (wrap64 (-(wrap64 ((Go.bits .or .i64 x7_1 (ji12)) + 1)))) 2)) (-1000000000000) 1000000000000 false _ A17.out).mono ?_);rintro e w' ⟨rfl,⟨nd,rfl⟩⟩))
               go_ret3
               exact ⟨by first|rfl|(simp;done)|(simp only [← hji10,← hji12] <;> (first|rfl|simp))|(simp [*];done),by repeat (first|exact Drawn0.refl _|apply Drawn0.step)⟩
            ·rw [if_neg c15] at H
             have c15b0:((wrap64 (rd l0 x1_1)) == 0) = false:=beq_eq_false_iff_ne.mpr c15;have c15b1:((wrap64 (rd l0 x1_1)) != 0) = true:=bne_iff_ne.mpr c15;replace H:=Option.bind_eq_some_iff.mp H;obtain ⟨t172,A190,H⟩:=H;replace H:(if t172 = true then (some (wrap64 (Int.tdiv (wrap64 (-(wrap64 ((Go.bits .or .i64 x7_1 (ji12)) + 1)))) 2),wrap64 (x1_1 + 1),true)) else (some (0,0,false))) = some (r1,r2,r3):=H;have A19:=Aside0.mk A190;clear A190
             by_cases c20:t172 = true
             ·subst c20
              have H1:(some (wrap64 (Int.tdiv (wrap64 (-(wrap64 ((Go.bits .or .i64 x7_1 (ji12)) + 1)))) 2),wrap64 (x1_1 + 1),true)) = some (r1,r2,r3):=by rw [if_pos rfl] at H;exact H
              clear H;have H:=H1;clear H1;simp only [Option.some.injEq,Prod.mk.injEq] at H;obtain ⟨rfl,rfl,rfl⟩:=H;have p170:0≤(x1_1:Int):=od;have q170:x1_1 < (l0.length:Int):=od;obtain ⟨ad170,e170,hx170_0⟩:=Kd.at_int HR0.out x1_1 p170 q170;cases e170;replace p170:=eq_true p170;replace q170:=eq_true q170
              go_wp2_with (first|(go_at_call 35;(with_reducible refine (impl_inRange.calls (wrap64 (Int.tdiv (wrap64 (-(wrap64 ((Go.bits .or .i64 x7_1 (ji12)) + 1)))) 2)) (-1000000000000) 1000000000000 true _ A19.out).mono ?_);rintro e w' ⟨rfl,⟨nd,rfl⟩⟩))
              go_ret3
              exact ⟨by first|rfl|(simp;done)|(simp only [← hji10,← hji12] <;> (first|rfl|simp))|(simp [*];done),by repeat (first|exact Drawn0.refl _|apply Drawn0.step)⟩
             ·replace c20:=Bool.eq_false_iff.mpr c20
              subst c20;have H1:(some (0,0,false)) = some (r1,r2,r3):=by rw [if_neg (show ¬ (false = true) by decide)] at H;exact H
              clear H;have H:=H1;clear H1;simp only [Option.some.injEq,Prod.mk.injEq] at H;obtain ⟨rfl,rfl,rfl⟩:=H;have p170:0≤(x1_1:Int):=od;have q170:x1_1 < (l0.length:Int):=od;obtain ⟨ad170,e170,hx170_0⟩:=Kd.at_int HR0.out x1_1 p170 q170;cases e170;replace p170:=eq_true p170;replace q170:=eq_true q170
              go_wp2_with (first|(go_at_call 35;(with_reducible refine (impl_inRange.calls (wrap64 (Int.tdiv (wrap64 (-(wrap64 ((Go.bits .or .i64 x7_1 (ji12)) + 1)))) 2)) (-1000000000000) 1000000000000 false _ A19.out).mono ?_);rintro e w' ⟨rfl,⟨nd,rfl⟩⟩))
              go_ret3
              exact ⟨by first|rfl|(simp;done)|(simp only [← hji10,← hji12] <;> (first|rfl|simp))|(simp [*];done),by repeat (first|exact Drawn0.refl _|apply Drawn0.step)⟩
           ·rw [if_neg c14] at H
            have c14b0:((Int.tmod (Go.bits .or .i64 x7_1 (ji12)) 2) == 1) = false:=beq_eq_false_iff_ne.mpr c14;have c14b1:((Int.tmod (Go.bits .or .i64 x7_1 (ji12)) 2) != 1) = true:=bne_iff_ne.mpr c14
            by_cases c21:(wrap64 (rd l0 x1_1)) = 0
            ·rw [if_pos c21] at H
             have c21b0:((wrap64 (rd l0 x1_1)) == 0) = true:=beq_iff_eq.mpr c21;have c21b1:((wrap64 (rd l0 x1_1)) != 0) = false:=bne_eq_false_iff_eq.mpr c21;clear c21
             by_cases c22:x8_1 > 0
             ·rw [if_pos c22] at H
              have c22b0:decide (0 < x8_1) = true:=decide_eq_true c22;clear c22;simp only [Option.some.injEq,Prod.mk.injEq] at H;obtain ⟨rfl,rfl,rfl⟩:=H;have p170:0≤(x1_1:Int):=od;have q170:x1_1 < (l0.length:Int):=od;obtain ⟨ad170,e170,hx170_0⟩:=Kd.at_int HR0.out x1_1 p170 q170;cases e170;replace p170:=eq_true p170;replace q170:=eq_true q170
              go_wp2
              go_ret3
              exact ⟨by first|rfl|(simp;done)|(simp only [← hji10,← hji12] <;> (first|rfl|simp))|(simp [*];done),by repeat (first|exact Drawn0.refl _|apply Drawn0.step)⟩
             ·rw [if_neg c22] at H
              have c22b0:decide (0 < x8_1) = false:=decide_eq_false c22;clear c22;replace H:=Option.bind_eq_some_iff.mp H;obtain ⟨t173,A230,H⟩:=H;replace H:(if t173 = true then (some (wrap64 (Int.tdiv (Go.bits .or .i64 x7_1 (ji12)) 2),wrap64 (x1_1 + 1),true)) else (some (0,0,false))) = some (r1,r2,r3):=H;have A23:=Aside0.mk A230;clear A230
              by_cases c24:t173 = true
              ·subst c24
               have H1:(some (wrap64 (Int.tdiv (Go.bits .or .i64 x7_1 (ji12)) 2),wrap64 (x1_1 + 1),true)) = some (r1,r2,r3):=by rw [if_pos rfl] at H;exact H
               clear H;have H:=H1;clear H1;simp only [Option.some.injEq,Prod.mk.injEq] at H;obtain ⟨rfl,rfl,rfl⟩:=H;have p170:0≤(x1_1:Int):=od;have q170:x1_1 < (l0.length:Int):=od;obtain ⟨ad170,e170,hx170_0⟩:=Kd.at_int HR0.out x1_1 p170 q170;cases e170;replace p170:=eq_true p170;replace q170:=eq_true q170
               go_wp2_with (first|(go_at_call 35;(with_reducible refine (impl_inRange.calls (wrap64 (Int.tdiv (Go.bits .or .i64 x7_1 (ji12)) 2)) (-1000000000000) 1000000000000 true _ A23.out).mono ?_);rintro e w' ⟨rfl,⟨nd,rfl⟩⟩))
               go_ret3
               exact ⟨by first|rfl|(simp;done)|(simp only [← hji10,← hji12] <;> (first|rfl|simp))|(simp [*];done),by repeat (first|exact Drawn0.refl _|apply Drawn0.step)⟩
              ·replace c24:=Bool.eq_false_iff.mpr c24
               subst c24;have H1:(some (0,0,false)) = some (r1,r2,r3):=by rw [if_neg (show ¬ (false = true) by decide)] at H;exact H
               clear H;have H:=H1;clear H1;simp only [Option.some.injEq,Prod.mk.injEq] at H;obtain ⟨rfl,rfl,rfl⟩:=H;have p170:0≤(x1_1:Int):=od;have q170:x1_1 < (l0.length:Int):=od;obtain ⟨ad170,e170,hx170_0⟩:=Kd.at_int HR0.out x1_1 p170 q170;cases e170;replace p170:=eq_true p170;replace q170:=eq_true q170
               go_wp2_with (first|(go_at_call 35;(with_reducible refine (impl_inRange.calls (wrap64 (Int.tdiv (Go.bits .or .i64 x7_1 (ji12)) 2)) (-1000000000000) 1000000000000 false _ A23.out).mono ?_);rintro e w' ⟨rfl,⟨nd,rfl⟩⟩))
               go_ret3
               exact ⟨by first|rfl|(simp;done)|(simp only [← hji10,← hji12] <;> (first|rfl|simp))|(simp [*];done),by repeat (first|exact Drawn0.refl _|apply Drawn0.step)⟩
            ·rw [if_neg c21] at H
             have c21b0:((wrap64 (rd l0 x1_1)) == 0) = false:=beq_eq_false_iff_ne.mpr c21;have c21b1:((wrap64 (rd l0 x1_1)) != 0) = true:=bne_iff_ne.mpr c21;replace H:=Option.bind_eq_some_iff.mp H;obtain ⟨t174,A250,H⟩:=H;replace H:(if t174 = true then (some (wrap64 (Int.tdiv (Go.bits .or .i64 x7_1 (ji12)) 2),wrap64 (x1_1 + 1),true)) else (some (0,0,false))) = some (r1,r2,r3):=H;have A25:=Aside0.mk A250;clear A250
             by_cases c26:t174 = true
             ·subst c26
              have H1:(some (wrap64 (Int.tdiv (Go.bits .or .i64 x7_1 (ji12)) 2),wrap64 (x1_1 + 1),true)) = some (r1,r2,r3):=by rw [if_pos rfl] at H;exact H
              clear H;have H:=H1;clear H1;simp only [Option.some.injEq,Prod.mk.injEq] at H;obtain ⟨rfl,rfl,rfl⟩:=H;have p170:0≤(x1_1:Int):=od;have q170:x1_1 < (l0.length:Int):=od;obtain ⟨ad170,e170,hx170_0⟩:=Kd.at_int HR0.out x1_1 p170 q170;cases e170;replace p170:=eq_true p170;replace q170:=eq_true q170
              go_wp2_with (first|(go_at_call 35;(with_reducible refine (impl_inRange.calls (wrap64 (Int.tdiv (Go.bits .or .i64 x7_1 (ji12)) 2)) (-1000000000000) 1000000000000 true _ A25.out).mono ?_);rintro e w' ⟨rfl,⟨nd,rfl⟩⟩))
              go_ret3
              exact ⟨by first|rfl|(simp;done)|(simp only [← hji10,← hji12] <;> (first|rfl|simp))|(simp [*];done),by repeat (first|exact Drawn0.refl _|apply Drawn0.step)⟩
             ·replace c26:=Bool.eq_false_iff.mpr c26
              subst c26;have H1:(some (0,0,false)) = some (r1,r2,r3):=by rw [if_neg (show ¬ (false = true) by decide)] at H;exact H
              clear H;have H:=H1;clear H1;simp only [Option.some.injEq,Prod.mk.injEq] at H;obtain ⟨rfl,rfl,rfl⟩:=H;have p170:0≤(x1_1:Int):=od;have q170:x1_1 < (l0.length:Int):=od;obtain ⟨ad170,e170,hx170_0⟩:=Kd.at_int HR0.out x1_1 p170 q170;cases e170;replace p170:=eq_true p170;replace q170:=eq_true q170
              go_wp2_with (first|(go_at_call 35;(with_reducible refine (impl_inRange.calls (wrap64 (Int.tdiv (Go.bits .or .i64 x7_1 (ji12)) 2)) (-1000000000000) 1000000000000 false _ A25.out).mono ?_);rintro e w' ⟨rfl,⟨nd,rfl⟩⟩))
              go_ret3
              exact ⟨by first|rfl|(simp;done)|(simp only [← hji10,← hji12] <;> (first|rfl|simp))|(simp [*];done),by repeat (first|exact Drawn0.refl _|apply Drawn0.step)⟩
         ·rw [if_neg c11] at H
          exact absurd H (by simp)
        ·rw [if_neg c9] at H
         exact absurd H (by simp)
       ·rw [if_neg c8] at H
        exact absurd H (by simp)
      ·replace c7:=Bool.eq_false_iff.mpr c7
       subst c7;have H1:(some (0,0,false)) = some (r1,r2,r3):=by rw [if_neg (show ¬ (false = true) by decide)] at H;exact H
       clear H;have H:=H1;clear H1;simp only [Option.some.injEq,Prod.mk.injEq] at H;obtain ⟨rfl,rfl,rfl⟩:=H
       go_wp2
       go_ret3
       exact ⟨cl2,by repeat (first|exact Drawn0.refl _|apply Drawn0.step)⟩
 ·replace c4:=Bool.eq_false_iff.mpr c4
  subst c4;have H1:(some (0,0,false)) = some (r1,r2,r3):=by rw [if_neg (show ¬ (false = true) by decide)] at H;exact H
  clear H;have H:=H1;clear H1;simp only [Option.some.injEq,Prod.mk.injEq] at H;obtain ⟨rfl,rfl,rfl⟩:=H
  go_enter Try.func33,Try.ntmps33
  go_wp2_with (first|((with_reducible refine gate_callee (f:=35) rfl ?_);refine goesL_ (some 15) rfl rfl Try.func35 (by kernel_rfl) rfl #[.int .i64 a1,.int .i64 0,.int .i64 (wrap64 ((l0.length:Int) - 1))] rfl gs ?_;(with_reducible refine (impl_inRange.calls a1 0 (wrap64 ((l0.length:Int) - 1)) false _ A3.out).mono ?_);rintro e w' ⟨rfl,⟨nd,rfl⟩⟩;refine ⟨_,rfl,?_⟩))
  go_ret3
  exact ⟨cl2,by repeat (first|exact Drawn0.refl _|apply Drawn0.step)⟩

/-- A state of type 38 at block g of W; what its slices lead to came in by w0. -/
def IsS38 (w0 W:World) (g:Nat) (f0:List Int) (f1:Int) (f2:Bool):Prop:=∃ A0 c0,W.heap[g]? = some (.cells #[.slice A0 f0.length c0,.int .i64 f1,.bool f2] 38 (0,0))∧w0.heap.size≤g∧(Kd.C (Kd.int .u8) w0 A0 f0.length f0∧f0.length≤c0)
theorem IsS38.grown {w0 W:World} {g:Nat} {f0:List Int} {f1:Int} {f2:Bool} {W1:World} {row:Option Nat} (h:IsS38 w0 W g f0 f1 f2) (hw:W.grownBy W1 row) (hne:some g≠row):IsS38 w0 W1 g f0 f1 f2:=by
 obtain ⟨A0,c0,hb,hg,hr0⟩:=h
 exact ⟨A0,c0,blk_grown hb hw hne,hg,hr0⟩
theorem IsS38.own_neN {w0 W:World} {g:Nat} {f0:List Int} {f1:Int} {f2:Bool} {α:Type} {d:Kd α} {e:Nat} {base:Nat} {ok:Nat → Prop} {v:Value} {xs:List α} (h:IsS38 w0 W g f0 f1 f2) (ho:Kd.N d e W base ok v xs) (ht:e≠38):some g≠v.ownBlock:=by
 obtain ⟨A0,c0,hb,hg,hr0⟩:=h
 exact Kd.N_ne ho hb ht
theorem IsS38.fresh {w0 W:World} {g:Nat} {f0:List Int} {f1:Int} {f2:Bool} (h:IsS38 w0 W g f0 f1 f2):∀ k,W.heap.size≤k → k≠g:=by
 obtain ⟨A0,c0,hb,hg,hr0⟩:=h
 exact Kd.freshB hb
theorem IsS38.kept {w0 W:World} {g:Nat} {f0:List Int} {f1:Int} {f2:Bool} {W1:World} {S:Nat → Prop} (h:IsS38 w0 W g f0 f1 f2) (hk:Kept W W1 S) (hne : ¬ S g):IsS38 w0 W1 g f0 f1 f2:=by
 obtain ⟨A0,c0,hb,hg,hr0⟩:=h
 exact ⟨A0,c0,blk_kept hb hk hne,hg,hr0⟩
theorem IsS38.below {w0 W:World} {g:Nat} {f0:List Int} {f1:Int} {f2:Bool} {W1:World} (h:IsS38 w0 W g f0 f1 f2) (hw:Below W.heap.size W W1):IsS38 w0 W1 g f0 f1 f2:=h.grown (grown_of_below hw none) (by simp)
theorem IsS38.alloc {w0 W:World} {g:Nat} {f0:List Int} {f1:Int} {f2:Bool} (h:IsS38 w0 W g f0 f1 f2) (o:Obj):IsS38 w0 (W.alloc o) g f0 f1 f2:=h.below (below_alloc (Below.refl _ _) o)
theorem IsS38.drewN {w0 W:World} {g:Nat} {f0:List Int} {f1:Int} {f2:Bool} (h:IsS38 w0 W g f0 f1 f2) (m:Nat):IsS38 w0 (W.drewN m) g f0 f1 f2:=h
theorem IsS38.drew {w0 W:World} {g:Nat} {f0:List Int} {f1:Int} {f2:Bool} (h:IsS38 w0 W g f0 f1 f2):IsS38 w0 W.drew g f0 f1 f2:=h
theorem IsS38.at_ {w0 W:World} {g:Nat} {f0:List Int} {f1:Int} {f2:Bool} {w':World} {m:Nat} (hq:W.drewN m = w') (h:IsS38 w0 W g f0 f1 f2):IsS38 w0 w' g f0 f1 f2:=by subst hq;exact IsS38.drewN h m
theorem IsS38.apart {w0 W:World} {g:Nat} {f0:List Int} {f1:Int} {f2:Bool} {α:Type} {d:Kd α} {e:Nat} {base:Nat} {ok:Nat → Prop} {v:Value} {xs:List α} (h:IsS38 w0 W g f0 f1 f2) (ho:d.R e W base ok v xs) (ht:∀ q,q ∈ e :: d.E → q≠38):d.R e W base (fun k=>ok k∧k≠g) v xs:=by
 obtain ⟨A0,c0,hb,hg,hr0⟩:=h
 exact Kd.R_types ho hb ht
theorem IsS38.own_ne {w0 W:World} {g:Nat} {f0:List Int} {f1:Int} {f2:Bool} {α:Type} {d:Kd α} {e:Nat} {base:Nat} {ok:Nat → Prop} {v:Value} {xs:List α} (h:IsS38 w0 W g f0 f1 f2) (ho:d.R e W base ok v xs) (ht:e≠38):some g≠v.ownBlock:=by
 obtain ⟨A0,c0,hb,hg,hr0⟩:=h
 exact Kd.R_ne ho hb ht
theorem IsS38.apartQ {w0 W:World} {g:Nat} {f0:List Int} {f1:Int} {f2:Bool} {α:Type} {d:Kd α} {e:Nat} {base:Nat} {ok:Nat → Prop} {v:Value} {xs:List α} (h:IsS38 w0 W g f0 f1 f2) (ho:d.Q e W base ok v xs) (ht:∀ q,q ∈ e :: d.E → q≠38):d.Q e W base (fun k=>ok k∧k≠g) v xs:=by
 obtain ⟨A0,c0,hb,hg,hr0⟩:=h
 exact Kd.Q_types ho hb ht
theorem IsS38.own_neQ {w0 W:World} {g:Nat} {f0:List Int} {f1:Int} {f2:Bool} {α:Type} {d:Kd α} {e:Nat} {base:Nat} {ok:Nat → Prop} {v:Value} {xs:List α} (h:IsS38 w0 W g f0 f1 f2) (ho:d.Q e W base ok v xs) (ht:e≠38):some g≠v.ownBlock:=by
 obtain ⟨A0,c0,hb,hg,hr0⟩:=h
 exact Kd.Q_ne ho hb ht
theorem IsS38.apartS {w0 W:World} {g:Nat} {f0:List Int} {f1:Int} {f2:Bool} {α:Type} {d:Kd α} {e:Nat} {base:Nat} {ok:Nat → Prop} {v:Value} {xs:List α} (h:IsS38 w0 W g f0 f1 f2) (ho:d.S e W base ok v xs) (ht:∀ q,q ∈ e :: d.E → q≠38):d.S e W base (fun k=>ok k∧k≠g) v xs:=by
 obtain ⟨A0,c0,hb,hg,hr0⟩:=h
 exact Kd.S_types ho hb ht
theorem IsS38.own_neS {w0 W:World} {g:Nat} {f0:List Int} {f1:Int} {f2:Bool} {α:Type} {d:Kd α} {e:Nat} {base:Nat} {ok:Nat → Prop} {v:Value} {xs:List α} (h:IsS38 w0 W g f0 f1 f2) (ho:d.S e W base ok v xs) (ht:e≠38):some g≠v.ownBlock:=by
 obtain ⟨A0,c0,hb,hg,hr0⟩:=h
 exact Kd.S_ne ho hb ht
theorem IsS38.lt {w0 W:World} {g:Nat} {f0:List Int} {f1:Int} {f2:Bool} (h:IsS38 w0 W g f0 f1 f2):g < W.heap.size:=by
 obtain ⟨A0,c0,hb,hg,hr0⟩:=h
 exact blk_lt hb
theorem IsS38.ge {w0 W:World} {g:Nat} {f0:List Int} {f1:Int} {f2:Bool} (h:IsS38 w0 W g f0 f1 f2):w0.heap.size≤g:=by
 obtain ⟨A0,c0,hb,hg,hr0⟩:=h
 exact hg
theorem IsS38.ne_blk {w0 W:World} {g:Nat} {f0:List Int} {f1:Int} {f2:Bool} {a:Nat} {cs:Array Value} {t:TypeId} {fr:Nat × Nat} (h:IsS38 w0 W g f0 f1 f2) (hb2:W.heap[a]? = some (.cells cs t fr)) (ht:t≠38):g≠a:=by
 obtain ⟨A0,c0,hb,hg,hr0⟩:=h;rintro rfl;rw [hb] at hb2
 injection hb2 with hb2
 injection hb2 with _ ht2
 exact ht ht2.symm
theorem IsS38.far {w0 W:World} {g:Nat} {f0:List Int} {f1:Int} {f2:Bool} {p:Addr} (h:IsS38 w0 W g f0 f1 f2) (hne:g≠p.block) (u:Value):IsS38 w0 (W.setCell p u) g f0 f1 f2:=by
 obtain ⟨A0,c0,hb,hg,hr0⟩:=h
 exact ⟨A0,c0,blk_far hb hne u,hg,hr0⟩
theorem cellS38_0 {W:World} {g:Nat} {A0:Option Addr} {c0:Nat} {f0:List Int} {f1:Int} {f2:Bool} (h:W.heap[g]? = some (.cells #[.slice A0 f0.length c0,.int .i64 f1,.bool f2] 38 (0,0))):W.cell? ⟨g,0,none⟩ = some (.slice A0 f0.length c0):=(blk_cell h 0).trans rfl
theorem cellS38_1 {W:World} {g:Nat} {A0:Option Addr} {c0:Nat} {f0:List Int} {f1:Int} {f2:Bool} (h:W.heap[g]? = some (.cells #[.slice A0 f0.length c0,.int .i64 f1,.bool f2] 38 (0,0))):W.cell? ⟨g,1,none⟩ = some (.int .i64 f1):=(blk_cell h 1).trans rfl
theorem IsS38.set_1 {w0 W:World} {g:Nat} {f0:List Int} {f1:Int} {f2:Bool} (h:IsS38 w0 W g f0 f1 f2) (x:Int):IsS38 w0 (W.setCell ⟨g,1,none⟩ (.int .i64 x)) g f0 x f2:=by
 obtain ⟨A0,c0,hb,hg,hr0⟩:=h
 exact ⟨A0,c0,by simpa using blk_set hb 1 (.int .i64 x),hg,hr0⟩
theorem cellS38_2 {W:World} {g:Nat} {A0:Option Addr} {c0:Nat} {f0:List Int} {f1:Int} {f2:Bool} (h:W.heap[g]? = some (.cells #[.slice A0 f0.length c0,.int .i64 f1,.bool f2] 38 (0,0))):W.cell? ⟨g,2,none⟩ = some (.bool f2):=(blk_cell h 2).trans rfl
theorem IsS38.set_2 {w0 W:World} {g:Nat} {f0:List Int} {f1:Int} {f2:Bool} (h:IsS38 w0 W g f0 f1 f2) (x:Bool):IsS38 w0 (W.setCell ⟨g,2,none⟩ (.bool x)) g f0 f1 x:=by
 obtain ⟨A0,c0,hb,hg,hr0⟩:=h
 exact ⟨A0,c0,by simpa using blk_set hb 2 (.bool x),hg,hr0⟩
theorem IsS38.new (w0 W:World) (A0:Option Addr) (c0:Nat) (f0:List Int) (f1:Int) (f2:Bool) (hB:Below w0.heap.size w0 W) (hr0:Kd.C (Kd.int .u8) w0 A0 f0.length f0∧f0.length≤c0):IsS38 w0 (W.alloc (.cells #[.slice A0 f0.length c0,.int .i64 f1,.bool f2] 38)) W.heap.size f0 f1 f2:=⟨A0,c0,by simpa using heap_alloc_new W _,hB.size,hr0⟩
theorem IsS38.of_blk {w0 W:World} {g:Nat} {A0:Option Addr} {c0:Nat} {f0:List Int} {f1:Int} {f2:Bool} (hb:W.heap[g]? = some (.cells #[.slice A0 f0.length c0,.int .i64 f1,.bool f2] 38 (0,0))) (hg:w0.heap.size≤g) (hr0:Kd.C (Kd.int .u8) w0 A0 f0.length f0∧f0.length≤c0):IsS38 w0 W g f0 f1 f2:=⟨A0,c0,hb,hg,hr0⟩

/-! ### impl_getter_num: function 25 -/
def impl_getter_num.f (k:Nat) (s0_0:List Int) (s0_1:Int) (s0_2:Bool):Option (Int × Int × Bool):=(impl_GetNum.f k s0_0 s0_1).bind fun bt175=>(if s0_2 = true then (some (0,s0_1,true)) else (if bt175.2.2 = true then (some (bt175.1,bt175.2.1,s0_2)) else (some (0,s0_1,true))))
theorem impl_getter_num.mono:∀ a0 a1 a2 k,LeO (impl_getter_num.f k a0 a1 a2) (impl_getter_num.f (k + 1) a0 a1 a2):=by
 intro a0 a1 a2 k
 unfold impl_getter_num.f
 with_reducible repeat' first|apply impl_GetNum.mono|apply LeO.refl|apply LeO.none|apply LeO.ite|refine LeO.bind ?_ (fun _=>?_)
set_option maxHeartbeats 8000000 in
set_option maxRecDepth 100000 in
theorem impl_getter_num.calls (k:Nat) (g:Nat) (s0_0:List Int) (s0_1:Int) (s0_2:Bool) (r1:Int) (r2:Int) (r3:Bool) (w0 w:World) (hI:IsS38 w0 w g s0_0 s0_1 s0_2) (hB:Below w0.heap.size w0 w) (h:impl_getter_num.f k s0_0 s0_1 s0_2 = some (r1,r2,r3)) :
  Calls Try.prog 25 #[.pointer (some ⟨g,0,none⟩)] w fun e w'=>e = .returned (.int .i64 r1)∧IsS38 w0 w' g s0_0 r2 r3∧Below w0.heap.size w0 w'∧KeepBut w w' g none:=by
 have HI0:=Aside0.mk hI;have HK:=Aside0.mk (KeepBut.refl w g none);have HL:=Aside0.mk hB.size;clear hI;have HW0:=Aside0.mk hB.size;have HB:=Aside0.mk hB;clear hB;have H:((impl_GetNum.f k s0_0 s0_1).bind fun bt175=>(if s0_2 = true then (some (0,s0_1,true)) else (if bt175.2.2 = true then (some (bt175.1,bt175.2.1,s0_2)) else (some (0,s0_1,true))))) = some (r1,r2,r3):=h;clear h;replace H:=Option.bind_eq_some_iff.mp H;obtain ⟨⟨t175,t176,t177⟩,A20,H⟩:=H;replace H:(if s0_2 = true then (some (0,s0_1,true)) else (if t177 = true then (some (t175,t176,s0_2)) else (some (0,s0_1,true)))) = some (r1,r2,r3):=H;have A2:=Aside0.mk A20;clear A20
 by_cases c3:s0_2 = true
 ·subst c3
  have H1:(some (0,s0_1,true)) = some (r1,r2,r3):=by rw [if_pos rfl] at H;exact H
  clear H;have H:=H1;clear H1;simp only [Option.some.injEq,Prod.mk.injEq] at H;obtain ⟨rfl,rfl,rfl⟩:=H;obtain ⟨ASz4_0,cSz4_0,HGz4,hgz4,⟨HSz4_0,HLz4_0⟩⟩:=HI0.out;have h4_0:=cellS38_0 HGz4;have h4_1:=cellS38_1 HGz4;have h4_2:=cellS38_2 HGz4;have z4_1:=blk_frozen HGz4 1;have z4_2:=blk_frozen HGz4 2;clear HGz4 hgz4
  go_enter Try.func25,Try.ntmps25
  go_wp2_with (first|(go_at_call 33;(with_reducible refine (impl_GetNum.calls k _ _ s0_0 s0_1 t175 t176 t177 _ ?side1 ?side2 A2.out).mono ?_);(case side1=>repeat (first|exact HSz4_0|exact Kd.C_below HSz4_0 (by repeat (first|(with_reducible first|exact HB.out|apply below_alloc|apply pw_below_drewN|apply below_drew1|refine below_set ?_ (IsS38.ge HI0.out))|exact HB.out))|(with_reducible refine Kd.C_alloc ?_ _)|(with_reducible refine Kd.C_drewN ?_ _)|(with_reducible refine Kd.C_drew ?_)));(case side2=>exact HLz4_0);rintro e w' ⟨rfl,⟨nd,rfl⟩⟩;(try first|exact ⟨rfl,_,World.drewN_drewN _ _ _⟩|exact ⟨rfl,_,Eq.trans (World.drewN_drewN _ _ _) (congrArg (World.drewN _) (Nat.add_assoc _ _ _))⟩)))
  repeat (go_quiet (first|(go_at_call 33;(with_reducible refine (impl_GetNum.calls k _ _ s0_0 s0_1 t175 t176 t177 _ ?side1 ?side2 A2.out).mono ?_);(case side1=>repeat (first|exact HSz4_0|exact Kd.C_below HSz4_0 (by repeat (first|(with_reducible first|exact HB.out|apply below_alloc|apply pw_below_drewN|apply below_drew1|refine below_set ?_ (IsS38.ge HI0.out))|exact HB.out))|(with_reducible refine Kd.C_alloc ?_ _)|(with_reducible refine Kd.C_drewN ?_ _)|(with_reducible refine Kd.C_drew ?_)));(case side2=>exact HLz4_0);rintro e w' ⟨rfl,⟨nd,rfl⟩⟩;(try first|exact ⟨rfl,_,World.drewN_drewN _ _ _⟩|exact ⟨rfl,_,Eq.trans (World.drewN_drewN _ _ _) (congrArg (World.drewN _) (Nat.add_assoc _ _ _))⟩)));try go_wp2_with (first|(go_at_call 33;(with_reducible refine (impl_GetNum.calls k _ _ s0_0 s0_1 t175 t176 t177 _ ?side1 ?side2 A2.out).mono ?_);(case side1=>repeat (first|exact HSz4_0|exact Kd.C_below HSz4_0 (by repeat (first|(with_reducible first|exact HB.out|apply below_alloc|apply pw_below_drewN|apply below_drew1|refine below_set ?_ (IsS38.ge HI0.out))|exact HB.out))|(with_reducible refine Kd.C_alloc ?_ _)|(with_reducible refine Kd.C_drewN ?_ _)|(with_reducible refine Kd.C_drew ?_)));(case side2=>exact HLz4_0);rintro e w' ⟨rfl,⟨nd,rfl⟩⟩;(try first|exact ⟨rfl,_,World.drewN_drewN _ _ _⟩|exact ⟨rfl,_,Eq.trans (World.drewN_drewN _ _ _) (congrArg (World.drewN _) (Nat.add_assoc _ _ _))⟩))))
  go_ret
  exact ⟨cl,by repeat (first|(with_reducible first|exact HI0.out|apply IsS38.alloc|apply IsS38.drewN|apply IsS38.drew|apply IsS38.set_1|apply IsS38.set_2)|exact HI0.out),by repeat (first|(with_reducible first|exact HB.out|apply below_alloc|apply pw_below_drewN|apply below_drew1|refine below_set ?_ (IsS38.ge HI0.out))|exact HB.out),by repeat (first|(with_reducible first|exact HK.out|apply KeepBut.set_|apply keep_drewN|apply keep_drew|apply keep_alloc)|exact HK.out)⟩
 ·replace c3:=Bool.eq_false_iff.mpr c3
  subst c3;have H1:(if t177 = true then (some (t175,t176,false)) else (some (0,s0_1,true))) = some (r1,r2,r3):=by rw [if_neg (show ¬ (false = true) by decide)] at H;exact H
  clear H;have H:=H1;clear H1
  by_cases c5:t177 = true
  ·subst c5
   have H1:(some (t175,t176,false)) = some (r1,r2,r3):=by rw [if_pos rfl] at H;exact H
   clear H;have H:=H1;clear H1;simp only [Option.some.injEq,Prod.mk.injEq] at H;obtain ⟨rfl,rfl,rfl⟩:=H;obtain ⟨ASz6_0,cSz6_0,HGz6,hgz6,⟨HSz6_0,HLz6_0⟩⟩:=HI0.out;have h6_0:=cellS38_0 HGz6;have h6_1:=cellS38_1 HGz6;have h6_2:=cellS38_2 HGz6;have z6_1:=blk_frozen HGz6 1;have z6_2:=blk_frozen HGz6 2;clear HGz6 hgz6
   go_enter Try.func25,Try.ntmps25
   go_wp2_with (first|(go_at_call 33;(with_reducible refine (impl_GetNum.calls k _ _ s0_0 s0_1 t175 t176 true _ ?side1 ?side2 A2.out).mono ?_);(case side1=>repeat (first|exact HSz6_0|exact Kd.C_below HSz6_0 (by repeat (first|(with_reducible first|exact HB.out|apply below_alloc|apply pw_below_drewN|apply below_drew1|refine below_set ?_ (IsS38.ge HI0.out))|exact HB.out))|(with_reducible refine Kd.C_alloc ?_ _)|(with_reducible refine Kd.C_drewN ?_ _)|(with_reducible refine Kd.C_drew ?_)));(case side2=>exact HLz6_0);rintro e w' ⟨rfl,⟨nd,rfl⟩⟩;(try first|exact ⟨rfl,_,World.drewN_drewN _ _ _⟩|exact ⟨rfl,_,Eq.trans (World.drewN_drewN _ _ _) (congrArg (World.drewN _) (Nat.add_assoc _ _ _))⟩)))
   repeat (go_quiet (first|(go_at_call 33;(with_reducible refine (impl_GetNum.calls k _ _ s0_0 s0_1 t175 t176 true _ ?side1 ?side2 A2.out).mono ?_);(case side1=>repeat (first|exact HSz6_0|exact Kd.C_below HSz6_0 (by repeat (first|(with_reducible first|exact HB.out|apply below_alloc|apply pw_below_drewN|apply below_drew1|refine below_set ?_ (IsS38.ge HI0.out))|exact HB.out))|(with_reducible refine Kd.C_alloc ?_ _)|(with_reducible refine Kd.C_drewN ?_ _)|(with_reducible refine Kd.C_drew ?_)));(case side2=>exact HLz6_0);rintro e w' ⟨rfl,⟨nd,rfl⟩⟩;(try first|exact ⟨rfl,_,World.drewN_drewN _ _ _⟩|exact ⟨rfl,_,Eq.trans (World.drewN_drewN _ _ _) (congrArg (World.drewN _) (Nat.add_assoc _ _ _))⟩)));try go_wp2_with (first|(go_at_call 33;(with_reducible refine (impl_GetNum.calls k _ _ s0_0 s0_1 t175 t176 true _ ?side1 ?side2 A2.out).mono ?_);(case side1=>repeat (first|exact HSz6_0|exact Kd.C_below HSz6_0 (by repeat (first|(with_reducible first|exact HB.out|apply below_alloc|apply pw_below_drewN|apply below_drew1|refine below_set ?_ (IsS38.ge HI0.out))|exact HB.out))|(with_reducible refine Kd.C_alloc ?_ _)|(with_reducible refine Kd.C_drewN ?_ _)|(with_reducible refine Kd.C_drew ?_)));(case side2=>exact HLz6_0);rintro e w' ⟨rfl,⟨nd,rfl⟩⟩;(try first|exact ⟨rfl,_,World.drewN_drewN _ _ _⟩|exact ⟨rfl,_,Eq.trans (World.drewN_drewN _ _ _) (congrArg (World.drewN _) (Nat.add_assoc _ _ _))⟩))))
   go_ret
   exact ⟨cl,by repeat (first|(with_reducible first|exact HI0.out|apply IsS38.alloc|apply IsS38.drewN|apply IsS38.drew|apply IsS38.set_1|apply IsS38.set_2)|exact HI0.out),by repeat (first|(with_reducible first|exact HB.out|apply below_alloc|apply pw_below_drewN|apply below_drew1|refine below_set ?_ (IsS38.ge HI0.out))|exact HB.out),by repeat (first|(with_reducible first|exact HK.out|apply KeepBut.set_|apply keep_drewN|apply keep_drew|apply keep_alloc)|exact HK.out)⟩
  ·replace c5:=Bool.eq_false_iff.mpr c5
   subst c5;have H1:(some (0,s0_1,true)) = some (r1,r2,r3):=by rw [if_neg (show ¬ (false = true) by decide)] at H;exact H
   clear H;have H:=H1;clear H1;simp only [Option.some.injEq,Prod.mk.injEq] at H;obtain ⟨rfl,rfl,rfl⟩:=H;obtain ⟨ASz7_0,cSz7_0,HGz7,hgz7,⟨HSz7_0,HLz7_0⟩⟩:=HI0.out;have h7_0:=cellS38_0 HGz7;have h7_1:=cellS38_1 HGz7;have h7_2:=cellS38_2 HGz7;have z7_1:=blk_frozen HGz7 1;have z7_2:=blk_frozen HGz7 2;clear HGz7 hgz7
   go_enter Try.func25,Try.ntmps25
   go_wp2_with (first|(go_at_call 33;(with_reducible refine (impl_GetNum.calls k _ _ s0_0 s0_1 t175 t176 false _ ?side1 ?side2 A2.out).mono ?_);(case side1=>repeat (first|exact HSz7_0|exact Kd.C_below HSz7_0 (by repeat (first|(with_reducible first|exact HB.out|apply below_alloc|apply pw_below_drewN|apply below_drew1|refine below_set ?_ (IsS38.ge HI0.out))|exact HB.out))|(with_reducible refine Kd.C_alloc ?_ _)|(with_reducible refine Kd.C_drewN ?_ _)|(with_reducible refine Kd.C_drew ?_)));(case side2=>exact HLz7_0);rintro e w' ⟨rfl,⟨nd,rfl⟩⟩;(try first|exact ⟨rfl,_,World.drewN_drewN _ _ _⟩|exact ⟨rfl,_,Eq.trans (World.drewN_drewN _ _ _) (congrArg (World.drewN _) (Nat.add_assoc _ _ _))⟩)))
   repeat (go_quiet (first|(go_at_call 33;(with_reducible refine (impl_GetNum.calls k _ _ s0_0 s0_1 t175 t176 false _ ?side1 ?side2 A2.out).mono ?_);(case side1=>repeat (first|exact HSz7_0|exact Kd.C_below HSz7_0 (by repeat (first|(with_reducible first|exact HB.out|apply below_alloc|apply pw_below_drewN|apply below_drew1|refine below_set ?_ (IsS38.ge HI0.out))|exact HB.out))|(with_reducible refine Kd.C_alloc ?_ _)|(with_reducible refine Kd.C_drewN ?_ _)|(with_reducible refine Kd.C_drew ?_)));(case side2=>exact HLz7_0);rintro e w' ⟨rfl,⟨nd,rfl⟩⟩;(try first|exact ⟨rfl,_,World.drewN_drewN _ _ _⟩|exact ⟨rfl,_,Eq.trans (World.drewN_drewN _ _ _) (congrArg (World.drewN _) (Nat.add_assoc _ _ _))⟩)));try go_wp2_with (first|(go_at_call 33;(with_reducible refine (impl_GetNum.calls k _ _ s0_0 s0_1 t175 t176 false _ ?side1 ?side2 A2.out).mono ?_);(case side1=>repeat (first|exact HSz7_0|exact Kd.C_below HSz7_0 (by repeat (first|(with_reducible first|exact HB.out|apply below_alloc|apply pw_below_drewN|apply below_drew1|refine below_set ?_ (IsS38.ge HI0.out))|exact HB.out))|(with_reducible refine Kd.C_alloc ?_ _)|(with_reducible refine Kd.C_drewN ?_ _)|(with_reducible refine Kd.C_drew ?_)));(case side2=>exact HLz7_0);rintro e w' ⟨rfl,⟨nd,rfl⟩⟩;(try first|exact ⟨rfl,_,World.drewN_drewN _ _ _⟩|exact ⟨rfl,_,Eq.trans (World.drewN_drewN _ _ _) (congrArg (World.drewN _) (Nat.add_assoc _ _ _))⟩))))
   go_ret
   exact ⟨cl,by repeat (first|(with_reducible first|exact HI0.out|apply IsS38.alloc|apply IsS38.drewN|apply IsS38.drew|apply IsS38.set_1|apply IsS38.set_2)|exact HI0.out),by repeat (first|(with_reducible first|exact HB.out|apply below_alloc|apply pw_below_drewN|apply below_drew1|refine below_set ?_ (IsS38.ge HI0.out))|exact HB.out),by repeat (first|(with_reducible first|exact HK.out|apply KeepBut.set_|apply keep_drewN|apply keep_drew|apply keep_alloc)|exact HK.out)⟩

/-! ### impl_GetText: function 34 -/
def impl_GetText.f (k:Nat) (l0:List Int) (a1:Int):Option (ByteArray × Int × Bool):=(impl_GetNum.f k l0 a1).bind fun bt178=>(if bt178.2.2 = true then (if bt178.1 < 0 then (some ((⟨#[]⟩:ByteArray),0,false)) else (if bt178.1 > (wrap64 ((l0.length:Int) - bt178.2.1)) then (some ((⟨#[]⟩:ByteArray),0,false)) else (if 0≤bt178.2.1 then (if bt178.2.1≤(wrap64 (bt178.2.1 + bt178.1)) then (if (wrap64 (bt178.2.1 + bt178.1))≤(l0.length:Int) then (some (strOfNums ((l0.take ((wrap64 (bt178.2.1 + bt178.1)):Int).toNat).drop (bt178.2.1:Int).toNat),wrap64 (bt178.2.1 + bt178.1),true)) else (none)) else (none)) else (none)))) else (some ((⟨#[]⟩:ByteArray),0,false)))
theorem impl_GetText.mono:∀ a0 a1 k,LeO (impl_GetText.f k a0 a1) (impl_GetText.f (k + 1) a0 a1):=by
 intro a0 a1 k
 unfold impl_GetText.f
 with_reducible repeat' first|apply impl_GetNum.mono|apply LeO.refl|apply LeO.none|apply LeO.ite|refine LeO.bind ?_ (fun _=>?_)
set_option maxHeartbeats 8000000 in
set_option maxRecDepth 100000 in
theorem impl_GetText.calls (k:Nat) (A0:Option Addr) (c0:Nat) (l0:List Int) (a1:Int) (r1:ByteArray) (r2:Int) (r3:Bool) (w:World) (hr0:Kd.C (Kd.int .u8) w A0 l0.length l0) (hc0:l0.length≤c0) (h:impl_GetText.f k l0 a1 = some (r1,r2,r3)) :
  Calls Try.prog 34 #[.slice A0 l0.length c0,.int .i64 a1] w fun e w'=>e = .returned (.tuple #[.string r1,.int .i64 r2,.bool r3])∧Drawn0 w w':=by
 have HR0:=Aside0.mk hr0;have HC0:=Aside0.mk hc0;clear hr0 hc0;have H:((impl_GetNum.f k l0 a1).bind fun bt178=>(if bt178.2.2 = true then (if bt178.1 < 0 then (some ((⟨#[]⟩:ByteArray),0,false)) else (if bt178.1 > (wrap64 ((l0.length:Int) - bt178.2.1)) then (some ((⟨#[]⟩:ByteArray),0,false)) else (if 0≤bt178.2.1 then (if bt178.2.1≤(wrap64 (bt178.2.1 + bt178.1)) then (if (wrap64 (bt178.2.1 + bt178.1))≤(l0.length:Int) then (some (strOfNums ((l0.take ((wrap64 (bt178.2.1 + bt178.1)):Int).toNat).drop (bt178.2.1:Int).toNat),wrap64 (bt178.2.1 + bt178.1),true)) else (none)) else (none)) else (none)))) else (some ((⟨#[]⟩:ByteArray),0,false)))) = some (r1,r2,r3):=h;clear h;replace H:=Option.bind_eq_some_iff.mp H;obtain ⟨⟨t178,t179,t180⟩,A30,H⟩:=H;replace H:(if t180 = true then (if t178 < 0 then (some ((⟨#[]⟩:ByteArray),0,false)) else (if t178 > (wrap64 ((l0.length:Int) - t179)) then (some ((⟨#[]⟩:ByteArray),0,false)) else (if 0≤t179 then (if t179≤(wrap64 (t179 + t178)) then (if (wrap64 (t179 + t178))≤(l0.length:Int) then (some (strOfNums ((l0.take ((wrap64 (t179 + t178)):Int).toNat).drop (t179:Int).toNat),wrap64 (t179 + t178),true)) else (none)) else (none)) else (none)))) else (some ((⟨#[]⟩:ByteArray),0,false))) = some (r1,r2,r3):=H;have A3:=Aside0.mk A30;clear A30
 by_cases c4:t180 = true
 ·subst c4
  have H1:(if t178 < 0 then (some ((⟨#[]⟩:ByteArray),0,false)) else (if t178 > (wrap64 ((l0.length:Int) - t179)) then (some ((⟨#[]⟩:ByteArray),0,false)) else (if 0≤t179 then (if t179≤(wrap64 (t179 + t178)) then (if (wrap64 (t179 + t178))≤(l0.length:Int) then (some (strOfNums ((l0.take ((wrap64 (t179 + t178)):Int).toNat).drop (t179:Int).toNat),wrap64 (t179 + t178),true)) else (none)) else (none)) else (none)))) = some (r1,r2,r3):=by rw [if_pos rfl] at H;exact H
  clear H;have H:=H1;clear H1
  by_cases c5:t178 < 0
  ·rw [if_pos c5] at H
   have c5b0:decide (t178 < 0) = true:=decide_eq_true c5;clear c5;simp only [Option.some.injEq,Prod.mk.injEq] at H;obtain ⟨rfl,rfl,rfl⟩:=H
   go_enter Try.func34,Try.ntmps34
   go_wp2_with (first|((with_reducible refine gate_callee (f:=33) rfl ?_);refine goesL_ (some 13) rfl rfl Try.func33 (by kernel_rfl) rfl #[.slice A0 l0.length c0,.int .i64 a1] rfl gs ?_;(with_reducible refine (impl_GetNum.calls k _ _ l0 a1 t178 t179 true _ ?side1 ?side2 A3.out).mono ?_);(case side1=>repeat (first|exact HR0.out|(with_reducible refine Kd.C_alloc ?_ _)|(with_reducible refine Kd.C_drewN ?_ _)|(with_reducible refine Kd.C_drew ?_)));(case side2=>exact HC0.out);rintro e w' ⟨rfl,⟨nd,rfl⟩⟩;refine ⟨_,rfl,?_⟩))
   go_ret3
   exact ⟨cl2,by repeat (first|exact Drawn0.refl _|apply Drawn0.step)⟩
  ·rw [if_neg c5] at H
   have c5b0:decide (t178 < 0) = false:=decide_eq_false c5;clear c5
   by_cases c6:t178 > (wrap64 ((l0.length:Int) - t179))
   ·rw [if_pos c6] at H
    have c6b0:decide ((wrap64 ((l0.length:Int) - t179)) < t178) = true:=decide_eq_true c6;clear c6;simp only [Option.some.injEq,Prod.mk.injEq] at H;obtain ⟨rfl,rfl,rfl⟩:=H
    go_enter Try.func34,Try.ntmps34
    go_wp2_with (first|((with_reducible refine gate_callee (f:=33) rfl ?_);refine goesL_ (some 13) rfl rfl Try.func33 (by kernel_rfl) rfl #[.slice A0 l0.length c0,.int .i64 a1] rfl gs ?_;(with_reducible refine (impl_GetNum.calls k _ _ l0 a1 t178 t179 true _ ?side1 ?side2 A3.out).mono ?_);(case side1=>repeat (first|exact HR0.out|(with_reducible refine Kd.C_alloc ?_ _)|(with_reducible refine Kd.C_drewN ?_ _)|(with_reducible refine Kd.C_drew ?_)));(case side2=>exact HC0.out);rintro e w' ⟨rfl,⟨nd,rfl⟩⟩;refine ⟨_,rfl,?_⟩))
    go_ret3
    exact ⟨cl2,by repeat (first|exact Drawn0.refl _|apply Drawn0.step)⟩
   ·rw [if_neg c6] at H
    have c6b0:decide ((wrap64 ((l0.length:Int) - t179)) < t178) = false:=decide_eq_false c6;clear c6
    by_cases c7:0≤t179
    ·rw [if_pos c7] at H
     have c7b0:=eq_true c7;have c7b1:decide (0≤t179) = true:=decide_eq_true c7;clear c7
     by_cases c8:t179≤(wrap64 (t179 + t178))
     ·rw [if_pos c8] at H
      have c8b0:=eq_true c8;have c8b1:decide (t179≤(wrap64 (t179 + t178))) = true:=decide_eq_true c8
      by_cases c9:(wrap64 (t179 + t178))≤(l0.length:Int)
      ·rw [if_pos c9] at H
       have c9b0:=eq_true c9;have c9b1:decide ((wrap64 (t179 + t178))≤(l0.length:Int)) = true:=decide_eq_true c9;obtain ⟨y181,hy181⟩:∃ y_:List Int,y_ = ((l0.take ((wrap64 (t179 + t178)):Int).toNat).drop (t179:Int).toNat):=⟨_,rfl⟩;replace H:(some (strOfNums y181,wrap64 (t179 + t178),true)) = some (r1,r2,r3):=by first|(rw [hy181];with_reducible exact H)|(have H2_:=(Option.bind_some _ _).symm.trans H;rw [hy181];with_reducible exact H2_)|(have H2_:=(Option.bind_some _ _).symm.trans H;with_reducible exact H2_)|with_reducible exact H|(rw [hy181];exact H)|exact H
       have Ny181:=Aside0.mk hy181;clear hy181;simp only [Option.some.injEq,Prod.mk.injEq] at H;obtain ⟨rfl,rfl,rfl⟩:=H
       go_enter Try.func34,Try.ntmps34
       go_wp2_with (first|((with_reducible refine gate_callee (f:=33) rfl ?_);refine goesL_ (some 13) rfl rfl Try.func33 (by kernel_rfl) rfl #[.slice A0 l0.length c0,.int .i64 a1] rfl gs ?_;(with_reducible refine (impl_GetNum.calls k _ _ l0 a1 t178 t179 true _ ?side1 ?side2 A3.out).mono ?_);(case side1=>repeat (first|exact HR0.out|(with_reducible refine Kd.C_alloc ?_ _)|(with_reducible refine Kd.C_drewN ?_ _)|(with_reducible refine Kd.C_drew ?_)));(case side2=>exact HC0.out);rintro e w' ⟨rfl,⟨nd,rfl⟩⟩;refine ⟨_,rfl,?_⟩;have q10:((wrap64 (t179 + t178)):Int)≤((l0.length:Int):Int):=od;obtain ⟨i010,hi010,_,hsz10,_⟩:=info_parts info5;have hroom10:l0.length≤c0:=HC0.out;have hC10:Kd.C (Kd.int .u8) _ A0 l0.length l0:=HR0.out;have ql10:(t179:Int)≤((wrap64 (t179 + t178)):Int):=od;have q010:(0:Int)≤(t179:Int):=od;have hcut10:=cut_mid (P:=Try.prog) 22 5 .i64 .i64 Try.underlying22 hi010 1 hsz10 A0 l0.length c0 t179 (wrap64 (t179 + t178)) q010 ql10 q10 hroom10;have hr10:=Kd.C_mid (lo:=(t179:Int).toNat) (hi:=((wrap64 (t179 + t178)):Int).toNat) (c:=c0) hC10 (by omega) (by omega) hroom10;obtain ⟨A10,hA10⟩:∃ A1,A1 = (if c0 = (t179:Int).toNat then A0 else (A0:Option Addr).map (·.add ((t179:Int).toNat * 1))):=⟨_,rfl⟩;obtain ⟨c10,hc10⟩:∃ c1,c1 = c0 - (t179:Int).toNat:=⟨_,rfl⟩;have hy10:y181.length = ((wrap64 (t179 + t178)):Int).toNat - (t179:Int).toNat:=(by rw [Ny181.out,List.length_drop,List.length_take] <;> omega);rw [show ((l0).take ((wrap64 (t179 + t178)):Int).toNat).drop (t179:Int).toNat = y181 from Ny181.out.symm] at hr10;replace hr10:Kd.C (Kd.int .u8) _ A10 y181.length y181:=(by rw [hA10];exact hr10);rw [← hy10,← hA10,← hc10] at hcut10;have HR184:=Aside0.mk hr10;have HC184:=Aside0.mk (show y181.length≤c10 from by rw [hy10,hc10];exact Nat.sub_le_sub_right (Nat.le_trans (by omega) hroom10) _);clear hr10 hC10 hroom10 hi010 hsz10 hc10;have KY10:=Aside0.mk hy10;have KA10:=Aside0.mk hA10;clear hy10 hA10;replace q10:=eq_true q10;have hcv11:=Kd.C_string (P:=Try.prog) (A:=A10) (c:=c10) Try.underlying22 Try.underlying5 Try.underlying9 HR184.out;have hcv12:=fun m_:Nat=>Kd.C_string (P:=Try.prog) (A:=A10) (c:=c10) Try.underlying22 Try.underlying5 Try.underlying9 (Kd.C_drewN HR184.out m_)))
       go_ret3
       exact ⟨cl2,by repeat (first|exact Drawn0.refl _|apply Drawn0.step)⟩
      ·rw [if_neg c9] at H
       exact absurd H (by simp)
     ·rw [if_neg c8] at H
      exact absurd H (by simp)
    ·rw [if_neg c7] at H
     exact absurd H (by simp)
 ·replace c4:=Bool.eq_false_iff.mpr c4
  subst c4;have H1:(some ((⟨#[]⟩:ByteArray),0,false)) = some (r1,r2,r3):=by rw [if_neg (show ¬ (false = true) by decide)] at H;exact H
  clear H;have H:=H1;clear H1;simp only [Option.some.injEq,Prod.mk.injEq] at H;obtain ⟨rfl,rfl,rfl⟩:=H
  go_enter Try.func34,Try.ntmps34
  go_wp2_with (first|((with_reducible refine gate_callee (f:=33) rfl ?_);refine goesL_ (some 13) rfl rfl Try.func33 (by kernel_rfl) rfl #[.slice A0 l0.length c0,.int .i64 a1] rfl gs ?_;(with_reducible refine (impl_GetNum.calls k _ _ l0 a1 t178 t179 false _ ?side1 ?side2 A3.out).mono ?_);(case side1=>repeat (first|exact HR0.out|(with_reducible refine Kd.C_alloc ?_ _)|(with_reducible refine Kd.C_drewN ?_ _)|(with_reducible refine Kd.C_drew ?_)));(case side2=>exact HC0.out);rintro e w' ⟨rfl,⟨nd,rfl⟩⟩;refine ⟨_,rfl,?_⟩))
  go_ret3
  exact ⟨cl2,by repeat (first|exact Drawn0.refl _|apply Drawn0.step)⟩

end Go.Proofs.Ytefkjmkmojmllaa.QFnExactGetTerm
