-- Written by a program of this workplace (print2.py) for this claim, over the print's words.
import Derived.Test.YtghhbdmjafedbaaQFnExactCodeOkx0
import Derived.Test.YtghhbdmjafedbaaQFnExactCodeOkx10
import Derived.Test.YtghhbdmjafedbaaQFnExactCodeOkx17
namespace Go.Proofs.Ytghhbdmjafedbaa.QFnExactCodeOk
open Go.RowKit Go.Proofs.YtghhbdmjafedbaaW.PrintWords Go.Proofs.YtghhbdmjafedbaaW.PrintLast Go.Proofs.YtghhbdmjafedbaaW.PrintMore
attribute [local go_sem] max2_int min2_int max_two min_two max_three min_three max_four min_four   -- for this text's walks alone
set_option linter.unusedVariables false
set_option linter.unusedSimpArgs false

/-! ### impl_CodeOk: function 7: by hand -/
theorem rp_elem {α:Type} {d:Kd α} {w:World} {A:Option Addr} {n:Nat} {xs:List α} (h:d.C w A n xs) (z:α) (i:Nat) (hi:i < n) :
  ∃ ad,A = some ad∧d.C w (some (ad.add (i * d.sz))) 1 [xs.getD i z]:=by
 obtain ⟨ad,c,e,hl,hK,hc⟩:=Kd.C_get h z (i:Int) (by omega) (by omega);rw [Int.toNat_natCast] at hK hc
 refine ⟨ad,e,rfl,by omega,fun _=>⟨_,rfl,fun j p hj=>?_⟩⟩
 cases j with
 | zero =>
  have hp:xs.getD i z = p:=by injection hj
  subst hp
  refine ⟨c,hl,hK,fun u v hu=>?_⟩
  have hq:=hc u v hu;rw [Nat.zero_mul,Nat.zero_add]
  by_cases h0:u = 0
  ·subst h0
   rw [Nat.add_zero] at hq;rw [Addr.add_zero'];exact hq
  ·rw [add_field _ _ u (by omega)] at hq
   have e2:(ad.add (i * d.sz)).add u = ⟨(ad.add (i * d.sz)).block,(ad.add (i * d.sz)).off + u,none⟩:=by
    have:=add_field (ad.add (i * d.sz)) 0 u (by omega);rw [Nat.zero_add,Addr.add_zero'] at this
    exact this
   rw [e2];exact hq
 | succ j=>simp at hj
theorem rp_blk {α:Type} {d:Kd α} {w:World} {x:α} {cs:List Value} {g:Nat} (hl:cs.length = d.sz) (hK:d.K w x cs) (hc:∀ u v,cs[u]? = some v → w.cell? ⟨g,u,none⟩ = some v):d.C w (some ⟨g,0,none⟩) 1 [x]:=by
 refine ⟨rfl,by omega,fun _=>⟨_,rfl,fun j p hj=>?_⟩⟩
 cases j with
 | zero =>
  have hp:x = p:=by injection hj
  subst hp
  refine ⟨cs,hl,hK,fun u v hu=>?_⟩
  rw [Nat.zero_mul,Nat.zero_add]
  by_cases h0:u = 0
  ·subst h0
   rw [Addr.add_zero'];exact hc 0 v hu
  ·have e2:(⟨g,0,none⟩:Addr).add u = ⟨g,0 + u,none⟩:=by
    have:=add_field (⟨g,0,none⟩:Addr) 0 u (by omega);rw [Nat.zero_add,Addr.add_zero'] at this
    exact this
   rw [e2,Nat.zero_add];exact hc u v hu
 | succ j=>simp at hj
def impl_CodeOk.l0:Nat → List S44 → List S67 → Int → Option Bool
 | 0,_,_,_=>none
 | k + 1,x0,x1,x5=>if x5 < (x0.length:Int) then (if 0≤x5 then ((impl_fnAt.f [(⟨x0,x1⟩:S31)] (rd_T44 x0 x5).f0).bind fun t1=>(if t1 = x5 then ((impl_fnOk.f k [(⟨x0,x1⟩:S31)] [rd_T44 x0 x5]).bind fun t2=>(if t2 = true then (impl_CodeOk.l0 k x0 x1 (wrap64 (x5 + 1))) else (some false))) else (some false))) else none) else (some true)
def impl_CodeOk.f (k:Nat) (l0_0:List S44) (l0_1:List S67):Option Bool:=if (l0_0.length:Int) > 12 then (some false) else (if (l0_1.length:Int) > 2000 then (some false) else (impl_CodeOk.l0 k l0_0 l0_1 0))
theorem impl_CodeOk.mono_l:∀ k,(∀ y0 y1 y2,LeO (impl_CodeOk.l0 k y0 y1 y2) (impl_CodeOk.l0 (k + 1) y0 y1 y2))
 | 0=>fun _ _ _ r h=>by simp [impl_CodeOk.l0] at h
 | k + 1=>by
  have ih0:=impl_CodeOk.mono_l k
  ·intro y0 y1 y2
   unfold impl_CodeOk.l0
   with_reducible repeat' first|apply ih0|apply impl_fnOk.mono|apply LeO.refl|apply LeO.none|apply LeO.ite|refine LeO.bind ?_ (fun _=>?_)
theorem impl_CodeOk.mono:∀ a0 a1 k,LeO (impl_CodeOk.f k a0 a1) (impl_CodeOk.f (k + 1) a0 a1):=by
 intro a0 a1 k;have ih0:=impl_CodeOk.mono_l k
 unfold impl_CodeOk.f
 with_reducible repeat' first|apply ih0|apply LeO.refl|apply LeO.none|apply LeO.ite
set_option maxHeartbeats 8000000 in
set_option maxRecDepth 100000 in
theorem impl_CodeOk.calls (k:Nat) (A0_0:Option Addr) (c0_0:Nat) (l0_0:List (S44)) (A0_1:Option Addr) (c0_1:Nat) (l0_1:List (S67)) (r:Bool) (w:World) (hr0_0:Kd.C k44 w A0_0 l0_0.length l0_0) (hc0_0:l0_0.length≤c0_0) (hr0_1:Kd.C k67 w A0_1 l0_1.length l0_1) (hc0_1:l0_1.length≤c0_1) (h:impl_CodeOk.f k l0_0 l0_1 = some r) :
  Calls Try.prog 7 #[.agg #[.slice A0_0 l0_0.length c0_0,.slice A0_1 l0_1.length c0_1]] w fun e w'=>e = .returned (.bool r)∧Below w.heap.size w w':=by
 unfold impl_CodeOk.f at h
 have hu31:=Try.underlying31;have W1:=(Below.refl w.heap.size w).alloc (Nat.le_refl _) (.cells #[.slice A0_0 l0_0.length c0_0,.slice A0_1 l0_1.length c0_1] 31);have hsz:(w.alloc (.cells #[.slice A0_0 l0_0.length c0_0,.slice A0_1 l0_1.length c0_1] 31)).heap.size = w.heap.size + 1:=by simp
 have hcell0:(w.alloc (.cells #[.slice A0_0 l0_0.length c0_0,.slice A0_1 l0_1.length c0_1] 31)).cell? ⟨w.heap.size,0,none⟩ = some (.slice A0_0 l0_0.length c0_0):=by simp
 have hcell1:(w.alloc (.cells #[.slice A0_0 l0_0.length c0_0,.slice A0_1 l0_1.length c0_1] 31)).cell? ⟨w.heap.size,1,none⟩ = some (.slice A0_1 l0_1.length c0_1):=by simp
 have HCP:Kd.C k31 (w.alloc (.cells #[.slice A0_0 l0_0.length c0_0,.slice A0_1 l0_1.length c0_1] 31)) (some ⟨w.heap.size,0,none⟩) 1 [(⟨l0_0,l0_1⟩:S31)]:=by
  refine rp_blk (cs:=[.slice A0_0 l0_0.length c0_0,.slice A0_1 l0_1.length c0_1]) rfl (k31_mk _ ⟨l0_0,l0_1⟩ hc0_0 (Kd.C_below hr0_0 W1) hc0_1 (Kd.C_below hr0_1 W1)) (fun u v hu=>?_)
  match u,hu with
  | 0,hu=>injection hu with hu;rw [← hu];exact hcell0
  | 1,hu=>injection hu with hu;rw [← hu];exact hcell1
  | u + 2,hu=>simp at hu
 have HCP':=Aside0.mk HCP;have WW:=Aside0.mk W1;have HR:=Aside0.mk hr0_0;have HS:=Aside0.mk hsz;have HC0:=Aside0.mk hcell0;clear HCP W1 hr0_0 hr0_1 hc0_1 hcell1 hsz hcell0 hc0_0
 by_cases a:(l0_0.length:Int) > 12
 ·rw [if_pos a] at h
  injection h with h
  subst h;have a0:decide ((l0_0.length:Int) > 12) = true:=decide_eq_true a;have a1:decide (12 < l0_0.length) = true:=decide_eq_true (by omega);have a2:(12:Int) < (l0_0.length:Int):=a;have WW2:=WW.out
  go_enter Try.func7,Try.ntmps7
  go_wp2
  go_ret
  exact ⟨rfl,by repeat (first|exact WW.out|apply below_alloc)⟩
 ·rw [if_neg a] at h
  have a0:decide ((l0_0.length:Int) > 12) = false:=decide_eq_false a;have a1:decide (12 < l0_0.length) = false:=decide_eq_false (by omega)
  by_cases b:(l0_1.length:Int) > 2000
  ·rw [if_pos b] at h
   injection h with h
   subst h;have b0:decide ((l0_1.length:Int) > 2000) = true:=decide_eq_true b;have b1:decide (2000 < l0_1.length) = true:=decide_eq_true (by omega)
   go_enter Try.func7,Try.ntmps7
   go_wp2
   go_ret
   exact ⟨rfl,by repeat (first|exact WW.out|apply below_alloc)⟩
  ·rw [if_neg b] at h
   have b0:decide ((l0_1.length:Int) > 2000) = false:=decide_eq_false b;have b1:decide (2000 < l0_1.length) = false:=decide_eq_false (by omega);have H':=Aside0.mk h;have HN:=Aside0.mk a;clear h a b
   go_enter Try.func7,Try.ntmps7
   go_wp2
   go_loopg [3,17] k (fun kq _ v17 w'=>∃ (x5:Int),v17 = .int .i64 x5∧Aside0 (impl_CodeOk.l0 kq l0_0 l0_1 x5 = some r)∧Aside0 (kq≤k)∧Aside0 (Below w.heap.size w w')∧Aside0 (Below (w.heap.size + 1) (w.alloc (.cells #[.slice A0_0 l0_0.length c0_0,.slice A0_1 l0_1.length c0_1] 31)) w'))
   case atStart=>exact ⟨0,rfl,H',⟨Nat.le_refl _⟩,⟨by repeat (first|exact WW.out|apply below_alloc)⟩,⟨by exact Below.refl _ _⟩⟩
   case round =>
    clear H';obtain ⟨x5,rfl,HA,HK,BW,B1⟩:=hrel
    cases gk with
    | zero=>exact absurd HA.out (by simp [impl_CodeOk.l0])
    | succ k1 =>
     have H:=HA.out;clear HA;simp only [impl_CodeOk.l0] at H
     by_cases c:x5 < (l0_0.length:Int)
     ·rw [if_pos c] at H
      have c0:decide (x5 < (l0_0.length:Int)) = true:=decide_eq_true c
      by_cases d:0≤x5
      ·rw [if_pos d] at H
       have B1':Below (w.alloc (.cells #[.slice A0_0 l0_0.length c0_0,.slice A0_1 l0_1.length c0_1] 31)).heap.size (w.alloc (.cells #[.slice A0_0 l0_0.length c0_0,.slice A0_1 l0_1.length c0_1] 31)) wr:=by rw [HS.out];exact B1.out
       have hcz0:wr.cell? ⟨w.heap.size,0,none⟩ = some (.slice A0_0 l0_0.length c0_0):=(B1'.cell (p:=⟨w.heap.size,0,none⟩) (by rw [HS.out];exact Nat.lt_succ_self _)).trans HC0.out;obtain ⟨ad,A_3,c_3,e_,hx_0,hx_1,hx_2,hx_3,hl_3,hi_3⟩:=at_T44 HR.out x5 d c;cases e_;have hx0:=(BW.out.cell (World.block_lt_of_cell? w _ hx_0)).trans hx_0;clear hx_0 hx_1 hx_2 hx_3 hl_3 hi_3;obtain ⟨t1,ht1⟩:∃ t,impl_fnAt.f [(⟨l0_0,l0_1⟩:S31)] (rd_T44 l0_0 x5).f0 = some t:=by
        cases hq:impl_fnAt.f [(⟨l0_0,l0_1⟩:S31)] (rd_T44 l0_0 x5).f0 with
        | none=>rw [hq] at H;cases H
        | some t=>exact ⟨t,rfl⟩
       rw [ht1] at H;replace H:(if t1 = x5 then ((impl_fnOk.f k1 [(⟨l0_0,l0_1⟩:S31)] [rd_T44 l0_0 x5]).bind fun t2=>(if t2 = true then (impl_CodeOk.l0 k1 l0_0 l0_1 (wrap64 (x5 + 1))) else (some false))) else (some false)) = some r:=H;have hf:=impl_fnAt.calls (some ⟨w.heap.size,0,none⟩) 1 [(⟨l0_0,l0_1⟩:S31)] (rd_T44 l0_0 x5).f0 t1 wr (Kd.C_below HCP'.out B1') (Nat.le_refl _) ht1;have c':=eq_true c;have d':=eq_true d
       by_cases e1:t1 = x5
       ·rw [if_pos e1] at H
        have e10:(t1 == x5) = true:=beq_iff_eq.mpr e1;have e11:(t1 != x5) = false:=bne_eq_false_iff_eq.mpr e1;obtain ⟨t2,ht2⟩:∃ t,impl_fnOk.f k1 [(⟨l0_0,l0_1⟩:S31)] [rd_T44 l0_0 x5] = some t:=by
         cases hq:impl_fnOk.f k1 [(⟨l0_0,l0_1⟩:S31)] [rd_T44 l0_0 x5] with
         | none=>rw [hq] at H;cases H
         | some t=>exact ⟨t,rfl⟩
        rw [ht2] at H;replace H:(if t2 = true then (impl_CodeOk.l0 k1 l0_0 l0_1 (wrap64 (x5 + 1))) else (some false)) = some r:=H;obtain ⟨ad2,e2,hel⟩:=rp_elem HR.out z44 x5.toNat (by omega)
        injection e2 with e2
        subst e2;have hel2:Kd.C k44 w (some (ad.add (x5.toNat * 4))) 1 [rd_T44 l0_0 x5]:=hel;have hg:∀ W,Below wr.heap.size wr W → Calls Try.prog 15 #[.pointer (some ⟨w.heap.size,0,none⟩),.pointer (some (ad.add (x5.toNat * 4)))] W fun e w'=>e = .returned (.bool t2)∧Below W.heap.size W w':=fun W hW=>impl_fnOk.calls k1 (some ⟨w.heap.size,0,none⟩) 1 [(⟨l0_0,l0_1⟩:S31)] (some (ad.add (x5.toNat * 4))) 1 [rd_T44 l0_0 x5] t2 W (Kd.C_below (Kd.C_below HCP'.out B1') hW) (Nat.le_refl _) (Kd.C_below (Kd.C_below hel2 BW.out) hW) (Nat.le_refl _) ht2
        have hcz0':∀ W,Below wr.heap.size wr W → W.cell? ⟨w.heap.size,0,none⟩ = some (.slice (some ad) l0_0.length c0_0):=fun W hW=>(hW.cell (World.block_lt_of_cell? wr _ hcz0)).trans hcz0
        clear hel hel2
        by_cases f:t2 = true
        ·rw [if_pos f] at H
         subst f;have HA:=Aside0.mk H;clear H;have CC:=Aside0.mk c;have DD:=Aside0.mk d;have EE:=Aside0.mk e1;clear c d e1
         go_wp2_with (first|(go_at_call 14;refine hf.mono ?_;rintro e w1 ⟨rfl,hb1⟩;have hz1:=hcz0' w1 hb1;have hg1:=hg w1 hb1)|(go_at_call 15;refine hg1.mono ?_;rintro e w2 ⟨rfl,hb2⟩))
         go_roundg k1
         case measure=>have:=HK.out;omega
         case rel=>exact ⟨wrap64 (x5 + 1),cl2,HA,⟨by have:=HK.out;omega⟩,⟨BW.out.trans ((hb1.trans (hb2.mono hb1.size)).mono BW.out.size)⟩,⟨B1.out.trans ((hb1.trans (hb2.mono hb1.size)).mono (by have:=B1.out.size;rw [HS.out] at this;exact this))⟩⟩
        ·rw [if_neg f] at H
         have f':t2 = false:=by cases t2 <;> simp_all
         subst f'
         injection H with H
         subst H
         go_wp2_with (first|(go_at_call 14;refine hf.mono ?_;rintro e w1 ⟨rfl,hb1⟩;have hz1:=hcz0' w1 hb1;have hg1:=hg w1 hb1)|(go_at_call 15;refine hg1.mono ?_;rintro e w2 ⟨rfl,hb2⟩))
         go_ret
         exact ⟨rfl,BW.out.trans ((hb1.trans (hb2.mono hb1.size)).mono BW.out.size)⟩
       ·rw [if_neg e1] at H
        have e10:(t1 == x5) = false:=beq_eq_false_iff_ne.mpr e1;have e11:(t1 != x5) = true:=bne_iff_ne.mpr e1
        injection H with H
        subst H
        go_wp2_with (go_at_call 14;refine hf.mono ?_;rintro e w1 ⟨rfl,hb1⟩)
        go_ret
        exact ⟨rfl,BW.out.trans (hb1.mono BW.out.size)⟩
      ·rw [if_neg d] at H
       exact absurd H (by simp)
     ·rw [if_neg c] at H
      have c0:decide (x5 < (l0_0.length:Int)) = false:=decide_eq_false c
      injection H with H
      subst H
      go_wp2
      go_ret
      exact ⟨rfl,BW.out⟩

/-! ### laws_eqIns: function 57 -/
def laws_eqIns.f (a0_0:Int) (a0_1:Int) (a0_2:ByteArray) (a0_3:Int) (a1_0:Int) (a1_1:Int) (a1_2:ByteArray) (a1_3:Int):Option (Bool):=if a0_0 = a1_0 then (if a0_1 = a1_1 then (if a0_2.toList = a1_2.toList then (if a0_3 = a1_3 then (some true) else (some false)) else (some false)) else (some false)) else (some false)
set_option maxHeartbeats 8000000 in
set_option maxRecDepth 100000 in
theorem laws_eqIns.calls (a0_0:Int) (a0_1:Int) (a0_2:ByteArray) (a0_3:Int) (a1_0:Int) (a1_1:Int) (a1_2:ByteArray) (a1_3:Int) (r:Bool) (w:World) (h:laws_eqIns.f a0_0 a0_1 a0_2 a0_3 a1_0 a1_1 a1_2 a1_3 = some r) :
  Calls Try.prog 57 #[.agg #[.int .i64 a0_0,.int .i64 a0_1,.string a0_2,.int .i64 a0_3],.agg #[.int .i64 a1_0,.int .i64 a1_1,.string a1_2,.int .i64 a1_3]] w fun e w'=>e = .returned (.bool r)∧Below w.heap.size w w':=by
 have hu64:=Try.underlying64;have HB:=Aside0.mk (Below.refl w.heap.size w);have H:(if a0_0 = a1_0 then (if a0_1 = a1_1 then (if a0_2.toList = a1_2.toList then (if a0_3 = a1_3 then (some true) else (some false)) else (some false)) else (some false)) else (some false)) = some r:=h;clear h
 by_cases c3:a0_0 = a1_0
 ·rw [if_pos c3] at H
  have c3b0:(a0_0 == a1_0) = true:=beq_iff_eq.mpr c3;have c3b1:(a0_0 != a1_0) = false:=bne_eq_false_iff_eq.mpr c3;clear c3
  by_cases c4:a0_1 = a1_1
  ·rw [if_pos c4] at H
   have c4b0:(a0_1 == a1_1) = true:=beq_iff_eq.mpr c4;have c4b1:(a0_1 != a1_1) = false:=bne_eq_false_iff_eq.mpr c4;clear c4
   by_cases c5:a0_2.toList = a1_2.toList
   ·rw [if_pos c5] at H
    have c5b0:(a0_2.toList == a1_2.toList) = true:=beq_iff_eq.mpr c5;have c5b1:(a0_2.toList != a1_2.toList) = false:=bne_eq_false_iff_eq.mpr c5;clear c5
    by_cases c6:a0_3 = a1_3
    ·rw [if_pos c6] at H
     have c6b0:(a0_3 == a1_3) = true:=beq_iff_eq.mpr c6;have c6b1:(a0_3 != a1_3) = false:=bne_eq_false_iff_eq.mpr c6;clear c6;obtain rfl:=Option.some.inj H
     go_enter Try.func57,Try.ntmps57
     go_wp2_with (first|((with_reducible refine gate_dst (N:=2) rfl ?_);refine box_event ?hg (N:=2) ?hd (cs:=#[.int .i64 a0_0,.int .i64 a0_1,.string a0_2,.int .i64 a0_3]) (t:=64) ?hr ?_;(case hd=>rfl);(case hg=>rfl);(case hr=>first|(go_simp;done)|(go_simp;rfl));intro gb387 hg w7 hbox hb;have n_:=ai (bq HB hb) <| ai (Aside0.mk (hbox)) <| ai (bz hg HB) <| bz hg HB;clear HB;obtain ⟨HB,BK387,GW387,GE387⟩:=n_;clear hb hbox hg)|((with_reducible refine gate_dst (N:=3) rfl ?_);refine box_event ?hg (N:=3) ?hd (cs:=#[.int .i64 a1_0,.int .i64 a1_1,.string a1_2,.int .i64 a1_3]) (t:=64) ?hr ?_;(case hd=>rfl);(case hg=>rfl);(case hr=>first|(go_simp;done)|(go_simp;rfl));intro gb388 hg w8 hbox hb;have n_:=ai (bw BK387 hb) <| ai (bq HB hb) <| ai (Aside0.mk (hbox)) <| ai (bz hg HB) <| ai (bz hg HB) <| ai (nl hg BK387) <| ng hg BK387;clear BK387 HB;obtain ⟨BK387,HB,BK388,GW388,GE388,NB387_388,NB388_387⟩:=n_;clear hb hbox hg;have hnb9:=NB387_388.out;have hnc9:=NB388_387.out;obtain ⟨hcz10_0,hcz10_1,hcz10_2,hcz10_3⟩:=kb4 BK387.out;obtain ⟨hfz10_0,hfz10_1,hfz10_2,hfz10_3⟩:=kz4 BK387.out;obtain ⟨hcz11_0,hcz11_1,hcz11_2,hcz11_3⟩:=kb4 BK388.out;obtain ⟨hfz11_0,hfz11_1,hfz11_2,hfz11_3⟩:=kz4 BK388.out))
     go_ret
     exact ⟨cl,bl HB.out⟩
    ·rw [if_neg c6] at H
     have c6b0:(a0_3 == a1_3) = false:=beq_eq_false_iff_ne.mpr c6;have c6b1:(a0_3 != a1_3) = true:=bne_iff_ne.mpr c6;obtain rfl:=Option.some.inj H
     go_enter Try.func57,Try.ntmps57
     go_wp2_with (first|((with_reducible refine gate_dst (N:=2) rfl ?_);refine box_event ?hg (N:=2) ?hd (cs:=#[.int .i64 a0_0,.int .i64 a0_1,.string a0_2,.int .i64 a0_3]) (t:=64) ?hr ?_;(case hd=>rfl);(case hg=>rfl);(case hr=>first|(go_simp;done)|(go_simp;rfl));intro gb387 hg w12 hbox hb;have n_:=ai (bq HB hb) <| ai (Aside0.mk (hbox)) <| ai (bz hg HB) <| bz hg HB;clear HB;obtain ⟨HB,BK387,GW387,GE387⟩:=n_;clear hb hbox hg)|((with_reducible refine gate_dst (N:=3) rfl ?_);refine box_event ?hg (N:=3) ?hd (cs:=#[.int .i64 a1_0,.int .i64 a1_1,.string a1_2,.int .i64 a1_3]) (t:=64) ?hr ?_;(case hd=>rfl);(case hg=>rfl);(case hr=>first|(go_simp;done)|(go_simp;rfl));intro gb388 hg w13 hbox hb;have n_:=ai (bw BK387 hb) <| ai (bq HB hb) <| ai (Aside0.mk (hbox)) <| ai (bz hg HB) <| ai (bz hg HB) <| ai (nl hg BK387) <| ng hg BK387;clear BK387 HB;obtain ⟨BK387,HB,BK388,GW388,GE388,NB387_388,NB388_387⟩:=n_;clear hb hbox hg;have hnb14:=NB387_388.out;have hnc14:=NB388_387.out;obtain ⟨hcz15_0,hcz15_1,hcz15_2,hcz15_3⟩:=kb4 BK387.out;obtain ⟨hfz15_0,hfz15_1,hfz15_2,hfz15_3⟩:=kz4 BK387.out;obtain ⟨hcz16_0,hcz16_1,hcz16_2,hcz16_3⟩:=kb4 BK388.out;obtain ⟨hfz16_0,hfz16_1,hfz16_2,hfz16_3⟩:=kz4 BK388.out))
     go_ret
     exact ⟨cl,bl HB.out⟩
   ·rw [if_neg c5] at H
    have c5b0:(a0_2.toList == a1_2.toList) = false:=beq_eq_false_iff_ne.mpr c5;have c5b1:(a0_2.toList != a1_2.toList) = true:=bne_iff_ne.mpr c5;obtain rfl:=Option.some.inj H
    go_enter Try.func57,Try.ntmps57
    go_wp2_with (first|((with_reducible refine gate_dst (N:=2) rfl ?_);refine box_event ?hg (N:=2) ?hd (cs:=#[.int .i64 a0_0,.int .i64 a0_1,.string a0_2,.int .i64 a0_3]) (t:=64) ?hr ?_;(case hd=>rfl);(case hg=>rfl);(case hr=>first|(go_simp;done)|(go_simp;rfl));intro gb387 hg w17 hbox hb;have n_:=ai (bq HB hb) <| ai (Aside0.mk (hbox)) <| ai (bz hg HB) <| bz hg HB;clear HB;obtain ⟨HB,BK387,GW387,GE387⟩:=n_;clear hb hbox hg)|((with_reducible refine gate_dst (N:=3) rfl ?_);refine box_event ?hg (N:=3) ?hd (cs:=#[.int .i64 a1_0,.int .i64 a1_1,.string a1_2,.int .i64 a1_3]) (t:=64) ?hr ?_;(case hd=>rfl);(case hg=>rfl);(case hr=>first|(go_simp;done)|(go_simp;rfl));intro gb388 hg w18 hbox hb;have n_:=ai (bw BK387 hb) <| ai (bq HB hb) <| ai (Aside0.mk (hbox)) <| ai (bz hg HB) <| ai (bz hg HB) <| ai (nl hg BK387) <| ng hg BK387;clear BK387 HB;obtain ⟨BK387,HB,BK388,GW388,GE388,NB387_388,NB388_387⟩:=n_;clear hb hbox hg;have hnb19:=NB387_388.out;have hnc19:=NB388_387.out;obtain ⟨hcz20_0,hcz20_1,hcz20_2,hcz20_3⟩:=kb4 BK387.out;obtain ⟨hfz20_0,hfz20_1,hfz20_2,hfz20_3⟩:=kz4 BK387.out;obtain ⟨hcz21_0,hcz21_1,hcz21_2,hcz21_3⟩:=kb4 BK388.out;obtain ⟨hfz21_0,hfz21_1,hfz21_2,hfz21_3⟩:=kz4 BK388.out))
    go_ret
    exact ⟨cl,bl HB.out⟩
  ·rw [if_neg c4] at H
   have c4b0:(a0_1 == a1_1) = false:=beq_eq_false_iff_ne.mpr c4;have c4b1:(a0_1 != a1_1) = true:=bne_iff_ne.mpr c4;obtain rfl:=Option.some.inj H
   go_enter Try.func57,Try.ntmps57
   go_wp2_with (first|((with_reducible refine gate_dst (N:=2) rfl ?_);refine box_event ?hg (N:=2) ?hd (cs:=#[.int .i64 a0_0,.int .i64 a0_1,.string a0_2,.int .i64 a0_3]) (t:=64) ?hr ?_;(case hd=>rfl);(case hg=>rfl);(case hr=>first|(go_simp;done)|(go_simp;rfl));intro gb387 hg w22 hbox hb;have n_:=ai (bq HB hb) <| ai (Aside0.mk (hbox)) <| ai (bz hg HB) <| bz hg HB;clear HB;obtain ⟨HB,BK387,GW387,GE387⟩:=n_;clear hb hbox hg)|((with_reducible refine gate_dst (N:=3) rfl ?_);refine box_event ?hg (N:=3) ?hd (cs:=#[.int .i64 a1_0,.int .i64 a1_1,.string a1_2,.int .i64 a1_3]) (t:=64) ?hr ?_;(case hd=>rfl);(case hg=>rfl);(case hr=>first|(go_simp;done)|(go_simp;rfl));intro gb388 hg w23 hbox hb;have n_:=ai (bw BK387 hb) <| ai (bq HB hb) <| ai (Aside0.mk (hbox)) <| ai (bz hg HB) <| ai (bz hg HB) <| ai (nl hg BK387) <| ng hg BK387;clear BK387 HB;obtain ⟨BK387,HB,BK388,GW388,GE388,NB387_388,NB388_387⟩:=n_;clear hb hbox hg;have hnb24:=NB387_388.out;have hnc24:=NB388_387.out;obtain ⟨hcz25_0,hcz25_1,hcz25_2,hcz25_3⟩:=kb4 BK387.out;obtain ⟨hfz25_0,hfz25_1,hfz25_2,hfz25_3⟩:=kz4 BK387.out;obtain ⟨hcz26_0,hcz26_1,hcz26_2,hcz26_3⟩:=kb4 BK388.out;obtain ⟨hfz26_0,hfz26_1,hfz26_2,hfz26_3⟩:=kz4 BK388.out))
   go_ret
   exact ⟨cl,bl HB.out⟩
 ·rw [if_neg c3] at H
  have c3b0:(a0_0 == a1_0) = false:=beq_eq_false_iff_ne.mpr c3;have c3b1:(a0_0 != a1_0) = true:=bne_iff_ne.mpr c3;obtain rfl:=Option.some.inj H
  go_enter Try.func57,Try.ntmps57
  go_wp2_with (first|((with_reducible refine gate_dst (N:=2) rfl ?_);refine box_event ?hg (N:=2) ?hd (cs:=#[.int .i64 a0_0,.int .i64 a0_1,.string a0_2,.int .i64 a0_3]) (t:=64) ?hr ?_;(case hd=>rfl);(case hg=>rfl);(case hr=>first|(go_simp;done)|(go_simp;rfl));intro gb387 hg w27 hbox hb;have n_:=ai (bq HB hb) <| ai (Aside0.mk (hbox)) <| ai (bz hg HB) <| bz hg HB;clear HB;obtain ⟨HB,BK387,GW387,GE387⟩:=n_;clear hb hbox hg)|((with_reducible refine gate_dst (N:=3) rfl ?_);refine box_event ?hg (N:=3) ?hd (cs:=#[.int .i64 a1_0,.int .i64 a1_1,.string a1_2,.int .i64 a1_3]) (t:=64) ?hr ?_;(case hd=>rfl);(case hg=>rfl);(case hr=>first|(go_simp;done)|(go_simp;rfl));intro gb388 hg w28 hbox hb;have n_:=ai (bw BK387 hb) <| ai (bq HB hb) <| ai (Aside0.mk (hbox)) <| ai (bz hg HB) <| ai (bz hg HB) <| ai (nl hg BK387) <| ng hg BK387;clear BK387 HB;obtain ⟨BK387,HB,BK388,GW388,GE388,NB387_388,NB388_387⟩:=n_;clear hb hbox hg;have hnb29:=NB387_388.out;have hnc29:=NB388_387.out;obtain ⟨hcz30_0,hcz30_1,hcz30_2,hcz30_3⟩:=kb4 BK387.out;obtain ⟨hfz30_0,hfz30_1,hfz30_2,hfz30_3⟩:=kz4 BK387.out;obtain ⟨hcz31_0,hcz31_1,hcz31_2,hcz31_3⟩:=kb4 BK388.out;obtain ⟨hfz31_0,hfz31_1,hfz31_2,hfz31_3⟩:=kz4 BK388.out))
  go_ret
  exact ⟨cl,bl HB.out⟩

/-! ### laws_eqInsS: function 48 -/
def laws_eqInsS.l0:Nat → List (S64) → List (S64) → Int → Option (Bool)
 | 0,_,_,_=>none
 | k + 1,x0,x1,x5=>if x5 < (x0.length:Int) then (if 0≤x5 then (if x5 < (x1.length:Int) then ((laws_eqIns.f ((rd_T64 x0 x5).f0) ((rd_T64 x0 x5).f1) ((rd_T64 x0 x5).f2) ((rd_T64 x0 x5).f3) ((rd_T64 x1 x5).f0) ((rd_T64 x1 x5).f1) ((rd_T64 x1 x5).f2) ((rd_T64 x1 x5).f3)).bind fun t391=>(if t391 = true then (laws_eqInsS.l0 k x0 x1 (wrap64 (x5 + 1))) else (some false))) else (none)) else (none)) else (some true)
def laws_eqInsS.f (k:Nat) (l0:List (S64)) (l1:List (S64)):Option (Bool):=if (l0.length:Int) = (l1.length:Int) then (laws_eqInsS.l0 k l0 l1 0) else (some false)
theorem laws_eqInsS.mono_l:∀ k,(∀ y0 y1 y2,LeO (laws_eqInsS.l0 k y0 y1 y2) (laws_eqInsS.l0 (k + 1) y0 y1 y2))
 | 0=>fun _ _ _ r h=>by simp [laws_eqInsS.l0] at h
 | k + 1=>by
  have ih0:=laws_eqInsS.mono_l k
  ·intro y0 y1 y2
   unfold laws_eqInsS.l0
   with_reducible repeat' first|apply ih0|apply LeO.refl|apply LeO.none|apply LeO.ite|refine LeO.bind ?_ (fun _=>?_)
theorem laws_eqInsS.mono:∀ a0 a1 k,LeO (laws_eqInsS.f k a0 a1) (laws_eqInsS.f (k + 1) a0 a1):=by
 intro a0 a1 k;have ih0:=laws_eqInsS.mono_l k
 unfold laws_eqInsS.f
 with_reducible repeat' first|apply ih0|apply LeO.refl|apply LeO.none|apply LeO.ite|refine LeO.bind ?_ (fun _=>?_)
def laws_eqInsS.T6:Bool × List (List Nat × List Nat):=(true,[([],[]),([],[]),([0,1],[0,1]),([2],[2]),([],[]),([],[]),([4,5],[4,5]),([6],[6]),([3,7],[3,7]),([8],[8])])
def laws_eqInsS.B6:List Nat:=[0,0,3,7,0,0,48,112,255,511]
theorem laws_eqInsS.tab6:rtab .any (opsOf Try.f48 6) = laws_eqInsS.T6:=by kernel_rfl
theorem laws_eqInsS.bits6:waitsOk laws_eqInsS.T6.2 laws_eqInsS.B6 = true:=by kernel_rfl
set_option maxHeartbeats 8000000 in
set_option maxRecDepth 100000 in
theorem laws_eqInsS.calls (k:Nat) (A0:Option Addr) (c0:Nat) (l0:List (S64)) (A1:Option Addr) (c1:Nat) (l1:List (S64)) (r:Bool) (w:World) (hr0:Kd.C k64 w A0 l0.length l0) (hc0:l0.length≤c0) (hr1:Kd.C k64 w A1 l1.length l1) (hc1:l1.length≤c1) (h:laws_eqInsS.f k l0 l1 = some r) :
  Calls Try.prog 48 #[.slice A0 l0.length c0,.slice A1 l1.length c1] w fun e w'=>e = .returned (.bool r)∧Below w.heap.size w w':=by
 have hu64:=Try.underlying64;have HR0:=Aside0.mk hr0;have HC0:=Aside0.mk hc0;clear hr0 hc0;have HR1:=Aside0.mk hr1;have HC1:=Aside0.mk hc1;clear hr1 hc1;have HB:=Aside0.mk (Below.refl w.heap.size w);have H:(if (l0.length:Int) = (l1.length:Int) then (laws_eqInsS.l0 k l0 l1 0) else (some false)) = some r:=h;clear h
 by_cases c3:(l0.length:Int) = (l1.length:Int)
 ·rw [if_pos c3] at H
  have c3b0:((l0.length:Int) == (l1.length:Int)) = true:=beq_iff_eq.mpr c3;have c3b1:((l0.length:Int) != (l1.length:Int)) = false:=bne_eq_false_iff_eq.mpr c3;have c3b2:(l0.length == l1.length) = true:=by first|simpa using c3|(simp at c3 ⊢;omega)
  clear c3;have H':=Aside0.mk H;clear H
  go_enter Try.func48,Try.ntmps48
  go_wp2
  go_loopg [5] k (fun kq v5 w'=>∃ (x5_1:Int),v5 = .int .i64 x5_1∧Aside0 (laws_eqInsS.l0 kq l0 l1 x5_1 = some r)∧Aside0 (kq≤k)∧Aside0 (Below w.heap.size w w'))
  case atStart=>exact ⟨(0),(cl2),H',⟨Nat.le_refl _⟩,⟨bl HB.out⟩⟩
  case round =>
   clear H';(try clear c1);(try clear p2);(try clear c3);(try clear c3b0);(try clear c3b1);(try clear c3b2);(try clear HB);obtain ⟨x5_1,rfl,HA,HK1,HB⟩:=hrel
   cases gk with
   | zero=>exact absurd HA.out (by simp [laws_eqInsS.l0])
   | succ k1 =>
    have H:=HA.out;clear HA;simp only [laws_eqInsS.l0] at H
    by_cases c4:x5_1 < (l0.length:Int)
    ·rw [if_pos c4] at H
     have c4b0:decide (x5_1 < (l0.length:Int)) = true:=decide_eq_true c4;clear c4
     by_cases c5:0≤x5_1
     ·rw [if_pos c5] at H
      have c5b0:decide (0≤x5_1) = true:=decide_eq_true c5;clear c5
      by_cases c6:x5_1 < (l1.length:Int)
      ·rw [if_pos c6] at H
       have c6b0:decide (x5_1 < (l1.length:Int)) = true:=decide_eq_true c6;clear c6;replace H:=Option.bind_eq_some_iff.mp H;obtain ⟨t391,A70,H⟩:=H;replace H:(if t391 = true then (laws_eqInsS.l0 k1 l0 l1 (wrap64 (x5_1 + 1))) else (some false)) = some r:=H;have A7:=Aside0.mk A70;clear A70
       try go_wp2
       have n_:=dh HB;clear HB;have HB:=n_;clear n_;have p389:0≤(x5_1:Int):=od;have q389:x5_1 < (l0.length:Int):=od;obtain ⟨ad389,e389,hx389_0,hx389_1,hx389_2,hx389_3⟩:=at_T64 HR0.out x5_1 p389 q389;have hw389_3:=hx389_3;have hw389_2:=hx389_2;have hw389_1:=hx389_1;have hw389_0:=hx389_0;cases e389;replace hx389_0:=cb HB hx389_0;replace hx389_1:=cb HB hx389_1;replace hx389_2:=cb HB hx389_2;replace hx389_3:=cb HB hx389_3;replace p389:=eq_true p389;replace q389:=eq_true q389;have p390:0≤(x5_1:Int):=od;have q390:x5_1 < (l1.length:Int):=od;obtain ⟨ad390,e390,hx390_0,hx390_1,hx390_2,hx390_3⟩:=at_T64 HR1.out x5_1 p390 q390;have hw390_3:=hx390_3;have hw390_2:=hx390_2;have hw390_1:=hx390_1;have hw390_0:=hx390_0;cases e390;replace hx390_0:=cb HB hx390_0;replace hx390_1:=cb HB hx390_1;replace hx390_2:=cb HB hx390_2;replace hx390_3:=cb HB hx390_3;replace p390:=eq_true p390;replace q390:=eq_true q390
       refine start_ (n:=10) (S:=fun w'=>w'.cell? (ad389.add ((x5_1).toNat * 4)) = some (.int .i64 ((rd_T64 l0 x5_1).f0))∧w'.cell? ⟨(ad389.add ((x5_1).toNat * 4)).block,(ad389.add ((x5_1).toNat * 4)).off + 1,none⟩ = some (.int .i64 ((rd_T64 l0 x5_1).f1))∧w'.cell? ⟨(ad389.add ((x5_1).toNat * 4)).block,(ad389.add ((x5_1).toNat * 4)).off + 2,none⟩ = some (.string ((rd_T64 l0 x5_1).f2))∧w'.cell? ⟨(ad389.add ((x5_1).toNat * 4)).block,(ad389.add ((x5_1).toNat * 4)).off + 3,none⟩ = some (.int .i64 ((rd_T64 l0 x5_1).f3))∧w'.cell? (ad390.add ((x5_1).toNat * 4)) = some (.int .i64 ((rd_T64 l1 x5_1).f0))∧w'.cell? ⟨(ad390.add ((x5_1).toNat * 4)).block,(ad390.add ((x5_1).toNat * 4)).off + 1,none⟩ = some (.int .i64 ((rd_T64 l1 x5_1).f1))∧w'.cell? ⟨(ad390.add ((x5_1).toNat * 4)).block,(ad390.add ((x5_1).toNat * 4)).off + 2,none⟩ = some (.string ((rd_T64 l1 x5_1).f2))∧w'.cell? ⟨(ad390.add ((x5_1).toNat * 4)).block,(ad390.add ((x5_1).toNat * 4)).off + 3,none⟩ = some (.int .i64 ((rd_T64 l1 x5_1).f3))) (ds:=[]) #[false,false,false,false,false,false,false,false,false,false] (by kernel_rfl) rfl rfl ⟨(cb HB hw389_0 :),(cb HB hw389_1 :),(cb HB hw389_2 :),(cb HB hw389_3 :),(cb HB hw390_0 :),(cb HB hw390_1 :),(cb HB hw390_2 :),(cb HB hw390_3 :)⟩ (fun hHeld=>?_);refine with_tabW laws_eqInsS.tab6 laws_eqInsS.bits6 (fun HT_ HW_=>?_)
       generalize wr.drew = w9 at HB hx389_0 hx389_1 hx389_2 hx389_3 hx390_0 hx390_1 hx390_2 hx390_3 hHeld ⊢;refine pu 0 17 ?_;refine pu 1 18 ?_;refine pu 2 19 ?_;refine pu 4 21 ?_;refine pu 5 22 ?_;refine pu 6 23 ?_;refine ta 3 20 hHeld ?_;refine ta 7 24 hHeld ?_
       refine one_ (i:=8) (N:=some 25) #[true,true,true,true,true,true,true,true,true,false] rfl rfl (one_of HT_.out (by kernel_rfl)) (by decide) (fun K hK=>?_)
       refine goes_ Try.func57 (by kernel_rfl) rfl #[.agg #[.int .i64 ((rd_T64 l0 x5_1).f0),.int .i64 ((rd_T64 l0 x5_1).f1),.string ((rd_T64 l0 x5_1).f2),.int .i64 ((rd_T64 l0 x5_1).f3)],.agg #[.int .i64 ((rd_T64 l1 x5_1).f0),.int .i64 ((rd_T64 l1 x5_1).f1),.string ((rd_T64 l1 x5_1).f2),.int .i64 ((rd_T64 l1 x5_1).f3)]] (by rfl) rfl rfl gs ?_
       with_reducible refine (laws_eqIns.calls ((rd_T64 l0 x5_1).f0) ((rd_T64 l0 x5_1).f1) ((rd_T64 l0 x5_1).f2) ((rd_T64 l0 x5_1).f3) ((rd_T64 l1 x5_1).f0) ((rd_T64 l1 x5_1).f1) ((rd_T64 l1 x5_1).f2) ((rd_T64 l1 x5_1).f3) t391 _ A7.out).mono ?_
       rintro e w10 ⟨rfl,hb⟩
       refine ⟨_,rfl,?_⟩
       have n_:=bq HB hb;clear HB;have HB:=n_;clear n_;(try clear hb);(try clear hb2);(try clear hk);(try clear hi)
       refine hK.out _ _ ⟨(cb HB hw389_0 :),(cb HB hw389_1 :),(cb HB hw389_2 :),(cb HB hw389_3 :),(cb HB hw390_0 :),(cb HB hw390_1 :),(cb HB hw390_2 :),(cb HB hw390_3 :)⟩ (fun hHeld=>?_)
       clear hK K
       refine norm_ (a':=?_) ?_ ?_
       rotate_left
       ·show Act.put _ (some 25) _ = _
        simp only [Act.put,List.setIfInBounds_toArray,List.set_cons_zero,List.set_cons_succ,i64_w,i32_w]
        rfl
       refine pu 9 26 ?_
       refine done_ (done_of HT_.out (by kernel_rfl)) ?_
       by_cases c8:t391 = true
       ·subst c8
        have H1:(laws_eqInsS.l0 k1 l0 l1 (wrap64 (x5_1 + 1))) = some r:=by rw [if_pos rfl] at H;exact H
        clear H;have H:=H1;clear H1;have H':=Aside0.mk H;clear H
        try go_wp2
        go_roundg k1
        case measure=>have:=HK1.out;omega
        case rel=>exact ⟨(wrap64 (x5_1 + 1)),(cl2),H',⟨by have:=HK1.out;omega⟩,⟨bl HB.out⟩⟩
       ·replace c8:=Bool.eq_false_iff.mpr c8
        subst c8;have H1:(some false) = some r:=by rw [if_neg (show ¬ (false = true) by decide)] at H;exact H
        clear H;have H:=H1;clear H1;obtain rfl:=Option.some.inj H
        try go_wp2
        go_ret
        exact ⟨cl,bl HB.out⟩
      ·rw [if_neg c6] at H
       exact absurd H (by simp)
     ·rw [if_neg c5] at H
      exact absurd H (by simp)
    ·rw [if_neg c4] at H
     have c4b0:decide (x5_1 < (l0.length:Int)) = false:=decide_eq_false c4;clear c4;obtain rfl:=Option.some.inj H
     go_wp2
     go_ret
     exact ⟨cl,bl HB.out⟩
 ·rw [if_neg c3] at H
  have c3b0:((l0.length:Int) == (l1.length:Int)) = false:=beq_eq_false_iff_ne.mpr c3;have c3b1:((l0.length:Int) != (l1.length:Int)) = true:=bne_iff_ne.mpr c3;have c3b2:(l0.length == l1.length) = false:=by first|simpa using c3|(simp at c3 ⊢;omega)
  obtain rfl:=Option.some.inj H
  go_enter Try.func48,Try.ntmps48
  go_wp2
  go_ret
  exact ⟨cl,bl HB.out⟩

/-! ### laws_eqFn: function 33 -/
def laws_eqFn.f (k:Nat) (a0_0:ByteArray) (a0_1:Int) (a0_2:Int) (l0_3:List (S64)) (a1_0:ByteArray) (a1_1:Int) (a1_2:Int) (l1_3:List (S64)):Option (Bool):=if a0_0.toList = a1_0.toList then (if a0_1 = a1_1 then (if a0_2 = a1_2 then ((laws_eqInsS.f k l0_3 l1_3).bind fun t394=>(if t394 = true then (some true) else (some false))) else (some false)) else (some false)) else (some false)
theorem laws_eqFn.mono:∀ a0 a1 a2 a3 a4 a5 a6 a7 k,LeO (laws_eqFn.f k a0 a1 a2 a3 a4 a5 a6 a7) (laws_eqFn.f (k + 1) a0 a1 a2 a3 a4 a5 a6 a7):=by
 intro a0 a1 a2 a3 a4 a5 a6 a7 k
 unfold laws_eqFn.f
 with_reducible repeat' first|apply laws_eqInsS.mono|apply LeO.refl|apply LeO.none|apply LeO.ite|refine LeO.bind ?_ (fun _=>?_)
set_option maxHeartbeats 8000000 in
set_option maxRecDepth 100000 in
theorem laws_eqFn.calls (k:Nat) (a0_0:ByteArray) (a0_1:Int) (a0_2:Int) (A0_3:Option Addr) (c0_3:Nat) (l0_3:List (S64)) (a1_0:ByteArray) (a1_1:Int) (a1_2:Int) (A1_3:Option Addr) (c1_3:Nat) (l1_3:List (S64)) (r:Bool) (w:World) (hr0_3:Kd.C k64 w A0_3 l0_3.length l0_3) (hc0_3:l0_3.length≤c0_3) (hr1_3:Kd.C k64 w A1_3 l1_3.length l1_3) (hc1_3:l1_3.length≤c1_3) (h:laws_eqFn.f k a0_0 a0_1 a0_2 l0_3 a1_0 a1_1 a1_2 l1_3 = some r) :
  Calls Try.prog 33 #[.agg #[.string a0_0,.int .i64 a0_1,.int .i64 a0_2,.slice A0_3 l0_3.length c0_3],.agg #[.string a1_0,.int .i64 a1_1,.int .i64 a1_2,.slice A1_3 l1_3.length c1_3]] w fun e w'=>e = .returned (.bool r)∧Below w.heap.size w w':=by
 have hu44:=Try.underlying44;have HR0_3:=Aside0.mk hr0_3;have HC0_3:=Aside0.mk hc0_3;clear hr0_3 hc0_3;have HR1_3:=Aside0.mk hr1_3;have HC1_3:=Aside0.mk hc1_3;clear hr1_3 hc1_3;have HB:=Aside0.mk (Below.refl w.heap.size w);have H:(if a0_0.toList = a1_0.toList then (if a0_1 = a1_1 then (if a0_2 = a1_2 then ((laws_eqInsS.f k l0_3 l1_3).bind fun t394=>(if t394 = true then (some true) else (some false))) else (some false)) else (some false)) else (some false)) = some r:=h;clear h
 by_cases c3:a0_0.toList = a1_0.toList
 ·rw [if_pos c3] at H
  have c3b0:(a0_0.toList == a1_0.toList) = true:=beq_iff_eq.mpr c3;have c3b1:(a0_0.toList != a1_0.toList) = false:=bne_eq_false_iff_eq.mpr c3;clear c3
  by_cases c4:a0_1 = a1_1
  ·rw [if_pos c4] at H
   have c4b0:(a0_1 == a1_1) = true:=beq_iff_eq.mpr c4;have c4b1:(a0_1 != a1_1) = false:=bne_eq_false_iff_eq.mpr c4;clear c4
   by_cases c5:a0_2 = a1_2
   ·rw [if_pos c5] at H
    have c5b0:(a0_2 == a1_2) = true:=beq_iff_eq.mpr c5;have c5b1:(a0_2 != a1_2) = false:=bne_eq_false_iff_eq.mpr c5;clear c5;replace H:=Option.bind_eq_some_iff.mp H;obtain ⟨t394,A60,H⟩:=H;replace H:(if t394 = true then (some true) else (some false)) = some r:=H;have A6:=Aside0.mk A60;clear A60
    by_cases c7:t394 = true
    ·subst c7
     have H1:(some true) = some r:=by rw [if_pos rfl] at H;exact H
     clear H;have H:=H1;clear H1;obtain rfl:=Option.some.inj H
     go_enter Try.func33,Try.ntmps33
     go_wp2_with (first|((with_reducible refine gate_dst (N:=2) rfl ?_);refine box_event ?hg (N:=2) ?hd (cs:=#[.string a0_0,.int .i64 a0_1,.int .i64 a0_2,.slice A0_3 l0_3.length c0_3]) (t:=44) ?hr ?_;(case hd=>rfl);(case hg=>rfl);(case hr=>first|(go_simp;done)|(go_simp;rfl));intro gb392 hg w8 hbox hb;have n_:=ai (bq HB hb) <| ai (Aside0.mk (hbox)) <| ai (bz hg HB) <| bz hg HB;clear HB;obtain ⟨HB,BK392,GW392,GE392⟩:=n_;clear hb hbox hg)|((with_reducible refine gate_dst (N:=3) rfl ?_);refine box_event ?hg (N:=3) ?hd (cs:=#[.string a1_0,.int .i64 a1_1,.int .i64 a1_2,.slice A1_3 l1_3.length c1_3]) (t:=44) ?hr ?_;(case hd=>rfl);(case hg=>rfl);(case hr=>first|(go_simp;done)|(go_simp;rfl));intro gb393 hg w9 hbox hb;have n_:=ai (bw BK392 hb) <| ai (bq HB hb) <| ai (Aside0.mk (hbox)) <| ai (bz hg HB) <| ai (bz hg HB) <| ai (nl hg BK392) <| ng hg BK392;clear BK392 HB;obtain ⟨BK392,HB,BK393,GW393,GE393,NB392_393,NB393_392⟩:=n_;clear hb hbox hg;have hnb10:=NB392_393.out;have hnc10:=NB393_392.out;obtain ⟨hcz11_0,hcz11_1,hcz11_2,hcz11_3⟩:=kb4 BK392.out;obtain ⟨hfz11_0,hfz11_1,hfz11_2,hfz11_3⟩:=kz4 BK392.out;obtain ⟨hcz12_0,hcz12_1,hcz12_2,hcz12_3⟩:=kb4 BK393.out;obtain ⟨hfz12_0,hfz12_1,hfz12_2,hfz12_3⟩:=kz4 BK393.out)|((with_reducible refine gate_callee (f:=48) rfl ?_);refine goesL_ (some 24) rfl rfl Try.func48 (by kernel_rfl) rfl #[.slice A0_3 l0_3.length c0_3,.slice A1_3 l1_3.length c1_3] rfl gs ?_;(with_reducible refine (laws_eqInsS.calls k _ _ l0_3 _ _ l1_3 true _ ?side1 ?side2 ?side3 ?side4 A6.out).mono ?_);(case side1=>exact ck (Kd.C_below HR0_3.out HB.out));(case side2=>exact HC0_3.out);(case side3=>exact ck (Kd.C_below HR1_3.out HB.out));(case side4=>exact HC1_3.out);rintro e w13 ⟨rfl,hb⟩;refine ⟨_,rfl,?_⟩;have n_:=ai (bw BK392 hb) <| ai (bw BK393 hb) <| bq HB hb;clear BK392 BK393 HB;obtain ⟨BK392,BK393,HB⟩:=n_;(try clear hb);(try clear hb2);(try clear hk);(try clear hi)))
     go_ret
     exact ⟨cl,bl HB.out⟩
    ·replace c7:=Bool.eq_false_iff.mpr c7
     subst c7;have H1:(some false) = some r:=by rw [if_neg (show ¬ (false = true) by decide)] at H;exact H
     clear H;have H:=H1;clear H1;obtain rfl:=Option.some.inj H
     go_enter Try.func33,Try.ntmps33
     go_wp2_with (first|((with_reducible refine gate_dst (N:=2) rfl ?_);refine box_event ?hg (N:=2) ?hd (cs:=#[.string a0_0,.int .i64 a0_1,.int .i64 a0_2,.slice A0_3 l0_3.length c0_3]) (t:=44) ?hr ?_;(case hd=>rfl);(case hg=>rfl);(case hr=>first|(go_simp;done)|(go_simp;rfl));intro gb392 hg w14 hbox hb;have n_:=ai (bq HB hb) <| ai (Aside0.mk (hbox)) <| ai (bz hg HB) <| bz hg HB;clear HB;obtain ⟨HB,BK392,GW392,GE392⟩:=n_;clear hb hbox hg)|((with_reducible refine gate_dst (N:=3) rfl ?_);refine box_event ?hg (N:=3) ?hd (cs:=#[.string a1_0,.int .i64 a1_1,.int .i64 a1_2,.slice A1_3 l1_3.length c1_3]) (t:=44) ?hr ?_;(case hd=>rfl);(case hg=>rfl);(case hr=>first|(go_simp;done)|(go_simp;rfl));intro gb393 hg w15 hbox hb;have n_:=ai (bw BK392 hb) <| ai (bq HB hb) <| ai (Aside0.mk (hbox)) <| ai (bz hg HB) <| ai (bz hg HB) <| ai (nl hg BK392) <| ng hg BK392;clear BK392 HB;obtain ⟨BK392,HB,BK393,GW393,GE393,NB392_393,NB393_392⟩:=n_;clear hb hbox hg;have hnb16:=NB392_393.out;have hnc16:=NB393_392.out;obtain ⟨hcz17_0,hcz17_1,hcz17_2,hcz17_3⟩:=kb4 BK392.out;obtain ⟨hfz17_0,hfz17_1,hfz17_2,hfz17_3⟩:=kz4 BK392.out;obtain ⟨hcz18_0,hcz18_1,hcz18_2,hcz18_3⟩:=kb4 BK393.out;obtain ⟨hfz18_0,hfz18_1,hfz18_2,hfz18_3⟩:=kz4 BK393.out)|((with_reducible refine gate_callee (f:=48) rfl ?_);refine goesL_ (some 24) rfl rfl Try.func48 (by kernel_rfl) rfl #[.slice A0_3 l0_3.length c0_3,.slice A1_3 l1_3.length c1_3] rfl gs ?_;(with_reducible refine (laws_eqInsS.calls k _ _ l0_3 _ _ l1_3 false _ ?side1 ?side2 ?side3 ?side4 A6.out).mono ?_);(case side1=>exact ck (Kd.C_below HR0_3.out HB.out));(case side2=>exact HC0_3.out);(case side3=>exact ck (Kd.C_below HR1_3.out HB.out));(case side4=>exact HC1_3.out);rintro e w19 ⟨rfl,hb⟩;refine ⟨_,rfl,?_⟩;have n_:=ai (bw BK392 hb) <| ai (bw BK393 hb) <| bq HB hb;clear BK392 BK393 HB;obtain ⟨BK392,BK393,HB⟩:=n_;(try clear hb);(try clear hb2);(try clear hk);(try clear hi)))
     go_ret
     exact ⟨cl,bl HB.out⟩
   ·rw [if_neg c5] at H
    have c5b0:(a0_2 == a1_2) = false:=beq_eq_false_iff_ne.mpr c5;have c5b1:(a0_2 != a1_2) = true:=bne_iff_ne.mpr c5;obtain rfl:=Option.some.inj H
    go_enter Try.func33,Try.ntmps33
    go_wp2_with (first|((with_reducible refine gate_dst (N:=2) rfl ?_);refine box_event ?hg (N:=2) ?hd (cs:=#[.string a0_0,.int .i64 a0_1,.int .i64 a0_2,.slice A0_3 l0_3.length c0_3]) (t:=44) ?hr ?_;(case hd=>rfl);(case hg=>rfl);(case hr=>first|(go_simp;done)|(go_simp;rfl));intro gb392 hg w20 hbox hb;have n_:=ai (bq HB hb) <| ai (Aside0.mk (hbox)) <| ai (bz hg HB) <| bz hg HB;clear HB;obtain ⟨HB,BK392,GW392,GE392⟩:=n_;clear hb hbox hg)|((with_reducible refine gate_dst (N:=3) rfl ?_);refine box_event ?hg (N:=3) ?hd (cs:=#[.string a1_0,.int .i64 a1_1,.int .i64 a1_2,.slice A1_3 l1_3.length c1_3]) (t:=44) ?hr ?_;(case hd=>rfl);(case hg=>rfl);(case hr=>first|(go_simp;done)|(go_simp;rfl));intro gb393 hg w21 hbox hb;have n_:=ai (bw BK392 hb) <| ai (bq HB hb) <| ai (Aside0.mk (hbox)) <| ai (bz hg HB) <| ai (bz hg HB) <| ai (nl hg BK392) <| ng hg BK392;clear BK392 HB;obtain ⟨BK392,HB,BK393,GW393,GE393,NB392_393,NB393_392⟩:=n_;clear hb hbox hg;have hnb22:=NB392_393.out;have hnc22:=NB393_392.out;obtain ⟨hcz23_0,hcz23_1,hcz23_2,hcz23_3⟩:=kb4 BK392.out;obtain ⟨hfz23_0,hfz23_1,hfz23_2,hfz23_3⟩:=kz4 BK392.out;obtain ⟨hcz24_0,hcz24_1,hcz24_2,hcz24_3⟩:=kb4 BK393.out;obtain ⟨hfz24_0,hfz24_1,hfz24_2,hfz24_3⟩:=kz4 BK393.out))
    go_ret
    exact ⟨cl,bl HB.out⟩
  ·rw [if_neg c4] at H
   have c4b0:(a0_1 == a1_1) = false:=beq_eq_false_iff_ne.mpr c4;have c4b1:(a0_1 != a1_1) = true:=bne_iff_ne.mpr c4;obtain rfl:=Option.some.inj H
   go_enter Try.func33,Try.ntmps33
   go_wp2_with (first|((with_reducible refine gate_dst (N:=2) rfl ?_);refine box_event ?hg (N:=2) ?hd (cs:=#[.string a0_0,.int .i64 a0_1,.int .i64 a0_2,.slice A0_3 l0_3.length c0_3]) (t:=44) ?hr ?_;(case hd=>rfl);(case hg=>rfl);(case hr=>first|(go_simp;done)|(go_simp;rfl));intro gb392 hg w25 hbox hb;have n_:=ai (bq HB hb) <| ai (Aside0.mk (hbox)) <| ai (bz hg HB) <| bz hg HB;clear HB;obtain ⟨HB,BK392,GW392,GE392⟩:=n_;clear hb hbox hg)|((with_reducible refine gate_dst (N:=3) rfl ?_);refine box_event ?hg (N:=3) ?hd (cs:=#[.string a1_0,.int .i64 a1_1,.int .i64 a1_2,.slice A1_3 l1_3.length c1_3]) (t:=44) ?hr ?_;(case hd=>rfl);(case hg=>rfl);(case hr=>first|(go_simp;done)|(go_simp;rfl));intro gb393 hg w26 hbox hb;have n_:=ai (bw BK392 hb) <| ai (bq HB hb) <| ai (Aside0.mk (hbox)) <| ai (bz hg HB) <| ai (bz hg HB) <| ai (nl hg BK392) <| ng hg BK392;clear BK392 HB;obtain ⟨BK392,HB,BK393,GW393,GE393,NB392_393,NB393_392⟩:=n_;clear hb hbox hg;have hnb27:=NB392_393.out;have hnc27:=NB393_392.out;obtain ⟨hcz28_0,hcz28_1,hcz28_2,hcz28_3⟩:=kb4 BK392.out;obtain ⟨hfz28_0,hfz28_1,hfz28_2,hfz28_3⟩:=kz4 BK392.out;obtain ⟨hcz29_0,hcz29_1,hcz29_2,hcz29_3⟩:=kb4 BK393.out;obtain ⟨hfz29_0,hfz29_1,hfz29_2,hfz29_3⟩:=kz4 BK393.out))
   go_ret
   exact ⟨cl,bl HB.out⟩
 ·rw [if_neg c3] at H
  have c3b0:(a0_0.toList == a1_0.toList) = false:=beq_eq_false_iff_ne.mpr c3;have c3b1:(a0_0.toList != a1_0.toList) = true:=bne_iff_ne.mpr c3;obtain rfl:=Option.some.inj H
  go_enter Try.func33,Try.ntmps33
  go_wp2_with (first|((with_reducible refine gate_dst (N:=2) rfl ?_);refine box_event ?hg (N:=2) ?hd (cs:=#[.string a0_0,.int .i64 a0_1,.int .i64 a0_2,.slice A0_3 l0_3.length c0_3]) (t:=44) ?hr ?_;(case hd=>rfl);(case hg=>rfl);(case hr=>first|(go_simp;done)|(go_simp;rfl));intro gb392 hg w30 hbox hb;have n_:=ai (bq HB hb) <| ai (Aside0.mk (hbox)) <| ai (bz hg HB) <| bz hg HB;clear HB;obtain ⟨HB,BK392,GW392,GE392⟩:=n_;clear hb hbox hg)|((with_reducible refine gate_dst (N:=3) rfl ?_);refine box_event ?hg (N:=3) ?hd (cs:=#[.string a1_0,.int .i64 a1_1,.int .i64 a1_2,.slice A1_3 l1_3.length c1_3]) (t:=44) ?hr ?_;(case hd=>rfl);(case hg=>rfl);(case hr=>first|(go_simp;done)|(go_simp;rfl));intro gb393 hg w31 hbox hb;have n_:=ai (bw BK392 hb) <| ai (bq HB hb) <| ai (Aside0.mk (hbox)) <| ai (bz hg HB) <| ai (bz hg HB) <| ai (nl hg BK392) <| ng hg BK392;clear BK392 HB;obtain ⟨BK392,HB,BK393,GW393,GE393,NB392_393,NB393_392⟩:=n_;clear hb hbox hg;have hnb32:=NB392_393.out;have hnc32:=NB393_392.out;obtain ⟨hcz33_0,hcz33_1,hcz33_2,hcz33_3⟩:=kb4 BK392.out;obtain ⟨hfz33_0,hfz33_1,hfz33_2,hfz33_3⟩:=kz4 BK392.out;obtain ⟨hcz34_0,hcz34_1,hcz34_2,hcz34_3⟩:=kb4 BK393.out;obtain ⟨hfz34_0,hfz34_1,hfz34_2,hfz34_3⟩:=kz4 BK393.out))
  go_ret
  exact ⟨cl,bl HB.out⟩

end Go.Proofs.Ytghhbdmjafedbaa.QFnExactCodeOk
