-- Written by a program of this workplace (print2.py) for this claim, over the print's words.
import Derived.Test.YtkpompobnmdneaaQFnSortedx0
import Derived.Test.YtkpompobnmdneaaQFnSortedx3
import Derived.Test.YtkpompobnmdneaaQFnSortedx4
import Derived.Test.YtkpompobnmdneaaQFnSortedx5
namespace Go.Proofs.Ytkpompobnmdneaa.QFnSorted
open Go.RowKit Go.Proofs.YtkpompobnmdneaaW.PrintWords Go.Proofs.YtkpompobnmdneaaW.PrintLast Go.Proofs.YtkpompobnmdneaaW.PrintMore
attribute [local go_sem] binOp_string_gtr max2_int min2_int max_two min_two max_three min_three max_four min_four   -- for this text's walks alone
set_option linter.unusedVariables false
set_option linter.unusedSimpArgs false

/-! ### impl_SortTerms: function 6: by hand -/
theorem impl_SortTerms.stable (k:Nat) (P0_:Nat → Prop) (Ao:Option Addr) (c:Nat) (l r:List S30) (w0 w:World) (hB:Below w0.heap.size w0 w) (ho:Kd.N k30 30 w w0.heap.size P0_ (.slice Ao l.length c) l) (hn:l.length < 20) (h:slices_insertionSortCmpFunc_of_impl_compareTerms.f k l 0 (l.length:Int) = some r) :
  Calls Try.prog 21 #[.slice Ao l.length c,.int .i64 l.length,.func (.func 15) #[] #[]] w fun e w'=>e = .returned (.tuple #[])∧Kd.N k30 30 w' w0.heap.size (fun k_=>(P0_ k_∨w.heap.size≤k_)) (.slice Ao l.length c) r∧Below w0.heap.size w0 w':=by
 have HB:=Aside0.mk hB;have HO:=Aside0.mk ho;have HH:=Aside0.mk h;have hc1:decide ((20:Int)≤(l.length:Int)) = false:=decide_eq_false (by omega);have hc2:decide ((20:Int) < (l.length:Int)) = false:=decide_eq_false (by omega);clear hB ho h hn
 go_enter Try.func21,Try.ntmps21
 go_wp2
 go_loopg [7,8] 0 (fun kq v7 v8 w'=>v7 = .int .i64 0∧v8 = .int .i64 20∧Aside0 (w' = w))
 case atStart=>exact ⟨(by first|rfl|(simp;done)),(by first|rfl|(simp;done)),⟨rfl⟩⟩
 case round =>
  obtain ⟨rfl,rfl,⟨rfl⟩⟩:=hrel
  go_wp2_with (go_at_call 25;(with_reducible refine (slices_insertionSortCmpFunc_of_impl_compareTerms.calls k P0_ (.slice Ao l.length c) l 0 (l.length:Int) r w0 _ HB.out HO.out HH.out).mono ?_);rintro e w1 ⟨rfl,hN,hB1,hK1⟩;have HN:=Aside0.mk hN;have HB1:=Aside0.mk hB1;clear hN hB1 hK1)
  go_loopg [6,7,8] 0 (fun kq v6 v7 v8 w'=>v6 = .int .i64 20∧Aside0 (w' = w1))
  case atStart=>exact ⟨(by first|rfl|(simp;done)),⟨rfl⟩⟩
  case round =>
   obtain ⟨rfl,⟨rfl⟩⟩:=hrel
   go_wp2
   go_end0
   exact ⟨rfl,HN.out,HB1.out⟩
theorem impl_SortTerms.sort (k:Nat) (P0_:Nat → Prop) (Ao:Option Addr) (c:Nat) (l r:List S30) (w0 w:World) (hB:Below w0.heap.size w0 w) (ho:Kd.N k30 30 w w0.heap.size P0_ (.slice Ao l.length c) l) (hn:l.length < 20) (h:slices_insertionSortCmpFunc_of_impl_compareTerms.f k l 0 (l.length:Int) = some r) :
  Calls Try.prog 14 #[.slice Ao l.length c,.func (.func 15) #[] #[]] w fun e w'=>e = .returned (.tuple #[])∧Kd.N k30 30 w' w0.heap.size (fun k_=>(P0_ k_∨w.heap.size≤k_)) (.slice Ao l.length c) r∧Below w0.heap.size w0 w':=by
 have HC:=Aside0.mk (impl_SortTerms.stable k P0_ Ao c l r w0 w hB ho hn h);clear hB ho h hn
 go_enter Try.func14,Try.ntmps14
 go_wp2_with (go_at_call 21;(with_reducible refine HC.out.mono ?_);rintro e w1 ⟨rfl,hN,hB1⟩;have HN:=Aside0.mk hN;have HB1:=Aside0.mk hB1;clear hN hB1)
 go_end0
 exact ⟨rfl,HN.out,HB1.out⟩
def impl_SortTerms.f (k:Nat) (l0:List S30):Option (List S30):=(impl_copyTerms.f k l0).bind fun t0=>(if t0.length < 20 then (slices_insertionSortCmpFunc_of_impl_compareTerms.f k t0 0 (t0.length:Int)) else none)
theorem impl_SortTerms.mono:∀ a0 k,LeO (impl_SortTerms.f k a0) (impl_SortTerms.f (k + 1) a0):=by
 intro a0 k
 unfold impl_SortTerms.f
 refine LeO.bind (impl_copyTerms.mono a0 k) (fun t0=>?_)
 split
 ·exact slices_insertionSortCmpFunc_of_impl_compareTerms.mono t0 0 (t0.length:Int) k
 ·exact LeO.none _
set_option maxHeartbeats 8000000 in
theorem impl_SortTerms.calls (k:Nat) (A0:Option Addr) (c0:Nat) (l0:List S30) (r:List S30) (w:World) (hr0:Kd.C k30 w A0 l0.length l0) (hc0:l0.length≤c0) (h:impl_SortTerms.f k l0 = some r) :
  Calls Try.prog 6 #[.slice A0 l0.length c0] w fun e w'=>∃ v0_:Value,e = .returned (v0_)∧Kd.V k30 30 w' w.heap.size (fun k_=>(w.heap.size≤k_)) v0_ r∧Below w.heap.size w w':=by
 unfold impl_SortTerms.f at h
 obtain ⟨t0,h1,h2⟩:=Option.bind_eq_some_iff.mp h
 by_cases hl:t0.length < 20
 ·rw [if_pos hl] at h2
  have A1:=Aside0.mk h1;have A2:=Aside0.mk h2;have HL:=Aside0.mk hl;have HR:=Aside0.mk hr0;have HC:=Aside0.mk hc0;clear h h1 h2 hl hr0 hc0
  go_enter Try.func6,Try.ntmps6
  go_wp2_with (first|(go_at_call 13;(with_reducible refine (impl_copyTerms.calls k A0 c0 l0 t0 _ ?s1 ?s2 A1.out).mono ?_);(case s1=>exact HR.out);(case s2=>exact HC.out);rintro e w1 ⟨v1,rfl,hR1,hB1⟩;obtain ⟨Ao,co,eo⟩:=Kd.R_slice hR1;subst eo;have HN:=Aside0.mk (Kd.R_N (Kd.R_mono (Kd.R_bound hR1) (fun _ hk=>hk.2.1)));have HB1:=Aside0.mk hB1;clear hR1 hB1)|(go_at_call 14;(with_reducible refine (impl_SortTerms.sort k _ Ao co t0 r w w1 HB1.out HN.out HL.out A2.out).mono ?_);rintro e w2 ⟨rfl,hN2,hB2⟩;have HN2:=Aside0.mk hN2;have HB2:=Aside0.mk hB2;clear hN2 hB2))
  go_ret
  exact ⟨_,by first|rfl|(simp;done),Kd.N_V (Kd.N_mono HN2.out (fun k_ hk=>Or.elim hk id (fun h_=>Nat.le_trans HB1.out.size h_))),HB2.out⟩
 ·rw [if_neg hl] at h2
  exact absurd h2 (by simp)

mutual
def slices_EqualFunc_of_impl_SameTerm.l0:Nat → List (S30) → List (S30) → Int → Int → Option (Bool)
 | 0,_,_,_,_=>none
 | k + 1,x1,x15,x16,x17=>if x17 < x16 then (if 0≤x17 then (if x17 < (x15.length:Int) then (if x17 < (x1.length:Int) then ((impl_SameTerm.f k ((rd_T30 x15 x17).f0) ((rd_T30 x15 x17).f1) ((rd_T30 x15 x17).f2) ((rd_T30 x15 x17).f3) ((rd_T30 x1 x17).f0) ((rd_T30 x1 x17).f1) ((rd_T30 x1 x17).f2) ((rd_T30 x1 x17).f3)).bind fun t233=>(if t233 = true then (slices_EqualFunc_of_impl_SameTerm.l0 k x1 x15 x16 (wrap64 (x17 + 1))) else (some false))) else (none)) else (none)) else (none)) else (some true)
def slices_EqualFunc_of_impl_SameTerm.f:Nat → List (S30) → List (S30) → Option (Bool)
 | 0,_,_=>none
 | k + 1,l0,l1=>if (l0.length:Int) = (l1.length:Int) then (slices_EqualFunc_of_impl_SameTerm.l0 k l1 l0 (l0.length:Int) 0) else (some false)
def impl_SameTerm.f:Nat → Int → Int → ByteArray → List (S30) → Int → Int → ByteArray → List (S30) → Option (Bool)
 | 0,_,_,_,_,_,_,_,_=>none
 | k + 1,a0_0,a0_1,a0_2,l0_3,a1_0,a1_1,a1_2,l1_3=>if a0_0 = a1_0 then (if a0_1 = a1_1 then (if a0_2.toList = a1_2.toList then ((slices_EqualFunc_of_impl_SameTerm.f k l0_3 l1_3).bind fun t236=>(some t236)) else (some false)) else (some false)) else (some false)
end
theorem slices_EqualFunc_of_impl_SameTerm.mono_g:∀ k,(∀ y0 y1,LeO (slices_EqualFunc_of_impl_SameTerm.f k y0 y1) (slices_EqualFunc_of_impl_SameTerm.f (k + 1) y0 y1))∧(∀ y0 y1 y2 y3,LeO (slices_EqualFunc_of_impl_SameTerm.l0 k y0 y1 y2 y3) (slices_EqualFunc_of_impl_SameTerm.l0 (k + 1) y0 y1 y2 y3))∧(∀ y0 y1 y2 y3 y4 y5 y6 y7,LeO (impl_SameTerm.f k y0 y1 y2 y3 y4 y5 y6 y7) (impl_SameTerm.f (k + 1) y0 y1 y2 y3 y4 y5 y6 y7))
 | 0=>⟨fun _ _ r h=>by simp [slices_EqualFunc_of_impl_SameTerm.f] at h,fun _ _ _ _ r h=>by simp [slices_EqualFunc_of_impl_SameTerm.l0] at h,fun _ _ _ _ _ _ _ _ r h=>by simp [impl_SameTerm.f] at h⟩
 | k + 1=>by
  obtain ⟨ih0,ih1,ih2⟩:=slices_EqualFunc_of_impl_SameTerm.mono_g k
  refine ⟨?_,?_,?_⟩
  ·intro y0 y1
   unfold slices_EqualFunc_of_impl_SameTerm.f
   with_reducible repeat' first|apply ih0|apply ih1|apply ih2|apply LeO.refl|apply LeO.none|apply LeO.ite|refine LeO.bind ?_ (fun _=>?_)
  ·intro y0 y1 y2 y3
   unfold slices_EqualFunc_of_impl_SameTerm.l0
   with_reducible repeat' first|apply ih0|apply ih1|apply ih2|apply LeO.refl|apply LeO.none|apply LeO.ite|refine LeO.bind ?_ (fun _=>?_)
  ·intro y0 y1 y2 y3 y4 y5 y6 y7
   unfold impl_SameTerm.f
   with_reducible repeat' first|apply ih0|apply ih1|apply ih2|apply LeO.refl|apply LeO.none|apply LeO.ite|refine LeO.bind ?_ (fun _=>?_)
theorem slices_EqualFunc_of_impl_SameTerm.mono:∀ a0 a1 k,LeO (slices_EqualFunc_of_impl_SameTerm.f k a0 a1) (slices_EqualFunc_of_impl_SameTerm.f (k + 1) a0 a1):=by
 intro a0 a1 k;obtain ⟨ih0,ih1,ih2⟩:=slices_EqualFunc_of_impl_SameTerm.mono_g k
 exact ih0 a0 a1
theorem impl_SameTerm.mono:∀ a0 a1 a2 a3 a4 a5 a6 a7 k,LeO (impl_SameTerm.f k a0 a1 a2 a3 a4 a5 a6 a7) (impl_SameTerm.f (k + 1) a0 a1 a2 a3 a4 a5 a6 a7):=by
 intro a0 a1 a2 a3 a4 a5 a6 a7 k;obtain ⟨ih0,ih1,ih2⟩:=slices_EqualFunc_of_impl_SameTerm.mono_g k
 exact ih2 a0 a1 a2 a3 a4 a5 a6 a7
/-! ### slices_EqualFunc_of_impl_SameTerm: function 16 -/
set_option maxHeartbeats 8000000 in
set_option maxRecDepth 100000 in
theorem slices_EqualFunc_of_impl_SameTerm.step (k:Nat) (ih_slices_EqualFunc_of_impl_SameTerm:∀ k_,k_ < k → ∀ (A0:Option Addr) (c0:Nat) (l0:List (S30)) (A1:Option Addr) (c1:Nat) (l1:List (S30))  (r:Bool) (w:World) (hr0:Kd.C k30 w A0 l0.length l0) (hc0:l0.length≤c0) (hr1:Kd.C k30 w A1 l1.length l1) (hc1:l1.length≤c1) (h:slices_EqualFunc_of_impl_SameTerm.f k_ l0 l1 = some r),Calls Try.prog 16 #[.slice A0 l0.length c0,.slice A1 l1.length c1,.func (.func 8) #[] #[]] w fun e w'=>e = .returned (.bool r)∧Below w.heap.size w w') (ih_impl_SameTerm:∀ k_,k_ < k → ∀ (a0_0:Int) (a0_1:Int) (a0_2:ByteArray) (A0_3:Option Addr) (c0_3:Nat) (l0_3:List (S30)) (a1_0:Int) (a1_1:Int) (a1_2:ByteArray) (A1_3:Option Addr) (c1_3:Nat) (l1_3:List (S30)) (r:Bool) (w:World) (hr0_3:Kd.C k30 w A0_3 l0_3.length l0_3) (hc0_3:l0_3.length≤c0_3) (hr1_3:Kd.C k30 w A1_3 l1_3.length l1_3) (hc1_3:l1_3.length≤c1_3) (h:impl_SameTerm.f k_ a0_0 a0_1 a0_2 l0_3 a1_0 a1_1 a1_2 l1_3 = some r),Calls Try.prog 8 #[.agg #[.int .i64 a0_0,.int .i64 a0_1,.string a0_2,.slice A0_3 l0_3.length c0_3],.agg #[.int .i64 a1_0,.int .i64 a1_1,.string a1_2,.slice A1_3 l1_3.length c1_3]] w fun e w'=>e = .returned (.bool r)∧Below w.heap.size w w'):∀ (A0:Option Addr) (c0:Nat) (l0:List (S30)) (A1:Option Addr) (c1:Nat) (l1:List (S30))  (r:Bool) (w:World) (hr0:Kd.C k30 w A0 l0.length l0) (hc0:l0.length≤c0) (hr1:Kd.C k30 w A1 l1.length l1) (hc1:l1.length≤c1) (h:slices_EqualFunc_of_impl_SameTerm.f k l0 l1 = some r),
  Calls Try.prog 16 #[.slice A0 l0.length c0,.slice A1 l1.length c1,.func (.func 8) #[] #[]] w fun e w'=>e = .returned (.bool r)∧Below w.heap.size w w':=by
 intro A0 c0 l0 A1 c1 l1 r w hr0 hc0 hr1 hc1 h
 cases k with
 | zero=>exact absurd h (by simp [slices_EqualFunc_of_impl_SameTerm.f])
 | succ k =>
 simp only [slices_EqualFunc_of_impl_SameTerm.f] at h;have hu30:=Try.underlying30;have HR0:=Aside0.mk hr0;have HC0:=Aside0.mk hc0;clear hr0 hc0;have HR1:=Aside0.mk hr1;have HC1:=Aside0.mk hc1;clear hr1 hc1;have HB:=Aside0.mk (Below.refl w.heap.size w);have H:(if (l0.length:Int) = (l1.length:Int) then (slices_EqualFunc_of_impl_SameTerm.l0 k l1 l0 (l0.length:Int) 0) else (some false)) = some r:=h;clear h
 by_cases c4:(l0.length:Int) = (l1.length:Int)
 ·rw [if_pos c4] at H
  have c4b0:((l0.length:Int) == (l1.length:Int)) = true:=beq_iff_eq.mpr c4;have c4b1:((l0.length:Int) != (l1.length:Int)) = false:=bne_eq_false_iff_eq.mpr c4;have c4b2:(l0.length == l1.length) = true:=by first|simpa using c4|(simp at c4 ⊢;omega)
  clear c4;have H':=Aside0.mk H;clear H
  go_enter Try.func16,Try.ntmps16
  go_wp2
  go_loopg [17] k (fun kq v17 w'=>∃ (x17_1:Int),v17 = .int .i64 x17_1∧Aside0 (slices_EqualFunc_of_impl_SameTerm.l0 kq l1 l0 (l0.length:Int) x17_1 = some r)∧Aside0 (kq≤k)∧Aside0 (Below w.heap.size w w'))
  case atStart=>exact ⟨(0),(cl2),H',⟨Nat.le_refl _⟩,⟨bl HB.out⟩⟩
  case round =>
   clear H';(try clear c1);(try clear c4);(try clear c4b0);(try clear c4b1);(try clear c4b2);(try clear HB);obtain ⟨x17_1,rfl,HA,HK1,HB⟩:=hrel
   cases gk with
   | zero=>exact absurd HA.out (by simp [slices_EqualFunc_of_impl_SameTerm.l0])
   | succ k1 =>
    have H:=HA.out;clear HA;simp only [slices_EqualFunc_of_impl_SameTerm.l0] at H
    by_cases c5:x17_1 < (l0.length:Int)
    ·rw [if_pos c5] at H
     have c5b0:decide (x17_1 < (l0.length:Int)) = true:=decide_eq_true c5;clear c5
     by_cases c6:0≤x17_1
     ·rw [if_pos c6] at H
      have c6b0:decide (0≤x17_1) = true:=decide_eq_true c6;clear c6
      by_cases c7:x17_1 < (l0.length:Int)
      ·rw [if_pos c7] at H
       have c7b0:decide (x17_1 < (l0.length:Int)) = true:=decide_eq_true c7;clear c7
       by_cases c8:x17_1 < (l1.length:Int)
       ·rw [if_pos c8] at H
        have c8b0:decide (x17_1 < (l1.length:Int)) = true:=decide_eq_true c8;clear c8;replace H:=Option.bind_eq_some_iff.mp H;obtain ⟨t233,A90,H⟩:=H;replace H:(if t233 = true then (slices_EqualFunc_of_impl_SameTerm.l0 k1 l1 l0 (l0.length:Int) (wrap64 (x17_1 + 1))) else (some false)) = some r:=H;have A9:=Aside0.mk A90;clear A90
        by_cases c10:t233 = true
        ·subst c10
         have H1:(slices_EqualFunc_of_impl_SameTerm.l0 k1 l1 l0 (l0.length:Int) (wrap64 (x17_1 + 1))) = some r:=by rw [if_pos rfl] at H;exact H
         clear H;have H:=H1;clear H1;have H':=Aside0.mk H;clear H;have p229:0≤(x17_1:Int):=od;have q229:x17_1 < (l0.length:Int):=od;obtain ⟨ad229,A229_3,c229_3,e229,hx229_0,hx229_1,hx229_2,hx229_3,hl229_3,hi229_3⟩:=at_T30 HR0.out x17_1 p229 q229;cases e229;replace hx229_0:=cb HB hx229_0;replace hx229_1:=cb HB hx229_1;replace hx229_2:=cb HB hx229_2;replace hx229_3:=cb HB hx229_3;have HR229_3:=Aside0.mk hi229_3;have HC229_3:=Aside0.mk hl229_3;clear hi229_3 hl229_3;replace p229:=eq_true p229;replace q229:=eq_true q229
         go_wp2_with (first|((with_reducible refine gate_dst (N:=8) rfl ?_);refine box_event ?hg (N:=8) ?hd (cs:=#[.int .i64 0,.int .i64 0,.string (⟨#[]⟩:ByteArray),.slice none 0 0]) (t:=30) ?hr ?_;(case hd=>rfl);(case hg=>rfl);(case hr=>first|(go_simp;done)|(go_simp;rfl));intro gb230 hg w11 hbox hb;have n_:=ai (bq HB hb) <| ai (Aside0.mk (hbox)) <| ai (bz hg HB) <| bz hg HB;clear HB;obtain ⟨HB,BK230,GW230,GE230⟩:=n_;clear hb hbox hg;obtain ⟨h12_0,h12_1,h12_2,h12_3⟩:=kb4 BK230.out;obtain ⟨z12_0,z12_1,z12_2,z12_3⟩:=kz4 BK230.out;have p231:0≤(x17_1:Int):=od;have q231:x17_1 < (l1.length:Int):=od;obtain ⟨ad231,A231_3,c231_3,e231,hx231_0,hx231_1,hx231_2,hx231_3,hl231_3,hi231_3⟩:=at_T30 HR1.out x17_1 p231 q231;cases e231;have hn231_0:ad231.block≠gb230:=Nat.ne_of_lt (Nat.lt_of_lt_of_le (by have:=World.block_lt_of_cell? _ _ hx231_0;first|rwa [add_block] at this|exact this) GW230.out);have hn231_1:ad231.block≠gb230:=Nat.ne_of_lt (Nat.lt_of_lt_of_le (by have:=World.block_lt_of_cell? _ _ hx231_0;first|rwa [add_block] at this|exact this) GW230.out);have hn231_2:ad231.block≠gb230:=Nat.ne_of_lt (Nat.lt_of_lt_of_le (by have:=World.block_lt_of_cell? _ _ hx231_0;first|rwa [add_block] at this|exact this) GW230.out);have hn231_3:ad231.block≠gb230:=Nat.ne_of_lt (Nat.lt_of_lt_of_le (by have:=World.block_lt_of_cell? _ _ hx231_0;first|rwa [add_block] at this|exact this) GW230.out);replace hx231_0:=cb HB hx231_0;replace hx231_1:=cb HB hx231_1;replace hx231_2:=cb HB hx231_2;replace hx231_3:=cb HB hx231_3;have HR231_3:=Aside0.mk hi231_3;have HC231_3:=Aside0.mk hl231_3;clear hi231_3 hl231_3;replace hx231_0:=(cell_far (p:=⟨gb230,0,none⟩) (by first|(rw [add_block];exact hn231_0)|(show (Addr.add _ _).block≠_;rw [add_block];exact hn231_0)|exact hn231_0) (.int .i64 ((rd_T30 l0 x17_1).f0))).trans hx231_0;replace hx231_1:=(cell_far (p:=⟨gb230,0,none⟩) (by first|(rw [add_block];exact hn231_0)|(show (Addr.add _ _).block≠_;rw [add_block];exact hn231_0)|exact hn231_0) (.int .i64 ((rd_T30 l0 x17_1).f0))).trans hx231_1;replace hx231_2:=(cell_far (p:=⟨gb230,0,none⟩) (by first|(rw [add_block];exact hn231_0)|(show (Addr.add _ _).block≠_;rw [add_block];exact hn231_0)|exact hn231_0) (.int .i64 ((rd_T30 l0 x17_1).f0))).trans hx231_2;replace hx231_3:=(cell_far (p:=⟨gb230,0,none⟩) (by first|(rw [add_block];exact hn231_0)|(show (Addr.add _ _).block≠_;rw [add_block];exact hn231_0)|exact hn231_0) (.int .i64 ((rd_T30 l0 x17_1).f0))).trans hx231_3;replace hx231_0:=(cell_far (p:=⟨gb230,1,none⟩) (by first|(rw [add_block];exact hn231_1)|(show (Addr.add _ _).block≠_;rw [add_block];exact hn231_1)|exact hn231_1) (.int .i64 ((rd_T30 l0 x17_1).f1))).trans hx231_0;replace hx231_1:=(cell_far (p:=⟨gb230,1,none⟩) (by first|(rw [add_block];exact hn231_1)|(show (Addr.add _ _).block≠_;rw [add_block];exact hn231_1)|exact hn231_1) (.int .i64 ((rd_T30 l0 x17_1).f1))).trans hx231_1;replace hx231_2:=(cell_far (p:=⟨gb230,1,none⟩) (by first|(rw [add_block];exact hn231_1)|(show (Addr.add _ _).block≠_;rw [add_block];exact hn231_1)|exact hn231_1) (.int .i64 ((rd_T30 l0 x17_1).f1))).trans hx231_2;replace hx231_3:=(cell_far (p:=⟨gb230,1,none⟩) (by first|(rw [add_block];exact hn231_1)|(show (Addr.add _ _).block≠_;rw [add_block];exact hn231_1)|exact hn231_1) (.int .i64 ((rd_T30 l0 x17_1).f1))).trans hx231_3;replace hx231_0:=(cell_far (p:=⟨gb230,2,none⟩) (by first|(rw [add_block];exact hn231_2)|(show (Addr.add _ _).block≠_;rw [add_block];exact hn231_2)|exact hn231_2) (.string ((rd_T30 l0 x17_1).f2))).trans hx231_0;replace hx231_1:=(cell_far (p:=⟨gb230,2,none⟩) (by first|(rw [add_block];exact hn231_2)|(show (Addr.add _ _).block≠_;rw [add_block];exact hn231_2)|exact hn231_2) (.string ((rd_T30 l0 x17_1).f2))).trans hx231_1;replace hx231_2:=(cell_far (p:=⟨gb230,2,none⟩) (by first|(rw [add_block];exact hn231_2)|(show (Addr.add _ _).block≠_;rw [add_block];exact hn231_2)|exact hn231_2) (.string ((rd_T30 l0 x17_1).f2))).trans hx231_2;replace hx231_3:=(cell_far (p:=⟨gb230,2,none⟩) (by first|(rw [add_block];exact hn231_2)|(show (Addr.add _ _).block≠_;rw [add_block];exact hn231_2)|exact hn231_2) (.string ((rd_T30 l0 x17_1).f2))).trans hx231_3;replace hx231_0:=(cell_far (p:=⟨gb230,3,none⟩) (by first|(rw [add_block];exact hn231_3)|(show (Addr.add _ _).block≠_;rw [add_block];exact hn231_3)|exact hn231_3) (.slice A229_3 ((rd_T30 l0 x17_1).f3).length c229_3)).trans hx231_0;replace hx231_1:=(cell_far (p:=⟨gb230,3,none⟩) (by first|(rw [add_block];exact hn231_3)|(show (Addr.add _ _).block≠_;rw [add_block];exact hn231_3)|exact hn231_3) (.slice A229_3 ((rd_T30 l0 x17_1).f3).length c229_3)).trans hx231_1;replace hx231_2:=(cell_far (p:=⟨gb230,3,none⟩) (by first|(rw [add_block];exact hn231_3)|(show (Addr.add _ _).block≠_;rw [add_block];exact hn231_3)|exact hn231_3) (.slice A229_3 ((rd_T30 l0 x17_1).f3).length c229_3)).trans hx231_2;replace hx231_3:=(cell_far (p:=⟨gb230,3,none⟩) (by first|(rw [add_block];exact hn231_3)|(show (Addr.add _ _).block≠_;rw [add_block];exact hn231_3)|exact hn231_3) (.slice A229_3 ((rd_T30 l0 x17_1).f3).length c229_3)).trans hx231_3;clear hn231_0;clear hn231_1;clear hn231_2;clear hn231_3;replace p231:=eq_true p231;replace q231:=eq_true q231)|((with_reducible refine gate_dst (N:=9) rfl ?_);refine box_event ?hg (N:=9) ?hd (cs:=#[.int .i64 0,.int .i64 0,.string (⟨#[]⟩:ByteArray),.slice none 0 0]) (t:=30) ?hr ?_;(case hd=>rfl);(case hg=>rfl);(case hr=>first|(go_simp;done)|(go_simp;rfl));intro gb232 hg w13 hbox hb;have n_:=ai (Aside0.mk (blk_below (g:=gb230) (o:=.cells #[.int .i64 ((rd_T30 l0 x17_1).f0),.int .i64 ((rd_T30 l0 x17_1).f1),.string ((rd_T30 l0 x17_1).f2),.slice A229_3 ((rd_T30 l0 x17_1).f3).length c229_3] 30 (0,0)) (bmp BK230.out) hb)) <| ai (bq HB hb) <| ai (Aside0.mk (hbox)) <| ai (bz hg HB) <| ai (bz hg HB) <| ai (Aside0.mk ((by rw [hg];exact Nat.ne_of_lt (blk_lt (g:=gb230) (o:=.cells #[.int .i64 ((rd_T30 l0 x17_1).f0),.int .i64 ((rd_T30 l0 x17_1).f1),.string ((rd_T30 l0 x17_1).f2),.slice A229_3 ((rd_T30 l0 x17_1).f3).length c229_3] 30 (0,0)) (bmp BK230.out)):gb230≠gb232))) <| Aside0.mk ((by rw [hg];exact Nat.ne_of_gt (blk_lt (g:=gb230) (o:=.cells #[.int .i64 ((rd_T30 l0 x17_1).f0),.int .i64 ((rd_T30 l0 x17_1).f1),.string ((rd_T30 l0 x17_1).f2),.slice A229_3 ((rd_T30 l0 x17_1).f3).length c229_3] 30 (0,0)) (bmp BK230.out)):gb232≠gb230));clear BK230 HB;obtain ⟨BK230,HB,BK232,GW232,GE232,NB230_232,NB232_230⟩:=n_;clear hb hbox hg;have:=NB232_230.out;have:=NB230_232.out;obtain ⟨h15_0,h15_1,h15_2,h15_3⟩:=kb4 BK232.out;obtain ⟨z15_0,z15_1,z15_2,z15_3⟩:=kz4 BK232.out;obtain ⟨h16_0,h16_1,h16_2,h16_3⟩:=kb4 BK230.out;obtain ⟨z16_0,z16_1,z16_2,z16_3⟩:=kz4 BK230.out)|(go_at_call 8;(with_reducible refine (ih_impl_SameTerm k1 (by have:=HK1.out;omega) ((rd_T30 l0 x17_1).f0) ((rd_T30 l0 x17_1).f1) ((rd_T30 l0 x17_1).f2) _ _ ((rd_T30 l0 x17_1).f3) ((rd_T30 l1 x17_1).f0) ((rd_T30 l1 x17_1).f1) ((rd_T30 l1 x17_1).f2) _ _ ((rd_T30 l1 x17_1).f3) true _ ?side1 ?side2 ?side3 ?side4 A9.out).mono ?_);(case side1=>exact Kd.C_below HR229_3.out (bl HB.out));(case side2=>exact HC229_3.out);(case side3=>exact Kd.C_below HR231_3.out (bl HB.out));(case side4=>exact HC231_3.out);rintro e w17 ⟨rfl,hb⟩;have n_:=ai (bwm BK230 hb) <| ai (Aside0.mk (blk_below (g:=gb232) (o:=.cells #[.int .i64 ((rd_T30 l1 x17_1).f0),.int .i64 ((rd_T30 l1 x17_1).f1),.string ((rd_T30 l1 x17_1).f2),.slice A231_3 ((rd_T30 l1 x17_1).f3).length c231_3] 30 (0,0)) (bmp BK232.out) hb)) <| bq HB hb;clear BK230 BK232 HB;obtain ⟨BK230,BK232,HB⟩:=n_;(try clear hb);(try clear hi)))
         go_roundg k1
         case measure=>have:=HK1.out;omega
         case rel=>exact ⟨(wrap64 (x17_1 + 1)),(cl2),H',⟨by have:=HK1.out;omega⟩,⟨bl HB.out⟩⟩
        ·replace c10:=Bool.eq_false_iff.mpr c10
         subst c10;have H1:(some false) = some r:=by rw [if_neg (show ¬ (false = true) by decide)] at H;exact H
         clear H;have H:=H1;clear H1;obtain rfl:=Option.some.inj H;have p229:0≤(x17_1:Int):=od;have q229:x17_1 < (l0.length:Int):=od;obtain ⟨ad229,A229_3,c229_3,e229,hx229_0,hx229_1,hx229_2,hx229_3,hl229_3,hi229_3⟩:=at_T30 HR0.out x17_1 p229 q229;cases e229;replace hx229_0:=cb HB hx229_0;replace hx229_1:=cb HB hx229_1;replace hx229_2:=cb HB hx229_2;replace hx229_3:=cb HB hx229_3;have HR229_3:=Aside0.mk hi229_3;have HC229_3:=Aside0.mk hl229_3;clear hi229_3 hl229_3;replace p229:=eq_true p229;replace q229:=eq_true q229
         go_wp2_with (first|((with_reducible refine gate_dst (N:=8) rfl ?_);refine box_event ?hg (N:=8) ?hd (cs:=#[.int .i64 0,.int .i64 0,.string (⟨#[]⟩:ByteArray),.slice none 0 0]) (t:=30) ?hr ?_;(case hd=>rfl);(case hg=>rfl);(case hr=>first|(go_simp;done)|(go_simp;rfl));intro gb230 hg w18 hbox hb;have n_:=ai (bq HB hb) <| ai (Aside0.mk (hbox)) <| ai (bz hg HB) <| bz hg HB;clear HB;obtain ⟨HB,BK230,GW230,GE230⟩:=n_;clear hb hbox hg;obtain ⟨h19_0,h19_1,h19_2,h19_3⟩:=kb4 BK230.out;obtain ⟨z19_0,z19_1,z19_2,z19_3⟩:=kz4 BK230.out;have p231:0≤(x17_1:Int):=od;have q231:x17_1 < (l1.length:Int):=od;obtain ⟨ad231,A231_3,c231_3,e231,hx231_0,hx231_1,hx231_2,hx231_3,hl231_3,hi231_3⟩:=at_T30 HR1.out x17_1 p231 q231;cases e231;have hn231_0:ad231.block≠gb230:=Nat.ne_of_lt (Nat.lt_of_lt_of_le (by have:=World.block_lt_of_cell? _ _ hx231_0;first|rwa [add_block] at this|exact this) GW230.out);have hn231_1:ad231.block≠gb230:=Nat.ne_of_lt (Nat.lt_of_lt_of_le (by have:=World.block_lt_of_cell? _ _ hx231_0;first|rwa [add_block] at this|exact this) GW230.out);have hn231_2:ad231.block≠gb230:=Nat.ne_of_lt (Nat.lt_of_lt_of_le (by have:=World.block_lt_of_cell? _ _ hx231_0;first|rwa [add_block] at this|exact this) GW230.out);have hn231_3:ad231.block≠gb230:=Nat.ne_of_lt (Nat.lt_of_lt_of_le (by have:=World.block_lt_of_cell? _ _ hx231_0;first|rwa [add_block] at this|exact this) GW230.out);replace hx231_0:=cb HB hx231_0;replace hx231_1:=cb HB hx231_1;replace hx231_2:=cb HB hx231_2;replace hx231_3:=cb HB hx231_3;have HR231_3:=Aside0.mk hi231_3;have HC231_3:=Aside0.mk hl231_3;clear hi231_3 hl231_3;replace hx231_0:=(cell_far (p:=⟨gb230,0,none⟩) (by first|(rw [add_block];exact hn231_0)|(show (Addr.add _ _).block≠_;rw [add_block];exact hn231_0)|exact hn231_0) (.int .i64 ((rd_T30 l0 x17_1).f0))).trans hx231_0;replace hx231_1:=(cell_far (p:=⟨gb230,0,none⟩) (by first|(rw [add_block];exact hn231_0)|(show (Addr.add _ _).block≠_;rw [add_block];exact hn231_0)|exact hn231_0) (.int .i64 ((rd_T30 l0 x17_1).f0))).trans hx231_1;replace hx231_2:=(cell_far (p:=⟨gb230,0,none⟩) (by first|(rw [add_block];exact hn231_0)|(show (Addr.add _ _).block≠_;rw [add_block];exact hn231_0)|exact hn231_0) (.int .i64 ((rd_T30 l0 x17_1).f0))).trans hx231_2;replace hx231_3:=(cell_far (p:=⟨gb230,0,none⟩) (by first|(rw [add_block];exact hn231_0)|(show (Addr.add _ _).block≠_;rw [add_block];exact hn231_0)|exact hn231_0) (.int .i64 ((rd_T30 l0 x17_1).f0))).trans hx231_3;replace hx231_0:=(cell_far (p:=⟨gb230,1,none⟩) (by first|(rw [add_block];exact hn231_1)|(show (Addr.add _ _).block≠_;rw [add_block];exact hn231_1)|exact hn231_1) (.int .i64 ((rd_T30 l0 x17_1).f1))).trans hx231_0;replace hx231_1:=(cell_far (p:=⟨gb230,1,none⟩) (by first|(rw [add_block];exact hn231_1)|(show (Addr.add _ _).block≠_;rw [add_block];exact hn231_1)|exact hn231_1) (.int .i64 ((rd_T30 l0 x17_1).f1))).trans hx231_1;replace hx231_2:=(cell_far (p:=⟨gb230,1,none⟩) (by first|(rw [add_block];exact hn231_1)|(show (Addr.add _ _).block≠_;rw [add_block];exact hn231_1)|exact hn231_1) (.int .i64 ((rd_T30 l0 x17_1).f1))).trans hx231_2;replace hx231_3:=(cell_far (p:=⟨gb230,1,none⟩) (by first|(rw [add_block];exact hn231_1)|(show (Addr.add _ _).block≠_;rw [add_block];exact hn231_1)|exact hn231_1) (.int .i64 ((rd_T30 l0 x17_1).f1))).trans hx231_3;replace hx231_0:=(cell_far (p:=⟨gb230,2,none⟩) (by first|(rw [add_block];exact hn231_2)|(show (Addr.add _ _).block≠_;rw [add_block];exact hn231_2)|exact hn231_2) (.string ((rd_T30 l0 x17_1).f2))).trans hx231_0;replace hx231_1:=(cell_far (p:=⟨gb230,2,none⟩) (by first|(rw [add_block];exact hn231_2)|(show (Addr.add _ _).block≠_;rw [add_block];exact hn231_2)|exact hn231_2) (.string ((rd_T30 l0 x17_1).f2))).trans hx231_1;replace hx231_2:=(cell_far (p:=⟨gb230,2,none⟩) (by first|(rw [add_block];exact hn231_2)|(show (Addr.add _ _).block≠_;rw [add_block];exact hn231_2)|exact hn231_2) (.string ((rd_T30 l0 x17_1).f2))).trans hx231_2;replace hx231_3:=(cell_far (p:=⟨gb230,2,none⟩) (by first|(rw [add_block];exact hn231_2)|(show (Addr.add _ _).block≠_;rw [add_block];exact hn231_2)|exact hn231_2) (.string ((rd_T30 l0 x17_1).f2))).trans hx231_3;replace hx231_0:=(cell_far (p:=⟨gb230,3,none⟩) (by first|(rw [add_block];exact hn231_3)|(show (Addr.add _ _).block≠_;rw [add_block];exact hn231_3)|exact hn231_3) (.slice A229_3 ((rd_T30 l0 x17_1).f3).length c229_3)).trans hx231_0;replace hx231_1:=(cell_far (p:=⟨gb230,3,none⟩) (by first|(rw [add_block];exact hn231_3)|(show (Addr.add _ _).block≠_;rw [add_block];exact hn231_3)|exact hn231_3) (.slice A229_3 ((rd_T30 l0 x17_1).f3).length c229_3)).trans hx231_1;replace hx231_2:=(cell_far (p:=⟨gb230,3,none⟩) (by first|(rw [add_block];exact hn231_3)|(show (Addr.add _ _).block≠_;rw [add_block];exact hn231_3)|exact hn231_3) (.slice A229_3 ((rd_T30 l0 x17_1).f3).length c229_3)).trans hx231_2;replace hx231_3:=(cell_far (p:=⟨gb230,3,none⟩) (by first|(rw [add_block];exact hn231_3)|(show (Addr.add _ _).block≠_;rw [add_block];exact hn231_3)|exact hn231_3) (.slice A229_3 ((rd_T30 l0 x17_1).f3).length c229_3)).trans hx231_3;clear hn231_0;clear hn231_1;clear hn231_2;clear hn231_3;replace p231:=eq_true p231;replace q231:=eq_true q231)|((with_reducible refine gate_dst (N:=9) rfl ?_);refine box_event ?hg (N:=9) ?hd (cs:=#[.int .i64 0,.int .i64 0,.string (⟨#[]⟩:ByteArray),.slice none 0 0]) (t:=30) ?hr ?_;(case hd=>rfl);(case hg=>rfl);(case hr=>first|(go_simp;done)|(go_simp;rfl));intro gb232 hg w20 hbox hb;have n_:=ai (Aside0.mk (blk_below (g:=gb230) (o:=.cells #[.int .i64 ((rd_T30 l0 x17_1).f0),.int .i64 ((rd_T30 l0 x17_1).f1),.string ((rd_T30 l0 x17_1).f2),.slice A229_3 ((rd_T30 l0 x17_1).f3).length c229_3] 30 (0,0)) (bmp BK230.out) hb)) <| ai (bq HB hb) <| ai (Aside0.mk (hbox)) <| ai (bz hg HB) <| ai (bz hg HB) <| ai (Aside0.mk ((by rw [hg];exact Nat.ne_of_lt (blk_lt (g:=gb230) (o:=.cells #[.int .i64 ((rd_T30 l0 x17_1).f0),.int .i64 ((rd_T30 l0 x17_1).f1),.string ((rd_T30 l0 x17_1).f2),.slice A229_3 ((rd_T30 l0 x17_1).f3).length c229_3] 30 (0,0)) (bmp BK230.out)):gb230≠gb232))) <| Aside0.mk ((by rw [hg];exact Nat.ne_of_gt (blk_lt (g:=gb230) (o:=.cells #[.int .i64 ((rd_T30 l0 x17_1).f0),.int .i64 ((rd_T30 l0 x17_1).f1),.string ((rd_T30 l0 x17_1).f2),.slice A229_3 ((rd_T30 l0 x17_1).f3).length c229_3] 30 (0,0)) (bmp BK230.out)):gb232≠gb230));clear BK230 HB;obtain ⟨BK230,HB,BK232,GW232,GE232,NB230_232,NB232_230⟩:=n_;clear hb hbox hg;have:=NB232_230.out;have:=NB230_232.out;obtain ⟨h22_0,h22_1,h22_2,h22_3⟩:=kb4 BK232.out;obtain ⟨z22_0,z22_1,z22_2,z22_3⟩:=kz4 BK232.out;obtain ⟨h23_0,h23_1,h23_2,h23_3⟩:=kb4 BK230.out;obtain ⟨z23_0,z23_1,z23_2,z23_3⟩:=kz4 BK230.out)|(go_at_call 8;(with_reducible refine (ih_impl_SameTerm k1 (by have:=HK1.out;omega) ((rd_T30 l0 x17_1).f0) ((rd_T30 l0 x17_1).f1) ((rd_T30 l0 x17_1).f2) _ _ ((rd_T30 l0 x17_1).f3) ((rd_T30 l1 x17_1).f0) ((rd_T30 l1 x17_1).f1) ((rd_T30 l1 x17_1).f2) _ _ ((rd_T30 l1 x17_1).f3) false _ ?side1 ?side2 ?side3 ?side4 A9.out).mono ?_);(case side1=>exact Kd.C_below HR229_3.out (bl HB.out));(case side2=>exact HC229_3.out);(case side3=>exact Kd.C_below HR231_3.out (bl HB.out));(case side4=>exact HC231_3.out);rintro e w24 ⟨rfl,hb⟩;have n_:=ai (bwm BK230 hb) <| ai (Aside0.mk (blk_below (g:=gb232) (o:=.cells #[.int .i64 ((rd_T30 l1 x17_1).f0),.int .i64 ((rd_T30 l1 x17_1).f1),.string ((rd_T30 l1 x17_1).f2),.slice A231_3 ((rd_T30 l1 x17_1).f3).length c231_3] 30 (0,0)) (bmp BK232.out) hb)) <| bq HB hb;clear BK230 BK232 HB;obtain ⟨BK230,BK232,HB⟩:=n_;(try clear hb);(try clear hi)))
         go_ret
         exact ⟨cl,bl HB.out⟩
       ·rw [if_neg c8] at H
        exact absurd H (by simp)
      ·rw [if_neg c7] at H
       exact absurd H (by simp)
     ·rw [if_neg c6] at H
      exact absurd H (by simp)
    ·rw [if_neg c5] at H
     have c5b0:decide (x17_1 < (l0.length:Int)) = false:=decide_eq_false c5;clear c5;obtain rfl:=Option.some.inj H
     go_wp2
     go_ret
     exact ⟨cl,bl HB.out⟩
 ·rw [if_neg c4] at H
  have c4b0:((l0.length:Int) == (l1.length:Int)) = false:=beq_eq_false_iff_ne.mpr c4;have c4b1:((l0.length:Int) != (l1.length:Int)) = true:=bne_iff_ne.mpr c4;have c4b2:(l0.length == l1.length) = false:=by first|simpa using c4|(simp at c4 ⊢;omega)
  obtain rfl:=Option.some.inj H
  go_enter Try.func16,Try.ntmps16
  go_wp2
  go_ret
  exact ⟨cl,bl HB.out⟩

/-! ### impl_SameTerm: function 8 -/
set_option maxHeartbeats 8000000 in
set_option maxRecDepth 100000 in
theorem impl_SameTerm.step (k:Nat) (ih_slices_EqualFunc_of_impl_SameTerm:∀ k_,k_ < k → ∀ (A0:Option Addr) (c0:Nat) (l0:List (S30)) (A1:Option Addr) (c1:Nat) (l1:List (S30))  (r:Bool) (w:World) (hr0:Kd.C k30 w A0 l0.length l0) (hc0:l0.length≤c0) (hr1:Kd.C k30 w A1 l1.length l1) (hc1:l1.length≤c1) (h:slices_EqualFunc_of_impl_SameTerm.f k_ l0 l1 = some r),Calls Try.prog 16 #[.slice A0 l0.length c0,.slice A1 l1.length c1,.func (.func 8) #[] #[]] w fun e w'=>e = .returned (.bool r)∧Below w.heap.size w w') (ih_impl_SameTerm:∀ k_,k_ < k → ∀ (a0_0:Int) (a0_1:Int) (a0_2:ByteArray) (A0_3:Option Addr) (c0_3:Nat) (l0_3:List (S30)) (a1_0:Int) (a1_1:Int) (a1_2:ByteArray) (A1_3:Option Addr) (c1_3:Nat) (l1_3:List (S30)) (r:Bool) (w:World) (hr0_3:Kd.C k30 w A0_3 l0_3.length l0_3) (hc0_3:l0_3.length≤c0_3) (hr1_3:Kd.C k30 w A1_3 l1_3.length l1_3) (hc1_3:l1_3.length≤c1_3) (h:impl_SameTerm.f k_ a0_0 a0_1 a0_2 l0_3 a1_0 a1_1 a1_2 l1_3 = some r),Calls Try.prog 8 #[.agg #[.int .i64 a0_0,.int .i64 a0_1,.string a0_2,.slice A0_3 l0_3.length c0_3],.agg #[.int .i64 a1_0,.int .i64 a1_1,.string a1_2,.slice A1_3 l1_3.length c1_3]] w fun e w'=>e = .returned (.bool r)∧Below w.heap.size w w'):∀ (a0_0:Int) (a0_1:Int) (a0_2:ByteArray) (A0_3:Option Addr) (c0_3:Nat) (l0_3:List (S30)) (a1_0:Int) (a1_1:Int) (a1_2:ByteArray) (A1_3:Option Addr) (c1_3:Nat) (l1_3:List (S30)) (r:Bool) (w:World) (hr0_3:Kd.C k30 w A0_3 l0_3.length l0_3) (hc0_3:l0_3.length≤c0_3) (hr1_3:Kd.C k30 w A1_3 l1_3.length l1_3) (hc1_3:l1_3.length≤c1_3) (h:impl_SameTerm.f k a0_0 a0_1 a0_2 l0_3 a1_0 a1_1 a1_2 l1_3 = some r),
  Calls Try.prog 8 #[.agg #[.int .i64 a0_0,.int .i64 a0_1,.string a0_2,.slice A0_3 l0_3.length c0_3],.agg #[.int .i64 a1_0,.int .i64 a1_1,.string a1_2,.slice A1_3 l1_3.length c1_3]] w fun e w'=>e = .returned (.bool r)∧Below w.heap.size w w':=by
 intro a0_0 a0_1 a0_2 A0_3 c0_3 l0_3 a1_0 a1_1 a1_2 A1_3 c1_3 l1_3 r w hr0_3 hc0_3 hr1_3 hc1_3 h
 cases k with
 | zero=>exact absurd h (by simp [impl_SameTerm.f])
 | succ k =>
 simp only [impl_SameTerm.f] at h;have hu30:=Try.underlying30;have HR0_3:=Aside0.mk hr0_3;have HC0_3:=Aside0.mk hc0_3;clear hr0_3 hc0_3;have HR1_3:=Aside0.mk hr1_3;have HC1_3:=Aside0.mk hc1_3;clear hr1_3 hc1_3;have HB:=Aside0.mk (Below.refl w.heap.size w);have H:(if a0_0 = a1_0 then (if a0_1 = a1_1 then (if a0_2.toList = a1_2.toList then ((slices_EqualFunc_of_impl_SameTerm.f k l0_3 l1_3).bind fun t236=>(some t236)) else (some false)) else (some false)) else (some false)) = some r:=h;clear h
 by_cases c3:a0_0 = a1_0
 ·rw [if_pos c3] at H
  have c3b0:(a0_0 == a1_0) = true:=beq_iff_eq.mpr c3;have c3b1:(a0_0 != a1_0) = false:=bne_eq_false_iff_eq.mpr c3;clear c3
  by_cases c4:a0_1 = a1_1
  ·rw [if_pos c4] at H
   have c4b0:(a0_1 == a1_1) = true:=beq_iff_eq.mpr c4;have c4b1:(a0_1 != a1_1) = false:=bne_eq_false_iff_eq.mpr c4;clear c4
   by_cases c5:a0_2.toList = a1_2.toList
   ·rw [if_pos c5] at H
    have c5b0:(a0_2.toList == a1_2.toList) = true:=beq_iff_eq.mpr c5;have c5b1:(a0_2.toList != a1_2.toList) = false:=bne_eq_false_iff_eq.mpr c5;clear c5;replace H:=Option.bind_eq_some_iff.mp H;obtain ⟨t236,A60,H⟩:=H;replace H:(some t236) = some r:=H;have A6:=Aside0.mk A60;clear A60;obtain rfl:=Option.some.inj H
    go_enter Try.func8,Try.ntmps8
    go_wp2_with (first|((with_reducible refine gate_dst (N:=2) rfl ?_);refine box_event ?hg (N:=2) ?hd (cs:=#[.int .i64 a0_0,.int .i64 a0_1,.string a0_2,.slice A0_3 l0_3.length c0_3]) (t:=30) ?hr ?_;(case hd=>rfl);(case hg=>rfl);(case hr=>first|(go_simp;done)|(go_simp;rfl));intro gb234 hg w7 hbox hb;have n_:=ai (bq HB hb) <| ai (Aside0.mk (hbox)) <| ai (bz hg HB) <| bz hg HB;clear HB;obtain ⟨HB,BK234,GW234,GE234⟩:=n_;clear hb hbox hg)|((with_reducible refine gate_dst (N:=3) rfl ?_);refine box_event ?hg (N:=3) ?hd (cs:=#[.int .i64 a1_0,.int .i64 a1_1,.string a1_2,.slice A1_3 l1_3.length c1_3]) (t:=30) ?hr ?_;(case hd=>rfl);(case hg=>rfl);(case hr=>first|(go_simp;done)|(go_simp;rfl));intro gb235 hg w8 hbox hb;have n_:=ai (bw BK234 hb) <| ai (bq HB hb) <| ai (Aside0.mk (hbox)) <| ai (bz hg HB) <| ai (bz hg HB) <| ai (nl hg BK234) <| ng hg BK234;clear BK234 HB;obtain ⟨BK234,HB,BK235,GW235,GE235,NB234_235,NB235_234⟩:=n_;clear hb hbox hg;have:=NB234_235.out;have:=NB235_234.out;obtain ⟨h10_0,h10_1,h10_2,h10_3⟩:=kb4 BK234.out;obtain ⟨z10_0,z10_1,z10_2,z10_3⟩:=kz4 BK234.out;obtain ⟨h11_0,h11_1,h11_2,h11_3⟩:=kb4 BK235.out;obtain ⟨z11_0,z11_1,z11_2,z11_3⟩:=kz4 BK235.out)|(go_at_call 16;(with_reducible refine (ih_slices_EqualFunc_of_impl_SameTerm k (by omega) _ _ l0_3 _ _ l1_3  t236 _ ?side1 ?side2 ?side3 ?side4 A6.out).mono ?_);(case side1=>exact ck (Kd.C_below HR0_3.out HB.out));(case side2=>exact HC0_3.out);(case side3=>exact ck (Kd.C_below HR1_3.out HB.out));(case side4=>exact HC1_3.out);rintro e w12 ⟨rfl,hb⟩;have n_:=ai (bw BK234 hb) <| ai (bw BK235 hb) <| bq HB hb;clear BK234 BK235 HB;obtain ⟨BK234,BK235,HB⟩:=n_;(try clear hb);(try clear hi)))
    go_ret
    exact ⟨cl,bl HB.out⟩
   ·rw [if_neg c5] at H
    have c5b0:(a0_2.toList == a1_2.toList) = false:=beq_eq_false_iff_ne.mpr c5;have c5b1:(a0_2.toList != a1_2.toList) = true:=bne_iff_ne.mpr c5;obtain rfl:=Option.some.inj H
    go_enter Try.func8,Try.ntmps8
    go_wp2_with (first|((with_reducible refine gate_dst (N:=2) rfl ?_);refine box_event ?hg (N:=2) ?hd (cs:=#[.int .i64 a0_0,.int .i64 a0_1,.string a0_2,.slice A0_3 l0_3.length c0_3]) (t:=30) ?hr ?_;(case hd=>rfl);(case hg=>rfl);(case hr=>first|(go_simp;done)|(go_simp;rfl));intro gb234 hg w13 hbox hb;have n_:=ai (bq HB hb) <| ai (Aside0.mk (hbox)) <| ai (bz hg HB) <| bz hg HB;clear HB;obtain ⟨HB,BK234,GW234,GE234⟩:=n_;clear hb hbox hg)|((with_reducible refine gate_dst (N:=3) rfl ?_);refine box_event ?hg (N:=3) ?hd (cs:=#[.int .i64 a1_0,.int .i64 a1_1,.string a1_2,.slice A1_3 l1_3.length c1_3]) (t:=30) ?hr ?_;(case hd=>rfl);(case hg=>rfl);(case hr=>first|(go_simp;done)|(go_simp;rfl));intro gb235 hg w14 hbox hb;have n_:=ai (bw BK234 hb) <| ai (bq HB hb) <| ai (Aside0.mk (hbox)) <| ai (bz hg HB) <| ai (bz hg HB) <| ai (nl hg BK234) <| ng hg BK234;clear BK234 HB;obtain ⟨BK234,HB,BK235,GW235,GE235,NB234_235,NB235_234⟩:=n_;clear hb hbox hg;have:=NB234_235.out;have:=NB235_234.out;obtain ⟨h16_0,h16_1,h16_2,h16_3⟩:=kb4 BK234.out;obtain ⟨z16_0,z16_1,z16_2,z16_3⟩:=kz4 BK234.out;obtain ⟨h17_0,h17_1,h17_2,h17_3⟩:=kb4 BK235.out;obtain ⟨z17_0,z17_1,z17_2,z17_3⟩:=kz4 BK235.out))
    go_ret
    exact ⟨cl,bl HB.out⟩
  ·rw [if_neg c4] at H
   have c4b0:(a0_1 == a1_1) = false:=beq_eq_false_iff_ne.mpr c4;have c4b1:(a0_1 != a1_1) = true:=bne_iff_ne.mpr c4;obtain rfl:=Option.some.inj H
   go_enter Try.func8,Try.ntmps8
   go_wp2_with (first|((with_reducible refine gate_dst (N:=2) rfl ?_);refine box_event ?hg (N:=2) ?hd (cs:=#[.int .i64 a0_0,.int .i64 a0_1,.string a0_2,.slice A0_3 l0_3.length c0_3]) (t:=30) ?hr ?_;(case hd=>rfl);(case hg=>rfl);(case hr=>first|(go_simp;done)|(go_simp;rfl));intro gb234 hg w18 hbox hb;have n_:=ai (bq HB hb) <| ai (Aside0.mk (hbox)) <| ai (bz hg HB) <| bz hg HB;clear HB;obtain ⟨HB,BK234,GW234,GE234⟩:=n_;clear hb hbox hg)|((with_reducible refine gate_dst (N:=3) rfl ?_);refine box_event ?hg (N:=3) ?hd (cs:=#[.int .i64 a1_0,.int .i64 a1_1,.string a1_2,.slice A1_3 l1_3.length c1_3]) (t:=30) ?hr ?_;(case hd=>rfl);(case hg=>rfl);(case hr=>first|(go_simp;done)|(go_simp;rfl));intro gb235 hg w19 hbox hb;have n_:=ai (bw BK234 hb) <| ai (bq HB hb) <| ai (Aside0.mk (hbox)) <| ai (bz hg HB) <| ai (bz hg HB) <| ai (nl hg BK234) <| ng hg BK234;clear BK234 HB;obtain ⟨BK234,HB,BK235,GW235,GE235,NB234_235,NB235_234⟩:=n_;clear hb hbox hg;have:=NB234_235.out;have:=NB235_234.out;obtain ⟨h21_0,h21_1,h21_2,h21_3⟩:=kb4 BK234.out;obtain ⟨z21_0,z21_1,z21_2,z21_3⟩:=kz4 BK234.out;obtain ⟨h22_0,h22_1,h22_2,h22_3⟩:=kb4 BK235.out;obtain ⟨z22_0,z22_1,z22_2,z22_3⟩:=kz4 BK235.out))
   go_ret
   exact ⟨cl,bl HB.out⟩
 ·rw [if_neg c3] at H
  have c3b0:(a0_0 == a1_0) = false:=beq_eq_false_iff_ne.mpr c3;have c3b1:(a0_0 != a1_0) = true:=bne_iff_ne.mpr c3;obtain rfl:=Option.some.inj H
  go_enter Try.func8,Try.ntmps8
  go_wp2_with (first|((with_reducible refine gate_dst (N:=2) rfl ?_);refine box_event ?hg (N:=2) ?hd (cs:=#[.int .i64 a0_0,.int .i64 a0_1,.string a0_2,.slice A0_3 l0_3.length c0_3]) (t:=30) ?hr ?_;(case hd=>rfl);(case hg=>rfl);(case hr=>first|(go_simp;done)|(go_simp;rfl));intro gb234 hg w23 hbox hb;have n_:=ai (bq HB hb) <| ai (Aside0.mk (hbox)) <| ai (bz hg HB) <| bz hg HB;clear HB;obtain ⟨HB,BK234,GW234,GE234⟩:=n_;clear hb hbox hg)|((with_reducible refine gate_dst (N:=3) rfl ?_);refine box_event ?hg (N:=3) ?hd (cs:=#[.int .i64 a1_0,.int .i64 a1_1,.string a1_2,.slice A1_3 l1_3.length c1_3]) (t:=30) ?hr ?_;(case hd=>rfl);(case hg=>rfl);(case hr=>first|(go_simp;done)|(go_simp;rfl));intro gb235 hg w24 hbox hb;have n_:=ai (bw BK234 hb) <| ai (bq HB hb) <| ai (Aside0.mk (hbox)) <| ai (bz hg HB) <| ai (bz hg HB) <| ai (nl hg BK234) <| ng hg BK234;clear BK234 HB;obtain ⟨BK234,HB,BK235,GW235,GE235,NB234_235,NB235_234⟩:=n_;clear hb hbox hg;have:=NB234_235.out;have:=NB235_234.out;obtain ⟨h26_0,h26_1,h26_2,h26_3⟩:=kb4 BK234.out;obtain ⟨z26_0,z26_1,z26_2,z26_3⟩:=kz4 BK234.out;obtain ⟨h27_0,h27_1,h27_2,h27_3⟩:=kb4 BK235.out;obtain ⟨z27_0,z27_1,z27_2,z27_3⟩:=kz4 BK235.out))
  go_ret
  exact ⟨cl,bl HB.out⟩

theorem slices_EqualFunc_of_impl_SameTerm.all (k:Nat):(∀ (A0:Option Addr) (c0:Nat) (l0:List (S30)) (A1:Option Addr) (c1:Nat) (l1:List (S30))  (r:Bool) (w:World) (hr0:Kd.C k30 w A0 l0.length l0) (hc0:l0.length≤c0) (hr1:Kd.C k30 w A1 l1.length l1) (hc1:l1.length≤c1) (h:slices_EqualFunc_of_impl_SameTerm.f k l0 l1 = some r),Calls Try.prog 16 #[.slice A0 l0.length c0,.slice A1 l1.length c1,.func (.func 8) #[] #[]] w fun e w'=>e = .returned (.bool r)∧Below w.heap.size w w')∧(∀ (a0_0:Int) (a0_1:Int) (a0_2:ByteArray) (A0_3:Option Addr) (c0_3:Nat) (l0_3:List (S30)) (a1_0:Int) (a1_1:Int) (a1_2:ByteArray) (A1_3:Option Addr) (c1_3:Nat) (l1_3:List (S30)) (r:Bool) (w:World) (hr0_3:Kd.C k30 w A0_3 l0_3.length l0_3) (hc0_3:l0_3.length≤c0_3) (hr1_3:Kd.C k30 w A1_3 l1_3.length l1_3) (hc1_3:l1_3.length≤c1_3) (h:impl_SameTerm.f k a0_0 a0_1 a0_2 l0_3 a1_0 a1_1 a1_2 l1_3 = some r),Calls Try.prog 8 #[.agg #[.int .i64 a0_0,.int .i64 a0_1,.string a0_2,.slice A0_3 l0_3.length c0_3],.agg #[.int .i64 a1_0,.int .i64 a1_1,.string a1_2,.slice A1_3 l1_3.length c1_3]] w fun e w'=>e = .returned (.bool r)∧Below w.heap.size w w'):=by
 induction k using Nat.strongRecOn with
 | _ k ih =>
 exact ⟨slices_EqualFunc_of_impl_SameTerm.step k (fun k_ h_=>(ih k_ h_).1) (fun k_ h_=>(ih k_ h_).2),impl_SameTerm.step k (fun k_ h_=>(ih k_ h_).1) (fun k_ h_=>(ih k_ h_).2)⟩
theorem slices_EqualFunc_of_impl_SameTerm.calls (k:Nat):∀ (A0:Option Addr) (c0:Nat) (l0:List (S30)) (A1:Option Addr) (c1:Nat) (l1:List (S30))  (r:Bool) (w:World) (hr0:Kd.C k30 w A0 l0.length l0) (hc0:l0.length≤c0) (hr1:Kd.C k30 w A1 l1.length l1) (hc1:l1.length≤c1) (h:slices_EqualFunc_of_impl_SameTerm.f k l0 l1 = some r),Calls Try.prog 16 #[.slice A0 l0.length c0,.slice A1 l1.length c1,.func (.func 8) #[] #[]] w fun e w'=>e = .returned (.bool r)∧Below w.heap.size w w':=(slices_EqualFunc_of_impl_SameTerm.all k).1
theorem impl_SameTerm.calls (k:Nat):∀ (a0_0:Int) (a0_1:Int) (a0_2:ByteArray) (A0_3:Option Addr) (c0_3:Nat) (l0_3:List (S30)) (a1_0:Int) (a1_1:Int) (a1_2:ByteArray) (A1_3:Option Addr) (c1_3:Nat) (l1_3:List (S30)) (r:Bool) (w:World) (hr0_3:Kd.C k30 w A0_3 l0_3.length l0_3) (hc0_3:l0_3.length≤c0_3) (hr1_3:Kd.C k30 w A1_3 l1_3.length l1_3) (hc1_3:l1_3.length≤c1_3) (h:impl_SameTerm.f k a0_0 a0_1 a0_2 l0_3 a1_0 a1_1 a1_2 l1_3 = some r),Calls Try.prog 8 #[.agg #[.int .i64 a0_0,.int .i64 a0_1,.string a0_2,.slice A0_3 l0_3.length c0_3],.agg #[.int .i64 a1_0,.int .i64 a1_1,.string a1_2,.slice A1_3 l1_3.length c1_3]] w fun e w'=>e = .returned (.bool r)∧Below w.heap.size w w':=(slices_EqualFunc_of_impl_SameTerm.all k).2

/-! ### laws_sameTerms: function 7 -/
def laws_sameTerms.l0:Nat → List (S30) → List (S30) → Int → Option (Bool)
 | 0,_,_,_=>none
 | k + 1,x0,x1,x5=>if x5 < (x0.length:Int) then (if 0≤x5 then (if x5 < (x1.length:Int) then ((impl_SameTerm.f k ((rd_T30 x0 x5).f0) ((rd_T30 x0 x5).f1) ((rd_T30 x0 x5).f2) ((rd_T30 x0 x5).f3) ((rd_T30 x1 x5).f0) ((rd_T30 x1 x5).f1) ((rd_T30 x1 x5).f2) ((rd_T30 x1 x5).f3)).bind fun t239=>(if t239 = true then (laws_sameTerms.l0 k x0 x1 (wrap64 (x5 + 1))) else (some false))) else (none)) else (none)) else (some true)
def laws_sameTerms.f (k:Nat) (l0:List (S30)) (l1:List (S30)):Option (Bool):=if (l0.length:Int) = (l1.length:Int) then (laws_sameTerms.l0 k l0 l1 0) else (some false)
theorem laws_sameTerms.mono_l:∀ k,(∀ y0 y1 y2,LeO (laws_sameTerms.l0 k y0 y1 y2) (laws_sameTerms.l0 (k + 1) y0 y1 y2))
 | 0=>fun _ _ _ r h=>by simp [laws_sameTerms.l0] at h
 | k + 1=>by
  have ih0:=laws_sameTerms.mono_l k
  ·intro y0 y1 y2
   unfold laws_sameTerms.l0
   with_reducible repeat' first|apply ih0|apply impl_SameTerm.mono|apply LeO.refl|apply LeO.none|apply LeO.ite|refine LeO.bind ?_ (fun _=>?_)
theorem laws_sameTerms.mono:∀ a0 a1 k,LeO (laws_sameTerms.f k a0 a1) (laws_sameTerms.f (k + 1) a0 a1):=by
 intro a0 a1 k;have ih0:=laws_sameTerms.mono_l k
 unfold laws_sameTerms.f
 with_reducible repeat' first|apply ih0|apply impl_SameTerm.mono|apply LeO.refl|apply LeO.none|apply LeO.ite|refine LeO.bind ?_ (fun _=>?_)
def laws_sameTerms.T6:Bool × List (List Nat × List Nat):=(true,[([],[]),([],[]),([0,1],[0,1]),([2],[2]),([],[]),([],[]),([4,5],[4,5]),([6],[6]),([3,7],[3,7]),([8],[8])])
def laws_sameTerms.B6:List Nat:=[0,0,3,7,0,0,48,112,255,511]
theorem laws_sameTerms.tab6:rtab .any (opsOf Try.f7 6) = laws_sameTerms.T6:=by kernel_rfl
theorem laws_sameTerms.bits6:waitsOk laws_sameTerms.T6.2 laws_sameTerms.B6 = true:=by kernel_rfl
set_option maxHeartbeats 8000000 in
set_option maxRecDepth 100000 in
theorem laws_sameTerms.calls (k:Nat) (A0:Option Addr) (c0:Nat) (l0:List (S30)) (A1:Option Addr) (c1:Nat) (l1:List (S30)) (r:Bool) (w:World) (hr0:Kd.C k30 w A0 l0.length l0) (hc0:l0.length≤c0) (hr1:Kd.C k30 w A1 l1.length l1) (hc1:l1.length≤c1) (h:laws_sameTerms.f k l0 l1 = some r) :
  Calls Try.prog 7 #[.slice A0 l0.length c0,.slice A1 l1.length c1] w fun e w'=>e = .returned (.bool r)∧Below w.heap.size w w':=by
 have hu30:=Try.underlying30;have HR0:=Aside0.mk hr0;have HC0:=Aside0.mk hc0;clear hr0 hc0;have HR1:=Aside0.mk hr1;have HC1:=Aside0.mk hc1;clear hr1 hc1;have HB:=Aside0.mk (Below.refl w.heap.size w);have H:(if (l0.length:Int) = (l1.length:Int) then (laws_sameTerms.l0 k l0 l1 0) else (some false)) = some r:=h;clear h
 by_cases c3:(l0.length:Int) = (l1.length:Int)
 ·rw [if_pos c3] at H
  have c3b0:((l0.length:Int) == (l1.length:Int)) = true:=beq_iff_eq.mpr c3;have c3b1:((l0.length:Int) != (l1.length:Int)) = false:=bne_eq_false_iff_eq.mpr c3;have c3b2:(l0.length == l1.length) = true:=by first|simpa using c3|(simp at c3 ⊢;omega)
  clear c3;have H':=Aside0.mk H;clear H
  go_enter Try.func7,Try.ntmps7
  go_wp2
  go_loopg [5] k (fun kq v5 w'=>∃ (x5_1:Int),v5 = .int .i64 x5_1∧Aside0 (laws_sameTerms.l0 kq l0 l1 x5_1 = some r)∧Aside0 (kq≤k)∧Aside0 (Below w.heap.size w w'))
  case atStart=>exact ⟨(0),(cl2),H',⟨Nat.le_refl _⟩,⟨bl HB.out⟩⟩
  case round =>
   clear H';(try clear c1);(try clear c3);(try clear c3b0);(try clear c3b1);(try clear c3b2);(try clear HB);obtain ⟨x5_1,rfl,HA,HK1,HB⟩:=hrel
   cases gk with
   | zero=>exact absurd HA.out (by simp [laws_sameTerms.l0])
   | succ k1 =>
    have H:=HA.out;clear HA;simp only [laws_sameTerms.l0] at H
    by_cases c4:x5_1 < (l0.length:Int)
    ·rw [if_pos c4] at H
     have c4b0:decide (x5_1 < (l0.length:Int)) = true:=decide_eq_true c4;clear c4
     by_cases c5:0≤x5_1
     ·rw [if_pos c5] at H
      have c5b0:decide (0≤x5_1) = true:=decide_eq_true c5;clear c5
      by_cases c6:x5_1 < (l1.length:Int)
      ·rw [if_pos c6] at H
       have c6b0:decide (x5_1 < (l1.length:Int)) = true:=decide_eq_true c6;clear c6;replace H:=Option.bind_eq_some_iff.mp H;obtain ⟨t239,A70,H⟩:=H;replace H:(if t239 = true then (laws_sameTerms.l0 k1 l0 l1 (wrap64 (x5_1 + 1))) else (some false)) = some r:=H;have A7:=Aside0.mk A70;clear A70
       try go_wp2
       have n_:=dh HB;clear HB;have HB:=n_;clear n_;have p237:0≤(x5_1:Int):=od;have q237:x5_1 < (l0.length:Int):=od;obtain ⟨ad237,A237_3,c237_3,e237,hx237_0,hx237_1,hx237_2,hx237_3,hl237_3,hi237_3⟩:=at_T30 HR0.out x5_1 p237 q237;have hw237_3:=hx237_3;have hw237_2:=hx237_2;have hw237_1:=hx237_1;have hw237_0:=hx237_0;cases e237;replace hx237_0:=cb HB hx237_0;replace hx237_1:=cb HB hx237_1;replace hx237_2:=cb HB hx237_2;replace hx237_3:=cb HB hx237_3;have HR237_3:=Aside0.mk hi237_3;have HC237_3:=Aside0.mk hl237_3;clear hi237_3 hl237_3;replace p237:=eq_true p237;replace q237:=eq_true q237;have p238:0≤(x5_1:Int):=od;have q238:x5_1 < (l1.length:Int):=od;obtain ⟨ad238,A238_3,c238_3,e238,hx238_0,hx238_1,hx238_2,hx238_3,hl238_3,hi238_3⟩:=at_T30 HR1.out x5_1 p238 q238;have hw238_3:=hx238_3;have hw238_2:=hx238_2;have hw238_1:=hx238_1;have hw238_0:=hx238_0;cases e238;replace hx238_0:=cb HB hx238_0;replace hx238_1:=cb HB hx238_1;replace hx238_2:=cb HB hx238_2;replace hx238_3:=cb HB hx238_3;have HR238_3:=Aside0.mk hi238_3;have HC238_3:=Aside0.mk hl238_3;clear hi238_3 hl238_3;replace p238:=eq_true p238;replace q238:=eq_true q238
       refine start_ (n:=10) (S:=fun w'=>w'.cell? (ad237.add ((x5_1).toNat * 4)) = some (.int .i64 ((rd_T30 l0 x5_1).f0))∧w'.cell? ⟨(ad237.add ((x5_1).toNat * 4)).block,(ad237.add ((x5_1).toNat * 4)).off + 1,none⟩ = some (.int .i64 ((rd_T30 l0 x5_1).f1))∧w'.cell? ⟨(ad237.add ((x5_1).toNat * 4)).block,(ad237.add ((x5_1).toNat * 4)).off + 2,none⟩ = some (.string ((rd_T30 l0 x5_1).f2))∧w'.cell? ⟨(ad237.add ((x5_1).toNat * 4)).block,(ad237.add ((x5_1).toNat * 4)).off + 3,none⟩ = some (.slice A237_3 ((rd_T30 l0 x5_1).f3).length c237_3)∧w'.cell? (ad238.add ((x5_1).toNat * 4)) = some (.int .i64 ((rd_T30 l1 x5_1).f0))∧w'.cell? ⟨(ad238.add ((x5_1).toNat * 4)).block,(ad238.add ((x5_1).toNat * 4)).off + 1,none⟩ = some (.int .i64 ((rd_T30 l1 x5_1).f1))∧w'.cell? ⟨(ad238.add ((x5_1).toNat * 4)).block,(ad238.add ((x5_1).toNat * 4)).off + 2,none⟩ = some (.string ((rd_T30 l1 x5_1).f2))∧w'.cell? ⟨(ad238.add ((x5_1).toNat * 4)).block,(ad238.add ((x5_1).toNat * 4)).off + 3,none⟩ = some (.slice A238_3 ((rd_T30 l1 x5_1).f3).length c238_3)) (ds:=[]) #[false,false,false,false,false,false,false,false,false,false] (by kernel_rfl) rfl rfl ⟨(cb HB hw237_0 :),(cb HB hw237_1 :),(cb HB hw237_2 :),(cb HB hw237_3 :),(cb HB hw238_0 :),(cb HB hw238_1 :),(cb HB hw238_2 :),(cb HB hw238_3 :)⟩ (fun hHeld=>?_);refine with_tabW laws_sameTerms.tab6 laws_sameTerms.bits6 (fun HT_ HW_=>?_)
       generalize wr.drew = w9 at HB HR237_3 HR238_3 hx237_0 hx237_1 hx237_2 hx237_3 hx238_0 hx238_1 hx238_2 hx238_3 hHeld ⊢;refine pu 0 17 ?_;refine pu 1 18 ?_;refine pu 2 19 ?_;refine pu 4 21 ?_;refine pu 5 22 ?_;refine pu 6 23 ?_;refine ta 3 20 hHeld ?_;refine ta 7 24 hHeld ?_
       refine one_ (i:=8) (N:=some 25) #[true,true,true,true,true,true,true,true,true,false] rfl rfl (one_of HT_.out (by kernel_rfl)) (by decide) (fun K hK=>?_)
       refine goes_ Try.func8 (by kernel_rfl) rfl #[.agg #[.int .i64 ((rd_T30 l0 x5_1).f0),.int .i64 ((rd_T30 l0 x5_1).f1),.string ((rd_T30 l0 x5_1).f2),.slice A237_3 ((rd_T30 l0 x5_1).f3).length c237_3],.agg #[.int .i64 ((rd_T30 l1 x5_1).f0),.int .i64 ((rd_T30 l1 x5_1).f1),.string ((rd_T30 l1 x5_1).f2),.slice A238_3 ((rd_T30 l1 x5_1).f3).length c238_3]] (by rfl) rfl rfl gs ?_
       with_reducible refine (impl_SameTerm.calls k1 ((rd_T30 l0 x5_1).f0) ((rd_T30 l0 x5_1).f1) ((rd_T30 l0 x5_1).f2) _ _ ((rd_T30 l0 x5_1).f3) ((rd_T30 l1 x5_1).f0) ((rd_T30 l1 x5_1).f1) ((rd_T30 l1 x5_1).f2) _ _ ((rd_T30 l1 x5_1).f3) t239 _ ?side1 ?side2 ?side3 ?side4 A7.out).mono ?_
       (case side1=>exact ck (Kd.C_below HR237_3.out HB.out))
       (case side2=>exact HC237_3.out)
       (case side3=>exact ck (Kd.C_below HR238_3.out HB.out))
       (case side4=>exact HC238_3.out)
       rintro e w10 ⟨rfl,hb⟩
       refine ⟨_,rfl,?_⟩
       have n_:=bq HB hb;clear HB;have HB:=n_;clear n_;(try clear hb)
       refine hK.out _ _ ⟨(cb HB hw237_0 :),(cb HB hw237_1 :),(cb HB hw237_2 :),(cb HB hw237_3 :),(cb HB hw238_0 :),(cb HB hw238_1 :),(cb HB hw238_2 :),(cb HB hw238_3 :)⟩ (fun hHeld=>?_)
       clear hK K
       refine norm_ (a':=?_) ?_ ?_
       rotate_left
       ·show Act.put _ (some 25) _ = _
        simp only [Act.put,List.setIfInBounds_toArray,List.set_cons_zero,List.set_cons_succ,i64_w,i32_w]
        rfl
       refine pu 9 26 ?_
       refine done_ (done_of HT_.out (by kernel_rfl)) ?_
       by_cases c8:t239 = true
       ·subst c8
        have H1:(laws_sameTerms.l0 k1 l0 l1 (wrap64 (x5_1 + 1))) = some r:=by rw [if_pos rfl] at H;exact H
        clear H;have H:=H1;clear H1;have H':=Aside0.mk H;clear H
        try go_wp2
        go_roundg k1
        case measure=>have:=HK1.out;omega
        case rel=>exact ⟨(wrap64 (x5_1 + 1)),(cl2),H',⟨by have:=HK1.out;omega⟩,⟨bl HB.out⟩⟩
       ·replace c8:=Bool.eq_false_iff.mpr c8
        subst c8;have H1:(some false) = some r:=by rw [if_neg (show ¬ (false = true) by decide)] at H;exact H
        clear H;have H:=H1;clear H1;obtain rfl:=Option.some.inj H
        try go_wp2
        go_ret
        exact ⟨cl,bl HB.out⟩
      ·rw [if_neg c6] at H
       exact absurd H (by simp)
     ·rw [if_neg c5] at H
      exact absurd H (by simp)
    ·rw [if_neg c4] at H
     have c4b0:decide (x5_1 < (l0.length:Int)) = false:=decide_eq_false c4;clear c4;obtain rfl:=Option.some.inj H
     go_wp2
     go_ret
     exact ⟨cl,bl HB.out⟩
 ·rw [if_neg c3] at H
  have c3b0:((l0.length:Int) == (l1.length:Int)) = false:=beq_eq_false_iff_ne.mpr c3;have c3b1:((l0.length:Int) != (l1.length:Int)) = true:=bne_iff_ne.mpr c3;have c3b2:(l0.length == l1.length) = false:=by first|simpa using c3|(simp at c3 ⊢;omega)
  obtain rfl:=Option.some.inj H
  go_enter Try.func7,Try.ntmps7
  go_wp2
  go_ret
  exact ⟨cl,bl HB.out⟩

/-! ### impl_LessTerm: function 9 -/
def impl_LessTerm.f (k:Nat) (a0_0:Int) (a0_1:Int) (a0_2:ByteArray) (l0_3:List (S30)) (a1_0:Int) (a1_1:Int) (a1_2:ByteArray) (l1_3:List (S30)):Option (Bool):=(impl_compareTerms.f k a0_0 a0_1 a0_2 l0_3 a1_0 a1_1 a1_2 l1_3).bind fun t242=>(some (decide (t242 < 0)))
theorem impl_LessTerm.mono:∀ a0 a1 a2 a3 a4 a5 a6 a7 k,LeO (impl_LessTerm.f k a0 a1 a2 a3 a4 a5 a6 a7) (impl_LessTerm.f (k + 1) a0 a1 a2 a3 a4 a5 a6 a7):=by
 intro a0 a1 a2 a3 a4 a5 a6 a7 k
 unfold impl_LessTerm.f
 with_reducible repeat' first|apply impl_compareTerms.mono|apply LeO.refl|apply LeO.none|apply LeO.ite|refine LeO.bind ?_ (fun _=>?_)
set_option maxHeartbeats 8000000 in
set_option maxRecDepth 100000 in
theorem impl_LessTerm.calls (k:Nat) (a0_0:Int) (a0_1:Int) (a0_2:ByteArray) (A0_3:Option Addr) (c0_3:Nat) (l0_3:List (S30)) (a1_0:Int) (a1_1:Int) (a1_2:ByteArray) (A1_3:Option Addr) (c1_3:Nat) (l1_3:List (S30)) (r:Bool) (w:World) (hr0_3:Kd.C k30 w A0_3 l0_3.length l0_3) (hc0_3:l0_3.length≤c0_3) (hr1_3:Kd.C k30 w A1_3 l1_3.length l1_3) (hc1_3:l1_3.length≤c1_3) (h:impl_LessTerm.f k a0_0 a0_1 a0_2 l0_3 a1_0 a1_1 a1_2 l1_3 = some r) :
  Calls Try.prog 9 #[.agg #[.int .i64 a0_0,.int .i64 a0_1,.string a0_2,.slice A0_3 l0_3.length c0_3],.agg #[.int .i64 a1_0,.int .i64 a1_1,.string a1_2,.slice A1_3 l1_3.length c1_3]] w fun e w'=>e = .returned (.bool r)∧Below w.heap.size w w':=by
 have hu30:=Try.underlying30;have HR0_3:=Aside0.mk hr0_3;have HC0_3:=Aside0.mk hc0_3;clear hr0_3 hc0_3;have HR1_3:=Aside0.mk hr1_3;have HC1_3:=Aside0.mk hc1_3;clear hr1_3 hc1_3;have HB:=Aside0.mk (Below.refl w.heap.size w);have H:((impl_compareTerms.f k a0_0 a0_1 a0_2 l0_3 a1_0 a1_1 a1_2 l1_3).bind fun t242=>(some (decide (t242 < 0)))) = some r:=h;clear h;replace H:=Option.bind_eq_some_iff.mp H;obtain ⟨t242,A30,H⟩:=H;replace H:(some (decide (t242 < 0))) = some r:=H;have A3:=Aside0.mk A30;clear A30;obtain rfl:=Option.some.inj H
 go_enter Try.func9,Try.ntmps9
 go_wp2_with (first|((with_reducible refine gate_dst (N:=2) rfl ?_);refine box_event ?hg (N:=2) ?hd (cs:=#[.int .i64 a0_0,.int .i64 a0_1,.string a0_2,.slice A0_3 l0_3.length c0_3]) (t:=30) ?hr ?_;(case hd=>rfl);(case hg=>rfl);(case hr=>first|(go_simp;done)|(go_simp;rfl));intro gb240 hg w4 hbox hb;have n_:=ai (bq HB hb) <| ai (Aside0.mk (hbox)) <| ai (bz hg HB) <| bz hg HB;clear HB;obtain ⟨HB,BK240,GW240,GE240⟩:=n_;clear hb hbox hg)|((with_reducible refine gate_dst (N:=3) rfl ?_);refine box_event ?hg (N:=3) ?hd (cs:=#[.int .i64 a1_0,.int .i64 a1_1,.string a1_2,.slice A1_3 l1_3.length c1_3]) (t:=30) ?hr ?_;(case hd=>rfl);(case hg=>rfl);(case hr=>first|(go_simp;done)|(go_simp;rfl));intro gb241 hg w5 hbox hb;have n_:=ai (bw BK240 hb) <| ai (bq HB hb) <| ai (Aside0.mk (hbox)) <| ai (bz hg HB) <| ai (bz hg HB) <| ai (nl hg BK240) <| ng hg BK240;clear BK240 HB;obtain ⟨BK240,HB,BK241,GW241,GE241,NB240_241,NB241_240⟩:=n_;clear hb hbox hg;have:=NB240_241.out;have:=NB241_240.out;obtain ⟨h7_0,h7_1,h7_2,h7_3⟩:=kb4 BK240.out;obtain ⟨z7_0,z7_1,z7_2,z7_3⟩:=kz4 BK240.out;obtain ⟨h8_0,h8_1,h8_2,h8_3⟩:=kb4 BK241.out;obtain ⟨z8_0,z8_1,z8_2,z8_3⟩:=kz4 BK241.out)|((with_reducible refine gate_callee (f:=15) rfl ?_);refine goesL_ (some 7) rfl rfl Try.func15 (by kernel_rfl) rfl #[.agg #[.int .i64 a0_0,.int .i64 a0_1,.string a0_2,.slice A0_3 l0_3.length c0_3],.agg #[.int .i64 a1_0,.int .i64 a1_1,.string a1_2,.slice A1_3 l1_3.length c1_3]] rfl gs ?_;(with_reducible refine (impl_compareTerms.calls k a0_0 a0_1 a0_2 _ _ l0_3 a1_0 a1_1 a1_2 _ _ l1_3 t242 _ ?side1 ?side2 ?side3 ?side4 A3.out).mono ?_);(case side1=>exact ck (Kd.C_below HR0_3.out HB.out));(case side2=>exact HC0_3.out);(case side3=>exact ck (Kd.C_below HR1_3.out HB.out));(case side4=>exact HC1_3.out);rintro e w9 ⟨rfl,hb⟩;refine ⟨_,rfl,?_⟩;have n_:=ai (bw BK240 hb) <| ai (bw BK241 hb) <| bq HB hb;clear BK240 BK241 HB;obtain ⟨BK240,BK241,HB⟩:=n_;(try clear hb);(try clear hi)))
 go_ret
 exact ⟨cl,bl HB.out⟩

end Go.Proofs.Ytkpompobnmdneaa.QFnSorted
