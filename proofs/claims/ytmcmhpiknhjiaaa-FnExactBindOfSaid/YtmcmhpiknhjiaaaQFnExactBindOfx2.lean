-- Written by a program of this workplace (print2.py) for this claim, over the print's words.
import Derived.Test.YtmcmhpiknhjiaaaQFnExactBindOfx0
import Derived.Test.YtmcmhpiknhjiaaaQFnExactBindOfx1
namespace Go.Proofs.Ytmcmhpiknhjiaaa.QFnExactBindOf
open Go.RowKit Go.Proofs.YtmcmhpiknhjiaaaW.PrintWords Go.Proofs.YtmcmhpiknhjiaaaW.PrintLast Go.Proofs.YtmcmhpiknhjiaaaW.PrintMore
attribute [local go_sem] max2_int min2_int max_two min_two max_three min_three max_four min_four   -- for this text's walks alone
set_option linter.unusedVariables false
set_option linter.unusedSimpArgs false

/-! ### spec_BindOf: function 5 -/
def spec_BindOf.l0:Nat → List (S43) → ByteArray → Int → Option (Int × Int × ByteArray × (List (S26)) × Bool)
 | 0,_,_,_=>none
 | k + 1,x0,x1,x6=>if x6 < (x0.length:Int) then (if 0≤x6 then (if ((rd_T43 x0 x6).f0).toList = x1.toList then ((spec_l2Copy.f k ((rd_T43 x0 x6).f1.f0) ((rd_T43 x0 x6).f1.f1) ((rd_T43 x0 x6).f1.f2) ((rd_T43 x0 x6).f1.f3)).bind fun bt128=>(some (bt128.1,bt128.2.1,bt128.2.2.1,bt128.2.2.2,true))) else (spec_BindOf.l0 k x0 x1 (wrap64 (x6 + 1)))) else (none)) else (some (0,0,(⟨#[]⟩:ByteArray),([]:List (S26)),false))
def spec_BindOf.f (k:Nat) (l0:List (S43)) (a1:ByteArray):Option (Int × Int × ByteArray × (List (S26)) × Bool):=spec_BindOf.l0 k l0 a1 0
theorem spec_BindOf.mono_l:∀ k,(∀ y0 y1 y2,LeO (spec_BindOf.l0 k y0 y1 y2) (spec_BindOf.l0 (k + 1) y0 y1 y2))
 | 0=>fun _ _ _ r h=>by simp [spec_BindOf.l0] at h
 | k + 1=>by
  have ih0:=spec_BindOf.mono_l k
  ·intro y0 y1 y2
   unfold spec_BindOf.l0
   with_reducible repeat' first|apply ih0|apply spec_l2Copy.mono|apply LeO.refl|apply LeO.none|apply LeO.ite|refine LeO.bind ?_ (fun _=>?_)
theorem spec_BindOf.mono:∀ a0 a1 k,LeO (spec_BindOf.f k a0 a1) (spec_BindOf.f (k + 1) a0 a1):=by
 intro a0 a1 k;have ih0:=spec_BindOf.mono_l k
 unfold spec_BindOf.f
 with_reducible repeat' first|apply ih0|apply spec_l2Copy.mono|apply LeO.refl|apply LeO.none|apply LeO.ite|refine LeO.bind ?_ (fun _=>?_)
set_option maxHeartbeats 8000000 in
set_option maxRecDepth 100000 in
theorem spec_BindOf.calls (k:Nat) (A0:Option Addr) (c0:Nat) (l0:List (S43)) (a1:ByteArray) (r1:Int) (r2:Int) (r3:ByteArray) (r4:List (S26)) (r5:Bool) (w:World) (hr0:Kd.C k43 w A0 l0.length l0) (hc0:l0.length≤c0) (h:spec_BindOf.f k l0 a1 = some (r1,r2,r3,r4,r5)) :
  Calls Try.prog 5 #[.slice A0 l0.length c0,.string a1] w fun e w'=>∃ v3_:Value,e = .returned (.tuple #[.agg #[.int .i64 r1,.int .i64 r2,.string r3,v3_],.bool r5])∧Kd.R k26 26 w' w.heap.size (fun _=>True) v3_ r4∧Below w.heap.size w w':=by
 have hu26:=Try.underlying26;have HR0:=Aside0.mk hr0;have HC0:=Aside0.mk hc0;clear hr0 hc0;have HB:=Aside0.mk (Below.refl w.heap.size w);have H:(spec_BindOf.l0 k l0 a1 0) = some (r1,r2,r3,r4,r5):=h;clear h;have H':=Aside0.mk H;clear H
 go_enter Try.func5,Try.ntmps5
 go_wp2_with (first|((with_reducible refine gate_dst (N:=4) rfl ?_);refine box_event ?hg (N:=4) ?hd (cs:=#[.int .i64 0,.int .i64 0,.string (⟨#[]⟩:ByteArray),.slice none 0 0]) (t:=26) ?hr ?_;(case hd=>rfl);(case hg=>rfl);(case hr=>first|(go_simp;done)|(go_simp;rfl));intro gb125 hg w3 hbox hb;have n_:=ai (bq HB hb) <| ai (Aside0.mk (hbox)) <| ai (bz hg HB) <| bz hg HB;clear HB;obtain ⟨HB,BK125,GW125,GE125⟩:=n_;clear hb hbox hg))
 go_loopg [6] k (fun kq v6 w'=>∃ (x6_1:Int) (x126000_1:Int) (x126001_1:Int) (x126002_1:ByteArray),v6 = .int .i64 x6_1∧Aside0 (spec_BindOf.l0 kq l0 a1 x6_1 = some (r1,r2,r3,r4,r5))∧Aside0 (kq≤k)∧Aside0 (w'.heap[gb125]? = some (.cells #[.int .i64 x126000_1,.int .i64 x126001_1,.string x126002_1,(.slice none 0 0)] 26 (0,0)))∧Aside0 (Below w.heap.size w w'))
 case atStart=>exact ⟨(0),(0),(0),((⟨#[]⟩:ByteArray)),(cl2),H',⟨Nat.le_refl _⟩,⟨bk BK125.out⟩,⟨bl HB.out⟩⟩
 case round =>
  clear H';(try clear BK125);(try clear HB);obtain ⟨x6_1,x126000_1,x126001_1,x126002_1,rfl,HA,HK1,BK125,HB⟩:=hrel
  cases gk with
  | zero=>exact absurd HA.out (by simp [spec_BindOf.l0])
  | succ k1 =>
   have H:=HA.out;clear HA;simp only [spec_BindOf.l0] at H
   by_cases c4:x6_1 < (l0.length:Int)
   ·rw [if_pos c4] at H
    have c4b0:decide (x6_1 < (l0.length:Int)) = true:=decide_eq_true c4;clear c4
    by_cases c5:0≤x6_1
    ·rw [if_pos c5] at H
     have c5b0:decide (0≤x6_1) = true:=decide_eq_true c5;clear c5
     by_cases c6:((rd_T43 l0 x6_1).f0).toList = a1.toList
     ·rw [if_pos c6] at H
      have c6b0:(((rd_T43 l0 x6_1).f0).toList == a1.toList) = true:=beq_iff_eq.mpr c6;have c6b1:(((rd_T43 l0 x6_1).f0).toList != a1.toList) = false:=bne_eq_false_iff_eq.mpr c6;clear c6;replace H:=Option.bind_eq_some_iff.mp H;obtain ⟨⟨t128,t129,t130,t131⟩,A70,H⟩:=H;replace H:(some (t128,t129,t130,t131,true)) = some (r1,r2,r3,r4,r5):=H;have A7:=Aside0.mk A70;clear A70;simp only [Option.some.injEq,Prod.mk.injEq] at H;obtain ⟨rfl,rfl,rfl,rfl,rfl⟩:=H;have p126:0≤(x6_1:Int):=od;have q126:x6_1 < (l0.length:Int):=od;obtain ⟨ad126,A126_4,c126_4,e126,hx126_0,hx126_1,hx126_2,hx126_3,hx126_4,hl126_4,hi126_4⟩:=at_T43 HR0.out x6_1 p126 q126;cases e126;replace hx126_0:=cb HB hx126_0;replace hx126_1:=cb HB hx126_1;replace hx126_2:=cb HB hx126_2;replace hx126_3:=cb HB hx126_3;replace hx126_4:=cb HB hx126_4;have HR126_4:=Aside0.mk hi126_4;have HC126_4:=Aside0.mk hl126_4;clear hi126_4 hl126_4;replace p126:=eq_true p126;replace q126:=eq_true q126;have p127:0≤(x6_1:Int):=od;have q127:x6_1 < (l0.length:Int):=od;obtain ⟨ad127,A127_4,c127_4,e127,hx127_0,hx127_1,hx127_2,hx127_3,hx127_4,hl127_4,hi127_4⟩:=at_T43 HR0.out x6_1 p127 q127;obtain rfl:ad126 = ad127:=(by injection e127);replace hx127_0:=cb HB hx127_0;replace hx127_1:=cb HB hx127_1;replace hx127_2:=cb HB hx127_2;replace hx127_3:=cb HB hx127_3;replace hx127_4:=cb HB hx127_4;have HR127_4:=Aside0.mk hi127_4;have HC127_4:=Aside0.mk hl127_4;clear hi127_4 hl127_4;replace p127:=eq_true p127;replace q127:=eq_true q127;have ea_:=Option.some.inj (hx126_4.symm.trans hx127_4)
      injection ea_ with ea_ en_ ec_
      subst ea_;subst ec_;clear en_
      go_wp2_with (first|((with_reducible refine gate_callee (f:=14) rfl ?_);refine goesL_ (some 25) rfl rfl Try.func14 (by kernel_rfl) rfl #[.agg #[.int .i64 ((rd_T43 l0 x6_1).f1.f0),.int .i64 ((rd_T43 l0 x6_1).f1.f1),.string ((rd_T43 l0 x6_1).f1.f2),.slice A126_4 ((rd_T43 l0 x6_1).f1.f3).length c126_4]] rfl gs ?_;(with_reducible refine (spec_l2Copy.calls k1 ((rd_T43 l0 x6_1).f1.f0) ((rd_T43 l0 x6_1).f1.f1) ((rd_T43 l0 x6_1).f1.f2) _ _ ((rd_T43 l0 x6_1).f1.f3) t128 t129 t130 t131 _ ?side1 ?side2 A7.out).mono ?_);(case side1=>exact ck (Kd.C_below HR127_4.out HB.out));(case side2=>exact HC127_4.out);rintro e w8 ⟨v132,rfl,ho0,hb⟩;refine ⟨_,rfl,?_⟩;have n_:=ai (Aside0.mk (Kd.R_lower (Kd.R_newB ho0 (g:=gb125) (o:=.cells #[.int .i64 x126000_1,.int .i64 x126001_1,.string x126002_1,.slice none 0 0] 26 (0,0)) (bk BK125.out)) (below_size (bl HB.out)))) <| ai (bw BK125 hb) <| bq HB hb;clear BK125 HB;obtain ⟨HO133,BK125,HB⟩:=n_;(try clear hb);(try clear ho0);obtain ⟨h9_0,h9_1,h9_2,h9_3⟩:=kb4 BK125.out;obtain ⟨z9_0,z9_1,z9_2,z9_3⟩:=kz4 BK125.out;obtain ⟨Ao10,co10,eo10⟩:=Kd.R_slice HO133.out;subst eo10))
      refine bodyPost_ret (results_ct rfl _ _ gb125 26 #[.int .i64 t128,.int .i64 t129,.string t130,.slice Ao10 t131.length co10] (0,0) _ rfl (bmp BK125.out) Try.underlying26 rfl (by kernel_rfl)) rfl ?_
      exact ⟨_,cl,by (with_reducible repeat (first|apply Kd.R_alloc|apply Kd.R_drewN|apply Kd.R_drew));exact Kd.R_mono (rfm (Kd.R_mono HO133.out (fun k_ hk=>(⟨hk,hk.2⟩:_∧k_≠gb125)))) (fun _ hk=>trivial),bl HB.out⟩
     ·rw [if_neg c6] at H
      have c6b0:(((rd_T43 l0 x6_1).f0).toList == a1.toList) = false:=beq_eq_false_iff_ne.mpr c6;have c6b1:(((rd_T43 l0 x6_1).f0).toList != a1.toList) = true:=bne_iff_ne.mpr c6;have H':=Aside0.mk H;clear H;have p126:0≤(x6_1:Int):=od;have q126:x6_1 < (l0.length:Int):=od;obtain ⟨ad126,A126_4,c126_4,e126,hx126_0,hx126_1,hx126_2,hx126_3,hx126_4,hl126_4,hi126_4⟩:=at_T43 HR0.out x6_1 p126 q126;cases e126;replace hx126_0:=cb HB hx126_0;replace hx126_1:=cb HB hx126_1;replace hx126_2:=cb HB hx126_2;replace hx126_3:=cb HB hx126_3;replace hx126_4:=cb HB hx126_4;have HR126_4:=Aside0.mk hi126_4;have HC126_4:=Aside0.mk hl126_4;clear hi126_4 hl126_4;replace p126:=eq_true p126;replace q126:=eq_true q126
      go_wp2
      go_roundg k1
      case measure=>have:=HK1.out;omega
      case rel=>exact ⟨(wrap64 (x6_1 + 1)),(x126000_1),(x126001_1),(x126002_1),(cl2),H',⟨by have:=HK1.out;omega⟩,⟨bk BK125.out⟩,⟨bl HB.out⟩⟩
    ·rw [if_neg c5] at H
     exact absurd H (by simp)
   ·rw [if_neg c4] at H
    have c4b0:decide (x6_1 < (l0.length:Int)) = false:=decide_eq_false c4;clear c4;simp only [Option.some.injEq,Prod.mk.injEq] at H;obtain ⟨rfl,rfl,rfl,rfl,rfl⟩:=H;obtain ⟨h11_0,h11_1,h11_2,h11_3⟩:=kb4 BK125.out;obtain ⟨z11_0,z11_1,z11_2,z11_3⟩:=kz4 BK125.out
    go_wp2
    refine bodyPost_ret (results_ct rfl _ _ gb125 26 #[.int .i64 0,.int .i64 0,.string (⟨#[]⟩:ByteArray),.slice none 0 0] (0,0) _ rfl (bmp BK125.out) Try.underlying26 rfl (by kernel_rfl)) rfl ?_
    exact ⟨_,cl,by first|exact Kd.R_nil _ _ _ _ _|exact Kd.N_nil _ _ _ _ _|exact Kd.V_nil _ _ _ _ _|exact Kd.Q_nil _ _ _ _ _|exact Kd.S_nil _ _ _ _ _,bl HB.out⟩

mutual
def laws_toTermS.l0:Nat → List (S39) → List (S26) → Int → Option ((List (S26)))
 | 0,_,_,_=>none
 | k + 1,x0,x3,x4=>if x4 < (x0.length:Int) then (if 0≤x4 then ((laws_toTerm.f k ((rd_T39 x0 x4).f0) ((rd_T39 x0 x4).f1) ((rd_T39 x0 x4).f2) ((rd_T39 x0 x4).f3)).bind fun bt138=>(if x4 < (x3.length:Int) then (laws_toTermS.l0 k x0 (x3.set (x4:Int).toNat (⟨bt138.1,bt138.2.1,bt138.2.2.1,bt138.2.2.2⟩:S26)) (wrap64 (x4 + 1))) else (none))) else (none)) else (some x3)
def laws_toTermS.f:Nat → List (S39) → Option ((List (S26)))
 | 0,_=>none
 | k + 1,l0=>if 0≤(l0.length:Int) then (if ((l0.length:Int):Int).toNat≤5026338869833 then (laws_toTermS.l0 k l0 (List.replicate ((l0.length:Int):Int).toNat z26) 0) else (none)) else (none)
def laws_toTerm.f:Nat → Int → Int → ByteArray → List (S39) → Option (Int × Int × ByteArray × (List (S26)))
 | 0,_,_,_,_=>none
 | k + 1,a0_0,a0_1,a0_2,l0_3=>(laws_toTermS.f k l0_3).bind fun t148=>(some (a0_0,a0_1,a0_2,t148))
end
theorem laws_toTermS.mono_g:∀ k,(∀ y0,LeO (laws_toTermS.f k y0) (laws_toTermS.f (k + 1) y0))∧(∀ y0 y1 y2,LeO (laws_toTermS.l0 k y0 y1 y2) (laws_toTermS.l0 (k + 1) y0 y1 y2))∧(∀ y0 y1 y2 y3,LeO (laws_toTerm.f k y0 y1 y2 y3) (laws_toTerm.f (k + 1) y0 y1 y2 y3))
 | 0=>⟨fun _ r h=>by simp [laws_toTermS.f] at h,fun _ _ _ r h=>by simp [laws_toTermS.l0] at h,fun _ _ _ _ r h=>by simp [laws_toTerm.f] at h⟩
 | k + 1=>by
  obtain ⟨ih0,ih1,ih2⟩:=laws_toTermS.mono_g k
  refine ⟨?_,?_,?_⟩
  ·intro y0
   unfold laws_toTermS.f
   with_reducible repeat' first|apply ih0|apply ih1|apply ih2|apply LeO.refl|apply LeO.none|apply LeO.ite|refine LeO.bind ?_ (fun _=>?_)
  ·intro y0 y1 y2
   unfold laws_toTermS.l0
   with_reducible repeat' first|apply ih0|apply ih1|apply ih2|apply LeO.refl|apply LeO.none|apply LeO.ite|refine LeO.bind ?_ (fun _=>?_)
  ·intro y0 y1 y2 y3
   unfold laws_toTerm.f
   with_reducible repeat' first|apply ih0|apply ih1|apply ih2|apply LeO.refl|apply LeO.none|apply LeO.ite|refine LeO.bind ?_ (fun _=>?_)
theorem laws_toTermS.mono:∀ a0 k,LeO (laws_toTermS.f k a0) (laws_toTermS.f (k + 1) a0):=by
 intro a0 k;obtain ⟨ih0,ih1,ih2⟩:=laws_toTermS.mono_g k
 exact ih0 a0
theorem laws_toTerm.mono:∀ a0 a1 a2 a3 k,LeO (laws_toTerm.f k a0 a1 a2 a3) (laws_toTerm.f (k + 1) a0 a1 a2 a3):=by
 intro a0 a1 a2 a3 k;obtain ⟨ih0,ih1,ih2⟩:=laws_toTermS.mono_g k
 exact ih2 a0 a1 a2 a3
/-! ### laws_toTermS: function 26 -/
set_option maxHeartbeats 8000000 in
set_option maxRecDepth 100000 in
theorem laws_toTermS.step (k:Nat) (ih_laws_toTermS:∀ k_,k_ < k → ∀ (A0:Option Addr) (c0:Nat) (l0:List (S39)) (r:List (S26)) (w:World) (hr0:Kd.C k39 w A0 l0.length l0) (hc0:l0.length≤c0) (h:laws_toTermS.f k_ l0 = some r),Calls Try.prog 26 #[.slice A0 l0.length c0] w fun e w'=>∃ v0_:Value,e = .returned (v0_)∧Kd.R k26 26 w' w.heap.size (fun _=>True) v0_ r∧Below w.heap.size w w') (ih_laws_toTerm:∀ k_,k_ < k → ∀ (a0_0:Int) (a0_1:Int) (a0_2:ByteArray) (A0_3:Option Addr) (c0_3:Nat) (l0_3:List (S39)) (r1:Int) (r2:Int) (r3:ByteArray) (r4:List (S26)) (w:World) (hr0_3:Kd.C k39 w A0_3 l0_3.length l0_3) (hc0_3:l0_3.length≤c0_3) (h:laws_toTerm.f k_ a0_0 a0_1 a0_2 l0_3 = some (r1,r2,r3,r4)),Calls Try.prog 23 #[.agg #[.int .i64 a0_0,.int .i64 a0_1,.string a0_2,.slice A0_3 l0_3.length c0_3]] w fun e w'=>∃ v3_:Value,e = .returned (.agg #[.int .i64 r1,.int .i64 r2,.string r3,v3_])∧Kd.R k26 26 w' w.heap.size (fun _=>True) v3_ r4∧Below w.heap.size w w'):∀ (A0:Option Addr) (c0:Nat) (l0:List (S39)) (r:List (S26)) (w:World) (hr0:Kd.C k39 w A0 l0.length l0) (hc0:l0.length≤c0) (h:laws_toTermS.f k l0 = some r),
  Calls Try.prog 26 #[.slice A0 l0.length c0] w fun e w'=>∃ v0_:Value,e = .returned (v0_)∧Kd.R k26 26 w' w.heap.size (fun _=>True) v0_ r∧Below w.heap.size w w':=by
 intro A0 c0 l0 r w hr0 hc0 h
 cases k with
 | zero=>exact absurd h (by simp [laws_toTermS.f])
 | succ k =>
 simp only [laws_toTermS.f] at h;have hu39:=Try.underlying39;have hu26:=Try.underlying26;have HR0:=Aside0.mk hr0;have HC0:=Aside0.mk hc0;clear hr0 hc0;have HB:=Aside0.mk (Below.refl w.heap.size w);have H:(if 0≤(l0.length:Int) then (if ((l0.length:Int):Int).toNat≤5026338869833 then (laws_toTermS.l0 k l0 (List.replicate ((l0.length:Int):Int).toNat z26) 0) else (none)) else (none)) = some r:=h;clear h
 by_cases c2:0≤(l0.length:Int)
 ·rw [if_pos c2] at H
  have c2b0:=eq_true c2;have c2b1:decide (0≤(l0.length:Int)) = true:=decide_eq_true c2;clear c2
  by_cases c3:((l0.length:Int):Int).toNat≤5026338869833
  ·rw [if_pos c3] at H
   have c3b0:=eq_true c3;have c3b1:decide (((l0.length:Int):Int).toNat≤5026338869833) = true:=decide_eq_true c3;clear c3;obtain ⟨y134,hy134⟩:∃ y_:List (S26),y_ = (List.replicate ((l0.length:Int):Int).toNat z26):=⟨_,rfl⟩;replace H:(laws_toTermS.l0 k l0 y134 0) = some r:=by first|(rw [hy134];with_reducible exact H)|(have H2_:=(Option.bind_some _ _).symm.trans H;rw [hy134];with_reducible exact H2_)|(have H2_:=(Option.bind_some _ _).symm.trans H;with_reducible exact H2_)|with_reducible exact H|(rw [hy134];exact H)|exact H
   have Ny134:=Aside0.mk hy134;clear hy134;have H':=Aside0.mk H;clear H
   go_enter Try.func26,Try.ntmps26
   go_wp2_with (first|((with_reducible refine gate_dst (N:=7) rfl ?_);refine Kd.R_make k26 _ 26 rfl (N:=7) rfl 24 _ _ rfl (l0.length:Int) rfl rfl Try.underlying24 (.agg #[(.int .i64 0),(.int .i64 0),(.string ⟨#[]⟩),(.slice none 0 0)]) 56 info26 rfl (by decide) (by omega) z26 (ok:=fun _=>True) (okp:=fun _=>True) (k26_mkM _ _ _ z26 (Kd.R_nil _ _ _ _ _)) (fun _ hk=>hk) trivial (od) (Nat.le_trans (Nat.mul_le_mul_right _ (od:(l0.length:Int).toNat≤5026338869833)) (by omega)) (Below.refl _ _) (Nat.le_refl _) ?_;intro v135 w4 ho5 hb hg_ hnew_;clear hg_ hnew_;(first|rw [← Ny134.out] at ho5|(simp only [Int.reduceToNat] at ho5;rw [← Ny134.out] at ho5));have n_:=ai (Aside0.mk (Kd.R_lower ho5 (below_size (bl HB.out)))) <| bq HB hb;clear HB;obtain ⟨HO136,HB⟩:=n_;clear hb ho5))
   go_loopg [4] k (fun kq v4 w'=>∃ (x3_1:List (S26)) (x4_1:Int),v4 = .int .i64 x4_1∧Aside0 (laws_toTermS.l0 kq l0 x3_1 x4_1 = some r)∧Aside0 (kq≤k)∧Aside0 (Kd.R k26 26 w' w.heap.size (fun _=>True) v135 x3_1)∧Aside0 (Below w.heap.size w w'))
   case atStart=>exact ⟨(y134),(0),(cl2),H',⟨Nat.le_refl _⟩,⟨rk HO136.out⟩,⟨bl HB.out⟩⟩
   case round =>
    clear H';(try clear c2);(try clear c2b0);(try clear c2b1);(try clear c3);(try clear c3b0);(try clear c3b1);(try clear HB);obtain ⟨x3_1,x4_1,rfl,HA,HK1,HO_3,HB⟩:=hrel
    cases gk with
    | zero=>exact absurd HA.out (by simp [laws_toTermS.l0])
    | succ k1 =>
     have H:=HA.out;clear HA;simp only [laws_toTermS.l0] at H
     by_cases c6:x4_1 < (l0.length:Int)
     ·rw [if_pos c6] at H
      have c6b0:decide (x4_1 < (l0.length:Int)) = true:=decide_eq_true c6;clear c6
      by_cases c7:0≤x4_1
      ·rw [if_pos c7] at H
       have c7b0:decide (0≤x4_1) = true:=decide_eq_true c7;clear c7;replace H:=Option.bind_eq_some_iff.mp H;obtain ⟨⟨t138,t139,t140,t141⟩,A80,H⟩:=H;replace H:(if x4_1 < (x3_1.length:Int) then (laws_toTermS.l0 k1 l0 (x3_1.set (x4_1:Int).toNat (⟨t138,t139,t140,t141⟩:S26)) (wrap64 (x4_1 + 1))) else (none)) = some r:=H;have A8:=Aside0.mk A80;clear A80
       by_cases c9:x4_1 < (x3_1.length:Int)
       ·rw [if_pos c9] at H
        have c9b0:decide (x4_1 < (x3_1.length:Int)) = true:=decide_eq_true c9;clear c9;obtain ⟨y144,hy144⟩:∃ y_:List (S26),y_ = (x3_1.set (x4_1:Int).toNat (⟨t138,t139,t140,t141⟩:S26)):=⟨_,rfl⟩;replace H:(laws_toTermS.l0 k1 l0 y144 (wrap64 (x4_1 + 1))) = some r:=by first|(rw [hy144];with_reducible exact H)|(have H2_:=(Option.bind_some _ _).symm.trans H;rw [hy144];with_reducible exact H2_)|(have H2_:=(Option.bind_some _ _).symm.trans H;with_reducible exact H2_)|with_reducible exact H|(rw [hy144];exact H)|exact H
        have Ny144:=Aside0.mk hy144;clear hy144;have H':=Aside0.mk H;clear H;have p137:0≤(x4_1:Int):=od;have q137:x4_1 < (l0.length:Int):=od;obtain ⟨ad137,A137_3,c137_3,e137,hx137_0,hx137_1,hx137_2,hx137_3,hl137_3,hi137_3⟩:=at_T39 HR0.out x4_1 p137 q137;cases e137;replace hx137_0:=cb HB hx137_0;replace hx137_1:=cb HB hx137_1;replace hx137_2:=cb HB hx137_2;replace hx137_3:=cb HB hx137_3;have HR137_3:=Aside0.mk hi137_3;have HC137_3:=Aside0.mk hl137_3;clear hi137_3 hl137_3;replace p137:=eq_true p137;replace q137:=eq_true q137
        go_wp2_with (first|((with_reducible refine gate_callee (f:=23) rfl ?_);refine goesL_ (some 20) rfl rfl Try.func23 (by kernel_rfl) rfl #[.agg #[.int .i64 ((rd_T39 l0 x4_1).f0),.int .i64 ((rd_T39 l0 x4_1).f1),.string ((rd_T39 l0 x4_1).f2),.slice A137_3 ((rd_T39 l0 x4_1).f3).length c137_3]] rfl gs ?_;(with_reducible refine (ih_laws_toTerm k1 (by have:=HK1.out;omega) ((rd_T39 l0 x4_1).f0) ((rd_T39 l0 x4_1).f1) ((rd_T39 l0 x4_1).f2) _ _ ((rd_T39 l0 x4_1).f3) t138 t139 t140 t141 _ ?side1 ?side2 A8.out).mono ?_);(case side1=>exact ck (Kd.C_below HR137_3.out HB.out));(case side2=>exact HC137_3.out);rintro e w11 ⟨v142,rfl,ho0,hb⟩;refine ⟨_,rfl,?_⟩;have n_:=ai (Aside0.mk (Kd.R_elder' (rk HO_3.out) (Kd.R_base ho0) hb)) <| ai (Aside0.mk (Kd.R_lower (Kd.R_new' ho0 (Kd.R_lt (rk HO_3.out))) (below_size (bl HB.out)))) <| bq HB hb;clear HO_3 HB;obtain ⟨HO_3,HO143,HB⟩:=n_;(try clear hb);(try clear hk);(try clear ho0);have p10:0≤(x4_1:Int):=od;have q10:(x4_1:Int) < ((x3_1.length:Int):Int):=od;obtain ⟨go10,co10,eo10,gb10,gl10,cl10,HG10⟩:=Kd.R_form HO_3.out (by omega);(first|cases eo10|(injection eo10 with ea_ en_ ec_;(first|subst ea_|(injection ea_ with ea_;subst ea_));subst ec_;clear en_));have GB10:=Aside0.mk gb10;have GG10:=Aside0.mk HG10;clear gb10 gl10 HG10;obtain ⟨ce10,hcl10,hM10,hcc10,hfr10⟩:=Kd.R_elem HO_3.out z26 (x4_1:Int) p10 q10;obtain ⟨ve10_3,rfl,ge10_3⟩:=k26_openM hM10;have hx10_0:w11.cell? ⟨go10,(x4_1:Int).toNat * 4,none⟩ = some (.int .i64 ((rd_T26 x3_1 x4_1).f0)):=hcc10 0 _ rfl;have hx10_1:w11.cell? ⟨go10,(x4_1:Int).toNat * 4 + 1,none⟩ = some (.int .i64 ((rd_T26 x3_1 x4_1).f1)):=hcc10 1 _ rfl;have hx10_2:w11.cell? ⟨go10,(x4_1:Int).toNat * 4 + 2,none⟩ = some (.string ((rd_T26 x3_1 x4_1).f2)):=hcc10 2 _ rfl;have hx10_3:w11.cell? ⟨go10,(x4_1:Int).toNat * 4 + 3,none⟩ = some (ve10_3):=hcc10 3 _ rfl;have hf10_0:w11.frozen? ⟨go10,(x4_1:Int).toNat * 4,none⟩ = false:=hfr10 0;have hf10_1:w11.frozen? ⟨go10,(x4_1:Int).toNat * 4 + 1,none⟩ = false:=hfr10 1;have hf10_2:w11.frozen? ⟨go10,(x4_1:Int).toNat * 4 + 2,none⟩ = false:=hfr10 2;have hf10_3:w11.frozen? ⟨go10,(x4_1:Int).toNat * 4 + 3,none⟩ = false:=hfr10 3;clear hcl10 hcc10 hfr10 hM10;replace p10:=eq_true p10;replace q10:=eq_true q10;obtain ⟨Ao12,co12,eo12⟩:=Kd.R_slice HO143.out;subst eo12;have n_:=Aside0.mk (Kd.R_mono (ok':=(fun k_=>some k_≠(.slice Ao12 t141.length co12:Value).ownBlock)) HO_3.out (fun k_ hk=>hk.2));clear HO_3;have HO_3:=n_;clear n_;have HX13:=Aside0.mk (show Kd.R k26 26 w11 w.heap.size (fun _=>True) (.slice (some ⟨go10,0,none⟩) x3_1.length co10) x3_1 from (by (with_reducible repeat (first|apply Kd.R_alloc|apply Kd.R_drewN|apply Kd.R_drew));exact Kd.R_mono HO_3.out (fun _ hk=>trivial)));obtain ⟨ce13,hcl13,hM13,hcc13,hfr13⟩:=Kd.R_elem HX13.out z26 (x4_1:Int) (od) (by have h_:(x4_1:Int) < ((x3_1.length:Int):Int):=od;first|exact h_|(have e_:=(Kd.R_reads' HO_3.out).1;omega)|simpa using h_);obtain ⟨ve13_3,rfl,ge13_3⟩:=k26_openM hM13;have HP13:=Kd.R_seg HX13.out (x4_1:Int) (od) (by have h_:(x4_1:Int) < ((x3_1.length:Int):Int):=od;first|exact h_|(have e_:=(Kd.R_reads' HO_3.out).1;omega)|simpa using h_) (seg:=[.int .i64 t138,.int .i64 t139,.string t140,.slice Ao12 t141.length co12]) (j:=0) hcl13 hcc13 (show 4≤4 from by decide) (x':=(⟨t138,t139,t140,t141⟩:S26)) (k26_mkM _ _ _ (⟨t138,t139,t140,t141⟩:S26) (Kd.R_mono (HO143.out) (fun k_ hk=>⟨trivial,fun e_=>(hk.2) (by rw [e_];rfl)⟩))) (fun _ hk=>hk);have hx13_0:=hcc13 0 _ rfl;(try simp only [show (k26).sz = 4 from rfl,Nat.mul_one,Nat.add_zero] at hx13_0);have hf13_0:=hfr13 0;(try simp only [show (k26).sz = 4 from rfl,Nat.mul_one,Nat.add_zero] at hf13_0);have hx13_1:=hcc13 1 _ rfl;(try simp only [show (k26).sz = 4 from rfl,Nat.mul_one,Nat.add_zero] at hx13_1);have hf13_1:=hfr13 1;(try simp only [show (k26).sz = 4 from rfl,Nat.mul_one,Nat.add_zero] at hf13_1);have hx13_2:=hcc13 2 _ rfl;(try simp only [show (k26).sz = 4 from rfl,Nat.mul_one,Nat.add_zero] at hx13_2);have hf13_2:=hfr13 2;(try simp only [show (k26).sz = 4 from rfl,Nat.mul_one,Nat.add_zero] at hf13_2);have hx13_3:=hcc13 3 _ rfl;(try simp only [show (k26).sz = 4 from rfl,Nat.mul_one,Nat.add_zero] at hx13_3);have hf13_3:=hfr13 3;(try simp only [show (k26).sz = 4 from rfl,Nat.mul_one,Nat.add_zero] at hf13_3);clear hcl13 hcc13 hfr13 hM13)|((with_reducible refine gate_store (t:=26) (p:=21) rfl ?_);refine store_event (t:=26) (p:=21) (v:=?vo_w14) (w1:=((((w11.setCell ⟨go10,(x4_1:Int).toNat * 4,none⟩ (.int .i64 t138)).setCell ⟨go10,(x4_1:Int).toNat * 4 + 1,none⟩ (.int .i64 t139)).setCell ⟨go10,(x4_1:Int).toNat * 4 + 2,none⟩ (.string t140)).setCell ⟨go10,(x4_1:Int).toNat * 4 + 3,none⟩ (.slice Ao12 t141.length co12))) ?hg ?ho ?hn ?hr ?_;(case ho=>rfl);(case hg=>rfl);(case hn=>rfl);(case hr=>first|(go_simp;done)|(go_simp;rfl));intro w14 hw;have hg:w11.grownBy w14 (some go10):=(by rw [hw];exact HP13.2);have hp_:Kd.R k26 26 w14 w.heap.size (fun _=>True) (.slice (some ⟨go10,0,none⟩) x3_1.length co10) y144:=(by rw [hw,Ny144.out];exact HP13.1);clear HP13;have n_:=ai (Aside0.mk (hp_)) <| Aside0.mk ((by rw [hw];exact below_set (below_set (below_set (below_set (HB.out) GB10.out) GB10.out) GB10.out) GB10.out:Below w.heap.size w w14));clear HO_3 HB HO143;obtain ⟨HO_3,HB⟩:=n_;clear hg hw hp_))
        go_roundg k1
        case measure=>have:=HK1.out;omega
        case rel=>exact ⟨(y144),(wrap64 (x4_1 + 1)),(cl2),H',⟨by have:=HK1.out;omega⟩,⟨rk HO_3.out⟩,⟨bl HB.out⟩⟩
       ·rw [if_neg c9] at H
        exact absurd H (by simp)
      ·rw [if_neg c7] at H
       exact absurd H (by simp)
     ·rw [if_neg c6] at H
      have c6b0:decide (x4_1 < (l0.length:Int)) = false:=decide_eq_false c6;clear c6;obtain rfl:=Option.some.inj H
      go_wp2
      go_ret
      exact ⟨_,cl,rk HO_3.out,bl HB.out⟩
  ·rw [if_neg c3] at H
   exact absurd H (by simp)
 ·rw [if_neg c2] at H
  exact absurd H (by simp)

/-! ### laws_toTerm: function 23 -/
set_option maxHeartbeats 8000000 in
set_option maxRecDepth 100000 in
theorem laws_toTerm.step (k:Nat) (ih_laws_toTermS:∀ k_,k_ < k → ∀ (A0:Option Addr) (c0:Nat) (l0:List (S39)) (r:List (S26)) (w:World) (hr0:Kd.C k39 w A0 l0.length l0) (hc0:l0.length≤c0) (h:laws_toTermS.f k_ l0 = some r),Calls Try.prog 26 #[.slice A0 l0.length c0] w fun e w'=>∃ v0_:Value,e = .returned (v0_)∧Kd.R k26 26 w' w.heap.size (fun _=>True) v0_ r∧Below w.heap.size w w') (ih_laws_toTerm:∀ k_,k_ < k → ∀ (a0_0:Int) (a0_1:Int) (a0_2:ByteArray) (A0_3:Option Addr) (c0_3:Nat) (l0_3:List (S39)) (r1:Int) (r2:Int) (r3:ByteArray) (r4:List (S26)) (w:World) (hr0_3:Kd.C k39 w A0_3 l0_3.length l0_3) (hc0_3:l0_3.length≤c0_3) (h:laws_toTerm.f k_ a0_0 a0_1 a0_2 l0_3 = some (r1,r2,r3,r4)),Calls Try.prog 23 #[.agg #[.int .i64 a0_0,.int .i64 a0_1,.string a0_2,.slice A0_3 l0_3.length c0_3]] w fun e w'=>∃ v3_:Value,e = .returned (.agg #[.int .i64 r1,.int .i64 r2,.string r3,v3_])∧Kd.R k26 26 w' w.heap.size (fun _=>True) v3_ r4∧Below w.heap.size w w'):∀ (a0_0:Int) (a0_1:Int) (a0_2:ByteArray) (A0_3:Option Addr) (c0_3:Nat) (l0_3:List (S39)) (r1:Int) (r2:Int) (r3:ByteArray) (r4:List (S26)) (w:World) (hr0_3:Kd.C k39 w A0_3 l0_3.length l0_3) (hc0_3:l0_3.length≤c0_3) (h:laws_toTerm.f k a0_0 a0_1 a0_2 l0_3 = some (r1,r2,r3,r4)),
  Calls Try.prog 23 #[.agg #[.int .i64 a0_0,.int .i64 a0_1,.string a0_2,.slice A0_3 l0_3.length c0_3]] w fun e w'=>∃ v3_:Value,e = .returned (.agg #[.int .i64 r1,.int .i64 r2,.string r3,v3_])∧Kd.R k26 26 w' w.heap.size (fun _=>True) v3_ r4∧Below w.heap.size w w':=by
 intro a0_0 a0_1 a0_2 A0_3 c0_3 l0_3 r1 r2 r3 r4 w hr0_3 hc0_3 h
 cases k with
 | zero=>exact absurd h (by simp [laws_toTerm.f])
 | succ k =>
 simp only [laws_toTerm.f] at h;have hu39:=Try.underlying39;have hu26:=Try.underlying26;have HR0_3:=Aside0.mk hr0_3;have HC0_3:=Aside0.mk hc0_3;clear hr0_3 hc0_3;have HB:=Aside0.mk (Below.refl w.heap.size w);have H:((laws_toTermS.f k l0_3).bind fun t148=>(some (a0_0,a0_1,a0_2,t148))) = some (r1,r2,r3,r4):=h;clear h;replace H:=Option.bind_eq_some_iff.mp H;obtain ⟨t148,A20,H⟩:=H;replace H:(some (a0_0,a0_1,a0_2,t148)) = some (r1,r2,r3,r4):=H;have A2:=Aside0.mk A20;clear A20;simp only [Option.some.injEq,Prod.mk.injEq] at H;obtain ⟨rfl,rfl,rfl,rfl⟩:=H
 go_enter Try.func23,Try.ntmps23
 go_wp2_with (first|((with_reducible refine gate_dst (N:=1) rfl ?_);refine box_event ?hg (N:=1) ?hd (cs:=#[.int .i64 a0_0,.int .i64 a0_1,.string a0_2,.slice A0_3 l0_3.length c0_3]) (t:=39) ?hr ?_;(case hd=>rfl);(case hg=>rfl);(case hr=>first|(go_simp;done)|(go_simp;rfl));intro gb145 hg w3 hbox hb;have n_:=ai (bq HB hb) <| ai (Aside0.mk (hbox)) <| ai (bz hg HB) <| bz hg HB;clear HB;obtain ⟨HB,BK145,GW145,GE145⟩:=n_;clear hb hbox hg)|((with_reducible refine gate_dst (N:=2) rfl ?_);refine box_event ?hg (N:=2) ?hd (cs:=#[.int .i64 0,.int .i64 0,.string (⟨#[]⟩:ByteArray),.slice none 0 0]) (t:=26) ?hr ?_;(case hd=>rfl);(case hg=>rfl);(case hr=>first|(go_simp;done)|(go_simp;rfl));intro gb146 hg w4 hbox hb;have n_:=ai (bw BK145 hb) <| ai (bq HB hb) <| ai (Aside0.mk (hbox)) <| ai (bz hg HB) <| ai (bz hg HB) <| ai (nl hg BK145) <| ng hg BK145;clear BK145 HB;obtain ⟨BK145,HB,BK146,GW146,GE146,NB145_146,NB146_145⟩:=n_;clear hb hbox hg)|((with_reducible refine gate_dst (N:=3) rfl ?_);refine box_event ?hg (N:=3) ?hd (cs:=#[.int .i64 0,.int .i64 0,.string (⟨#[]⟩:ByteArray),.slice none 0 0]) (t:=26) ?hr ?_;(case hd=>rfl);(case hg=>rfl);(case hr=>first|(go_simp;done)|(go_simp;rfl));intro gb147 hg w5 hbox hb;have n_:=ai (bw BK145 hb) <| ai (bw BK146 hb) <| ai (bq HB hb) <| ai (Aside0.mk (hbox)) <| ai (bz hg HB) <| ai (bz hg HB) <| ai (nl hg BK145) <| ai (ng hg BK145) <| ai (nl hg BK146) <| ng hg BK146;clear BK145 BK146 HB;obtain ⟨BK145,BK146,HB,BK147,GW147,GE147,NB145_147,NB147_145,NB146_147,NB147_146⟩:=n_;clear hb hbox hg;have:=NB145_146.out;have:=NB146_145.out;have:=NB145_147.out;have:=NB147_145.out;obtain ⟨h8_0,h8_1,h8_2,h8_3⟩:=kb4 BK145.out;obtain ⟨z8_0,z8_1,z8_2,z8_3⟩:=kz4 BK145.out;have:=NB147_146.out;have:=NB146_147.out;obtain ⟨h10_0,h10_1,h10_2,h10_3⟩:=kb4 BK147.out;obtain ⟨z10_0,z10_1,z10_2,z10_3⟩:=kz4 BK147.out)|((with_reducible refine gate_callee (f:=26) rfl ?_);refine goesL_ (some 15) rfl rfl Try.func26 (by kernel_rfl) rfl #[.slice A0_3 l0_3.length c0_3] rfl gs ?_;(with_reducible refine (ih_laws_toTermS k (by omega) _ _ l0_3 t148 _ ?side1 ?side2 A2.out).mono ?_);(case side1=>exact Kd.C_below HR0_3.out (bl HB.out));(case side2=>exact HC0_3.out);rintro e w11 ⟨v149,rfl,ho0,hb⟩;refine ⟨_,rfl,?_⟩;have n_:=ai (Aside0.mk (Kd.R_lower (Kd.R_newB (Kd.R_newB ho0 (g:=gb146) (o:=.cells #[.int .i64 0,.int .i64 0,.string (⟨#[]⟩:ByteArray),.slice none 0 0] 26 (0,0)) (bm BK146.out)) (g:=gb147) (o:=.cells #[.int .i64 a0_0,.int .i64 a0_1,.string a0_2,.slice none 0 0] 26 (0,0)) (bmp BK147.out)) (below_size (bl HB.out)))) <| ai (bwm BK145 hb) <| ai (bwm BK146 hb) <| ai (Aside0.mk (blk_below (g:=gb147) (o:=.cells #[.int .i64 a0_0,.int .i64 a0_1,.string a0_2,.slice none 0 0] 26 (0,0)) (bmp BK147.out) hb)) <| bq HB hb;clear BK145 BK146 BK147 HB;obtain ⟨HO150,BK145,BK146,BK147,HB⟩:=n_;(try clear hb);(try clear ho0);obtain ⟨Ao12,co12,eo12⟩:=Kd.R_slice HO150.out;subst eo12;obtain ⟨h13_0,h13_1,h13_2,h13_3⟩:=kb4 BK147.out;obtain ⟨z13_0,z13_1,z13_2,z13_3⟩:=kz4 BK147.out;obtain ⟨h14_0,h14_1,h14_2,h14_3⟩:=kb4 BK146.out;obtain ⟨z14_0,z14_1,z14_2,z14_3⟩:=kz4 BK146.out))
 refine bodyPost_ret (results_cell_row rfl _ _ gb146 26 #[.int .i64 a0_0,.int .i64 a0_1,.string a0_2,.slice Ao12 t148.length co12] (0,0) _ rfl (bmp BK146.out) Try.underlying26 rfl (by kernel_rfl)) rfl ?_
 exact ⟨_,cl,by (with_reducible repeat (first|apply Kd.R_alloc|apply Kd.R_drewN|apply Kd.R_drew));exact Kd.R_mono (rfm (Kd.R_mono (Kd.R_mono HO150.out (fun k_ hk=>(⟨hk,hk.2⟩:_∧k_≠gb147))) (fun k_ hk=>(⟨hk,hk.1.1.2⟩:_∧k_≠gb146)))) (fun _ hk=>trivial),bl HB.out⟩

theorem laws_toTermS.all (k:Nat):(∀ (A0:Option Addr) (c0:Nat) (l0:List (S39)) (r:List (S26)) (w:World) (hr0:Kd.C k39 w A0 l0.length l0) (hc0:l0.length≤c0) (h:laws_toTermS.f k l0 = some r),Calls Try.prog 26 #[.slice A0 l0.length c0] w fun e w'=>∃ v0_:Value,e = .returned (v0_)∧Kd.R k26 26 w' w.heap.size (fun _=>True) v0_ r∧Below w.heap.size w w')∧(∀ (a0_0:Int) (a0_1:Int) (a0_2:ByteArray) (A0_3:Option Addr) (c0_3:Nat) (l0_3:List (S39)) (r1:Int) (r2:Int) (r3:ByteArray) (r4:List (S26)) (w:World) (hr0_3:Kd.C k39 w A0_3 l0_3.length l0_3) (hc0_3:l0_3.length≤c0_3) (h:laws_toTerm.f k a0_0 a0_1 a0_2 l0_3 = some (r1,r2,r3,r4)),Calls Try.prog 23 #[.agg #[.int .i64 a0_0,.int .i64 a0_1,.string a0_2,.slice A0_3 l0_3.length c0_3]] w fun e w'=>∃ v3_:Value,e = .returned (.agg #[.int .i64 r1,.int .i64 r2,.string r3,v3_])∧Kd.R k26 26 w' w.heap.size (fun _=>True) v3_ r4∧Below w.heap.size w w'):=by
 induction k using Nat.strongRecOn with
 | _ k ih =>
 exact ⟨laws_toTermS.step k (fun k_ h_=>(ih k_ h_).1) (fun k_ h_=>(ih k_ h_).2),laws_toTerm.step k (fun k_ h_=>(ih k_ h_).1) (fun k_ h_=>(ih k_ h_).2)⟩
theorem laws_toTermS.calls (k:Nat):∀ (A0:Option Addr) (c0:Nat) (l0:List (S39)) (r:List (S26)) (w:World) (hr0:Kd.C k39 w A0 l0.length l0) (hc0:l0.length≤c0) (h:laws_toTermS.f k l0 = some r),Calls Try.prog 26 #[.slice A0 l0.length c0] w fun e w'=>∃ v0_:Value,e = .returned (v0_)∧Kd.R k26 26 w' w.heap.size (fun _=>True) v0_ r∧Below w.heap.size w w':=(laws_toTermS.all k).1
theorem laws_toTerm.calls (k:Nat):∀ (a0_0:Int) (a0_1:Int) (a0_2:ByteArray) (A0_3:Option Addr) (c0_3:Nat) (l0_3:List (S39)) (r1:Int) (r2:Int) (r3:ByteArray) (r4:List (S26)) (w:World) (hr0_3:Kd.C k39 w A0_3 l0_3.length l0_3) (hc0_3:l0_3.length≤c0_3) (h:laws_toTerm.f k a0_0 a0_1 a0_2 l0_3 = some (r1,r2,r3,r4)),Calls Try.prog 23 #[.agg #[.int .i64 a0_0,.int .i64 a0_1,.string a0_2,.slice A0_3 l0_3.length c0_3]] w fun e w'=>∃ v3_:Value,e = .returned (.agg #[.int .i64 r1,.int .i64 r2,.string r3,v3_])∧Kd.R k26 26 w' w.heap.size (fun _=>True) v3_ r4∧Below w.heap.size w w':=(laws_toTermS.all k).2

/-! ### laws_toBind: function 15 -/
def laws_toBind.f (k:Nat) (a0_0:ByteArray) (a0_1:Int) (a0_2:Int) (a0_3:ByteArray) (l0_4:List (S39)):Option (ByteArray × Int × Int × ByteArray × (List (S26))):=(laws_toTerm.f k a0_1 a0_2 a0_3 l0_4).bind fun bt154=>(some (a0_0,bt154.1,bt154.2.1,bt154.2.2.1,bt154.2.2.2))
theorem laws_toBind.mono:∀ a0 a1 a2 a3 a4 k,LeO (laws_toBind.f k a0 a1 a2 a3 a4) (laws_toBind.f (k + 1) a0 a1 a2 a3 a4):=by
 intro a0 a1 a2 a3 a4 k
 unfold laws_toBind.f
 with_reducible repeat' first|apply laws_toTerm.mono|apply LeO.refl|apply LeO.none|apply LeO.ite|refine LeO.bind ?_ (fun _=>?_)
set_option maxHeartbeats 8000000 in
set_option maxRecDepth 100000 in
theorem laws_toBind.calls (k:Nat) (a0_0:ByteArray) (a0_1:Int) (a0_2:Int) (a0_3:ByteArray) (A0_4:Option Addr) (c0_4:Nat) (l0_4:List (S39)) (r1:ByteArray) (r2:Int) (r3:Int) (r4:ByteArray) (r5:List (S26)) (w:World) (hr0_4:Kd.C k39 w A0_4 l0_4.length l0_4) (hc0_4:l0_4.length≤c0_4) (h:laws_toBind.f k a0_0 a0_1 a0_2 a0_3 l0_4 = some (r1,r2,r3,r4,r5)) :
  Calls Try.prog 15 #[.agg #[.string a0_0,.int .i64 a0_1,.int .i64 a0_2,.string a0_3,.slice A0_4 l0_4.length c0_4]] w fun e w'=>∃ v4_:Value,e = .returned (.agg #[.string r1,.int .i64 r2,.int .i64 r3,.string r4,v4_])∧Kd.R k26 26 w' w.heap.size (fun _=>True) v4_ r5∧Below w.heap.size w w':=by
 have hu41:=Try.underlying41;have hu43:=Try.underlying43;have hu39:=Try.underlying39;have hu26:=Try.underlying26;have HR0_4:=Aside0.mk hr0_4;have HC0_4:=Aside0.mk hc0_4;clear hr0_4 hc0_4;have HB:=Aside0.mk (Below.refl w.heap.size w);have H:((laws_toTerm.f k a0_1 a0_2 a0_3 l0_4).bind fun bt154=>(some (a0_0,bt154.1,bt154.2.1,bt154.2.2.1,bt154.2.2.2))) = some (r1,r2,r3,r4,r5):=h;clear h;replace H:=Option.bind_eq_some_iff.mp H;obtain ⟨⟨t154,t155,t156,t157⟩,A20,H⟩:=H;replace H:(some (a0_0,t154,t155,t156,t157)) = some (r1,r2,r3,r4,r5):=H;have A2:=Aside0.mk A20;clear A20;simp only [Option.some.injEq,Prod.mk.injEq] at H;obtain ⟨rfl,rfl,rfl,rfl,rfl⟩:=H
 go_enter Try.func15,Try.ntmps15
 go_wp2_with (first|((with_reducible refine gate_dst (N:=1) rfl ?_);refine box_event ?hg (N:=1) ?hd (cs:=#[.string a0_0,.int .i64 a0_1,.int .i64 a0_2,.string a0_3,.slice A0_4 l0_4.length c0_4]) (t:=41) ?hr ?_;(case hd=>rfl);(case hg=>rfl);(case hr=>first|(go_simp;done)|(go_simp;rfl));intro gb151 hg w3 hbox hb;have n_:=ai (bq HB hb) <| ai (Aside0.mk (hbox)) <| ai (bz hg HB) <| bz hg HB;clear HB;obtain ⟨HB,BK151,GW151,GE151⟩:=n_;clear hb hbox hg)|((with_reducible refine gate_dst (N:=2) rfl ?_);refine box_event ?hg (N:=2) ?hd (cs:=#[.string (⟨#[]⟩:ByteArray),.int .i64 0,.int .i64 0,.string (⟨#[]⟩:ByteArray),.slice none 0 0]) (t:=43) ?hr ?_;(case hd=>rfl);(case hg=>rfl);(case hr=>first|(go_simp;done)|(go_simp;rfl));intro gb152 hg w4 hbox hb;have n_:=ai (bw BK151 hb) <| ai (bq HB hb) <| ai (Aside0.mk (hbox)) <| ai (bz hg HB) <| ai (bz hg HB) <| ai (nl hg BK151) <| ng hg BK151;clear BK151 HB;obtain ⟨BK151,HB,BK152,GW152,GE152,NB151_152,NB152_151⟩:=n_;clear hb hbox hg)|((with_reducible refine gate_dst (N:=3) rfl ?_);refine box_event ?hg (N:=3) ?hd (cs:=#[.string (⟨#[]⟩:ByteArray),.int .i64 0,.int .i64 0,.string (⟨#[]⟩:ByteArray),.slice none 0 0]) (t:=43) ?hr ?_;(case hd=>rfl);(case hg=>rfl);(case hr=>first|(go_simp;done)|(go_simp;rfl));intro gb153 hg w5 hbox hb;have n_:=ai (bw BK151 hb) <| ai (bw BK152 hb) <| ai (bq HB hb) <| ai (Aside0.mk (hbox)) <| ai (bz hg HB) <| ai (bz hg HB) <| ai (nl hg BK151) <| ai (ng hg BK151) <| ai (nl hg BK152) <| ng hg BK152;clear BK151 BK152 HB;obtain ⟨BK151,BK152,HB,BK153,GW153,GE153,NB151_153,NB153_151,NB152_153,NB153_152⟩:=n_;clear hb hbox hg;have:=NB151_152.out;have:=NB152_151.out;have:=NB151_153.out;have:=NB153_151.out;obtain ⟨h8_0,h8_1,h8_2,h8_3,h8_4⟩:=kb5 BK151.out;obtain ⟨z8_0,z8_1,z8_2,z8_3,z8_4⟩:=kz5 BK151.out;have:=NB153_152.out;have:=NB152_153.out;obtain ⟨h10_0,h10_1,h10_2,h10_3,h10_4⟩:=kb5 BK153.out;obtain ⟨z10_0,z10_1,z10_2,z10_3,z10_4⟩:=kz5 BK153.out)|((with_reducible refine gate_callee (f:=23) rfl ?_);refine goesL_ (some 9) rfl rfl Try.func23 (by kernel_rfl) rfl #[.agg #[.int .i64 a0_1,.int .i64 a0_2,.string a0_3,.slice A0_4 l0_4.length c0_4]] rfl gs ?_;(with_reducible refine (laws_toTerm.calls k a0_1 a0_2 a0_3 _ _ l0_4 t154 t155 t156 t157 _ ?side1 ?side2 A2.out).mono ?_);(case side1=>exact Kd.C_below HR0_4.out (bl HB.out));(case side2=>exact HC0_4.out);rintro e w11 ⟨v158,rfl,ho0,hb⟩;refine ⟨_,rfl,?_⟩;have n_:=ai (Aside0.mk (Kd.R_lower ho0 (below_size (bl HB.out)))) <| ai (bwm BK151 hb) <| ai (bwm BK152 hb) <| ai (Aside0.mk (blk_below (g:=gb153) (o:=.cells #[.string a0_0,.int .i64 0,.int .i64 0,.string (⟨#[]⟩:ByteArray),.slice none 0 0] 43 (0,0)) (bmp BK153.out) hb)) <| bq HB hb;clear BK151 BK152 BK153 HB;obtain ⟨HO159,BK151,BK152,BK153,HB⟩:=n_;(try clear hb);(try clear ho0);obtain ⟨h12_0,h12_1,h12_2,h12_3,h12_4⟩:=kb5 BK153.out;obtain ⟨z12_0,z12_1,z12_2,z12_3,z12_4⟩:=kz5 BK153.out;obtain ⟨Ao13,co13,eo13⟩:=Kd.R_slice HO159.out;subst eo13;obtain ⟨h14_0,h14_1,h14_2,h14_3,h14_4⟩:=kb5 BK152.out;obtain ⟨z14_0,z14_1,z14_2,z14_3,z14_4⟩:=kz5 BK152.out))
 refine bodyPost_ret (results_cell_row rfl _ _ gb152 43 #[.string a0_0,.int .i64 t154,.int .i64 t155,.string t156,.slice Ao13 t157.length co13] (0,0) _ rfl (bmp BK152.out) Try.underlying43 rfl (by kernel_rfl)) rfl ?_
 exact ⟨_,cl,by (with_reducible repeat (first|apply Kd.R_alloc|apply Kd.R_drewN|apply Kd.R_drew));exact Kd.R_mono (rfm (Kd.R_types (Kd.R_types HO159.out BK153.out (by decide)) BK152.out (by decide))) (fun _ hk=>trivial),bl HB.out⟩

/-! ### laws_toBindS: function 6 -/
def laws_toBindS.l0:Nat → List (S41) → List (S43) → Int → Option ((List (S43)))
 | 0,_,_,_=>none
 | k + 1,x0,x3,x4=>if x4 < (x0.length:Int) then (if 0≤x4 then ((laws_toBind.f k ((rd_T41 x0 x4).f0) ((rd_T41 x0 x4).f1.f0) ((rd_T41 x0 x4).f1.f1) ((rd_T41 x0 x4).f1.f2) ((rd_T41 x0 x4).f1.f3)).bind fun bt164=>(if x4 < (x3.length:Int) then (laws_toBindS.l0 k x0 (x3.set (x4:Int).toNat (⟨bt164.1,(⟨bt164.2.1,bt164.2.2.1,bt164.2.2.2.1,bt164.2.2.2.2⟩:S26)⟩:S43)) (wrap64 (x4 + 1))) else (none))) else (none)) else (some x3)
def laws_toBindS.f (k:Nat) (l0:List (S41)):Option ((List (S43))):=if 0≤(l0.length:Int) then (if ((l0.length:Int):Int).toNat≤3909374676536 then (laws_toBindS.l0 k l0 (List.replicate ((l0.length:Int):Int).toNat z43) 0) else (none)) else (none)
theorem laws_toBindS.mono_l:∀ k,(∀ y0 y1 y2,LeO (laws_toBindS.l0 k y0 y1 y2) (laws_toBindS.l0 (k + 1) y0 y1 y2))
 | 0=>fun _ _ _ r h=>by simp [laws_toBindS.l0] at h
 | k + 1=>by
  have ih0:=laws_toBindS.mono_l k
  ·intro y0 y1 y2
   unfold laws_toBindS.l0
   with_reducible repeat' first|apply ih0|apply laws_toBind.mono|apply LeO.refl|apply LeO.none|apply LeO.ite|refine LeO.bind ?_ (fun _=>?_)
theorem laws_toBindS.mono:∀ a0 k,LeO (laws_toBindS.f k a0) (laws_toBindS.f (k + 1) a0):=by
 intro a0 k;have ih0:=laws_toBindS.mono_l k
 unfold laws_toBindS.f
 with_reducible repeat' first|apply ih0|apply laws_toBind.mono|apply LeO.refl|apply LeO.none|apply LeO.ite|refine LeO.bind ?_ (fun _=>?_)
set_option maxHeartbeats 8000000 in
set_option maxRecDepth 100000 in
theorem laws_toBindS.calls (k:Nat) (A0:Option Addr) (c0:Nat) (l0:List (S41)) (r:List (S43)) (w:World) (hr0:Kd.C k41 w A0 l0.length l0) (hc0:l0.length≤c0) (h:laws_toBindS.f k l0 = some r) :
  Calls Try.prog 6 #[.slice A0 l0.length c0] w fun e w'=>∃ v0_:Value,e = .returned (v0_)∧Kd.R k43 43 w' w.heap.size (fun _=>True) v0_ r∧Below w.heap.size w w':=by
 have hu41:=Try.underlying41;have hu43:=Try.underlying43;have HR0:=Aside0.mk hr0;have HC0:=Aside0.mk hc0;clear hr0 hc0;have HB:=Aside0.mk (Below.refl w.heap.size w);have H:(if 0≤(l0.length:Int) then (if ((l0.length:Int):Int).toNat≤3909374676536 then (laws_toBindS.l0 k l0 (List.replicate ((l0.length:Int):Int).toNat z43) 0) else (none)) else (none)) = some r:=h;clear h
 by_cases c2:0≤(l0.length:Int)
 ·rw [if_pos c2] at H
  have c2b0:=eq_true c2;have c2b1:decide (0≤(l0.length:Int)) = true:=decide_eq_true c2;clear c2
  by_cases c3:((l0.length:Int):Int).toNat≤3909374676536
  ·rw [if_pos c3] at H
   have c3b0:=eq_true c3;have c3b1:decide (((l0.length:Int):Int).toNat≤3909374676536) = true:=decide_eq_true c3;clear c3;obtain ⟨y160,hy160⟩:∃ y_:List (S43),y_ = (List.replicate ((l0.length:Int):Int).toNat z43):=⟨_,rfl⟩;replace H:(laws_toBindS.l0 k l0 y160 0) = some r:=by first|(rw [hy160];with_reducible exact H)|(have H2_:=(Option.bind_some _ _).symm.trans H;rw [hy160];with_reducible exact H2_)|(have H2_:=(Option.bind_some _ _).symm.trans H;with_reducible exact H2_)|with_reducible exact H|(rw [hy160];exact H)|exact H
   have Ny160:=Aside0.mk hy160;clear hy160;have H':=Aside0.mk H;clear H
   go_enter Try.func6,Try.ntmps6
   go_wp2_with (first|((with_reducible refine gate_dst (N:=7) rfl ?_);refine Kd.R_make k43 _ 43 rfl (N:=7) rfl 29 _ _ rfl (l0.length:Int) rfl rfl Try.underlying29 (.agg #[(.string ⟨#[]⟩),(.int .i64 0),(.int .i64 0),(.string ⟨#[]⟩),(.slice none 0 0)]) 72 info43 rfl (by decide) (by omega) z43 (ok:=fun _=>True) (okp:=fun _=>True) (k43_mkM _ _ _ z43 (Kd.R_nil _ _ _ _ _)) (fun _ hk=>hk) trivial (od) (Nat.le_trans (Nat.mul_le_mul_right _ (od:(l0.length:Int).toNat≤3909374676536)) (by omega)) (Below.refl _ _) (Nat.le_refl _) ?_;intro v161 w4 ho5 hb hg_ hnew_;clear hg_ hnew_;(first|rw [← Ny160.out] at ho5|(simp only [Int.reduceToNat] at ho5;rw [← Ny160.out] at ho5));have n_:=ai (Aside0.mk (Kd.R_lower ho5 (below_size (bl HB.out)))) <| bq HB hb;clear HB;obtain ⟨HO162,HB⟩:=n_;clear hb ho5))
   go_loopg [4] k (fun kq v4 w'=>∃ (x3_1:List (S43)) (x4_1:Int),v4 = .int .i64 x4_1∧Aside0 (laws_toBindS.l0 kq l0 x3_1 x4_1 = some r)∧Aside0 (kq≤k)∧Aside0 (Kd.R k43 43 w' w.heap.size (fun _=>True) v161 x3_1)∧Aside0 (Below w.heap.size w w'))
   case atStart=>exact ⟨(y160),(0),(cl2),H',⟨Nat.le_refl _⟩,⟨rk HO162.out⟩,⟨bl HB.out⟩⟩
   case round =>
    clear H';(try clear c2);(try clear c2b0);(try clear c2b1);(try clear c3);(try clear c3b0);(try clear c3b1);(try clear HB);obtain ⟨x3_1,x4_1,rfl,HA,HK1,HO_3,HB⟩:=hrel
    cases gk with
    | zero=>exact absurd HA.out (by simp [laws_toBindS.l0])
    | succ k1 =>
     have H:=HA.out;clear HA;simp only [laws_toBindS.l0] at H
     by_cases c6:x4_1 < (l0.length:Int)
     ·rw [if_pos c6] at H
      have c6b0:decide (x4_1 < (l0.length:Int)) = true:=decide_eq_true c6;clear c6
      by_cases c7:0≤x4_1
      ·rw [if_pos c7] at H
       have c7b0:decide (0≤x4_1) = true:=decide_eq_true c7;clear c7;replace H:=Option.bind_eq_some_iff.mp H;obtain ⟨⟨t164,t165,t166,t167,t168⟩,A80,H⟩:=H;replace H:(if x4_1 < (x3_1.length:Int) then (laws_toBindS.l0 k1 l0 (x3_1.set (x4_1:Int).toNat (⟨t164,(⟨t165,t166,t167,t168⟩:S26)⟩:S43)) (wrap64 (x4_1 + 1))) else (none)) = some r:=H;have A8:=Aside0.mk A80;clear A80
       by_cases c9:x4_1 < (x3_1.length:Int)
       ·rw [if_pos c9] at H
        have c9b0:decide (x4_1 < (x3_1.length:Int)) = true:=decide_eq_true c9;clear c9;obtain ⟨y171,hy171⟩:∃ y_:List (S43),y_ = (x3_1.set (x4_1:Int).toNat (⟨t164,(⟨t165,t166,t167,t168⟩:S26)⟩:S43)):=⟨_,rfl⟩;replace H:(laws_toBindS.l0 k1 l0 y171 (wrap64 (x4_1 + 1))) = some r:=by first|(rw [hy171];with_reducible exact H)|(have H2_:=(Option.bind_some _ _).symm.trans H;rw [hy171];with_reducible exact H2_)|(have H2_:=(Option.bind_some _ _).symm.trans H;with_reducible exact H2_)|with_reducible exact H|(rw [hy171];exact H)|exact H
        have Ny171:=Aside0.mk hy171;clear hy171;have H':=Aside0.mk H;clear H;have p163:0≤(x4_1:Int):=od;have q163:x4_1 < (l0.length:Int):=od;obtain ⟨ad163,A163_4,c163_4,e163,hx163_0,hx163_1,hx163_2,hx163_3,hx163_4,hl163_4,hi163_4⟩:=at_T41 HR0.out x4_1 p163 q163;cases e163;replace hx163_0:=cb HB hx163_0;replace hx163_1:=cb HB hx163_1;replace hx163_2:=cb HB hx163_2;replace hx163_3:=cb HB hx163_3;replace hx163_4:=cb HB hx163_4;have HR163_4:=Aside0.mk hi163_4;have HC163_4:=Aside0.mk hl163_4;clear hi163_4 hl163_4;replace p163:=eq_true p163;replace q163:=eq_true q163
        go_wp2_with (first|((with_reducible refine gate_callee (f:=15) rfl ?_);refine goesL_ (some 20) rfl rfl Try.func15 (by kernel_rfl) rfl #[.agg #[.string ((rd_T41 l0 x4_1).f0),.int .i64 ((rd_T41 l0 x4_1).f1.f0),.int .i64 ((rd_T41 l0 x4_1).f1.f1),.string ((rd_T41 l0 x4_1).f1.f2),.slice A163_4 ((rd_T41 l0 x4_1).f1.f3).length c163_4]] rfl gs ?_;(with_reducible refine (laws_toBind.calls k1 ((rd_T41 l0 x4_1).f0) ((rd_T41 l0 x4_1).f1.f0) ((rd_T41 l0 x4_1).f1.f1) ((rd_T41 l0 x4_1).f1.f2) _ _ ((rd_T41 l0 x4_1).f1.f3) t164 t165 t166 t167 t168 _ ?side1 ?side2 A8.out).mono ?_);(case side1=>exact ck (Kd.C_below HR163_4.out HB.out));(case side2=>exact HC163_4.out);rintro e w11 ⟨v169,rfl,ho0,hb⟩;refine ⟨_,rfl,?_⟩;have n_:=ai (Aside0.mk (Kd.R_elder' (rk HO_3.out) (Kd.R_base ho0) hb)) <| ai (Aside0.mk (Kd.R_lower ho0 (below_size (bl HB.out)))) <| bq HB hb;clear HO_3 HB;obtain ⟨HO_3,HO170,HB⟩:=n_;(try clear hb);(try clear hk);(try clear ho0);have p10:0≤(x4_1:Int):=od;have q10:(x4_1:Int) < ((x3_1.length:Int):Int):=od;obtain ⟨go10,co10,eo10,gb10,gl10,cl10,HG10⟩:=Kd.R_form HO_3.out (by omega);(first|cases eo10|(injection eo10 with ea_ en_ ec_;(first|subst ea_|(injection ea_ with ea_;subst ea_));subst ec_;clear en_));have GB10:=Aside0.mk gb10;have GG10:=Aside0.mk HG10;clear gb10 gl10 HG10;obtain ⟨ce10,hcl10,hM10,hcc10,hfr10⟩:=Kd.R_elem HO_3.out z43 (x4_1:Int) p10 q10;obtain ⟨ve10_4,rfl,ge10_4⟩:=k43_openM hM10;have hx10_0:w11.cell? ⟨go10,(x4_1:Int).toNat * 5,none⟩ = some (.string ((rd_T43 x3_1 x4_1).f0)):=hcc10 0 _ rfl;have hx10_1:w11.cell? ⟨go10,(x4_1:Int).toNat * 5 + 1,none⟩ = some (.int .i64 ((rd_T43 x3_1 x4_1).f1.f0)):=hcc10 1 _ rfl;have hx10_2:w11.cell? ⟨go10,(x4_1:Int).toNat * 5 + 2,none⟩ = some (.int .i64 ((rd_T43 x3_1 x4_1).f1.f1)):=hcc10 2 _ rfl;have hx10_3:w11.cell? ⟨go10,(x4_1:Int).toNat * 5 + 3,none⟩ = some (.string ((rd_T43 x3_1 x4_1).f1.f2)):=hcc10 3 _ rfl;have hx10_4:w11.cell? ⟨go10,(x4_1:Int).toNat * 5 + 4,none⟩ = some (ve10_4):=hcc10 4 _ rfl;have hf10_0:w11.frozen? ⟨go10,(x4_1:Int).toNat * 5,none⟩ = false:=hfr10 0;have hf10_1:w11.frozen? ⟨go10,(x4_1:Int).toNat * 5 + 1,none⟩ = false:=hfr10 1;have hf10_2:w11.frozen? ⟨go10,(x4_1:Int).toNat * 5 + 2,none⟩ = false:=hfr10 2;have hf10_3:w11.frozen? ⟨go10,(x4_1:Int).toNat * 5 + 3,none⟩ = false:=hfr10 3;have hf10_4:w11.frozen? ⟨go10,(x4_1:Int).toNat * 5 + 4,none⟩ = false:=hfr10 4;clear hcl10 hcc10 hfr10 hM10;replace p10:=eq_true p10;replace q10:=eq_true q10;obtain ⟨Ao12,co12,eo12⟩:=Kd.R_slice HO170.out;subst eo12;have n_:=Aside0.mk (Kd.R_mono (ok':=(fun k_=>some k_≠(.slice Ao12 t168.length co12:Value).ownBlock)) HO_3.out (fun k_ hk=>hk.2));clear HO_3;have HO_3:=n_;clear n_;have HX13:=Aside0.mk (show Kd.R k43 43 w11 w.heap.size (fun _=>True) (.slice (some ⟨go10,0,none⟩) x3_1.length co10) x3_1 from (by (with_reducible repeat (first|apply Kd.R_alloc|apply Kd.R_drewN|apply Kd.R_drew));exact Kd.R_mono HO_3.out (fun _ hk=>trivial)));obtain ⟨ce13,hcl13,hM13,hcc13,hfr13⟩:=Kd.R_elem HX13.out z43 (x4_1:Int) (od) (by have h_:(x4_1:Int) < ((x3_1.length:Int):Int):=od;first|exact h_|(have e_:=(Kd.R_reads' HO_3.out).1;omega)|simpa using h_);obtain ⟨ve13_4,rfl,ge13_4⟩:=k43_openM hM13;have HP13:=Kd.R_seg HX13.out (x4_1:Int) (od) (by have h_:(x4_1:Int) < ((x3_1.length:Int):Int):=od;first|exact h_|(have e_:=(Kd.R_reads' HO_3.out).1;omega)|simpa using h_) (seg:=[.string t164,.int .i64 t165,.int .i64 t166,.string t167,.slice Ao12 t168.length co12]) (j:=0) hcl13 hcc13 (show 5≤5 from by decide) (x':=(⟨t164,(⟨t165,t166,t167,t168⟩:S26)⟩:S43)) (k43_mkM _ _ _ (⟨t164,(⟨t165,t166,t167,t168⟩:S26)⟩:S43) (Kd.R_mono (Kd.R_apart' (HO170.out) (Kd.R_typed HO_3.out) (by decide)) (fun k_ hk=>⟨trivial,fun e_=>(hk.2) (by rw [e_];rfl)⟩))) (fun _ hk=>hk);have hx13_0:=hcc13 0 _ rfl;(try simp only [show (k43).sz = 5 from rfl,Nat.mul_one,Nat.add_zero] at hx13_0);have hf13_0:=hfr13 0;(try simp only [show (k43).sz = 5 from rfl,Nat.mul_one,Nat.add_zero] at hf13_0);have hx13_1:=hcc13 1 _ rfl;(try simp only [show (k43).sz = 5 from rfl,Nat.mul_one,Nat.add_zero] at hx13_1);have hf13_1:=hfr13 1;(try simp only [show (k43).sz = 5 from rfl,Nat.mul_one,Nat.add_zero] at hf13_1);have hx13_2:=hcc13 2 _ rfl;(try simp only [show (k43).sz = 5 from rfl,Nat.mul_one,Nat.add_zero] at hx13_2);have hf13_2:=hfr13 2;(try simp only [show (k43).sz = 5 from rfl,Nat.mul_one,Nat.add_zero] at hf13_2);have hx13_3:=hcc13 3 _ rfl;(try simp only [show (k43).sz = 5 from rfl,Nat.mul_one,Nat.add_zero] at hx13_3);have hf13_3:=hfr13 3;(try simp only [show (k43).sz = 5 from rfl,Nat.mul_one,Nat.add_zero] at hf13_3);have hx13_4:=hcc13 4 _ rfl;(try simp only [show (k43).sz = 5 from rfl,Nat.mul_one,Nat.add_zero] at hx13_4);have hf13_4:=hfr13 4;(try simp only [show (k43).sz = 5 from rfl,Nat.mul_one,Nat.add_zero] at hf13_4);clear hcl13 hcc13 hfr13 hM13)|((with_reducible refine gate_store (t:=43) (p:=21) rfl ?_);refine store_event (t:=43) (p:=21) (v:=?vo_w14) (w1:=(((((w11.setCell ⟨go10,(x4_1:Int).toNat * 5,none⟩ (.string t164)).setCell ⟨go10,(x4_1:Int).toNat * 5 + 1,none⟩ (.int .i64 t165)).setCell ⟨go10,(x4_1:Int).toNat * 5 + 2,none⟩ (.int .i64 t166)).setCell ⟨go10,(x4_1:Int).toNat * 5 + 3,none⟩ (.string t167)).setCell ⟨go10,(x4_1:Int).toNat * 5 + 4,none⟩ (.slice Ao12 t168.length co12))) ?hg ?ho ?hn ?hr ?_;(case ho=>rfl);(case hg=>rfl);(case hn=>rfl);(case hr=>first|(go_simp;done)|(go_simp;rfl));intro w14 hw;have hg:w11.grownBy w14 (some go10):=(by rw [hw];exact HP13.2);have hp_:Kd.R k43 43 w14 w.heap.size (fun _=>True) (.slice (some ⟨go10,0,none⟩) x3_1.length co10) y171:=(by rw [hw,Ny171.out];exact HP13.1);clear HP13;have n_:=ai (Aside0.mk (hp_)) <| Aside0.mk ((by rw [hw];exact below_set (below_set (below_set (below_set (below_set (HB.out) GB10.out) GB10.out) GB10.out) GB10.out) GB10.out:Below w.heap.size w w14));clear HO_3 HB HO170;obtain ⟨HO_3,HB⟩:=n_;clear hg hw hp_))
        go_roundg k1
        case measure=>have:=HK1.out;omega
        case rel=>exact ⟨(y171),(wrap64 (x4_1 + 1)),(cl2),H',⟨by have:=HK1.out;omega⟩,⟨rk HO_3.out⟩,⟨bl HB.out⟩⟩
       ·rw [if_neg c9] at H
        exact absurd H (by simp)
      ·rw [if_neg c7] at H
       exact absurd H (by simp)
     ·rw [if_neg c6] at H
      have c6b0:decide (x4_1 < (l0.length:Int)) = false:=decide_eq_false c6;clear c6;obtain rfl:=Option.some.inj H
      go_wp2
      go_ret
      exact ⟨_,cl,rk HO_3.out,bl HB.out⟩
  ·rw [if_neg c3] at H
   exact absurd H (by simp)
 ·rw [if_neg c2] at H
  exact absurd H (by simp)

mutual
def impl_copyTerms.l0:Nat → List (S26) → List (S26) → Int → Int → Option ((List (S26)))
 | 0,_,_,_,_=>none
 | k + 1,x3,x6,x7,x8=>if x8 < x7 then (if 0≤x8 then (if x8 < (x6.length:Int) then ((impl_copyTerm.f k ((rd_T26 x6 x8).f0) ((rd_T26 x6 x8).f1) ((rd_T26 x6 x8).f2) ((rd_T26 x6 x8).f3)).bind fun bt174=>(if x3.length < 2513169434916 then (impl_copyTerms.l0 k (x3 ++ [(⟨bt174.1,bt174.2.1,bt174.2.2.1,bt174.2.2.2⟩:S26)]) x6 x7 (wrap64 (x8 + 1))) else (none))) else (none)) else (none)) else (some x3)
def impl_copyTerms.f:Nat → List (S26) → Option ((List (S26)))
 | 0,_=>none
 | k + 1,l0=>impl_copyTerms.l0 k ([]:List (S26)) l0 (l0.length:Int) 0
def impl_copyTerm.f:Nat → Int → Int → ByteArray → List (S26) → Option (Int × Int × ByteArray × (List (S26)))
 | 0,_,_,_,_=>none
 | k + 1,a0_0,a0_1,a0_2,l0_3=>(impl_copyTerms.f k l0_3).bind fun t185=>(some (a0_0,a0_1,a0_2,t185))
end
theorem impl_copyTerms.mono_g:∀ k,(∀ y0,LeO (impl_copyTerms.f k y0) (impl_copyTerms.f (k + 1) y0))∧(∀ y0 y1 y2 y3,LeO (impl_copyTerms.l0 k y0 y1 y2 y3) (impl_copyTerms.l0 (k + 1) y0 y1 y2 y3))∧(∀ y0 y1 y2 y3,LeO (impl_copyTerm.f k y0 y1 y2 y3) (impl_copyTerm.f (k + 1) y0 y1 y2 y3))
 | 0=>⟨fun _ r h=>by simp [impl_copyTerms.f] at h,fun _ _ _ _ r h=>by simp [impl_copyTerms.l0] at h,fun _ _ _ _ r h=>by simp [impl_copyTerm.f] at h⟩
 | k + 1=>by
  obtain ⟨ih0,ih1,ih2⟩:=impl_copyTerms.mono_g k
  refine ⟨?_,?_,?_⟩
  ·intro y0
   unfold impl_copyTerms.f
   with_reducible repeat' first|apply ih0|apply ih1|apply ih2|apply LeO.refl|apply LeO.none|apply LeO.ite|refine LeO.bind ?_ (fun _=>?_)
  ·intro y0 y1 y2 y3
   unfold impl_copyTerms.l0
   with_reducible repeat' first|apply ih0|apply ih1|apply ih2|apply LeO.refl|apply LeO.none|apply LeO.ite|refine LeO.bind ?_ (fun _=>?_)
  ·intro y0 y1 y2 y3
   unfold impl_copyTerm.f
   with_reducible repeat' first|apply ih0|apply ih1|apply ih2|apply LeO.refl|apply LeO.none|apply LeO.ite|refine LeO.bind ?_ (fun _=>?_)
theorem impl_copyTerms.mono:∀ a0 k,LeO (impl_copyTerms.f k a0) (impl_copyTerms.f (k + 1) a0):=by
 intro a0 k;obtain ⟨ih0,ih1,ih2⟩:=impl_copyTerms.mono_g k
 exact ih0 a0
theorem impl_copyTerm.mono:∀ a0 a1 a2 a3 k,LeO (impl_copyTerm.f k a0 a1 a2 a3) (impl_copyTerm.f (k + 1) a0 a1 a2 a3):=by
 intro a0 a1 a2 a3 k;obtain ⟨ih0,ih1,ih2⟩:=impl_copyTerms.mono_g k
 exact ih2 a0 a1 a2 a3
/-! ### impl_copyTerms: function 24 -/
set_option maxHeartbeats 8000000 in
set_option maxRecDepth 100000 in
theorem impl_copyTerms.step (k:Nat) (ih_impl_copyTerms:∀ k_,k_ < k → ∀ (A0:Option Addr) (c0:Nat) (l0:List (S26)) (r:List (S26)) (w:World) (hr0:Kd.C k26 w A0 l0.length l0) (hc0:l0.length≤c0) (h:impl_copyTerms.f k_ l0 = some r),Calls Try.prog 24 #[.slice A0 l0.length c0] w fun e w'=>∃ v0_:Value,e = .returned (v0_)∧Kd.R k26 26 w' w.heap.size (fun _=>True) v0_ r∧Below w.heap.size w w') (ih_impl_copyTerm:∀ k_,k_ < k → ∀ (a0_0:Int) (a0_1:Int) (a0_2:ByteArray) (A0_3:Option Addr) (c0_3:Nat) (l0_3:List (S26)) (r1:Int) (r2:Int) (r3:ByteArray) (r4:List (S26)) (w:World) (hr0_3:Kd.C k26 w A0_3 l0_3.length l0_3) (hc0_3:l0_3.length≤c0_3) (h:impl_copyTerm.f k_ a0_0 a0_1 a0_2 l0_3 = some (r1,r2,r3,r4)),Calls Try.prog 16 #[.agg #[.int .i64 a0_0,.int .i64 a0_1,.string a0_2,.slice A0_3 l0_3.length c0_3]] w fun e w'=>∃ v3_:Value,e = .returned (.agg #[.int .i64 r1,.int .i64 r2,.string r3,v3_])∧Kd.R k26 26 w' w.heap.size (fun _=>True) v3_ r4∧Below w.heap.size w w'):∀ (A0:Option Addr) (c0:Nat) (l0:List (S26)) (r:List (S26)) (w:World) (hr0:Kd.C k26 w A0 l0.length l0) (hc0:l0.length≤c0) (h:impl_copyTerms.f k l0 = some r),
  Calls Try.prog 24 #[.slice A0 l0.length c0] w fun e w'=>∃ v0_:Value,e = .returned (v0_)∧Kd.R k26 26 w' w.heap.size (fun _=>True) v0_ r∧Below w.heap.size w w':=by
 intro A0 c0 l0 r w hr0 hc0 h
 cases k with
 | zero=>exact absurd h (by simp [impl_copyTerms.f])
 | succ k =>
 simp only [impl_copyTerms.f] at h;have hu26:=Try.underlying26;have HR0:=Aside0.mk hr0;have HC0:=Aside0.mk hc0;clear hr0 hc0;have HB:=Aside0.mk (Below.refl w.heap.size w);have H:(impl_copyTerms.l0 k ([]:List (S26)) l0 (l0.length:Int) 0) = some r:=h;clear h;have H':=Aside0.mk H;clear H
 go_enter Try.func24,Try.ntmps24
 go_wp2
 go_loopg [3,8] k (fun kq v3 v8 w'=>∃ (x3_1:List (S26)) (x8_1:Int),v8 = .int .i64 x8_1∧Aside0 (impl_copyTerms.l0 kq x3_1 l0 (l0.length:Int) x8_1 = some r)∧Aside0 (kq≤k)∧Aside0 (Kd.R k26 26 w' w.heap.size (fun _=>True) v3 x3_1)∧Aside0 (Below w.heap.size w w'))
 case atStart=>exact ⟨(([]:List (S26))),(0),(cl2),H',⟨Nat.le_refl _⟩,⟨by first|exact Kd.R_nil _ _ _ _ _|exact Kd.N_nil _ _ _ _ _|exact Kd.V_nil _ _ _ _ _|exact Kd.Q_nil _ _ _ _ _|exact Kd.S_nil _ _ _ _ _⟩,⟨bl HB.out⟩⟩
 case round =>
  clear H';(try clear HB);obtain ⟨x3_1,x8_1,rfl,HA,HK1,HO_3,HB⟩:=hrel
  cases gk with
  | zero=>exact absurd HA.out (by simp [impl_copyTerms.l0])
  | succ k1 =>
   have H:=HA.out;clear HA;simp only [impl_copyTerms.l0] at H
   by_cases c2:x8_1 < (l0.length:Int)
   ·rw [if_pos c2] at H
    have c2b0:decide (x8_1 < (l0.length:Int)) = true:=decide_eq_true c2;clear c2
    by_cases c3:0≤x8_1
    ·rw [if_pos c3] at H
     have c3b0:decide (0≤x8_1) = true:=decide_eq_true c3;clear c3
     by_cases c4:x8_1 < (l0.length:Int)
     ·rw [if_pos c4] at H
      have c4b0:decide (x8_1 < (l0.length:Int)) = true:=decide_eq_true c4;clear c4;replace H:=Option.bind_eq_some_iff.mp H;obtain ⟨⟨t174,t175,t176,t177⟩,A50,H⟩:=H;replace H:(if x3_1.length < 2513169434916 then (impl_copyTerms.l0 k1 (x3_1 ++ [(⟨t174,t175,t176,t177⟩:S26)]) l0 (l0.length:Int) (wrap64 (x8_1 + 1))) else (none)) = some r:=H;have A5:=Aside0.mk A50;clear A50
      by_cases c6:x3_1.length < 2513169434916
      ·rw [if_pos c6] at H
       have LMc6:=Aside0.mk c6;clear c6;obtain ⟨y180,hy180⟩:∃ y_:List (S26),y_ = (x3_1 ++ [(⟨t174,t175,t176,t177⟩:S26)]):=⟨_,rfl⟩;replace H:(impl_copyTerms.l0 k1 y180 l0 (l0.length:Int) (wrap64 (x8_1 + 1))) = some r:=by first|(rw [hy180];with_reducible exact H)|(have H2_:=(Option.bind_some _ _).symm.trans H;rw [hy180];with_reducible exact H2_)|(have H2_:=(Option.bind_some _ _).symm.trans H;with_reducible exact H2_)|with_reducible exact H|(rw [hy180];exact H)|exact H
       have Ny180:=Aside0.mk hy180;clear hy180;have H':=Aside0.mk H;clear H;have p172:0≤(x8_1:Int):=od;have q172:x8_1 < (l0.length:Int):=od;obtain ⟨ad172,A172_3,c172_3,e172,hx172_0,hx172_1,hx172_2,hx172_3,hl172_3,hi172_3⟩:=at_T26 HR0.out x8_1 p172 q172;cases e172;replace hx172_0:=cb HB hx172_0;replace hx172_1:=cb HB hx172_1;replace hx172_2:=cb HB hx172_2;replace hx172_3:=cb HB hx172_3;have HR172_3:=Aside0.mk hi172_3;have HC172_3:=Aside0.mk hl172_3;clear hi172_3 hl172_3;replace p172:=eq_true p172;replace q172:=eq_true q172
       go_wp2_with (first|((with_reducible refine gate_dst (N:=5) rfl ?_);refine box_event ?hg (N:=5) ?hd (cs:=#[.int .i64 0,.int .i64 0,.string (⟨#[]⟩:ByteArray),.slice none 0 0]) (t:=26) ?hr ?_;(case hd=>rfl);(case hg=>rfl);(case hr=>first|(go_simp;done)|(go_simp;rfl));intro gb173 hg w7 hbox hb;have n_:=ai (rbm HO_3 hg hb) <| ai (bq HB hb) <| ai (Aside0.mk (hbox)) <| ai (bz hg HB) <| bz hg HB;clear HO_3 HB;obtain ⟨HO_3,HB,BK173,GW173,GE173⟩:=n_;clear hb hbox hg;obtain ⟨h8_0,h8_1,h8_2,h8_3⟩:=kb4 BK173.out;obtain ⟨z8_0,z8_1,z8_2,z8_3⟩:=kz4 BK173.out)|((with_reducible refine gate_callee (f:=16) rfl ?_);refine goesL_ (some 14) rfl rfl Try.func16 (by kernel_rfl) rfl #[.agg #[.int .i64 ((rd_T26 l0 x8_1).f0),.int .i64 ((rd_T26 l0 x8_1).f1),.string ((rd_T26 l0 x8_1).f2),.slice A172_3 ((rd_T26 l0 x8_1).f3).length c172_3]] rfl gs ?_;(with_reducible refine (ih_impl_copyTerm k1 (by have:=HK1.out;omega) ((rd_T26 l0 x8_1).f0) ((rd_T26 l0 x8_1).f1) ((rd_T26 l0 x8_1).f2) _ _ ((rd_T26 l0 x8_1).f3) t174 t175 t176 t177 _ ?side1 ?side2 A5.out).mono ?_);(case side1=>exact Kd.C_below HR172_3.out (bl HB.out));(case side2=>exact HC172_3.out);rintro e w9 ⟨v178,rfl,ho0,hb⟩;refine ⟨_,rfl,?_⟩;have n_:=ai (Aside0.mk (Kd.R_elder' (by (with_reducible repeat (first|apply Kd.R_alloc|apply Kd.R_drewN|apply Kd.R_drew));exact (Kd.R_mono (rfm (Kd.R_mono HO_3.out (fun k_ hk=>(⟨hk,hk.2⟩:_∧k_≠gb173)))) (fun _ h_=>h_.1))) (Kd.R_base ho0) hb)) <| ai (Aside0.mk (Kd.R_lower (Kd.R_newB (Kd.R_new' ho0 (Kd.R_lt (by (with_reducible repeat (first|apply Kd.R_alloc|apply Kd.R_drewN|apply Kd.R_drew));exact (Kd.R_mono (rfm (Kd.R_mono HO_3.out (fun k_ hk=>(⟨hk,hk.2⟩:_∧k_≠gb173)))) (fun _ h_=>h_.1))))) (g:=gb173) (o:=.cells #[.int .i64 ((rd_T26 l0 x8_1).f0),.int .i64 ((rd_T26 l0 x8_1).f1),.string ((rd_T26 l0 x8_1).f2),.slice A172_3 ((rd_T26 l0 x8_1).f3).length c172_3] 26 (0,0)) (bmp BK173.out)) (below_size (bl HB.out)))) <| ai (Aside0.mk (blk_below (g:=gb173) (o:=.cells #[.int .i64 ((rd_T26 l0 x8_1).f0),.int .i64 ((rd_T26 l0 x8_1).f1),.string ((rd_T26 l0 x8_1).f2),.slice A172_3 ((rd_T26 l0 x8_1).f3).length c172_3] 26 (0,0)) (bmp BK173.out) hb)) <| bq HB hb;clear HO_3 BK173 HB;obtain ⟨HO_3,HO179,BK173,HB⟩:=n_;(try clear hb);(try clear hk);(try clear ho0);obtain ⟨Ao11,co11,eo11⟩:=Kd.R_slice HO179.out;subst eo11)|((with_reducible refine gate_builtin (b:=.append) (xs:=#[.tmp 12,.tmp 15]) rfl ?_);at_builtin;refine Kd.R_append k26 (w0:=w) w.heap.size rfl (.tmp 12) (.tmp 15) 24 26 (.agg #[(.int .i64 0),(.int .i64 0),(.string ⟨#[]⟩),(.slice none 0 0)]) 56 rfl Try.underlying24 info26 rfl (by decide) (by omega) u3 x3_1 (⟨t174,t175,t176,t177⟩:S26) [.int .i64 t174,.int .i64 t175,.string t176,.slice Ao11 t177.length co11] (fun k_=>k_≠gb173) (fun k_=>((fun k_=>k_≠gb173)) k_∧some k_≠(u3:Value).ownBlock) rfl rfl ?aP (fun _ hk=>hk) ?aF ?aO ?aB ?aS ?aL ?_;(case aP=>exact k26_mkM _ _ _ (⟨t174,t175,t176,t177⟩:S26) (Kd.R_mono (HO179.out) (fun k_ hk=>⟨hk.2,hk.1.2⟩)));(case aB=>exact (bl HB.out));(case aF=>exact (fun k_ hk=>Kd.freshB (g:=gb173) (o:=.cells #[.int .i64 ((rd_T26 l0 x8_1).f0),.int .i64 ((rd_T26 l0 x8_1).f1),.string ((rd_T26 l0 x8_1).f2),.slice A172_3 ((rd_T26 l0 x8_1).f3).length c172_3] 26 (0,0)) (bk BK173.out) k_ hk));(case aO=>exact (by (with_reducible repeat (first|apply Kd.R_alloc|apply Kd.R_drewN|apply Kd.R_drew));exact Kd.R_mono HO_3.out (fun _ hk=>hk.1.2)));(case aS=>exact (below_size (bl HB.out)));(case aL=>have:=LMc6.out;omega);intro v181 w10 ho hb hg hat;rw [← Ny180.out] at ho;have n_:=ai (Aside0.mk (blk_grown (g:=gb173) (o:=.cells #[.int .i64 ((rd_T26 l0 x8_1).f0),.int .i64 ((rd_T26 l0 x8_1).f1),.string ((rd_T26 l0 x8_1).f2),.slice A172_3 ((rd_T26 l0 x8_1).f3).length c172_3] 26 (0,0)) (bk BK173.out) hg (Kd.R_away HO_3.out (fun _ hk=>hk.1.2)))) <| ai (Aside0.mk (hb)) <| Aside0.mk (ho);clear BK173 HB HO_3 HO179;obtain ⟨BK173,HB,HO182⟩:=n_;clear ho hb hg hat))
       go_roundg k1
       case measure=>have:=HK1.out;omega
       case rel=>exact ⟨(y180),(wrap64 (x8_1 + 1)),(cl2),H',⟨by have:=HK1.out;omega⟩,⟨by (with_reducible repeat (first|apply Kd.R_alloc|apply Kd.R_drewN|apply Kd.R_drew));exact Kd.R_mono HO182.out (fun _ hk=>trivial)⟩,⟨bl HB.out⟩⟩
      ·rw [if_neg c6] at H
       exact absurd H (by simp)
     ·rw [if_neg c4] at H
      exact absurd H (by simp)
    ·rw [if_neg c3] at H
     exact absurd H (by simp)
   ·rw [if_neg c2] at H
    have c2b0:decide (x8_1 < (l0.length:Int)) = false:=decide_eq_false c2;clear c2;obtain rfl:=Option.some.inj H
    go_wp2
    go_ret
    exact ⟨_,cl,rk HO_3.out,bl HB.out⟩

/-! ### impl_copyTerm: function 16 -/
set_option maxHeartbeats 8000000 in
set_option maxRecDepth 100000 in
theorem impl_copyTerm.step (k:Nat) (ih_impl_copyTerms:∀ k_,k_ < k → ∀ (A0:Option Addr) (c0:Nat) (l0:List (S26)) (r:List (S26)) (w:World) (hr0:Kd.C k26 w A0 l0.length l0) (hc0:l0.length≤c0) (h:impl_copyTerms.f k_ l0 = some r),Calls Try.prog 24 #[.slice A0 l0.length c0] w fun e w'=>∃ v0_:Value,e = .returned (v0_)∧Kd.R k26 26 w' w.heap.size (fun _=>True) v0_ r∧Below w.heap.size w w') (ih_impl_copyTerm:∀ k_,k_ < k → ∀ (a0_0:Int) (a0_1:Int) (a0_2:ByteArray) (A0_3:Option Addr) (c0_3:Nat) (l0_3:List (S26)) (r1:Int) (r2:Int) (r3:ByteArray) (r4:List (S26)) (w:World) (hr0_3:Kd.C k26 w A0_3 l0_3.length l0_3) (hc0_3:l0_3.length≤c0_3) (h:impl_copyTerm.f k_ a0_0 a0_1 a0_2 l0_3 = some (r1,r2,r3,r4)),Calls Try.prog 16 #[.agg #[.int .i64 a0_0,.int .i64 a0_1,.string a0_2,.slice A0_3 l0_3.length c0_3]] w fun e w'=>∃ v3_:Value,e = .returned (.agg #[.int .i64 r1,.int .i64 r2,.string r3,v3_])∧Kd.R k26 26 w' w.heap.size (fun _=>True) v3_ r4∧Below w.heap.size w w'):∀ (a0_0:Int) (a0_1:Int) (a0_2:ByteArray) (A0_3:Option Addr) (c0_3:Nat) (l0_3:List (S26)) (r1:Int) (r2:Int) (r3:ByteArray) (r4:List (S26)) (w:World) (hr0_3:Kd.C k26 w A0_3 l0_3.length l0_3) (hc0_3:l0_3.length≤c0_3) (h:impl_copyTerm.f k a0_0 a0_1 a0_2 l0_3 = some (r1,r2,r3,r4)),
  Calls Try.prog 16 #[.agg #[.int .i64 a0_0,.int .i64 a0_1,.string a0_2,.slice A0_3 l0_3.length c0_3]] w fun e w'=>∃ v3_:Value,e = .returned (.agg #[.int .i64 r1,.int .i64 r2,.string r3,v3_])∧Kd.R k26 26 w' w.heap.size (fun _=>True) v3_ r4∧Below w.heap.size w w':=by
 intro a0_0 a0_1 a0_2 A0_3 c0_3 l0_3 r1 r2 r3 r4 w hr0_3 hc0_3 h
 cases k with
 | zero=>exact absurd h (by simp [impl_copyTerm.f])
 | succ k =>
 simp only [impl_copyTerm.f] at h;have hu26:=Try.underlying26;have HR0_3:=Aside0.mk hr0_3;have HC0_3:=Aside0.mk hc0_3;clear hr0_3 hc0_3;have HB:=Aside0.mk (Below.refl w.heap.size w);have H:((impl_copyTerms.f k l0_3).bind fun t185=>(some (a0_0,a0_1,a0_2,t185))) = some (r1,r2,r3,r4):=h;clear h;replace H:=Option.bind_eq_some_iff.mp H;obtain ⟨t185,A20,H⟩:=H;replace H:(some (a0_0,a0_1,a0_2,t185)) = some (r1,r2,r3,r4):=H;have A2:=Aside0.mk A20;clear A20;simp only [Option.some.injEq,Prod.mk.injEq] at H;obtain ⟨rfl,rfl,rfl,rfl⟩:=H
 go_enter Try.func16,Try.ntmps16
 go_wp2_with (first|((with_reducible refine gate_dst (N:=1) rfl ?_);refine box_event ?hg (N:=1) ?hd (cs:=#[.int .i64 a0_0,.int .i64 a0_1,.string a0_2,.slice A0_3 l0_3.length c0_3]) (t:=26) ?hr ?_;(case hd=>rfl);(case hg=>rfl);(case hr=>first|(go_simp;done)|(go_simp;rfl));intro gb183 hg w3 hbox hb;have n_:=ai (bq HB hb) <| ai (Aside0.mk (hbox)) <| ai (bz hg HB) <| bz hg HB;clear HB;obtain ⟨HB,BK183,GW183,GE183⟩:=n_;clear hb hbox hg)|((with_reducible refine gate_dst (N:=2) rfl ?_);refine box_event ?hg (N:=2) ?hd (cs:=#[.int .i64 0,.int .i64 0,.string (⟨#[]⟩:ByteArray),.slice none 0 0]) (t:=26) ?hr ?_;(case hd=>rfl);(case hg=>rfl);(case hr=>first|(go_simp;done)|(go_simp;rfl));intro gb184 hg w4 hbox hb;have n_:=ai (bw BK183 hb) <| ai (bq HB hb) <| ai (Aside0.mk (hbox)) <| ai (bz hg HB) <| ai (bz hg HB) <| ai (nl hg BK183) <| ng hg BK183;clear BK183 HB;obtain ⟨BK183,HB,BK184,GW184,GE184,NB183_184,NB184_183⟩:=n_;clear hb hbox hg;have:=NB183_184.out;have:=NB184_183.out;obtain ⟨h6_0,h6_1,h6_2,h6_3⟩:=kb4 BK183.out;obtain ⟨z6_0,z6_1,z6_2,z6_3⟩:=kz4 BK183.out)|((with_reducible refine gate_callee (f:=24) rfl ?_);refine goesL_ (some 5) rfl rfl Try.func24 (by kernel_rfl) rfl #[.slice A0_3 l0_3.length c0_3] rfl gs ?_;(with_reducible refine (ih_impl_copyTerms k (by omega) _ _ l0_3 t185 _ ?side1 ?side2 A2.out).mono ?_);(case side1=>exact ck (Kd.C_below HR0_3.out HB.out));(case side2=>exact HC0_3.out);rintro e w7 ⟨v186,rfl,ho0,hb⟩;refine ⟨_,rfl,?_⟩;have n_:=ai (Aside0.mk (Kd.R_lower (Kd.R_newB (Kd.R_newB ho0 (g:=gb183) (o:=.cells #[.int .i64 a0_0,.int .i64 a0_1,.string a0_2,.slice A0_3 l0_3.length c0_3] 26 (0,0)) (bk BK183.out)) (g:=gb184) (o:=.cells #[.int .i64 0,.int .i64 0,.string (⟨#[]⟩:ByteArray),.slice none 0 0] 26 (0,0)) (bk BK184.out)) (below_size (bl HB.out)))) <| ai (bw BK183 hb) <| ai (bw BK184 hb) <| bq HB hb;clear BK183 BK184 HB;obtain ⟨HO187,BK183,BK184,HB⟩:=n_;(try clear hb);(try clear ho0);obtain ⟨Ao8,co8,eo8⟩:=Kd.R_slice HO187.out;subst eo8;obtain ⟨h9_0,h9_1,h9_2,h9_3⟩:=kb4 BK183.out;obtain ⟨z9_0,z9_1,z9_2,z9_3⟩:=kz4 BK183.out;obtain ⟨h10_0,h10_1,h10_2,h10_3⟩:=kb4 BK184.out;obtain ⟨z10_0,z10_1,z10_2,z10_3⟩:=kz4 BK184.out))
 refine bodyPost_ret (results_cell_row rfl _ _ gb184 26 #[.int .i64 a0_0,.int .i64 a0_1,.string a0_2,.slice Ao8 t185.length co8] (0,0) _ rfl (bmp BK184.out) Try.underlying26 rfl (by kernel_rfl)) rfl ?_
 exact ⟨_,cl,by (with_reducible repeat (first|apply Kd.R_alloc|apply Kd.R_drewN|apply Kd.R_drew));exact Kd.R_mono (rfm (Kd.R_mono (Kd.R_mono HO187.out (fun k_ hk=>(⟨hk,hk.1.2⟩:_∧k_≠gb183))) (fun k_ hk=>(⟨hk,hk.1.2⟩:_∧k_≠gb184)))) (fun _ hk=>trivial),bl HB.out⟩

theorem impl_copyTerms.all (k:Nat):(∀ (A0:Option Addr) (c0:Nat) (l0:List (S26)) (r:List (S26)) (w:World) (hr0:Kd.C k26 w A0 l0.length l0) (hc0:l0.length≤c0) (h:impl_copyTerms.f k l0 = some r),Calls Try.prog 24 #[.slice A0 l0.length c0] w fun e w'=>∃ v0_:Value,e = .returned (v0_)∧Kd.R k26 26 w' w.heap.size (fun _=>True) v0_ r∧Below w.heap.size w w')∧(∀ (a0_0:Int) (a0_1:Int) (a0_2:ByteArray) (A0_3:Option Addr) (c0_3:Nat) (l0_3:List (S26)) (r1:Int) (r2:Int) (r3:ByteArray) (r4:List (S26)) (w:World) (hr0_3:Kd.C k26 w A0_3 l0_3.length l0_3) (hc0_3:l0_3.length≤c0_3) (h:impl_copyTerm.f k a0_0 a0_1 a0_2 l0_3 = some (r1,r2,r3,r4)),Calls Try.prog 16 #[.agg #[.int .i64 a0_0,.int .i64 a0_1,.string a0_2,.slice A0_3 l0_3.length c0_3]] w fun e w'=>∃ v3_:Value,e = .returned (.agg #[.int .i64 r1,.int .i64 r2,.string r3,v3_])∧Kd.R k26 26 w' w.heap.size (fun _=>True) v3_ r4∧Below w.heap.size w w'):=by
 induction k using Nat.strongRecOn with
 | _ k ih =>
 exact ⟨impl_copyTerms.step k (fun k_ h_=>(ih k_ h_).1) (fun k_ h_=>(ih k_ h_).2),impl_copyTerm.step k (fun k_ h_=>(ih k_ h_).1) (fun k_ h_=>(ih k_ h_).2)⟩
theorem impl_copyTerms.calls (k:Nat):∀ (A0:Option Addr) (c0:Nat) (l0:List (S26)) (r:List (S26)) (w:World) (hr0:Kd.C k26 w A0 l0.length l0) (hc0:l0.length≤c0) (h:impl_copyTerms.f k l0 = some r),Calls Try.prog 24 #[.slice A0 l0.length c0] w fun e w'=>∃ v0_:Value,e = .returned (v0_)∧Kd.R k26 26 w' w.heap.size (fun _=>True) v0_ r∧Below w.heap.size w w':=(impl_copyTerms.all k).1
theorem impl_copyTerm.calls (k:Nat):∀ (a0_0:Int) (a0_1:Int) (a0_2:ByteArray) (A0_3:Option Addr) (c0_3:Nat) (l0_3:List (S26)) (r1:Int) (r2:Int) (r3:ByteArray) (r4:List (S26)) (w:World) (hr0_3:Kd.C k26 w A0_3 l0_3.length l0_3) (hc0_3:l0_3.length≤c0_3) (h:impl_copyTerm.f k a0_0 a0_1 a0_2 l0_3 = some (r1,r2,r3,r4)),Calls Try.prog 16 #[.agg #[.int .i64 a0_0,.int .i64 a0_1,.string a0_2,.slice A0_3 l0_3.length c0_3]] w fun e w'=>∃ v3_:Value,e = .returned (.agg #[.int .i64 r1,.int .i64 r2,.string r3,v3_])∧Kd.R k26 26 w' w.heap.size (fun _=>True) v3_ r4∧Below w.heap.size w w':=(impl_copyTerms.all k).2

end Go.Proofs.Ytmcmhpiknhjiaaa.QFnExactBindOf
