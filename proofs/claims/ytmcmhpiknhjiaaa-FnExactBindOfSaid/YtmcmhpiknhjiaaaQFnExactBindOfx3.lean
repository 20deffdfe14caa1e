-- Written by a program of this workplace (print2.py) for this claim, over the print's words.
import Derived.Test.YtmcmhpiknhjiaaaQFnExactBindOfx0
import Derived.Test.YtmcmhpiknhjiaaaQFnExactBindOfx2
namespace Go.Proofs.Ytmcmhpiknhjiaaa.QFnExactBindOf
open Go.RowKit Go.Proofs.YtmcmhpiknhjiaaaW.PrintWords Go.Proofs.YtmcmhpiknhjiaaaW.PrintLast Go.Proofs.YtmcmhpiknhjiaaaW.PrintMore
attribute [local go_sem] max2_int min2_int max_two min_two max_three min_three max_four min_four   -- for this text's walks alone
set_option linter.unusedVariables false
set_option linter.unusedSimpArgs false

/-! ### impl_BindOf: function 7 -/
def impl_BindOf.l0:Nat → ByteArray → List (S43) → Int → Int → Option (Int × Int × ByteArray × (List (S26)) × Bool)
 | 0,_,_,_,_=>none
 | k + 1,x1,x8,x9,x10=>if x10 < x9 then (if 0≤x10 then (if x10 < (x8.length:Int) then (if ((rd_T43 x8 x10).f0).toList = x1.toList then ((impl_copyTerm.f k ((rd_T43 x8 x10).f1.f0) ((rd_T43 x8 x10).f1.f1) ((rd_T43 x8 x10).f1.f2) ((rd_T43 x8 x10).f1.f3)).bind fun bt191=>(some (bt191.1,bt191.2.1,bt191.2.2.1,bt191.2.2.2,true))) else (impl_BindOf.l0 k x1 x8 x9 (wrap64 (x10 + 1)))) else (none)) else (none)) else (some (0,0,(⟨#[]⟩:ByteArray),([]:List (S26)),false))
def impl_BindOf.f (k:Nat) (l0:List (S43)) (a1:ByteArray):Option (Int × Int × ByteArray × (List (S26)) × Bool):=impl_BindOf.l0 k a1 l0 (l0.length:Int) 0
theorem impl_BindOf.mono_l:∀ k,(∀ y0 y1 y2 y3,LeO (impl_BindOf.l0 k y0 y1 y2 y3) (impl_BindOf.l0 (k + 1) y0 y1 y2 y3))
 | 0=>fun _ _ _ _ r h=>by simp [impl_BindOf.l0] at h
 | k + 1=>by
  have ih0:=impl_BindOf.mono_l k
  ·intro y0 y1 y2 y3
   unfold impl_BindOf.l0
   with_reducible repeat' first|apply ih0|apply impl_copyTerm.mono|apply LeO.refl|apply LeO.none|apply LeO.ite|refine LeO.bind ?_ (fun _=>?_)
theorem impl_BindOf.mono:∀ a0 a1 k,LeO (impl_BindOf.f k a0 a1) (impl_BindOf.f (k + 1) a0 a1):=by
 intro a0 a1 k;have ih0:=impl_BindOf.mono_l k
 unfold impl_BindOf.f
 with_reducible repeat' first|apply ih0|apply impl_copyTerm.mono|apply LeO.refl|apply LeO.none|apply LeO.ite|refine LeO.bind ?_ (fun _=>?_)
set_option maxHeartbeats 8000000 in
set_option maxRecDepth 100000 in
theorem impl_BindOf.calls (k:Nat) (A0:Option Addr) (c0:Nat) (l0:List (S43)) (a1:ByteArray) (r1:Int) (r2:Int) (r3:ByteArray) (r4:List (S26)) (r5:Bool) (w:World) (hr0:Kd.C k43 w A0 l0.length l0) (hc0:l0.length≤c0) (h:impl_BindOf.f k l0 a1 = some (r1,r2,r3,r4,r5)) :
  Calls Try.prog 7 #[.slice A0 l0.length c0,.string a1] w fun e w'=>∃ v3_:Value,e = .returned (.tuple #[.agg #[.int .i64 r1,.int .i64 r2,.string r3,v3_],.bool r5])∧Kd.R k26 26 w' w.heap.size (fun _=>True) v3_ r4∧Below w.heap.size w w':=by
 have hu26:=Try.underlying26;have hu43:=Try.underlying43;have HR0:=Aside0.mk hr0;have HC0:=Aside0.mk hc0;clear hr0 hc0;have HB:=Aside0.mk (Below.refl w.heap.size w);have H:(impl_BindOf.l0 k a1 l0 (l0.length:Int) 0) = some (r1,r2,r3,r4,r5):=h;clear h;have H':=Aside0.mk H;clear H
 go_enter Try.func7,Try.ntmps7
 go_wp2_with (first|((with_reducible refine gate_dst (N:=4) rfl ?_);refine box_event ?hg (N:=4) ?hd (cs:=#[.int .i64 0,.int .i64 0,.string (⟨#[]⟩:ByteArray),.slice none 0 0]) (t:=26) ?hr ?_;(case hd=>rfl);(case hg=>rfl);(case hr=>first|(go_simp;done)|(go_simp;rfl));intro gb188 hg w3 hbox hb;have n_:=ai (bq HB hb) <| ai (Aside0.mk (hbox)) <| ai (bz hg HB) <| bz hg HB;clear HB;obtain ⟨HB,BK188,GW188,GE188⟩:=n_;clear hb hbox hg))
 go_loopg [10] k (fun kq v10 w'=>∃ (x10_1:Int) (x189000_1:Int) (x189001_1:Int) (x189002_1:ByteArray),v10 = .int .i64 x10_1∧Aside0 (impl_BindOf.l0 kq a1 l0 (l0.length:Int) x10_1 = some (r1,r2,r3,r4,r5))∧Aside0 (kq≤k)∧Aside0 (w'.heap[gb188]? = some (.cells #[.int .i64 x189000_1,.int .i64 x189001_1,.string x189002_1,(.slice none 0 0)] 26 (0,0)))∧Aside0 (Below w.heap.size w w'))
 case atStart=>exact ⟨(0),(0),(0),((⟨#[]⟩:ByteArray)),(cl2),H',⟨Nat.le_refl _⟩,⟨bk BK188.out⟩,⟨bl HB.out⟩⟩
 case round =>
  clear H';(try clear BK188);(try clear HB);obtain ⟨x10_1,x189000_1,x189001_1,x189002_1,rfl,HA,HK1,BK188,HB⟩:=hrel
  cases gk with
  | zero=>exact absurd HA.out (by simp [impl_BindOf.l0])
  | succ k1 =>
   have H:=HA.out;clear HA;simp only [impl_BindOf.l0] at H
   by_cases c4:x10_1 < (l0.length:Int)
   ·rw [if_pos c4] at H
    have c4b0:decide (x10_1 < (l0.length:Int)) = true:=decide_eq_true c4;clear c4
    by_cases c5:0≤x10_1
    ·rw [if_pos c5] at H
     have c5b0:decide (0≤x10_1) = true:=decide_eq_true c5;clear c5
     by_cases c6:x10_1 < (l0.length:Int)
     ·rw [if_pos c6] at H
      have c6b0:decide (x10_1 < (l0.length:Int)) = true:=decide_eq_true c6;clear c6
      by_cases c7:((rd_T43 l0 x10_1).f0).toList = a1.toList
      ·rw [if_pos c7] at H
       have c7b0:(((rd_T43 l0 x10_1).f0).toList == a1.toList) = true:=beq_iff_eq.mpr c7;have c7b1:(((rd_T43 l0 x10_1).f0).toList != a1.toList) = false:=bne_eq_false_iff_eq.mpr c7;clear c7;replace H:=Option.bind_eq_some_iff.mp H;obtain ⟨⟨t191,t192,t193,t194⟩,A80,H⟩:=H;replace H:(some (t191,t192,t193,t194,true)) = some (r1,r2,r3,r4,r5):=H;have A8:=Aside0.mk A80;clear A80;simp only [Option.some.injEq,Prod.mk.injEq] at H;obtain ⟨rfl,rfl,rfl,rfl,rfl⟩:=H;have p189:0≤(x10_1:Int):=od;have q189:x10_1 < (l0.length:Int):=od;obtain ⟨ad189,A189_4,c189_4,e189,hx189_0,hx189_1,hx189_2,hx189_3,hx189_4,hl189_4,hi189_4⟩:=at_T43 HR0.out x10_1 p189 q189;cases e189;replace hx189_0:=cb HB hx189_0;replace hx189_1:=cb HB hx189_1;replace hx189_2:=cb HB hx189_2;replace hx189_3:=cb HB hx189_3;replace hx189_4:=cb HB hx189_4;have HR189_4:=Aside0.mk hi189_4;have HC189_4:=Aside0.mk hl189_4;clear hi189_4 hl189_4;replace p189:=eq_true p189;replace q189:=eq_true q189
       go_wp2_with (first|((with_reducible refine gate_dst (N:=7) rfl ?_);refine box_event ?hg (N:=7) ?hd (cs:=#[.string (⟨#[]⟩:ByteArray),.int .i64 0,.int .i64 0,.string (⟨#[]⟩:ByteArray),.slice none 0 0]) (t:=43) ?hr ?_;(case hd=>rfl);(case hg=>rfl);(case hr=>first|(go_simp;done)|(go_simp;rfl));intro gb190 hg w9 hbox hb;have n_:=ai (bw BK188 hb) <| ai (bq HB hb) <| ai (Aside0.mk (hbox)) <| ai (bz hg HB) <| ai (bz hg HB) <| ai (nl hg BK188) <| ng hg BK188;clear BK188 HB;obtain ⟨BK188,HB,BK190,GW190,GE190,NB188_190,NB190_188⟩:=n_;clear hb hbox hg;have:=NB190_188.out;have:=NB188_190.out;obtain ⟨h11_0,h11_1,h11_2,h11_3,h11_4⟩:=kb5 BK190.out;obtain ⟨z11_0,z11_1,z11_2,z11_3,z11_4⟩:=kz5 BK190.out)|((with_reducible refine gate_callee (f:=16) rfl ?_);refine goesL_ (some 20) rfl rfl Try.func16 (by kernel_rfl) rfl #[.agg #[.int .i64 ((rd_T43 l0 x10_1).f1.f0),.int .i64 ((rd_T43 l0 x10_1).f1.f1),.string ((rd_T43 l0 x10_1).f1.f2),.slice A189_4 ((rd_T43 l0 x10_1).f1.f3).length c189_4]] rfl gs ?_;(with_reducible refine (impl_copyTerm.calls k1 ((rd_T43 l0 x10_1).f1.f0) ((rd_T43 l0 x10_1).f1.f1) ((rd_T43 l0 x10_1).f1.f2) _ _ ((rd_T43 l0 x10_1).f1.f3) t191 t192 t193 t194 _ ?side1 ?side2 A8.out).mono ?_);(case side1=>exact Kd.C_below HR189_4.out (bl HB.out));(case side2=>exact HC189_4.out);rintro e w12 ⟨v195,rfl,ho0,hb⟩;refine ⟨_,rfl,?_⟩;have n_:=ai (Aside0.mk (Kd.R_lower (Kd.R_newB ho0 (g:=gb188) (o:=.cells #[.int .i64 x189000_1,.int .i64 x189001_1,.string x189002_1,.slice none 0 0] 26 (0,0)) (bm BK188.out)) (below_size (bl HB.out)))) <| ai (bwm BK188 hb) <| ai (Aside0.mk (blk_below (g:=gb190) (o:=.cells #[.string ((rd_T43 l0 x10_1).f0),.int .i64 ((rd_T43 l0 x10_1).f1.f0),.int .i64 ((rd_T43 l0 x10_1).f1.f1),.string ((rd_T43 l0 x10_1).f1.f2),.slice A189_4 ((rd_T43 l0 x10_1).f1.f3).length c189_4] 43 (0,0)) (bmp BK190.out) hb)) <| bq HB hb;clear BK188 BK190 HB;obtain ⟨HO196,BK188,BK190,HB⟩:=n_;(try clear hb);(try clear ho0);obtain ⟨h13_0,h13_1,h13_2,h13_3⟩:=kb4 BK188.out;obtain ⟨z13_0,z13_1,z13_2,z13_3⟩:=kz4 BK188.out;obtain ⟨Ao14,co14,eo14⟩:=Kd.R_slice HO196.out;subst eo14))
       refine bodyPost_ret (results_ct rfl _ _ gb188 26 #[.int .i64 t191,.int .i64 t192,.string t193,.slice Ao14 t194.length co14] (0,0) _ rfl (bmp BK188.out) Try.underlying26 rfl (by kernel_rfl)) rfl ?_
       exact ⟨_,cl,by (with_reducible repeat (first|apply Kd.R_alloc|apply Kd.R_drewN|apply Kd.R_drew));exact Kd.R_mono (rfm (Kd.R_mono HO196.out (fun k_ hk=>(⟨hk,hk.2⟩:_∧k_≠gb188)))) (fun _ hk=>trivial),bl HB.out⟩
      ·rw [if_neg c7] at H
       have c7b0:(((rd_T43 l0 x10_1).f0).toList == a1.toList) = false:=beq_eq_false_iff_ne.mpr c7;have c7b1:(((rd_T43 l0 x10_1).f0).toList != a1.toList) = true:=bne_iff_ne.mpr c7;have H':=Aside0.mk H;clear H;have p189:0≤(x10_1:Int):=od;have q189:x10_1 < (l0.length:Int):=od;obtain ⟨ad189,A189_4,c189_4,e189,hx189_0,hx189_1,hx189_2,hx189_3,hx189_4,hl189_4,hi189_4⟩:=at_T43 HR0.out x10_1 p189 q189;cases e189;replace hx189_0:=cb HB hx189_0;replace hx189_1:=cb HB hx189_1;replace hx189_2:=cb HB hx189_2;replace hx189_3:=cb HB hx189_3;replace hx189_4:=cb HB hx189_4;have HR189_4:=Aside0.mk hi189_4;have HC189_4:=Aside0.mk hl189_4;clear hi189_4 hl189_4;replace p189:=eq_true p189;replace q189:=eq_true q189
       go_wp2_with (first|((with_reducible refine gate_dst (N:=7) rfl ?_);refine box_event ?hg (N:=7) ?hd (cs:=#[.string (⟨#[]⟩:ByteArray),.int .i64 0,.int .i64 0,.string (⟨#[]⟩:ByteArray),.slice none 0 0]) (t:=43) ?hr ?_;(case hd=>rfl);(case hg=>rfl);(case hr=>first|(go_simp;done)|(go_simp;rfl));intro gb190 hg w15 hbox hb;have n_:=ai (bw BK188 hb) <| ai (bq HB hb) <| ai (Aside0.mk (hbox)) <| ai (bz hg HB) <| ai (bz hg HB) <| ai (nl hg BK188) <| ng hg BK188;clear BK188 HB;obtain ⟨BK188,HB,BK190,GW190,GE190,NB188_190,NB190_188⟩:=n_;clear hb hbox hg;have:=NB190_188.out;have:=NB188_190.out;obtain ⟨h17_0,h17_1,h17_2,h17_3,h17_4⟩:=kb5 BK190.out;obtain ⟨z17_0,z17_1,z17_2,z17_3,z17_4⟩:=kz5 BK190.out))
       go_roundg k1
       case measure=>have:=HK1.out;omega
       case rel=>exact ⟨(wrap64 (x10_1 + 1)),(x189000_1),(x189001_1),(x189002_1),(cl2),H',⟨by have:=HK1.out;omega⟩,⟨bm BK188.out⟩,⟨bl HB.out⟩⟩
     ·rw [if_neg c6] at H
      exact absurd H (by simp)
    ·rw [if_neg c5] at H
     exact absurd H (by simp)
   ·rw [if_neg c4] at H
    have c4b0:decide (x10_1 < (l0.length:Int)) = false:=decide_eq_false c4;clear c4;simp only [Option.some.injEq,Prod.mk.injEq] at H;obtain ⟨rfl,rfl,rfl,rfl,rfl⟩:=H;obtain ⟨h18_0,h18_1,h18_2,h18_3⟩:=kb4 BK188.out;obtain ⟨z18_0,z18_1,z18_2,z18_3⟩:=kz4 BK188.out
    go_wp2
    refine bodyPost_ret (results_ct rfl _ _ gb188 26 #[.int .i64 0,.int .i64 0,.string (⟨#[]⟩:ByteArray),.slice none 0 0] (0,0) _ rfl (bmp BK188.out) Try.underlying26 rfl (by kernel_rfl)) rfl ?_
    exact ⟨_,cl,by first|exact Kd.R_nil _ _ _ _ _|exact Kd.N_nil _ _ _ _ _|exact Kd.V_nil _ _ _ _ _|exact Kd.Q_nil _ _ _ _ _|exact Kd.S_nil _ _ _ _ _,bl HB.out⟩

mutual
def laws_eqTermS.l0:Nat → List (S26) → List (S26) → Int → Option (Bool)
 | 0,_,_,_=>none
 | k + 1,x0,x1,x5=>if x5 < (x0.length:Int) then (if 0≤x5 then (if x5 < (x1.length:Int) then ((laws_eqTerm.f k ((rd_T26 x0 x5).f0) ((rd_T26 x0 x5).f1) ((rd_T26 x0 x5).f2) ((rd_T26 x0 x5).f3) ((rd_T26 x1 x5).f0) ((rd_T26 x1 x5).f1) ((rd_T26 x1 x5).f2) ((rd_T26 x1 x5).f3)).bind fun t199=>(if t199 = true then (laws_eqTermS.l0 k x0 x1 (wrap64 (x5 + 1))) else (some false))) else (none)) else (none)) else (some true)
def laws_eqTermS.f:Nat → List (S26) → List (S26) → Option (Bool)
 | 0,_,_=>none
 | k + 1,l0,l1=>if (l0.length:Int) = (l1.length:Int) then (laws_eqTermS.l0 k l0 l1 0) else (some false)
def laws_eqTerm.f:Nat → Int → Int → ByteArray → List (S26) → Int → Int → ByteArray → List (S26) → Option (Bool)
 | 0,_,_,_,_,_,_,_,_=>none
 | k + 1,a0_0,a0_1,a0_2,l0_3,a1_0,a1_1,a1_2,l1_3=>if a0_0 = a1_0 then (if a0_1 = a1_1 then (if a0_2.toList = a1_2.toList then ((laws_eqTermS.f k l0_3 l1_3).bind fun t202=>(if t202 = true then (some true) else (some false))) else (some false)) else (some false)) else (some false)
end
theorem laws_eqTermS.mono_g:∀ k,(∀ y0 y1,LeO (laws_eqTermS.f k y0 y1) (laws_eqTermS.f (k + 1) y0 y1))∧(∀ y0 y1 y2,LeO (laws_eqTermS.l0 k y0 y1 y2) (laws_eqTermS.l0 (k + 1) y0 y1 y2))∧(∀ y0 y1 y2 y3 y4 y5 y6 y7,LeO (laws_eqTerm.f k y0 y1 y2 y3 y4 y5 y6 y7) (laws_eqTerm.f (k + 1) y0 y1 y2 y3 y4 y5 y6 y7))
 | 0=>⟨fun _ _ r h=>by simp [laws_eqTermS.f] at h,fun _ _ _ r h=>by simp [laws_eqTermS.l0] at h,fun _ _ _ _ _ _ _ _ r h=>by simp [laws_eqTerm.f] at h⟩
 | k + 1=>by
  obtain ⟨ih0,ih1,ih2⟩:=laws_eqTermS.mono_g k
  refine ⟨?_,?_,?_⟩
  ·intro y0 y1
   unfold laws_eqTermS.f
   with_reducible repeat' first|apply ih0|apply ih1|apply ih2|apply LeO.refl|apply LeO.none|apply LeO.ite|refine LeO.bind ?_ (fun _=>?_)
  ·intro y0 y1 y2
   unfold laws_eqTermS.l0
   with_reducible repeat' first|apply ih0|apply ih1|apply ih2|apply LeO.refl|apply LeO.none|apply LeO.ite|refine LeO.bind ?_ (fun _=>?_)
  ·intro y0 y1 y2 y3 y4 y5 y6 y7
   unfold laws_eqTerm.f
   with_reducible repeat' first|apply ih0|apply ih1|apply ih2|apply LeO.refl|apply LeO.none|apply LeO.ite|refine LeO.bind ?_ (fun _=>?_)
theorem laws_eqTermS.mono:∀ a0 a1 k,LeO (laws_eqTermS.f k a0 a1) (laws_eqTermS.f (k + 1) a0 a1):=by
 intro a0 a1 k;obtain ⟨ih0,ih1,ih2⟩:=laws_eqTermS.mono_g k
 exact ih0 a0 a1
theorem laws_eqTerm.mono:∀ a0 a1 a2 a3 a4 a5 a6 a7 k,LeO (laws_eqTerm.f k a0 a1 a2 a3 a4 a5 a6 a7) (laws_eqTerm.f (k + 1) a0 a1 a2 a3 a4 a5 a6 a7):=by
 intro a0 a1 a2 a3 a4 a5 a6 a7 k;obtain ⟨ih0,ih1,ih2⟩:=laws_eqTermS.mono_g k
 exact ih2 a0 a1 a2 a3 a4 a5 a6 a7
/-! ### laws_eqTermS: function 17 -/
def laws_eqTermS.T6:Bool × List (List Nat × List Nat):=(true,[([],[]),([],[]),([0,1],[0,1]),([2],[2]),([],[]),([],[]),([4,5],[4,5]),([6],[6]),([3,7],[3,7]),([8],[8])])
def laws_eqTermS.B6:List Nat:=[0,0,3,7,0,0,48,112,255,511]
theorem laws_eqTermS.tab6:rtab .any (opsOf Try.f17 6) = laws_eqTermS.T6:=by kernel_rfl
theorem laws_eqTermS.bits6:waitsOk laws_eqTermS.T6.2 laws_eqTermS.B6 = true:=by kernel_rfl
set_option maxHeartbeats 8000000 in
set_option maxRecDepth 100000 in
theorem laws_eqTermS.step (k:Nat) (ih_laws_eqTermS:∀ k_,k_ < k → ∀ (A0:Option Addr) (c0:Nat) (l0:List (S26)) (A1:Option Addr) (c1:Nat) (l1:List (S26)) (r:Bool) (w:World) (hr0:Kd.C k26 w A0 l0.length l0) (hc0:l0.length≤c0) (hr1:Kd.C k26 w A1 l1.length l1) (hc1:l1.length≤c1) (h:laws_eqTermS.f k_ l0 l1 = some r),Calls Try.prog 17 #[.slice A0 l0.length c0,.slice A1 l1.length c1] w fun e w'=>e = .returned (.bool r)∧Below w.heap.size w w') (ih_laws_eqTerm:∀ k_,k_ < k → ∀ (a0_0:Int) (a0_1:Int) (a0_2:ByteArray) (A0_3:Option Addr) (c0_3:Nat) (l0_3:List (S26)) (a1_0:Int) (a1_1:Int) (a1_2:ByteArray) (A1_3:Option Addr) (c1_3:Nat) (l1_3:List (S26)) (r:Bool) (w:World) (hr0_3:Kd.C k26 w A0_3 l0_3.length l0_3) (hc0_3:l0_3.length≤c0_3) (hr1_3:Kd.C k26 w A1_3 l1_3.length l1_3) (hc1_3:l1_3.length≤c1_3) (h:laws_eqTerm.f k_ a0_0 a0_1 a0_2 l0_3 a1_0 a1_1 a1_2 l1_3 = some r),Calls Try.prog 8 #[.agg #[.int .i64 a0_0,.int .i64 a0_1,.string a0_2,.slice A0_3 l0_3.length c0_3],.agg #[.int .i64 a1_0,.int .i64 a1_1,.string a1_2,.slice A1_3 l1_3.length c1_3]] w fun e w'=>e = .returned (.bool r)∧Below w.heap.size w w'):∀ (A0:Option Addr) (c0:Nat) (l0:List (S26)) (A1:Option Addr) (c1:Nat) (l1:List (S26)) (r:Bool) (w:World) (hr0:Kd.C k26 w A0 l0.length l0) (hc0:l0.length≤c0) (hr1:Kd.C k26 w A1 l1.length l1) (hc1:l1.length≤c1) (h:laws_eqTermS.f k l0 l1 = some r),
  Calls Try.prog 17 #[.slice A0 l0.length c0,.slice A1 l1.length c1] w fun e w'=>e = .returned (.bool r)∧Below w.heap.size w w':=by
 intro A0 c0 l0 A1 c1 l1 r w hr0 hc0 hr1 hc1 h
 cases k with
 | zero=>exact absurd h (by simp [laws_eqTermS.f])
 | succ k =>
 simp only [laws_eqTermS.f] at h;have hu26:=Try.underlying26;have HR0:=Aside0.mk hr0;have HC0:=Aside0.mk hc0;clear hr0 hc0;have HR1:=Aside0.mk hr1;have HC1:=Aside0.mk hc1;clear hr1 hc1;have HB:=Aside0.mk (Below.refl w.heap.size w);have H:(if (l0.length:Int) = (l1.length:Int) then (laws_eqTermS.l0 k l0 l1 0) else (some false)) = some r:=h;clear h
 by_cases c3:(l0.length:Int) = (l1.length:Int)
 ·rw [if_pos c3] at H
  have c3b0:((l0.length:Int) == (l1.length:Int)) = true:=beq_iff_eq.mpr c3;have c3b1:((l0.length:Int) != (l1.length:Int)) = false:=bne_eq_false_iff_eq.mpr c3;have c3b2:(l0.length == l1.length) = true:=by first|simpa using c3|(simp at c3 ⊢;omega)
  clear c3;have H':=Aside0.mk H;clear H
  go_enter Try.func17,Try.ntmps17
  go_wp2
  go_loopg [5] k (fun kq v5 w'=>∃ (x5_1:Int),v5 = .int .i64 x5_1∧Aside0 (laws_eqTermS.l0 kq l0 l1 x5_1 = some r)∧Aside0 (kq≤k)∧Aside0 (Below w.heap.size w w'))
  case atStart=>exact ⟨(0),(cl2),H',⟨Nat.le_refl _⟩,⟨bl HB.out⟩⟩
  case round =>
   clear H';(try clear c1);(try clear c3);(try clear c3b0);(try clear c3b1);(try clear c3b2);(try clear HB);obtain ⟨x5_1,rfl,HA,HK1,HB⟩:=hrel
   cases gk with
   | zero=>exact absurd HA.out (by simp [laws_eqTermS.l0])
   | succ k1 =>
    have H:=HA.out;clear HA;simp only [laws_eqTermS.l0] at H
    by_cases c4:x5_1 < (l0.length:Int)
    ·rw [if_pos c4] at H
     have c4b0:decide (x5_1 < (l0.length:Int)) = true:=decide_eq_true c4;clear c4
     by_cases c5:0≤x5_1
     ·rw [if_pos c5] at H
      have c5b0:decide (0≤x5_1) = true:=decide_eq_true c5;clear c5
      by_cases c6:x5_1 < (l1.length:Int)
      ·rw [if_pos c6] at H
       have c6b0:decide (x5_1 < (l1.length:Int)) = true:=decide_eq_true c6;clear c6;replace H:=Option.bind_eq_some_iff.mp H;obtain ⟨t199,A70,H⟩:=H;replace H:(if t199 = true then (laws_eqTermS.l0 k1 l0 l1 (wrap64 (x5_1 + 1))) else (some false)) = some r:=H;have A7:=Aside0.mk A70;clear A70
       try go_wp2
       have n_:=dh HB;clear HB;have HB:=n_;clear n_;have p197:0≤(x5_1:Int):=od;have q197:x5_1 < (l0.length:Int):=od;obtain ⟨ad197,A197_3,c197_3,e197,hx197_0,hx197_1,hx197_2,hx197_3,hl197_3,hi197_3⟩:=at_T26 HR0.out x5_1 p197 q197;have hw197_3:=hx197_3;have hw197_2:=hx197_2;have hw197_1:=hx197_1;have hw197_0:=hx197_0;cases e197;replace hx197_0:=cb HB hx197_0;replace hx197_1:=cb HB hx197_1;replace hx197_2:=cb HB hx197_2;replace hx197_3:=cb HB hx197_3;have HR197_3:=Aside0.mk hi197_3;have HC197_3:=Aside0.mk hl197_3;clear hi197_3 hl197_3;replace p197:=eq_true p197;replace q197:=eq_true q197;have p198:0≤(x5_1:Int):=od;have q198:x5_1 < (l1.length:Int):=od;obtain ⟨ad198,A198_3,c198_3,e198,hx198_0,hx198_1,hx198_2,hx198_3,hl198_3,hi198_3⟩:=at_T26 HR1.out x5_1 p198 q198;have hw198_3:=hx198_3;have hw198_2:=hx198_2;have hw198_1:=hx198_1;have hw198_0:=hx198_0;cases e198;replace hx198_0:=cb HB hx198_0;replace hx198_1:=cb HB hx198_1;replace hx198_2:=cb HB hx198_2;replace hx198_3:=cb HB hx198_3;have HR198_3:=Aside0.mk hi198_3;have HC198_3:=Aside0.mk hl198_3;clear hi198_3 hl198_3;replace p198:=eq_true p198;replace q198:=eq_true q198
       refine start_ (n:=10) (S:=fun w'=>w'.cell? (ad197.add ((x5_1).toNat * 4)) = some (.int .i64 ((rd_T26 l0 x5_1).f0))∧w'.cell? ⟨(ad197.add ((x5_1).toNat * 4)).block,(ad197.add ((x5_1).toNat * 4)).off + 1,none⟩ = some (.int .i64 ((rd_T26 l0 x5_1).f1))∧w'.cell? ⟨(ad197.add ((x5_1).toNat * 4)).block,(ad197.add ((x5_1).toNat * 4)).off + 2,none⟩ = some (.string ((rd_T26 l0 x5_1).f2))∧w'.cell? ⟨(ad197.add ((x5_1).toNat * 4)).block,(ad197.add ((x5_1).toNat * 4)).off + 3,none⟩ = some (.slice A197_3 ((rd_T26 l0 x5_1).f3).length c197_3)∧w'.cell? (ad198.add ((x5_1).toNat * 4)) = some (.int .i64 ((rd_T26 l1 x5_1).f0))∧w'.cell? ⟨(ad198.add ((x5_1).toNat * 4)).block,(ad198.add ((x5_1).toNat * 4)).off + 1,none⟩ = some (.int .i64 ((rd_T26 l1 x5_1).f1))∧w'.cell? ⟨(ad198.add ((x5_1).toNat * 4)).block,(ad198.add ((x5_1).toNat * 4)).off + 2,none⟩ = some (.string ((rd_T26 l1 x5_1).f2))∧w'.cell? ⟨(ad198.add ((x5_1).toNat * 4)).block,(ad198.add ((x5_1).toNat * 4)).off + 3,none⟩ = some (.slice A198_3 ((rd_T26 l1 x5_1).f3).length c198_3)) (ds:=[]) #[false,false,false,false,false,false,false,false,false,false] (by kernel_rfl) rfl rfl ⟨(cb HB hw197_0 :),(cb HB hw197_1 :),(cb HB hw197_2 :),(cb HB hw197_3 :),(cb HB hw198_0 :),(cb HB hw198_1 :),(cb HB hw198_2 :),(cb HB hw198_3 :)⟩ (fun hHeld=>?_);refine with_tabW laws_eqTermS.tab6 laws_eqTermS.bits6 (fun HT_ HW_=>?_)
       generalize wr.drew = w9 at HB HR197_3 HR198_3 hx197_0 hx197_1 hx197_2 hx197_3 hx198_0 hx198_1 hx198_2 hx198_3 hHeld ⊢;refine pu 0 17 ?_;refine pu 1 18 ?_;refine pu 2 19 ?_;refine pu 4 21 ?_;refine pu 5 22 ?_;refine pu 6 23 ?_;refine ta 3 20 hHeld ?_;refine ta 7 24 hHeld ?_
       refine one_ (i:=8) (N:=some 25) #[true,true,true,true,true,true,true,true,true,false] rfl rfl (one_of HT_.out (by kernel_rfl)) (by decide) (fun K hK=>?_)
       refine goes_ Try.func8 (by kernel_rfl) rfl #[.agg #[.int .i64 ((rd_T26 l0 x5_1).f0),.int .i64 ((rd_T26 l0 x5_1).f1),.string ((rd_T26 l0 x5_1).f2),.slice A197_3 ((rd_T26 l0 x5_1).f3).length c197_3],.agg #[.int .i64 ((rd_T26 l1 x5_1).f0),.int .i64 ((rd_T26 l1 x5_1).f1),.string ((rd_T26 l1 x5_1).f2),.slice A198_3 ((rd_T26 l1 x5_1).f3).length c198_3]] (by rfl) rfl rfl gs ?_
       with_reducible refine (ih_laws_eqTerm k1 (by have:=HK1.out;omega) ((rd_T26 l0 x5_1).f0) ((rd_T26 l0 x5_1).f1) ((rd_T26 l0 x5_1).f2) _ _ ((rd_T26 l0 x5_1).f3) ((rd_T26 l1 x5_1).f0) ((rd_T26 l1 x5_1).f1) ((rd_T26 l1 x5_1).f2) _ _ ((rd_T26 l1 x5_1).f3) t199 _ ?side1 ?side2 ?side3 ?side4 A7.out).mono ?_
       (case side1=>exact ck (Kd.C_below HR197_3.out HB.out))
       (case side2=>exact HC197_3.out)
       (case side3=>exact ck (Kd.C_below HR198_3.out HB.out))
       (case side4=>exact HC198_3.out)
       rintro e w10 ⟨rfl,hb⟩
       refine ⟨_,rfl,?_⟩
       have n_:=bq HB hb;clear HB;have HB:=n_;clear n_;(try clear hb)
       refine hK.out _ _ ⟨(cb HB hw197_0 :),(cb HB hw197_1 :),(cb HB hw197_2 :),(cb HB hw197_3 :),(cb HB hw198_0 :),(cb HB hw198_1 :),(cb HB hw198_2 :),(cb HB hw198_3 :)⟩ (fun hHeld=>?_)
       clear hK K
       refine norm_ (a':=?_) ?_ ?_
       rotate_left
       ·show Act.put _ (some 25) _ = _
        simp only [Act.put,List.setIfInBounds_toArray,List.set_cons_zero,List.set_cons_succ,i64_w,i32_w]
        rfl
       refine pu 9 26 ?_
       refine done_ (done_of HT_.out (by kernel_rfl)) ?_
       by_cases c8:t199 = true
       ·subst c8
        have H1:(laws_eqTermS.l0 k1 l0 l1 (wrap64 (x5_1 + 1))) = some r:=by rw [if_pos rfl] at H;exact H
        clear H;have H:=H1;clear H1;have H':=Aside0.mk H;clear H
        try go_wp2
        go_roundg k1
        case measure=>have:=HK1.out;omega
        case rel=>exact ⟨(wrap64 (x5_1 + 1)),(cl2),H',⟨by have:=HK1.out;omega⟩,⟨bl HB.out⟩⟩
       ·replace c8:=Bool.eq_false_iff.mpr c8
        subst c8;have H1:(some false) = some r:=by rw [if_neg (show ¬ (false = true) by decide)] at H;exact H
        clear H;have H:=H1;clear H1;obtain rfl:=Option.some.inj H
        try go_wp2
        go_ret
        exact ⟨cl,bl HB.out⟩
      ·rw [if_neg c6] at H
       exact absurd H (by simp)
     ·rw [if_neg c5] at H
      exact absurd H (by simp)
    ·rw [if_neg c4] at H
     have c4b0:decide (x5_1 < (l0.length:Int)) = false:=decide_eq_false c4;clear c4;obtain rfl:=Option.some.inj H
     go_wp2
     go_ret
     exact ⟨cl,bl HB.out⟩
 ·rw [if_neg c3] at H
  have c3b0:((l0.length:Int) == (l1.length:Int)) = false:=beq_eq_false_iff_ne.mpr c3;have c3b1:((l0.length:Int) != (l1.length:Int)) = true:=bne_iff_ne.mpr c3;have c3b2:(l0.length == l1.length) = false:=by first|simpa using c3|(simp at c3 ⊢;omega)
  obtain rfl:=Option.some.inj H
  go_enter Try.func17,Try.ntmps17
  go_wp2
  go_ret
  exact ⟨cl,bl HB.out⟩

/-! ### laws_eqTerm: function 8 -/
set_option maxHeartbeats 8000000 in
set_option maxRecDepth 100000 in
theorem laws_eqTerm.step (k:Nat) (ih_laws_eqTermS:∀ k_,k_ < k → ∀ (A0:Option Addr) (c0:Nat) (l0:List (S26)) (A1:Option Addr) (c1:Nat) (l1:List (S26)) (r:Bool) (w:World) (hr0:Kd.C k26 w A0 l0.length l0) (hc0:l0.length≤c0) (hr1:Kd.C k26 w A1 l1.length l1) (hc1:l1.length≤c1) (h:laws_eqTermS.f k_ l0 l1 = some r),Calls Try.prog 17 #[.slice A0 l0.length c0,.slice A1 l1.length c1] w fun e w'=>e = .returned (.bool r)∧Below w.heap.size w w') (ih_laws_eqTerm:∀ k_,k_ < k → ∀ (a0_0:Int) (a0_1:Int) (a0_2:ByteArray) (A0_3:Option Addr) (c0_3:Nat) (l0_3:List (S26)) (a1_0:Int) (a1_1:Int) (a1_2:ByteArray) (A1_3:Option Addr) (c1_3:Nat) (l1_3:List (S26)) (r:Bool) (w:World) (hr0_3:Kd.C k26 w A0_3 l0_3.length l0_3) (hc0_3:l0_3.length≤c0_3) (hr1_3:Kd.C k26 w A1_3 l1_3.length l1_3) (hc1_3:l1_3.length≤c1_3) (h:laws_eqTerm.f k_ a0_0 a0_1 a0_2 l0_3 a1_0 a1_1 a1_2 l1_3 = some r),Calls Try.prog 8 #[.agg #[.int .i64 a0_0,.int .i64 a0_1,.string a0_2,.slice A0_3 l0_3.length c0_3],.agg #[.int .i64 a1_0,.int .i64 a1_1,.string a1_2,.slice A1_3 l1_3.length c1_3]] w fun e w'=>e = .returned (.bool r)∧Below w.heap.size w w'):∀ (a0_0:Int) (a0_1:Int) (a0_2:ByteArray) (A0_3:Option Addr) (c0_3:Nat) (l0_3:List (S26)) (a1_0:Int) (a1_1:Int) (a1_2:ByteArray) (A1_3:Option Addr) (c1_3:Nat) (l1_3:List (S26)) (r:Bool) (w:World) (hr0_3:Kd.C k26 w A0_3 l0_3.length l0_3) (hc0_3:l0_3.length≤c0_3) (hr1_3:Kd.C k26 w A1_3 l1_3.length l1_3) (hc1_3:l1_3.length≤c1_3) (h:laws_eqTerm.f k a0_0 a0_1 a0_2 l0_3 a1_0 a1_1 a1_2 l1_3 = some r),
  Calls Try.prog 8 #[.agg #[.int .i64 a0_0,.int .i64 a0_1,.string a0_2,.slice A0_3 l0_3.length c0_3],.agg #[.int .i64 a1_0,.int .i64 a1_1,.string a1_2,.slice A1_3 l1_3.length c1_3]] w fun e w'=>e = .returned (.bool r)∧Below w.heap.size w w':=by
 intro a0_0 a0_1 a0_2 A0_3 c0_3 l0_3 a1_0 a1_1 a1_2 A1_3 c1_3 l1_3 r w hr0_3 hc0_3 hr1_3 hc1_3 h
 cases k with
 | zero=>exact absurd h (by simp [laws_eqTerm.f])
 | succ k =>
 simp only [laws_eqTerm.f] at h;have hu26:=Try.underlying26;have HR0_3:=Aside0.mk hr0_3;have HC0_3:=Aside0.mk hc0_3;clear hr0_3 hc0_3;have HR1_3:=Aside0.mk hr1_3;have HC1_3:=Aside0.mk hc1_3;clear hr1_3 hc1_3;have HB:=Aside0.mk (Below.refl w.heap.size w);have H:(if a0_0 = a1_0 then (if a0_1 = a1_1 then (if a0_2.toList = a1_2.toList then ((laws_eqTermS.f k l0_3 l1_3).bind fun t202=>(if t202 = true then (some true) else (some false))) else (some false)) else (some false)) else (some false)) = some r:=h;clear h
 by_cases c3:a0_0 = a1_0
 ·rw [if_pos c3] at H
  have c3b0:(a0_0 == a1_0) = true:=beq_iff_eq.mpr c3;have c3b1:(a0_0 != a1_0) = false:=bne_eq_false_iff_eq.mpr c3;clear c3
  by_cases c4:a0_1 = a1_1
  ·rw [if_pos c4] at H
   have c4b0:(a0_1 == a1_1) = true:=beq_iff_eq.mpr c4;have c4b1:(a0_1 != a1_1) = false:=bne_eq_false_iff_eq.mpr c4;clear c4
   by_cases c5:a0_2.toList = a1_2.toList
   ·rw [if_pos c5] at H
    have c5b0:(a0_2.toList == a1_2.toList) = true:=beq_iff_eq.mpr c5;have c5b1:(a0_2.toList != a1_2.toList) = false:=bne_eq_false_iff_eq.mpr c5;clear c5;replace H:=Option.bind_eq_some_iff.mp H;obtain ⟨t202,A60,H⟩:=H;replace H:(if t202 = true then (some true) else (some false)) = some r:=H;have A6:=Aside0.mk A60;clear A60
    by_cases c7:t202 = true
    ·subst c7
     have H1:(some true) = some r:=by rw [if_pos rfl] at H;exact H
     clear H;have H:=H1;clear H1;obtain rfl:=Option.some.inj H
     go_enter Try.func8,Try.ntmps8
     go_wp2_with (first|((with_reducible refine gate_dst (N:=2) rfl ?_);refine box_event ?hg (N:=2) ?hd (cs:=#[.int .i64 a0_0,.int .i64 a0_1,.string a0_2,.slice A0_3 l0_3.length c0_3]) (t:=26) ?hr ?_;(case hd=>rfl);(case hg=>rfl);(case hr=>first|(go_simp;done)|(go_simp;rfl));intro gb200 hg w8 hbox hb;have n_:=ai (bq HB hb) <| ai (Aside0.mk (hbox)) <| ai (bz hg HB) <| bz hg HB;clear HB;obtain ⟨HB,BK200,GW200,GE200⟩:=n_;clear hb hbox hg)|((with_reducible refine gate_dst (N:=3) rfl ?_);refine box_event ?hg (N:=3) ?hd (cs:=#[.int .i64 a1_0,.int .i64 a1_1,.string a1_2,.slice A1_3 l1_3.length c1_3]) (t:=26) ?hr ?_;(case hd=>rfl);(case hg=>rfl);(case hr=>first|(go_simp;done)|(go_simp;rfl));intro gb201 hg w9 hbox hb;have n_:=ai (bw BK200 hb) <| ai (bq HB hb) <| ai (Aside0.mk (hbox)) <| ai (bz hg HB) <| ai (bz hg HB) <| ai (nl hg BK200) <| ng hg BK200;clear BK200 HB;obtain ⟨BK200,HB,BK201,GW201,GE201,NB200_201,NB201_200⟩:=n_;clear hb hbox hg;have:=NB200_201.out;have:=NB201_200.out;obtain ⟨h11_0,h11_1,h11_2,h11_3⟩:=kb4 BK200.out;obtain ⟨z11_0,z11_1,z11_2,z11_3⟩:=kz4 BK200.out;obtain ⟨h12_0,h12_1,h12_2,h12_3⟩:=kb4 BK201.out;obtain ⟨z12_0,z12_1,z12_2,z12_3⟩:=kz4 BK201.out)|((with_reducible refine gate_callee (f:=17) rfl ?_);refine goesL_ (some 24) rfl rfl Try.func17 (by kernel_rfl) rfl #[.slice A0_3 l0_3.length c0_3,.slice A1_3 l1_3.length c1_3] rfl gs ?_;(with_reducible refine (ih_laws_eqTermS k (by omega) _ _ l0_3 _ _ l1_3 true _ ?side1 ?side2 ?side3 ?side4 A6.out).mono ?_);(case side1=>exact ck (Kd.C_below HR0_3.out HB.out));(case side2=>exact HC0_3.out);(case side3=>exact ck (Kd.C_below HR1_3.out HB.out));(case side4=>exact HC1_3.out);rintro e w13 ⟨rfl,hb⟩;refine ⟨_,rfl,?_⟩;have n_:=ai (bw BK200 hb) <| ai (bw BK201 hb) <| bq HB hb;clear BK200 BK201 HB;obtain ⟨BK200,BK201,HB⟩:=n_;(try clear hb);(try clear hi)))
     go_ret
     exact ⟨cl,bl HB.out⟩
    ·replace c7:=Bool.eq_false_iff.mpr c7
     subst c7;have H1:(some false) = some r:=by rw [if_neg (show ¬ (false = true) by decide)] at H;exact H
     clear H;have H:=H1;clear H1;obtain rfl:=Option.some.inj H
     go_enter Try.func8,Try.ntmps8
     go_wp2_with (first|((with_reducible refine gate_dst (N:=2) rfl ?_);refine box_event ?hg (N:=2) ?hd (cs:=#[.int .i64 a0_0,.int .i64 a0_1,.string a0_2,.slice A0_3 l0_3.length c0_3]) (t:=26) ?hr ?_;(case hd=>rfl);(case hg=>rfl);(case hr=>first|(go_simp;done)|(go_simp;rfl));intro gb200 hg w14 hbox hb;have n_:=ai (bq HB hb) <| ai (Aside0.mk (hbox)) <| ai (bz hg HB) <| bz hg HB;clear HB;obtain ⟨HB,BK200,GW200,GE200⟩:=n_;clear hb hbox hg)|((with_reducible refine gate_dst (N:=3) rfl ?_);refine box_event ?hg (N:=3) ?hd (cs:=#[.int .i64 a1_0,.int .i64 a1_1,.string a1_2,.slice A1_3 l1_3.length c1_3]) (t:=26) ?hr ?_;(case hd=>rfl);(case hg=>rfl);(case hr=>first|(go_simp;done)|(go_simp;rfl));intro gb201 hg w15 hbox hb;have n_:=ai (bw BK200 hb) <| ai (bq HB hb) <| ai (Aside0.mk (hbox)) <| ai (bz hg HB) <| ai (bz hg HB) <| ai (nl hg BK200) <| ng hg BK200;clear BK200 HB;obtain ⟨BK200,HB,BK201,GW201,GE201,NB200_201,NB201_200⟩:=n_;clear hb hbox hg;have:=NB200_201.out;have:=NB201_200.out;obtain ⟨h17_0,h17_1,h17_2,h17_3⟩:=kb4 BK200.out;obtain ⟨z17_0,z17_1,z17_2,z17_3⟩:=kz4 BK200.out;obtain ⟨h18_0,h18_1,h18_2,h18_3⟩:=kb4 BK201.out;obtain ⟨z18_0,z18_1,z18_2,z18_3⟩:=kz4 BK201.out)|((with_reducible refine gate_callee (f:=17) rfl ?_);refine goesL_ (some 24) rfl rfl Try.func17 (by kernel_rfl) rfl #[.slice A0_3 l0_3.length c0_3,.slice A1_3 l1_3.length c1_3] rfl gs ?_;(with_reducible refine (ih_laws_eqTermS k (by omega) _ _ l0_3 _ _ l1_3 false _ ?side1 ?side2 ?side3 ?side4 A6.out).mono ?_);(case side1=>exact ck (Kd.C_below HR0_3.out HB.out));(case side2=>exact HC0_3.out);(case side3=>exact ck (Kd.C_below HR1_3.out HB.out));(case side4=>exact HC1_3.out);rintro e w19 ⟨rfl,hb⟩;refine ⟨_,rfl,?_⟩;have n_:=ai (bw BK200 hb) <| ai (bw BK201 hb) <| bq HB hb;clear BK200 BK201 HB;obtain ⟨BK200,BK201,HB⟩:=n_;(try clear hb);(try clear hi)))
     go_ret
     exact ⟨cl,bl HB.out⟩
   ·rw [if_neg c5] at H
    have c5b0:(a0_2.toList == a1_2.toList) = false:=beq_eq_false_iff_ne.mpr c5;have c5b1:(a0_2.toList != a1_2.toList) = true:=bne_iff_ne.mpr c5;obtain rfl:=Option.some.inj H
    go_enter Try.func8,Try.ntmps8
    go_wp2_with (first|((with_reducible refine gate_dst (N:=2) rfl ?_);refine box_event ?hg (N:=2) ?hd (cs:=#[.int .i64 a0_0,.int .i64 a0_1,.string a0_2,.slice A0_3 l0_3.length c0_3]) (t:=26) ?hr ?_;(case hd=>rfl);(case hg=>rfl);(case hr=>first|(go_simp;done)|(go_simp;rfl));intro gb200 hg w20 hbox hb;have n_:=ai (bq HB hb) <| ai (Aside0.mk (hbox)) <| ai (bz hg HB) <| bz hg HB;clear HB;obtain ⟨HB,BK200,GW200,GE200⟩:=n_;clear hb hbox hg)|((with_reducible refine gate_dst (N:=3) rfl ?_);refine box_event ?hg (N:=3) ?hd (cs:=#[.int .i64 a1_0,.int .i64 a1_1,.string a1_2,.slice A1_3 l1_3.length c1_3]) (t:=26) ?hr ?_;(case hd=>rfl);(case hg=>rfl);(case hr=>first|(go_simp;done)|(go_simp;rfl));intro gb201 hg w21 hbox hb;have n_:=ai (bw BK200 hb) <| ai (bq HB hb) <| ai (Aside0.mk (hbox)) <| ai (bz hg HB) <| ai (bz hg HB) <| ai (nl hg BK200) <| ng hg BK200;clear BK200 HB;obtain ⟨BK200,HB,BK201,GW201,GE201,NB200_201,NB201_200⟩:=n_;clear hb hbox hg;have:=NB200_201.out;have:=NB201_200.out;obtain ⟨h23_0,h23_1,h23_2,h23_3⟩:=kb4 BK200.out;obtain ⟨z23_0,z23_1,z23_2,z23_3⟩:=kz4 BK200.out;obtain ⟨h24_0,h24_1,h24_2,h24_3⟩:=kb4 BK201.out;obtain ⟨z24_0,z24_1,z24_2,z24_3⟩:=kz4 BK201.out))
    go_ret
    exact ⟨cl,bl HB.out⟩
  ·rw [if_neg c4] at H
   have c4b0:(a0_1 == a1_1) = false:=beq_eq_false_iff_ne.mpr c4;have c4b1:(a0_1 != a1_1) = true:=bne_iff_ne.mpr c4;obtain rfl:=Option.some.inj H
   go_enter Try.func8,Try.ntmps8
   go_wp2_with (first|((with_reducible refine gate_dst (N:=2) rfl ?_);refine box_event ?hg (N:=2) ?hd (cs:=#[.int .i64 a0_0,.int .i64 a0_1,.string a0_2,.slice A0_3 l0_3.length c0_3]) (t:=26) ?hr ?_;(case hd=>rfl);(case hg=>rfl);(case hr=>first|(go_simp;done)|(go_simp;rfl));intro gb200 hg w25 hbox hb;have n_:=ai (bq HB hb) <| ai (Aside0.mk (hbox)) <| ai (bz hg HB) <| bz hg HB;clear HB;obtain ⟨HB,BK200,GW200,GE200⟩:=n_;clear hb hbox hg)|((with_reducible refine gate_dst (N:=3) rfl ?_);refine box_event ?hg (N:=3) ?hd (cs:=#[.int .i64 a1_0,.int .i64 a1_1,.string a1_2,.slice A1_3 l1_3.length c1_3]) (t:=26) ?hr ?_;(case hd=>rfl);(case hg=>rfl);(case hr=>first|(go_simp;done)|(go_simp;rfl));intro gb201 hg w26 hbox hb;have n_:=ai (bw BK200 hb) <| ai (bq HB hb) <| ai (Aside0.mk (hbox)) <| ai (bz hg HB) <| ai (bz hg HB) <| ai (nl hg BK200) <| ng hg BK200;clear BK200 HB;obtain ⟨BK200,HB,BK201,GW201,GE201,NB200_201,NB201_200⟩:=n_;clear hb hbox hg;have:=NB200_201.out;have:=NB201_200.out;obtain ⟨h28_0,h28_1,h28_2,h28_3⟩:=kb4 BK200.out;obtain ⟨z28_0,z28_1,z28_2,z28_3⟩:=kz4 BK200.out;obtain ⟨h29_0,h29_1,h29_2,h29_3⟩:=kb4 BK201.out;obtain ⟨z29_0,z29_1,z29_2,z29_3⟩:=kz4 BK201.out))
   go_ret
   exact ⟨cl,bl HB.out⟩
 ·rw [if_neg c3] at H
  have c3b0:(a0_0 == a1_0) = false:=beq_eq_false_iff_ne.mpr c3;have c3b1:(a0_0 != a1_0) = true:=bne_iff_ne.mpr c3;obtain rfl:=Option.some.inj H
  go_enter Try.func8,Try.ntmps8
  go_wp2_with (first|((with_reducible refine gate_dst (N:=2) rfl ?_);refine box_event ?hg (N:=2) ?hd (cs:=#[.int .i64 a0_0,.int .i64 a0_1,.string a0_2,.slice A0_3 l0_3.length c0_3]) (t:=26) ?hr ?_;(case hd=>rfl);(case hg=>rfl);(case hr=>first|(go_simp;done)|(go_simp;rfl));intro gb200 hg w30 hbox hb;have n_:=ai (bq HB hb) <| ai (Aside0.mk (hbox)) <| ai (bz hg HB) <| bz hg HB;clear HB;obtain ⟨HB,BK200,GW200,GE200⟩:=n_;clear hb hbox hg)|((with_reducible refine gate_dst (N:=3) rfl ?_);refine box_event ?hg (N:=3) ?hd (cs:=#[.int .i64 a1_0,.int .i64 a1_1,.string a1_2,.slice A1_3 l1_3.length c1_3]) (t:=26) ?hr ?_;(case hd=>rfl);(case hg=>rfl);(case hr=>first|(go_simp;done)|(go_simp;rfl));intro gb201 hg w31 hbox hb;have n_:=ai (bw BK200 hb) <| ai (bq HB hb) <| ai (Aside0.mk (hbox)) <| ai (bz hg HB) <| ai (bz hg HB) <| ai (nl hg BK200) <| ng hg BK200;clear BK200 HB;obtain ⟨BK200,HB,BK201,GW201,GE201,NB200_201,NB201_200⟩:=n_;clear hb hbox hg;have:=NB200_201.out;have:=NB201_200.out;obtain ⟨h33_0,h33_1,h33_2,h33_3⟩:=kb4 BK200.out;obtain ⟨z33_0,z33_1,z33_2,z33_3⟩:=kz4 BK200.out;obtain ⟨h34_0,h34_1,h34_2,h34_3⟩:=kb4 BK201.out;obtain ⟨z34_0,z34_1,z34_2,z34_3⟩:=kz4 BK201.out))
  go_ret
  exact ⟨cl,bl HB.out⟩

theorem laws_eqTermS.all (k:Nat):(∀ (A0:Option Addr) (c0:Nat) (l0:List (S26)) (A1:Option Addr) (c1:Nat) (l1:List (S26)) (r:Bool) (w:World) (hr0:Kd.C k26 w A0 l0.length l0) (hc0:l0.length≤c0) (hr1:Kd.C k26 w A1 l1.length l1) (hc1:l1.length≤c1) (h:laws_eqTermS.f k l0 l1 = some r),Calls Try.prog 17 #[.slice A0 l0.length c0,.slice A1 l1.length c1] w fun e w'=>e = .returned (.bool r)∧Below w.heap.size w w')∧(∀ (a0_0:Int) (a0_1:Int) (a0_2:ByteArray) (A0_3:Option Addr) (c0_3:Nat) (l0_3:List (S26)) (a1_0:Int) (a1_1:Int) (a1_2:ByteArray) (A1_3:Option Addr) (c1_3:Nat) (l1_3:List (S26)) (r:Bool) (w:World) (hr0_3:Kd.C k26 w A0_3 l0_3.length l0_3) (hc0_3:l0_3.length≤c0_3) (hr1_3:Kd.C k26 w A1_3 l1_3.length l1_3) (hc1_3:l1_3.length≤c1_3) (h:laws_eqTerm.f k a0_0 a0_1 a0_2 l0_3 a1_0 a1_1 a1_2 l1_3 = some r),Calls Try.prog 8 #[.agg #[.int .i64 a0_0,.int .i64 a0_1,.string a0_2,.slice A0_3 l0_3.length c0_3],.agg #[.int .i64 a1_0,.int .i64 a1_1,.string a1_2,.slice A1_3 l1_3.length c1_3]] w fun e w'=>e = .returned (.bool r)∧Below w.heap.size w w'):=by
 induction k using Nat.strongRecOn with
 | _ k ih =>
 exact ⟨laws_eqTermS.step k (fun k_ h_=>(ih k_ h_).1) (fun k_ h_=>(ih k_ h_).2),laws_eqTerm.step k (fun k_ h_=>(ih k_ h_).1) (fun k_ h_=>(ih k_ h_).2)⟩
theorem laws_eqTermS.calls (k:Nat):∀ (A0:Option Addr) (c0:Nat) (l0:List (S26)) (A1:Option Addr) (c1:Nat) (l1:List (S26)) (r:Bool) (w:World) (hr0:Kd.C k26 w A0 l0.length l0) (hc0:l0.length≤c0) (hr1:Kd.C k26 w A1 l1.length l1) (hc1:l1.length≤c1) (h:laws_eqTermS.f k l0 l1 = some r),Calls Try.prog 17 #[.slice A0 l0.length c0,.slice A1 l1.length c1] w fun e w'=>e = .returned (.bool r)∧Below w.heap.size w w':=(laws_eqTermS.all k).1
theorem laws_eqTerm.calls (k:Nat):∀ (a0_0:Int) (a0_1:Int) (a0_2:ByteArray) (A0_3:Option Addr) (c0_3:Nat) (l0_3:List (S26)) (a1_0:Int) (a1_1:Int) (a1_2:ByteArray) (A1_3:Option Addr) (c1_3:Nat) (l1_3:List (S26)) (r:Bool) (w:World) (hr0_3:Kd.C k26 w A0_3 l0_3.length l0_3) (hc0_3:l0_3.length≤c0_3) (hr1_3:Kd.C k26 w A1_3 l1_3.length l1_3) (hc1_3:l1_3.length≤c1_3) (h:laws_eqTerm.f k a0_0 a0_1 a0_2 l0_3 a1_0 a1_1 a1_2 l1_3 = some r),Calls Try.prog 8 #[.agg #[.int .i64 a0_0,.int .i64 a0_1,.string a0_2,.slice A0_3 l0_3.length c0_3],.agg #[.int .i64 a1_0,.int .i64 a1_1,.string a1_2,.slice A1_3 l1_3.length c1_3]] w fun e w'=>e = .returned (.bool r)∧Below w.heap.size w w':=(laws_eqTermS.all k).2

/-! ### laws_eqBind: function 18 -/
def laws_eqBind.f (k:Nat) (a0_0:ByteArray) (a0_1:Int) (a0_2:Int) (a0_3:ByteArray) (l0_4:List (S26)) (a1_0:ByteArray) (a1_1:Int) (a1_2:Int) (a1_3:ByteArray) (l1_4:List (S26)):Option (Bool):=if a0_0.toList = a1_0.toList then ((laws_eqTerm.f k a0_1 a0_2 a0_3 l0_4 a1_1 a1_2 a1_3 l1_4).bind fun t205=>(if t205 = true then (some true) else (some false))) else (some false)
theorem laws_eqBind.mono:∀ a0 a1 a2 a3 a4 a5 a6 a7 a8 a9 k,LeO (laws_eqBind.f k a0 a1 a2 a3 a4 a5 a6 a7 a8 a9) (laws_eqBind.f (k + 1) a0 a1 a2 a3 a4 a5 a6 a7 a8 a9):=by
 intro a0 a1 a2 a3 a4 a5 a6 a7 a8 a9 k
 unfold laws_eqBind.f
 with_reducible repeat' first|apply laws_eqTerm.mono|apply LeO.refl|apply LeO.none|apply LeO.ite|refine LeO.bind ?_ (fun _=>?_)
set_option maxHeartbeats 8000000 in
set_option maxRecDepth 100000 in
theorem laws_eqBind.calls (k:Nat) (a0_0:ByteArray) (a0_1:Int) (a0_2:Int) (a0_3:ByteArray) (A0_4:Option Addr) (c0_4:Nat) (l0_4:List (S26)) (a1_0:ByteArray) (a1_1:Int) (a1_2:Int) (a1_3:ByteArray) (A1_4:Option Addr) (c1_4:Nat) (l1_4:List (S26)) (r:Bool) (w:World) (hr0_4:Kd.C k26 w A0_4 l0_4.length l0_4) (hc0_4:l0_4.length≤c0_4) (hr1_4:Kd.C k26 w A1_4 l1_4.length l1_4) (hc1_4:l1_4.length≤c1_4) (h:laws_eqBind.f k a0_0 a0_1 a0_2 a0_3 l0_4 a1_0 a1_1 a1_2 a1_3 l1_4 = some r) :
  Calls Try.prog 18 #[.agg #[.string a0_0,.int .i64 a0_1,.int .i64 a0_2,.string a0_3,.slice A0_4 l0_4.length c0_4],.agg #[.string a1_0,.int .i64 a1_1,.int .i64 a1_2,.string a1_3,.slice A1_4 l1_4.length c1_4]] w fun e w'=>e = .returned (.bool r)∧Below w.heap.size w w':=by
 have hu43:=Try.underlying43;have hu26:=Try.underlying26;have HR0_4:=Aside0.mk hr0_4;have HC0_4:=Aside0.mk hc0_4;clear hr0_4 hc0_4;have HR1_4:=Aside0.mk hr1_4;have HC1_4:=Aside0.mk hc1_4;clear hr1_4 hc1_4;have HB:=Aside0.mk (Below.refl w.heap.size w);have H:(if a0_0.toList = a1_0.toList then ((laws_eqTerm.f k a0_1 a0_2 a0_3 l0_4 a1_1 a1_2 a1_3 l1_4).bind fun t205=>(if t205 = true then (some true) else (some false))) else (some false)) = some r:=h;clear h
 by_cases c3:a0_0.toList = a1_0.toList
 ·rw [if_pos c3] at H
  have c3b0:(a0_0.toList == a1_0.toList) = true:=beq_iff_eq.mpr c3;have c3b1:(a0_0.toList != a1_0.toList) = false:=bne_eq_false_iff_eq.mpr c3;clear c3;replace H:=Option.bind_eq_some_iff.mp H;obtain ⟨t205,A40,H⟩:=H;replace H:(if t205 = true then (some true) else (some false)) = some r:=H;have A4:=Aside0.mk A40;clear A40
  by_cases c5:t205 = true
  ·subst c5
   have H1:(some true) = some r:=by rw [if_pos rfl] at H;exact H
   clear H;have H:=H1;clear H1;obtain rfl:=Option.some.inj H
   go_enter Try.func18,Try.ntmps18
   go_wp2_with (first|((with_reducible refine gate_dst (N:=2) rfl ?_);refine box_event ?hg (N:=2) ?hd (cs:=#[.string a0_0,.int .i64 a0_1,.int .i64 a0_2,.string a0_3,.slice A0_4 l0_4.length c0_4]) (t:=43) ?hr ?_;(case hd=>rfl);(case hg=>rfl);(case hr=>first|(go_simp;done)|(go_simp;rfl));intro gb203 hg w6 hbox hb;have n_:=ai (bq HB hb) <| ai (Aside0.mk (hbox)) <| ai (bz hg HB) <| bz hg HB;clear HB;obtain ⟨HB,BK203,GW203,GE203⟩:=n_;clear hb hbox hg)|((with_reducible refine gate_dst (N:=3) rfl ?_);refine box_event ?hg (N:=3) ?hd (cs:=#[.string a1_0,.int .i64 a1_1,.int .i64 a1_2,.string a1_3,.slice A1_4 l1_4.length c1_4]) (t:=43) ?hr ?_;(case hd=>rfl);(case hg=>rfl);(case hr=>first|(go_simp;done)|(go_simp;rfl));intro gb204 hg w7 hbox hb;have n_:=ai (bw BK203 hb) <| ai (bq HB hb) <| ai (Aside0.mk (hbox)) <| ai (bz hg HB) <| ai (bz hg HB) <| ai (nl hg BK203) <| ng hg BK203;clear BK203 HB;obtain ⟨BK203,HB,BK204,GW204,GE204,NB203_204,NB204_203⟩:=n_;clear hb hbox hg;have:=NB203_204.out;have:=NB204_203.out;obtain ⟨h9_0,h9_1,h9_2,h9_3,h9_4⟩:=kb5 BK203.out;obtain ⟨z9_0,z9_1,z9_2,z9_3,z9_4⟩:=kz5 BK203.out;obtain ⟨h10_0,h10_1,h10_2,h10_3,h10_4⟩:=kb5 BK204.out;obtain ⟨z10_0,z10_1,z10_2,z10_3,z10_4⟩:=kz5 BK204.out)|((with_reducible refine gate_callee (f:=8) rfl ?_);refine goesL_ (some 14) rfl rfl Try.func8 (by kernel_rfl) rfl #[.agg #[.int .i64 a0_1,.int .i64 a0_2,.string a0_3,.slice A0_4 l0_4.length c0_4],.agg #[.int .i64 a1_1,.int .i64 a1_2,.string a1_3,.slice A1_4 l1_4.length c1_4]] rfl gs ?_;(with_reducible refine (laws_eqTerm.calls k a0_1 a0_2 a0_3 _ _ l0_4 a1_1 a1_2 a1_3 _ _ l1_4 true _ ?side1 ?side2 ?side3 ?side4 A4.out).mono ?_);(case side1=>exact ck (Kd.C_below HR0_4.out HB.out));(case side2=>exact HC0_4.out);(case side3=>exact ck (Kd.C_below HR1_4.out HB.out));(case side4=>exact HC1_4.out);rintro e w11 ⟨rfl,hb⟩;refine ⟨_,rfl,?_⟩;have n_:=ai (bw BK203 hb) <| ai (bw BK204 hb) <| bq HB hb;clear BK203 BK204 HB;obtain ⟨BK203,BK204,HB⟩:=n_;(try clear hb);(try clear hi)))
   go_ret
   exact ⟨cl,bl HB.out⟩
  ·replace c5:=Bool.eq_false_iff.mpr c5
   subst c5;have H1:(some false) = some r:=by rw [if_neg (show ¬ (false = true) by decide)] at H;exact H
   clear H;have H:=H1;clear H1;obtain rfl:=Option.some.inj H
   go_enter Try.func18,Try.ntmps18
   go_wp2_with (first|((with_reducible refine gate_dst (N:=2) rfl ?_);refine box_event ?hg (N:=2) ?hd (cs:=#[.string a0_0,.int .i64 a0_1,.int .i64 a0_2,.string a0_3,.slice A0_4 l0_4.length c0_4]) (t:=43) ?hr ?_;(case hd=>rfl);(case hg=>rfl);(case hr=>first|(go_simp;done)|(go_simp;rfl));intro gb203 hg w12 hbox hb;have n_:=ai (bq HB hb) <| ai (Aside0.mk (hbox)) <| ai (bz hg HB) <| bz hg HB;clear HB;obtain ⟨HB,BK203,GW203,GE203⟩:=n_;clear hb hbox hg)|((with_reducible refine gate_dst (N:=3) rfl ?_);refine box_event ?hg (N:=3) ?hd (cs:=#[.string a1_0,.int .i64 a1_1,.int .i64 a1_2,.string a1_3,.slice A1_4 l1_4.length c1_4]) (t:=43) ?hr ?_;(case hd=>rfl);(case hg=>rfl);(case hr=>first|(go_simp;done)|(go_simp;rfl));intro gb204 hg w13 hbox hb;have n_:=ai (bw BK203 hb) <| ai (bq HB hb) <| ai (Aside0.mk (hbox)) <| ai (bz hg HB) <| ai (bz hg HB) <| ai (nl hg BK203) <| ng hg BK203;clear BK203 HB;obtain ⟨BK203,HB,BK204,GW204,GE204,NB203_204,NB204_203⟩:=n_;clear hb hbox hg;have:=NB203_204.out;have:=NB204_203.out;obtain ⟨h15_0,h15_1,h15_2,h15_3,h15_4⟩:=kb5 BK203.out;obtain ⟨z15_0,z15_1,z15_2,z15_3,z15_4⟩:=kz5 BK203.out;obtain ⟨h16_0,h16_1,h16_2,h16_3,h16_4⟩:=kb5 BK204.out;obtain ⟨z16_0,z16_1,z16_2,z16_3,z16_4⟩:=kz5 BK204.out)|((with_reducible refine gate_callee (f:=8) rfl ?_);refine goesL_ (some 14) rfl rfl Try.func8 (by kernel_rfl) rfl #[.agg #[.int .i64 a0_1,.int .i64 a0_2,.string a0_3,.slice A0_4 l0_4.length c0_4],.agg #[.int .i64 a1_1,.int .i64 a1_2,.string a1_3,.slice A1_4 l1_4.length c1_4]] rfl gs ?_;(with_reducible refine (laws_eqTerm.calls k a0_1 a0_2 a0_3 _ _ l0_4 a1_1 a1_2 a1_3 _ _ l1_4 false _ ?side1 ?side2 ?side3 ?side4 A4.out).mono ?_);(case side1=>exact ck (Kd.C_below HR0_4.out HB.out));(case side2=>exact HC0_4.out);(case side3=>exact ck (Kd.C_below HR1_4.out HB.out));(case side4=>exact HC1_4.out);rintro e w17 ⟨rfl,hb⟩;refine ⟨_,rfl,?_⟩;have n_:=ai (bw BK203 hb) <| ai (bw BK204 hb) <| bq HB hb;clear BK203 BK204 HB;obtain ⟨BK203,BK204,HB⟩:=n_;(try clear hb);(try clear hi)))
   go_ret
   exact ⟨cl,bl HB.out⟩
 ·rw [if_neg c3] at H
  have c3b0:(a0_0.toList == a1_0.toList) = false:=beq_eq_false_iff_ne.mpr c3;have c3b1:(a0_0.toList != a1_0.toList) = true:=bne_iff_ne.mpr c3;obtain rfl:=Option.some.inj H
  go_enter Try.func18,Try.ntmps18
  go_wp2_with (first|((with_reducible refine gate_dst (N:=2) rfl ?_);refine box_event ?hg (N:=2) ?hd (cs:=#[.string a0_0,.int .i64 a0_1,.int .i64 a0_2,.string a0_3,.slice A0_4 l0_4.length c0_4]) (t:=43) ?hr ?_;(case hd=>rfl);(case hg=>rfl);(case hr=>first|(go_simp;done)|(go_simp;rfl));intro gb203 hg w18 hbox hb;have n_:=ai (bq HB hb) <| ai (Aside0.mk (hbox)) <| ai (bz hg HB) <| bz hg HB;clear HB;obtain ⟨HB,BK203,GW203,GE203⟩:=n_;clear hb hbox hg)|((with_reducible refine gate_dst (N:=3) rfl ?_);refine box_event ?hg (N:=3) ?hd (cs:=#[.string a1_0,.int .i64 a1_1,.int .i64 a1_2,.string a1_3,.slice A1_4 l1_4.length c1_4]) (t:=43) ?hr ?_;(case hd=>rfl);(case hg=>rfl);(case hr=>first|(go_simp;done)|(go_simp;rfl));intro gb204 hg w19 hbox hb;have n_:=ai (bw BK203 hb) <| ai (bq HB hb) <| ai (Aside0.mk (hbox)) <| ai (bz hg HB) <| ai (bz hg HB) <| ai (nl hg BK203) <| ng hg BK203;clear BK203 HB;obtain ⟨BK203,HB,BK204,GW204,GE204,NB203_204,NB204_203⟩:=n_;clear hb hbox hg;have:=NB203_204.out;have:=NB204_203.out;obtain ⟨h21_0,h21_1,h21_2,h21_3,h21_4⟩:=kb5 BK203.out;obtain ⟨z21_0,z21_1,z21_2,z21_3,z21_4⟩:=kz5 BK203.out;obtain ⟨h22_0,h22_1,h22_2,h22_3,h22_4⟩:=kb5 BK204.out;obtain ⟨z22_0,z22_1,z22_2,z22_3,z22_4⟩:=kz5 BK204.out))
  go_ret
  exact ⟨cl,bl HB.out⟩

end Go.Proofs.Ytmcmhpiknhjiaaa.QFnExactBindOf
