-- Written by a program of this workplace (print2.py) for this claim, over the print's words.
import Derived.Test.YtmcmhpiknhjiaaaQFnExactBindOfx0
import Derived.Test.YtmcmhpiknhjiaaaQFnExactBindOfx2
import Derived.Test.YtmcmhpiknhjiaaaQFnExactBindOfx3
import Derived.Test.YtmcmhpiknhjiaaaQFnExactBindOfx4
import Derived.Test.YtmcmhpiknhjiaaaQFnExactBindOfx5
namespace Go.Proofs.Ytmcmhpiknhjiaaa.QFnExactBindOf
open Go.RowKit Go.Proofs.YtmcmhpiknhjiaaaW.PrintWords Go.Proofs.YtmcmhpiknhjiaaaW.PrintLast Go.Proofs.YtmcmhpiknhjiaaaW.PrintMore
attribute [local go_sem] max2_int min2_int max_two min_two max_three min_three max_four min_four   -- for this text's walks alone
set_option linter.unusedVariables false
set_option linter.unusedSimpArgs false

/-! ### impl_deepBindOf: deep rows -/
def FD26 (d:Kd S26):Kd S26:=Kd.iso (Kd.pair (Kd.int .i64) (Kd.pair (Kd.int .i64) (Kd.pair Kd.string (Kd.sliceS 26 d)))) (fun x:S26=>(x.f0,x.f1,x.f2,x.f3))
theorem monoD26:Kd.Mono FD26:=Kd.mono_iso _ (Kd.mono_pair (Kd.mono_const _) (Kd.mono_pair (Kd.mono_const _) (Kd.mono_pair (Kd.mono_const _) (Kd.mono_sliceS 26 Kd.mono_id))))
theorem subD26:Kd.Sub FD26 [26]:=Kd.sub_iso _ (Kd.sub_pair (Kd.sub_const _ (by decide)) (Kd.sub_pair (Kd.sub_const _ (by decide)) (Kd.sub_pair (Kd.sub_const _ (by decide)) (Kd.sub_sliceS 26 (by decide) Kd.sub_id))))
theorem szD26:∀ n,(Kd.upto FD26 4 [26] n).sz = 4:=Kd.upto_sz (fun _=>rfl)
def kD26:Kd S26:=Kd.fix FD26 4 [26] szD26 (Kd.upto_E subD26)
theorem kD26_mkM (w:World) (base:Nat) (ok:Nat → Prop) (x:S26) {v3:Value} (g3:Kd.S kD26 26 w base ok v3 x.f3):kD26.M w base ok x [.int .i64 x.f0,.int .i64 x.f1,.string x.f2,v3]:=by
 obtain ⟨n3,q3⟩:=Kd.fix_S_back monoD26 g3
 exact ⟨n3 + 1,⟨[.int .i64 x.f0],[.int .i64 x.f1,.string x.f2,v3],rfl,rfl,⟨[.int .i64 x.f1],[.string x.f2,v3],rfl,rfl,⟨[.string x.f2],[v3],rfl,rfl,⟨v3,rfl,q3⟩⟩⟩⟩⟩
theorem kD26_openM {w:World} {base:Nat} {ok:Nat → Prop} {x:S26} {cs:List Value} (h:kD26.M w base ok x cs):∃ v3,cs = [.int .i64 x.f0,.int .i64 x.f1,.string x.f2,v3]∧Kd.S kD26 26 w base ok v3 x.f3:=by
 obtain ⟨n,h⟩:=h
 cases n with
 | zero=>exact h.elim
 | succ n =>
  obtain ⟨_,_,rfl,rfl,_,_,rfl,rfl,_,_,rfl,rfl,v3,rfl,g3⟩:=h
  exact ⟨v3,rfl,Kd.fix_S g3⟩
theorem kD26_M {n:Nat} : ∀ {w:World} {base:Nat} {ok:Nat → Prop} {x:S26} {cs:List Value},(Kd.upto FD26 4 [26] n).M w base ok x cs → (Kd.upto F26 4 [26] n).M w base ok x cs:=fun {w base ok x cs} h=>by
 refine Kd.upto_imp (F:=FD26) (F':=F26) (fun n=>(szD26 n).trans (sz26 n).symm) ?_ n w base ok x cs h
 rintro d d' hs hM w base ok x cs ⟨c0,c1,rfl,h0,c2,c3,rfl,h2,c4,c5,rfl,h4,v,rfl,hS⟩
 exact ⟨c0,_,rfl,h0,c2,_,rfl,h2,c4,_,rfl,h4,v,rfl,Kd.R_imp hs hM (Kd.S_R hS)⟩
theorem deep_R {w:World} {base:Nat} {ok:Nat → Prop} {v:Value} {xs:List S26} {e:Nat} (h:Kd.S kD26 e w base ok v xs):Kd.R k26 e w base ok v xs :=
 Kd.R_imp (d:=kD26) (d':=k26) rfl (fun _ _ _ _ _ ⟨n,hn⟩=>⟨n,kD26_M hn⟩) (Kd.S_R h)
theorem kD26_K {n:Nat} : ∀ {w:World} {x:S26} {cs:List Value},(Kd.upto FD26 4 [26] n).K w x cs → (Kd.upto F26 4 [26] n).K w x cs:=by
 induction n with
 | zero=>intro w x cs h;exact h
 | succ n ih =>
  rintro w x cs ⟨c0,c1,rfl,h0,c2,c3,rfl,h2,c4,c5,rfl,h4,A,c,rfl,hl,hr⟩
  exact ⟨c0,_,rfl,h0,c2,_,rfl,h2,c4,_,rfl,h4,A,c,rfl,hl,Kd.C_imp ((szD26 n).trans (sz26 n).symm) (fun _ _ _ h_=>ih h_) hr⟩
theorem deepC {w:World} {A:Option Addr} {n:Nat} {xs:List S26} (h:Kd.C kD26 w A n xs):Kd.C k26 w A n xs :=
 Kd.C_imp (d:=kD26) (d':=k26) rfl (fun _ _ _ ⟨n,hn⟩=>⟨n,kD26_K hn⟩) h
/-! ### impl_copyTerms: function 24 -/
set_option maxHeartbeats 8000000 in
set_option maxRecDepth 100000 in
theorem impl_copyTerms.stepD (k:Nat) (ih_impl_copyTerms:∀ k_,k_ < k → ∀ (A0:Option Addr) (c0:Nat) (l0:List (S26)) (r:List (S26)) (w:World) (hr0:Kd.C k26 w A0 l0.length l0) (hc0:l0.length≤c0) (h:impl_copyTerms.f k_ l0 = some r),Calls Try.prog 24 #[.slice A0 l0.length c0] w fun e w'=>∃ v0_:Value,e = .returned (v0_)∧Kd.S kD26 26 w' w.heap.size (fun _=>True) v0_ r∧Below w.heap.size w w') (ih_impl_copyTerm:∀ k_,k_ < k → ∀ (a0_0:Int) (a0_1:Int) (a0_2:ByteArray) (A0_3:Option Addr) (c0_3:Nat) (l0_3:List (S26)) (r1:Int) (r2:Int) (r3:ByteArray) (r4:List (S26)) (w:World) (hr0_3:Kd.C k26 w A0_3 l0_3.length l0_3) (hc0_3:l0_3.length≤c0_3) (h:impl_copyTerm.f k_ a0_0 a0_1 a0_2 l0_3 = some (r1,r2,r3,r4)),Calls Try.prog 16 #[.agg #[.int .i64 a0_0,.int .i64 a0_1,.string a0_2,.slice A0_3 l0_3.length c0_3]] w fun e w'=>∃ v3_:Value,e = .returned (.agg #[.int .i64 r1,.int .i64 r2,.string r3,v3_])∧Kd.S kD26 26 w' w.heap.size (fun _=>True) v3_ r4∧Below w.heap.size w w'):∀ (A0:Option Addr) (c0:Nat) (l0:List (S26)) (r:List (S26)) (w:World) (hr0:Kd.C k26 w A0 l0.length l0) (hc0:l0.length≤c0) (h:impl_copyTerms.f k l0 = some r),
  Calls Try.prog 24 #[.slice A0 l0.length c0] w fun e w'=>∃ v0_:Value,e = .returned (v0_)∧Kd.S kD26 26 w' w.heap.size (fun _=>True) v0_ r∧Below w.heap.size w w':=by
 intro A0 c0 l0 r w hr0 hc0 h
 cases k with
 | zero=>exact absurd h (by simp [impl_copyTerms.f])
 | succ k =>
 simp only [impl_copyTerms.f] at h;have hu26:=Try.underlying26;have HR0:=Aside0.mk hr0;have HC0:=Aside0.mk hc0;clear hr0 hc0;have HB:=Aside0.mk (Below.refl w.heap.size w);have H:(impl_copyTerms.l0 k ([]:List (S26)) l0 (l0.length:Int) 0) = some r:=h;clear h;have H':=Aside0.mk H;clear H
 go_enter Try.func24,Try.ntmps24
 go_wp2
 go_loopg [3,8] k (fun kq v3 v8 w'=>∃ (x3_1:List (S26)) (x8_1:Int),v8 = .int .i64 x8_1∧Aside0 (impl_copyTerms.l0 kq x3_1 l0 (l0.length:Int) x8_1 = some r)∧Aside0 (kq≤k)∧Aside0 (Kd.S kD26 26 w' w.heap.size (fun _=>True) v3 x3_1)∧Aside0 (Below w.heap.size w w'))
 case atStart=>exact ⟨(([]:List (S26))),(0),(cl2),H',⟨Nat.le_refl _⟩,⟨by first|exact Kd.S_nil _ _ _ _ _|exact Kd.N_nil _ _ _ _ _|exact Kd.V_nil _ _ _ _ _|exact Kd.Q_nil _ _ _ _ _|exact Kd.S_nil _ _ _ _ _⟩,⟨bl HB.out⟩⟩
 case round =>
  clear H';(try clear HB);obtain ⟨x3_1,x8_1,rfl,HA,HK1,HO_3,HB⟩:=hrel
  cases gk with
  | zero=>exact absurd HA.out (by simp [impl_copyTerms.l0])
  | succ k1 =>
   have H:=HA.out;clear HA;simp only [impl_copyTerms.l0] at H
   by_cases c2:x8_1 < (l0.length:Int)
   ·rw [if_pos c2] at H
    have c2b0:decide (x8_1 < (l0.length:Int)) = true:=decide_eq_true c2;clear c2
    by_cases c3:0≤x8_1
    ·rw [if_pos c3] at H
     have c3b0:decide (0≤x8_1) = true:=decide_eq_true c3;clear c3
     by_cases c4:x8_1 < (l0.length:Int)
     ·rw [if_pos c4] at H
      have c4b0:decide (x8_1 < (l0.length:Int)) = true:=decide_eq_true c4;clear c4;replace H:=Option.bind_eq_some_iff.mp H;obtain ⟨⟨t174,t175,t176,t177⟩,A50,H⟩:=H;replace H:(if x3_1.length < 2513169434916 then (impl_copyTerms.l0 k1 (x3_1 ++ [(⟨t174,t175,t176,t177⟩:S26)]) l0 (l0.length:Int) (wrap64 (x8_1 + 1))) else (none)) = some r:=H;have A5:=Aside0.mk A50;clear A50
      by_cases c6:x3_1.length < 2513169434916
      ·rw [if_pos c6] at H
       have LMc6:=Aside0.mk c6;clear c6;obtain ⟨y180,hy180⟩:∃ y_:List (S26),y_ = (x3_1 ++ [(⟨t174,t175,t176,t177⟩:S26)]):=⟨_,rfl⟩;replace H:(impl_copyTerms.l0 k1 y180 l0 (l0.length:Int) (wrap64 (x8_1 + 1))) = some r:=by first|(rw [hy180];with_reducible exact H)|(have H2_:=(Option.bind_some _ _).symm.trans H;rw [hy180];with_reducible exact H2_)|(have H2_:=(Option.bind_some _ _).symm.trans H;with_reducible exact H2_)|with_reducible exact H|(rw [hy180];exact H)|exact H
       have Ny180:=Aside0.mk hy180;clear hy180;have H':=Aside0.mk H;clear H;have p172:0≤(x8_1:Int):=od;have q172:x8_1 < (l0.length:Int):=od;obtain ⟨ad172,A172_3,c172_3,e172,hx172_0,hx172_1,hx172_2,hx172_3,hl172_3,hi172_3⟩:=at_T26 HR0.out x8_1 p172 q172;cases e172;replace hx172_0:=cb HB hx172_0;replace hx172_1:=cb HB hx172_1;replace hx172_2:=cb HB hx172_2;replace hx172_3:=cb HB hx172_3;have HR172_3:=Aside0.mk hi172_3;have HC172_3:=Aside0.mk hl172_3;clear hi172_3 hl172_3;replace p172:=eq_true p172;replace q172:=eq_true q172
       go_wp2_with (first|((with_reducible refine gate_dst (N:=5) rfl ?_);refine box_event ?hg (N:=5) ?hd (cs:=#[.int .i64 0,.int .i64 0,.string (⟨#[]⟩:ByteArray),.slice none 0 0]) (t:=26) ?hr ?_;(case hd=>rfl);(case hg=>rfl);(case hr=>first|(go_simp;done)|(go_simp;rfl));intro gb173 hg w7 hbox hb;have n_:=ai (sbm HO_3 hg hb) <| ai (bq HB hb) <| ai (Aside0.mk (hbox)) <| ai (bz hg HB) <| bz hg HB;clear HO_3 HB;obtain ⟨HO_3,HB,BK173,GW173,GE173⟩:=n_;clear hb hbox hg;obtain ⟨h8_0,h8_1,h8_2,h8_3⟩:=kb4 BK173.out;obtain ⟨z8_0,z8_1,z8_2,z8_3⟩:=kz4 BK173.out)|((with_reducible refine gate_callee (f:=16) rfl ?_);refine goesL_ (some 14) rfl rfl Try.func16 (by kernel_rfl) rfl #[.agg #[.int .i64 ((rd_T26 l0 x8_1).f0),.int .i64 ((rd_T26 l0 x8_1).f1),.string ((rd_T26 l0 x8_1).f2),.slice A172_3 ((rd_T26 l0 x8_1).f3).length c172_3]] rfl gs ?_;(with_reducible refine (ih_impl_copyTerm k1 (by have:=HK1.out;omega) ((rd_T26 l0 x8_1).f0) ((rd_T26 l0 x8_1).f1) ((rd_T26 l0 x8_1).f2) _ _ ((rd_T26 l0 x8_1).f3) t174 t175 t176 t177 _ ?side1 ?side2 A5.out).mono ?_);(case side1=>exact Kd.C_below HR172_3.out (bl HB.out));(case side2=>exact HC172_3.out);rintro e w9 ⟨v178,rfl,ho0,hb⟩;refine ⟨_,rfl,?_⟩;have n_:=ai (Aside0.mk (Kd.S_told (Kd.S_old (by (with_reducible repeat (first|apply Kd.S_alloc|apply Kd.S_drewN|apply Kd.S_drew));exact (Kd.S_mono (sfm (Kd.S_mono HO_3.out (fun k_ hk=>(⟨hk,hk.2⟩:_∧k_≠gb173)))) (fun _ h_=>h_.1))) hb) (Kd.S_base ho0))) <| ai (Aside0.mk (Kd.S_lower (Kd.S_newB (Kd.S_new' (Kd.S_mono (Kd.S_bound ho0) (fun _ h_=>h_.2.1)) (Kd.S_lt (by (with_reducible repeat (first|apply Kd.S_alloc|apply Kd.S_drewN|apply Kd.S_drew));exact (Kd.S_mono (sfm (Kd.S_mono HO_3.out (fun k_ hk=>(⟨hk,hk.2⟩:_∧k_≠gb173)))) (fun _ h_=>h_.1))))) (g:=gb173) (o:=.cells #[.int .i64 ((rd_T26 l0 x8_1).f0),.int .i64 ((rd_T26 l0 x8_1).f1),.string ((rd_T26 l0 x8_1).f2),.slice A172_3 ((rd_T26 l0 x8_1).f3).length c172_3] 26 (0,0)) (bmp BK173.out)) (below_size (bl HB.out)))) <| ai (Aside0.mk (blk_below (g:=gb173) (o:=.cells #[.int .i64 ((rd_T26 l0 x8_1).f0),.int .i64 ((rd_T26 l0 x8_1).f1),.string ((rd_T26 l0 x8_1).f2),.slice A172_3 ((rd_T26 l0 x8_1).f3).length c172_3] 26 (0,0)) (bmp BK173.out) hb)) <| bq HB hb;clear HO_3 BK173 HB;obtain ⟨HO_3,HO179,BK173,HB⟩:=n_;(try clear hb);(try clear hk);(try clear ho0);obtain ⟨Ao11,co11,eo11⟩:=Kd.S_slice HO179.out;subst eo11)|((with_reducible refine gate_builtin (b:=.append) (xs:=#[.tmp 12,.tmp 15]) rfl ?_);at_builtin;refine Kd.S_append kD26 (w0:=w) w.heap.size rfl (.tmp 12) (.tmp 15) 24 26 (.agg #[(.int .i64 0),(.int .i64 0),(.string ⟨#[]⟩),(.slice none 0 0)]) 56 rfl Try.underlying24 info26 rfl (by decide) (by omega) u3 x3_1 (⟨t174,t175,t176,t177⟩:S26) [.int .i64 t174,.int .i64 t175,.string t176,.slice Ao11 t177.length co11] (fun k_=>k_≠gb173) ?okp_ rfl rfl ?aP ?aQ ?aF ?aO ?aB ?aS ?aL ?_;(case aP=>refine kD26_mkM _ _ _ (⟨t174,t175,t176,t177⟩:S26) ?_;exact HO179.out);(case aQ=>exact (fun _ hk=>⟨hk.2,hk.1.2⟩));(case aB=>exact (bl HB.out));(case aF=>exact (fun k_ hk=>Kd.freshB (g:=gb173) (o:=.cells #[.int .i64 ((rd_T26 l0 x8_1).f0),.int .i64 ((rd_T26 l0 x8_1).f1),.string ((rd_T26 l0 x8_1).f2),.slice A172_3 ((rd_T26 l0 x8_1).f3).length c172_3] 26 (0,0)) (bk BK173.out) k_ hk));(case aO=>exact (by (with_reducible repeat (first|apply Kd.S_alloc|apply Kd.S_drewN|apply Kd.S_drew));exact Kd.S_mono HO_3.out (fun k_ hk=>⟨hk.1.1.2,fun h_=>Nat.not_le_of_lt hk.2 h_.1.1⟩)));(case aS=>exact (below_size (bl HB.out)));(case aL=>have:=LMc6.out;omega);intro v181 w10 ho hb hg hat;rw [← Ny180.out] at ho;have n_:=ai (Aside0.mk (blk_grown (g:=gb173) (o:=.cells #[.int .i64 ((rd_T26 l0 x8_1).f0),.int .i64 ((rd_T26 l0 x8_1).f1),.string ((rd_T26 l0 x8_1).f2),.slice A172_3 ((rd_T26 l0 x8_1).f3).length c172_3] 26 (0,0)) (bk BK173.out) hg (Kd.S_away HO_3.out (fun _ hk=>hk.1.1.2)))) <| ai (Aside0.mk (hb)) <| Aside0.mk (ho);clear BK173 HB HO_3 HO179;obtain ⟨BK173,HB,HO182⟩:=n_;clear ho hb hg hat))
       go_roundg k1
       case measure=>have:=HK1.out;omega
       case rel=>exact ⟨(y180),(wrap64 (x8_1 + 1)),(cl2),H',⟨by have:=HK1.out;omega⟩,⟨by (with_reducible repeat (first|apply Kd.S_alloc|apply Kd.S_drewN|apply Kd.S_drew));exact Kd.S_mono HO182.out (fun _ hk=>trivial)⟩,⟨bl HB.out⟩⟩
      ·rw [if_neg c6] at H
       exact absurd H (by simp)
     ·rw [if_neg c4] at H
      exact absurd H (by simp)
    ·rw [if_neg c3] at H
     exact absurd H (by simp)
   ·rw [if_neg c2] at H
    have c2b0:decide (x8_1 < (l0.length:Int)) = false:=decide_eq_false c2;clear c2;obtain rfl:=Option.some.inj H
    go_wp2
    go_ret
    exact ⟨_,cl,sdm HO_3.out,bl HB.out⟩

/-! ### impl_copyTerm: function 16 -/
set_option maxHeartbeats 8000000 in
set_option maxRecDepth 100000 in
theorem impl_copyTerm.stepD (k:Nat) (ih_impl_copyTerms:∀ k_,k_ < k → ∀ (A0:Option Addr) (c0:Nat) (l0:List (S26)) (r:List (S26)) (w:World) (hr0:Kd.C k26 w A0 l0.length l0) (hc0:l0.length≤c0) (h:impl_copyTerms.f k_ l0 = some r),Calls Try.prog 24 #[.slice A0 l0.length c0] w fun e w'=>∃ v0_:Value,e = .returned (v0_)∧Kd.S kD26 26 w' w.heap.size (fun _=>True) v0_ r∧Below w.heap.size w w') (ih_impl_copyTerm:∀ k_,k_ < k → ∀ (a0_0:Int) (a0_1:Int) (a0_2:ByteArray) (A0_3:Option Addr) (c0_3:Nat) (l0_3:List (S26)) (r1:Int) (r2:Int) (r3:ByteArray) (r4:List (S26)) (w:World) (hr0_3:Kd.C k26 w A0_3 l0_3.length l0_3) (hc0_3:l0_3.length≤c0_3) (h:impl_copyTerm.f k_ a0_0 a0_1 a0_2 l0_3 = some (r1,r2,r3,r4)),Calls Try.prog 16 #[.agg #[.int .i64 a0_0,.int .i64 a0_1,.string a0_2,.slice A0_3 l0_3.length c0_3]] w fun e w'=>∃ v3_:Value,e = .returned (.agg #[.int .i64 r1,.int .i64 r2,.string r3,v3_])∧Kd.S kD26 26 w' w.heap.size (fun _=>True) v3_ r4∧Below w.heap.size w w'):∀ (a0_0:Int) (a0_1:Int) (a0_2:ByteArray) (A0_3:Option Addr) (c0_3:Nat) (l0_3:List (S26)) (r1:Int) (r2:Int) (r3:ByteArray) (r4:List (S26)) (w:World) (hr0_3:Kd.C k26 w A0_3 l0_3.length l0_3) (hc0_3:l0_3.length≤c0_3) (h:impl_copyTerm.f k a0_0 a0_1 a0_2 l0_3 = some (r1,r2,r3,r4)),
  Calls Try.prog 16 #[.agg #[.int .i64 a0_0,.int .i64 a0_1,.string a0_2,.slice A0_3 l0_3.length c0_3]] w fun e w'=>∃ v3_:Value,e = .returned (.agg #[.int .i64 r1,.int .i64 r2,.string r3,v3_])∧Kd.S kD26 26 w' w.heap.size (fun _=>True) v3_ r4∧Below w.heap.size w w':=by
 intro a0_0 a0_1 a0_2 A0_3 c0_3 l0_3 r1 r2 r3 r4 w hr0_3 hc0_3 h
 cases k with
 | zero=>exact absurd h (by simp [impl_copyTerm.f])
 | succ k =>
 simp only [impl_copyTerm.f] at h;have hu26:=Try.underlying26;have HR0_3:=Aside0.mk hr0_3;have HC0_3:=Aside0.mk hc0_3;clear hr0_3 hc0_3;have HB:=Aside0.mk (Below.refl w.heap.size w);have H:((impl_copyTerms.f k l0_3).bind fun t185=>(some (a0_0,a0_1,a0_2,t185))) = some (r1,r2,r3,r4):=h;clear h;replace H:=Option.bind_eq_some_iff.mp H;obtain ⟨t185,A20,H⟩:=H;replace H:(some (a0_0,a0_1,a0_2,t185)) = some (r1,r2,r3,r4):=H;have A2:=Aside0.mk A20;clear A20;simp only [Option.some.injEq,Prod.mk.injEq] at H;obtain ⟨rfl,rfl,rfl,rfl⟩:=H
 go_enter Try.func16,Try.ntmps16
 go_wp2_with (first|((with_reducible refine gate_dst (N:=1) rfl ?_);refine box_event ?hg (N:=1) ?hd (cs:=#[.int .i64 a0_0,.int .i64 a0_1,.string a0_2,.slice A0_3 l0_3.length c0_3]) (t:=26) ?hr ?_;(case hd=>rfl);(case hg=>rfl);(case hr=>first|(go_simp;done)|(go_simp;rfl));intro gb183 hg w3 hbox hb;have n_:=ai (bq HB hb) <| ai (Aside0.mk (hbox)) <| ai (bz hg HB) <| bz hg HB;clear HB;obtain ⟨HB,BK183,GW183,GE183⟩:=n_;clear hb hbox hg)|((with_reducible refine gate_dst (N:=2) rfl ?_);refine box_event ?hg (N:=2) ?hd (cs:=#[.int .i64 0,.int .i64 0,.string (⟨#[]⟩:ByteArray),.slice none 0 0]) (t:=26) ?hr ?_;(case hd=>rfl);(case hg=>rfl);(case hr=>first|(go_simp;done)|(go_simp;rfl));intro gb184 hg w4 hbox hb;have n_:=ai (bw BK183 hb) <| ai (bq HB hb) <| ai (Aside0.mk (hbox)) <| ai (bz hg HB) <| ai (bz hg HB) <| ai (nl hg BK183) <| ng hg BK183;clear BK183 HB;obtain ⟨BK183,HB,BK184,GW184,GE184,NB183_184,NB184_183⟩:=n_;clear hb hbox hg;have:=NB183_184.out;have:=NB184_183.out;obtain ⟨h6_0,h6_1,h6_2,h6_3⟩:=kb4 BK183.out;obtain ⟨z6_0,z6_1,z6_2,z6_3⟩:=kz4 BK183.out)|((with_reducible refine gate_callee (f:=24) rfl ?_);refine goesL_ (some 5) rfl rfl Try.func24 (by kernel_rfl) rfl #[.slice A0_3 l0_3.length c0_3] rfl gs ?_;(with_reducible refine (ih_impl_copyTerms k (by omega) _ _ l0_3 t185 _ ?side1 ?side2 A2.out).mono ?_);(case side1=>exact ck (Kd.C_below HR0_3.out HB.out));(case side2=>exact HC0_3.out);rintro e w7 ⟨v186,rfl,ho0,hb⟩;refine ⟨_,rfl,?_⟩;have n_:=ai (Aside0.mk (Kd.S_lower (Kd.S_newB (Kd.S_newB ho0 (g:=gb183) (o:=.cells #[.int .i64 a0_0,.int .i64 a0_1,.string a0_2,.slice A0_3 l0_3.length c0_3] 26 (0,0)) (bk BK183.out)) (g:=gb184) (o:=.cells #[.int .i64 0,.int .i64 0,.string (⟨#[]⟩:ByteArray),.slice none 0 0] 26 (0,0)) (bk BK184.out)) (below_size (bl HB.out)))) <| ai (bw BK183 hb) <| ai (bw BK184 hb) <| bq HB hb;clear BK183 BK184 HB;obtain ⟨HO187,BK183,BK184,HB⟩:=n_;(try clear hb);(try clear ho0);obtain ⟨Ao8,co8,eo8⟩:=Kd.S_slice HO187.out;subst eo8;obtain ⟨h9_0,h9_1,h9_2,h9_3⟩:=kb4 BK183.out;obtain ⟨z9_0,z9_1,z9_2,z9_3⟩:=kz4 BK183.out;obtain ⟨h10_0,h10_1,h10_2,h10_3⟩:=kb4 BK184.out;obtain ⟨z10_0,z10_1,z10_2,z10_3⟩:=kz4 BK184.out))
 refine bodyPost_ret (results_cell_row rfl _ _ gb184 26 #[.int .i64 a0_0,.int .i64 a0_1,.string a0_2,.slice Ao8 t185.length co8] (0,0) _ rfl (bmp BK184.out) Try.underlying26 rfl (by kernel_rfl)) rfl ?_
 exact ⟨_,cl,by (with_reducible repeat (first|apply Kd.S_alloc|apply Kd.S_drewN|apply Kd.S_drew));exact Kd.S_mono (sfm (Kd.S_mono (Kd.S_mono HO187.out (fun k_ hk=>(⟨hk,hk.1.2⟩:_∧k_≠gb183))) (fun k_ hk=>(⟨hk,hk.1.2⟩:_∧k_≠gb184)))) (fun _ hk=>trivial),bl HB.out⟩

theorem impl_copyTerms.allD (k:Nat):(∀ (A0:Option Addr) (c0:Nat) (l0:List (S26)) (r:List (S26)) (w:World) (hr0:Kd.C k26 w A0 l0.length l0) (hc0:l0.length≤c0) (h:impl_copyTerms.f k l0 = some r),Calls Try.prog 24 #[.slice A0 l0.length c0] w fun e w'=>∃ v0_:Value,e = .returned (v0_)∧Kd.S kD26 26 w' w.heap.size (fun _=>True) v0_ r∧Below w.heap.size w w')∧(∀ (a0_0:Int) (a0_1:Int) (a0_2:ByteArray) (A0_3:Option Addr) (c0_3:Nat) (l0_3:List (S26)) (r1:Int) (r2:Int) (r3:ByteArray) (r4:List (S26)) (w:World) (hr0_3:Kd.C k26 w A0_3 l0_3.length l0_3) (hc0_3:l0_3.length≤c0_3) (h:impl_copyTerm.f k a0_0 a0_1 a0_2 l0_3 = some (r1,r2,r3,r4)),Calls Try.prog 16 #[.agg #[.int .i64 a0_0,.int .i64 a0_1,.string a0_2,.slice A0_3 l0_3.length c0_3]] w fun e w'=>∃ v3_:Value,e = .returned (.agg #[.int .i64 r1,.int .i64 r2,.string r3,v3_])∧Kd.S kD26 26 w' w.heap.size (fun _=>True) v3_ r4∧Below w.heap.size w w'):=by
 induction k using Nat.strongRecOn with
 | _ k ih =>
 exact ⟨impl_copyTerms.stepD k (fun k_ h_=>(ih k_ h_).1) (fun k_ h_=>(ih k_ h_).2),impl_copyTerm.stepD k (fun k_ h_=>(ih k_ h_).1) (fun k_ h_=>(ih k_ h_).2)⟩
theorem impl_copyTerms.callsD (k:Nat):∀ (A0:Option Addr) (c0:Nat) (l0:List (S26)) (r:List (S26)) (w:World) (hr0:Kd.C k26 w A0 l0.length l0) (hc0:l0.length≤c0) (h:impl_copyTerms.f k l0 = some r),Calls Try.prog 24 #[.slice A0 l0.length c0] w fun e w'=>∃ v0_:Value,e = .returned (v0_)∧Kd.S kD26 26 w' w.heap.size (fun _=>True) v0_ r∧Below w.heap.size w w':=(impl_copyTerms.allD k).1
theorem impl_copyTerm.callsD (k:Nat):∀ (a0_0:Int) (a0_1:Int) (a0_2:ByteArray) (A0_3:Option Addr) (c0_3:Nat) (l0_3:List (S26)) (r1:Int) (r2:Int) (r3:ByteArray) (r4:List (S26)) (w:World) (hr0_3:Kd.C k26 w A0_3 l0_3.length l0_3) (hc0_3:l0_3.length≤c0_3) (h:impl_copyTerm.f k a0_0 a0_1 a0_2 l0_3 = some (r1,r2,r3,r4)),Calls Try.prog 16 #[.agg #[.int .i64 a0_0,.int .i64 a0_1,.string a0_2,.slice A0_3 l0_3.length c0_3]] w fun e w'=>∃ v3_:Value,e = .returned (.agg #[.int .i64 r1,.int .i64 r2,.string r3,v3_])∧Kd.S kD26 26 w' w.heap.size (fun _=>True) v3_ r4∧Below w.heap.size w w':=(impl_copyTerms.allD k).2
/-! ### impl_BindOf: function 7 -/
set_option maxHeartbeats 8000000 in
set_option maxRecDepth 100000 in
theorem impl_BindOf.callsD (k:Nat) (A0:Option Addr) (c0:Nat) (l0:List (S43)) (a1:ByteArray) (r1:Int) (r2:Int) (r3:ByteArray) (r4:List (S26)) (r5:Bool) (w:World) (hr0:Kd.C k43 w A0 l0.length l0) (hc0:l0.length≤c0) (h:impl_BindOf.f k l0 a1 = some (r1,r2,r3,r4,r5)) :
  Calls Try.prog 7 #[.slice A0 l0.length c0,.string a1] w fun e w'=>∃ v3_:Value,e = .returned (.tuple #[.agg #[.int .i64 r1,.int .i64 r2,.string r3,v3_],.bool r5])∧Kd.S kD26 26 w' w.heap.size (fun _=>True) v3_ r4∧Below w.heap.size w w':=by
 have hu26:=Try.underlying26;have hu43:=Try.underlying43;have HR0:=Aside0.mk hr0;have HC0:=Aside0.mk hc0;clear hr0 hc0;have HB:=Aside0.mk (Below.refl w.heap.size w);have H:(impl_BindOf.l0 k a1 l0 (l0.length:Int) 0) = some (r1,r2,r3,r4,r5):=h;clear h;have H':=Aside0.mk H;clear H
 go_enter Try.func7,Try.ntmps7
 go_wp2_with (first|((with_reducible refine gate_dst (N:=4) rfl ?_);refine box_event ?hg (N:=4) ?hd (cs:=#[.int .i64 0,.int .i64 0,.string (⟨#[]⟩:ByteArray),.slice none 0 0]) (t:=26) ?hr ?_;(case hd=>rfl);(case hg=>rfl);(case hr=>first|(go_simp;done)|(go_simp;rfl));intro gb188 hg w3 hbox hb;have n_:=ai (bq HB hb) <| ai (Aside0.mk (hbox)) <| ai (bz hg HB) <| bz hg HB;clear HB;obtain ⟨HB,BK188,GW188,GE188⟩:=n_;clear hb hbox hg))
 go_loopg [10] k (fun kq v10 w'=>∃ (x10_1:Int) (x189000_1:Int) (x189001_1:Int) (x189002_1:ByteArray),v10 = .int .i64 x10_1∧Aside0 (impl_BindOf.l0 kq a1 l0 (l0.length:Int) x10_1 = some (r1,r2,r3,r4,r5))∧Aside0 (kq≤k)∧Aside0 (w'.heap[gb188]? = some (.cells #[.int .i64 x189000_1,.int .i64 x189001_1,.string x189002_1,(.slice none 0 0)] 26 (0,0)))∧Aside0 (Below w.heap.size w w'))
 case atStart=>exact ⟨(0),(0),(0),((⟨#[]⟩:ByteArray)),(cl2),H',⟨Nat.le_refl _⟩,⟨bk BK188.out⟩,⟨bl HB.out⟩⟩
 case round =>
  clear H';(try clear BK188);(try clear HB);obtain ⟨x10_1,x189000_1,x189001_1,x189002_1,rfl,HA,HK1,BK188,HB⟩:=hrel
  cases gk with
  | zero=>exact absurd HA.out (by simp [impl_BindOf.l0])
  | succ k1 =>
   have H:=HA.out;clear HA;simp only [impl_BindOf.l0] at H
   by_cases c4:x10_1 < (l0.length:Int)
   ·rw [if_pos c4] at H
    have c4b0:decide (x10_1 < (l0.length:Int)) = true:=decide_eq_true c4;clear c4
    by_cases c5:0≤x10_1
    ·rw [if_pos c5] at H
     have c5b0:decide (0≤x10_1) = true:=decide_eq_true c5;clear c5
     by_cases c6:x10_1 < (l0.length:Int)
     ·rw [if_pos c6] at H
      have c6b0:decide (x10_1 < (l0.length:Int)) = true:=decide_eq_true c6;clear c6
      by_cases c7:((rd_T43 l0 x10_1).f0).toList = a1.toList
      ·rw [if_pos c7] at H
       have c7b0:(((rd_T43 l0 x10_1).f0).toList == a1.toList) = true:=beq_iff_eq.mpr c7;have c7b1:(((rd_T43 l0 x10_1).f0).toList != a1.toList) = false:=bne_eq_false_iff_eq.mpr c7;clear c7;replace H:=Option.bind_eq_some_iff.mp H;obtain ⟨⟨t191,t192,t193,t194⟩,A80,H⟩:=H;replace H:(some (t191,t192,t193,t194,true)) = some (r1,r2,r3,r4,r5):=H;have A8:=Aside0.mk A80;clear A80;simp only [Option.some.injEq,Prod.mk.injEq] at H;obtain ⟨rfl,rfl,rfl,rfl,rfl⟩:=H;have p189:0≤(x10_1:Int):=od;have q189:x10_1 < (l0.length:Int):=od;obtain ⟨ad189,A189_4,c189_4,e189,hx189_0,hx189_1,hx189_2,hx189_3,hx189_4,hl189_4,hi189_4⟩:=at_T43 HR0.out x10_1 p189 q189;cases e189;replace hx189_0:=cb HB hx189_0;replace hx189_1:=cb HB hx189_1;replace hx189_2:=cb HB hx189_2;replace hx189_3:=cb HB hx189_3;replace hx189_4:=cb HB hx189_4;have HR189_4:=Aside0.mk hi189_4;have HC189_4:=Aside0.mk hl189_4;clear hi189_4 hl189_4;replace p189:=eq_true p189;replace q189:=eq_true q189
       go_wp2_with (first|((with_reducible refine gate_dst (N:=7) rfl ?_);refine box_event ?hg (N:=7) ?hd (cs:=#[.string (⟨#[]⟩:ByteArray),.int .i64 0,.int .i64 0,.string (⟨#[]⟩:ByteArray),.slice none 0 0]) (t:=43) ?hr ?_;(case hd=>rfl);(case hg=>rfl);(case hr=>first|(go_simp;done)|(go_simp;rfl));intro gb190 hg w9 hbox hb;have n_:=ai (bw BK188 hb) <| ai (bq HB hb) <| ai (Aside0.mk (hbox)) <| ai (bz hg HB) <| ai (bz hg HB) <| ai (nl hg BK188) <| ng hg BK188;clear BK188 HB;obtain ⟨BK188,HB,BK190,GW190,GE190,NB188_190,NB190_188⟩:=n_;clear hb hbox hg;have:=NB190_188.out;have:=NB188_190.out;obtain ⟨h11_0,h11_1,h11_2,h11_3,h11_4⟩:=kb5 BK190.out;obtain ⟨z11_0,z11_1,z11_2,z11_3,z11_4⟩:=kz5 BK190.out)|((with_reducible refine gate_callee (f:=16) rfl ?_);refine goesL_ (some 20) rfl rfl Try.func16 (by kernel_rfl) rfl #[.agg #[.int .i64 ((rd_T43 l0 x10_1).f1.f0),.int .i64 ((rd_T43 l0 x10_1).f1.f1),.string ((rd_T43 l0 x10_1).f1.f2),.slice A189_4 ((rd_T43 l0 x10_1).f1.f3).length c189_4]] rfl gs ?_;(with_reducible refine (impl_copyTerm.callsD k1 ((rd_T43 l0 x10_1).f1.f0) ((rd_T43 l0 x10_1).f1.f1) ((rd_T43 l0 x10_1).f1.f2) _ _ ((rd_T43 l0 x10_1).f1.f3) t191 t192 t193 t194 _ ?side1 ?side2 A8.out).mono ?_);(case side1=>exact Kd.C_below HR189_4.out (bl HB.out));(case side2=>exact HC189_4.out);rintro e w12 ⟨v195,rfl,ho0,hb⟩;refine ⟨_,rfl,?_⟩;have n_:=ai (Aside0.mk (Kd.S_lower (Kd.S_newB ho0 (g:=gb188) (o:=.cells #[.int .i64 x189000_1,.int .i64 x189001_1,.string x189002_1,.slice none 0 0] 26 (0,0)) (bm BK188.out)) (below_size (bl HB.out)))) <| ai (bwm BK188 hb) <| ai (Aside0.mk (blk_below (g:=gb190) (o:=.cells #[.string ((rd_T43 l0 x10_1).f0),.int .i64 ((rd_T43 l0 x10_1).f1.f0),.int .i64 ((rd_T43 l0 x10_1).f1.f1),.string ((rd_T43 l0 x10_1).f1.f2),.slice A189_4 ((rd_T43 l0 x10_1).f1.f3).length c189_4] 43 (0,0)) (bmp BK190.out) hb)) <| bq HB hb;clear BK188 BK190 HB;obtain ⟨HO196,BK188,BK190,HB⟩:=n_;(try clear hb);(try clear ho0);obtain ⟨h13_0,h13_1,h13_2,h13_3⟩:=kb4 BK188.out;obtain ⟨z13_0,z13_1,z13_2,z13_3⟩:=kz4 BK188.out;obtain ⟨Ao14,co14,eo14⟩:=Kd.S_slice HO196.out;subst eo14))
       refine bodyPost_ret (results_ct rfl _ _ gb188 26 #[.int .i64 t191,.int .i64 t192,.string t193,.slice Ao14 t194.length co14] (0,0) _ rfl (bmp BK188.out) Try.underlying26 rfl (by kernel_rfl)) rfl ?_
       exact ⟨_,cl,by (with_reducible repeat (first|apply Kd.S_alloc|apply Kd.S_drewN|apply Kd.S_drew));exact Kd.S_mono (sfm (Kd.S_mono HO196.out (fun k_ hk=>(⟨hk,hk.2⟩:_∧k_≠gb188)))) (fun _ hk=>trivial),bl HB.out⟩
      ·rw [if_neg c7] at H
       have c7b0:(((rd_T43 l0 x10_1).f0).toList == a1.toList) = false:=beq_eq_false_iff_ne.mpr c7;have c7b1:(((rd_T43 l0 x10_1).f0).toList != a1.toList) = true:=bne_iff_ne.mpr c7;have H':=Aside0.mk H;clear H;have p189:0≤(x10_1:Int):=od;have q189:x10_1 < (l0.length:Int):=od;obtain ⟨ad189,A189_4,c189_4,e189,hx189_0,hx189_1,hx189_2,hx189_3,hx189_4,hl189_4,hi189_4⟩:=at_T43 HR0.out x10_1 p189 q189;cases e189;replace hx189_0:=cb HB hx189_0;replace hx189_1:=cb HB hx189_1;replace hx189_2:=cb HB hx189_2;replace hx189_3:=cb HB hx189_3;replace hx189_4:=cb HB hx189_4;have HR189_4:=Aside0.mk hi189_4;have HC189_4:=Aside0.mk hl189_4;clear hi189_4 hl189_4;replace p189:=eq_true p189;replace q189:=eq_true q189
       go_wp2_with (first|((with_reducible refine gate_dst (N:=7) rfl ?_);refine box_event ?hg (N:=7) ?hd (cs:=#[.string (⟨#[]⟩:ByteArray),.int .i64 0,.int .i64 0,.string (⟨#[]⟩:ByteArray),.slice none 0 0]) (t:=43) ?hr ?_;(case hd=>rfl);(case hg=>rfl);(case hr=>first|(go_simp;done)|(go_simp;rfl));intro gb190 hg w15 hbox hb;have n_:=ai (bw BK188 hb) <| ai (bq HB hb) <| ai (Aside0.mk (hbox)) <| ai (bz hg HB) <| ai (bz hg HB) <| ai (nl hg BK188) <| ng hg BK188;clear BK188 HB;obtain ⟨BK188,HB,BK190,GW190,GE190,NB188_190,NB190_188⟩:=n_;clear hb hbox hg;have:=NB190_188.out;have:=NB188_190.out;obtain ⟨h17_0,h17_1,h17_2,h17_3,h17_4⟩:=kb5 BK190.out;obtain ⟨z17_0,z17_1,z17_2,z17_3,z17_4⟩:=kz5 BK190.out))
       go_roundg k1
       case measure=>have:=HK1.out;omega
       case rel=>exact ⟨(wrap64 (x10_1 + 1)),(x189000_1),(x189001_1),(x189002_1),(cl2),H',⟨by have:=HK1.out;omega⟩,⟨bm BK188.out⟩,⟨bl HB.out⟩⟩
     ·rw [if_neg c6] at H
      exact absurd H (by simp)
    ·rw [if_neg c5] at H
     exact absurd H (by simp)
   ·rw [if_neg c4] at H
    have c4b0:decide (x10_1 < (l0.length:Int)) = false:=decide_eq_false c4;clear c4;simp only [Option.some.injEq,Prod.mk.injEq] at H;obtain ⟨rfl,rfl,rfl,rfl,rfl⟩:=H;obtain ⟨h18_0,h18_1,h18_2,h18_3⟩:=kb4 BK188.out;obtain ⟨z18_0,z18_1,z18_2,z18_3⟩:=kz4 BK188.out
    go_wp2
    refine bodyPost_ret (results_ct rfl _ _ gb188 26 #[.int .i64 0,.int .i64 0,.string (⟨#[]⟩:ByteArray),.slice none 0 0] (0,0) _ rfl (bmp BK188.out) Try.underlying26 rfl (by kernel_rfl)) rfl ?_
    exact ⟨_,cl,by first|exact Kd.S_nil _ _ _ _ _|exact Kd.N_nil _ _ _ _ _|exact Kd.V_nil _ _ _ _ _|exact Kd.Q_nil _ _ _ _ _|exact Kd.S_nil _ _ _ _ _,bl HB.out⟩
def impl_deepBindOf.f (k:Nat) (l0:List (S43)) (a1:ByteArray):=impl_BindOf.f k l0 a1
theorem impl_deepBindOf.mono:∀ l0 a1 k,LeO (impl_deepBindOf.f k l0 a1) (impl_deepBindOf.f (k + 1) l0 a1):=impl_BindOf.mono
theorem impl_deepBindOf.calls (k:Nat) (A0:Option Addr) (c0:Nat) (l0:List (S43)) (a1:ByteArray) (r1:Int) (r2:Int) (r3:ByteArray) (r4:List (S26)) (r5:Bool) (w:World) (hr0:Kd.C k43 w A0 l0.length l0) (hc0:l0.length≤c0) (h:impl_deepBindOf.f k l0 a1 = some (r1,r2,r3,r4,r5)):Calls Try.prog 7 #[.slice A0 l0.length c0,.string a1] w fun e w'=>∃ v3_:Value,e = .returned (.tuple #[.agg #[.int .i64 r1,.int .i64 r2,.string r3,v3_],.bool r5])∧Kd.S kD26 26 w' w.heap.size (fun _=>True) v3_ r4∧Below w.heap.size w w':=impl_BindOf.callsD k A0 c0 l0 a1 r1 r2 r3 r4 r5 w hr0 hc0 h

/-! ### laws_deepEqTerm: deep rows, read -/
def laws_deepEqTerm.f (k:Nat) (a0_0:Int) (a0_1:Int) (a0_2:ByteArray) (l0_3:List (S26)) (a1_0:Int) (a1_1:Int) (a1_2:ByteArray) (l1_3:List (S26)):=laws_eqTerm.f k a0_0 a0_1 a0_2 l0_3 a1_0 a1_1 a1_2 l1_3
theorem laws_deepEqTerm.mono:∀ a0_0 a0_1 a0_2 l0_3 a1_0 a1_1 a1_2 l1_3 k,LeO (laws_deepEqTerm.f k a0_0 a0_1 a0_2 l0_3 a1_0 a1_1 a1_2 l1_3) (laws_deepEqTerm.f (k + 1) a0_0 a0_1 a0_2 l0_3 a1_0 a1_1 a1_2 l1_3):=laws_eqTerm.mono
theorem laws_deepEqTerm.calls (k:Nat) (a0_0:Int) (a0_1:Int) (a0_2:ByteArray) (A0_3:Option Addr) (c0_3:Nat) (l0_3:List (S26)) (a1_0:Int) (a1_1:Int) (a1_2:ByteArray) (A1_3:Option Addr) (c1_3:Nat) (l1_3:List (S26)) (r:Bool) (w:World) (hr0_3:Kd.C kD26 w A0_3 l0_3.length l0_3) (hc0_3:l0_3.length≤c0_3) (hr1_3:Kd.C k26 w A1_3 l1_3.length l1_3) (hc1_3:l1_3.length≤c1_3) (h:laws_deepEqTerm.f k a0_0 a0_1 a0_2 l0_3 a1_0 a1_1 a1_2 l1_3 = some r):Calls Try.prog 8 #[.agg #[.int .i64 a0_0,.int .i64 a0_1,.string a0_2,.slice A0_3 l0_3.length c0_3],.agg #[.int .i64 a1_0,.int .i64 a1_1,.string a1_2,.slice A1_3 l1_3.length c1_3]] w fun e w'=>e = .returned (.bool r)∧Below w.heap.size w w':=laws_eqTerm.calls k a0_0 a0_1 a0_2 A0_3 c0_3 l0_3 a1_0 a1_1 a1_2 A1_3 c1_3 l1_3 r w (deepC hr0_3) hc0_3 hr1_3 hc1_3 h

/-! ### laws_deepMarkTerm: marks with values -/
theorem Hcells {α:Type} {d:Kd α} {e g n cap:Nat} {W:World} {base:Nat} {ok oki:Nat → Prop} {xs:List α} {i:Int} {c:List Value} (h:Kd.H d e W base ok (.slice (some ⟨g,0,none⟩) n cap) xs i oki c) (h0:0≤i) (h1:i < n) :
  (∀ j u,c[j]? = some u → W.cell? ⟨g,i.toNat * d.sz + j,none⟩ = some u)∧∀ j,W.frozen? ⟨g,j,none⟩ = false:=by
 obtain ⟨rows,hl,hR,_,_,hcc,_⟩:=Kd.H_raw h h0 h1
 refine ⟨hcc,fun j=>?_⟩
 obtain ⟨cells,hc⟩:=Kd.R_typed hR g (by simp [Value.ownBlock])
 simp [World.frozen?,hc]
mutual
def mkv.l0:Nat → List S26 → Int → Int → Option (Int × List S26)
 | 0,_,_,_=>none
 | k + 1,x0,x1,x5=>if x5 < (x0.length:Int) then (if 0≤x5 then ((laws_markText.f k (wrap64 ((wrap64 (x1 + 1)) + 1))).bind fun t2=>((mkv.f k ((rd_T26 x0 x5).f3) (wrap64 ((wrap64 ((wrap64 (x1 + 1)) + 1)) + 1))).bind fun t3=>(mkv.l0 k (x0.set x5.toNat ⟨x1,wrap64 (x1 + 1),t2,t3.2⟩) t3.1 (wrap64 (x5 + 1))))) else none) else (some (x1,x0))
def mkv.f:Nat → List S26 → Int → Option (Int × List S26)
 | 0,_,_=>none
 | k + 1,l0,a1=>mkv.l0 k l0 a1 0
end
theorem mkv.mono_g:∀ k,(∀ y0 y1 y2,LeO (mkv.l0 k y0 y1 y2) (mkv.l0 (k + 1) y0 y1 y2))∧(∀ y0 y1,LeO (mkv.f k y0 y1) (mkv.f (k + 1) y0 y1))
 | 0=>⟨fun _ _ _ r h=>by simp [mkv.l0] at h,fun _ _ r h=>by simp [mkv.f] at h⟩
 | k + 1=>by
  obtain ⟨ih0,ih1⟩:=mkv.mono_g k
  refine ⟨?_,?_⟩
  ·intro y0 y1 y2
   unfold mkv.l0
   with_reducible repeat' first|apply ih0|apply ih1|apply laws_markText.mono|apply LeO.refl|apply LeO.none|apply LeO.ite|refine LeO.bind ?_ (fun _=>?_)
  ·intro y0 y1
   unfold mkv.f
   exact ih0 _ _ _
theorem mkv.mono:∀ a0 a1 k,LeO (mkv.f k a0 a1) (mkv.f (k + 1) a0 a1):=fun a0 a1 k=>(mkv.mono_g k).2 a0 a1
set_option maxHeartbeats 8000000 in
set_option maxRecDepth 100000 in
theorem mkv.step (k:Nat) (ih:∀ k_,k_ < k → (∀ (l:List (S26)) (n r:Int) (l':List S26),mkv.f k_ l n = some (r,l') → ∀ (b:Nat) (ok:Nat → Prop) (v:Value) (w:World),b≤w.heap.size → Kd.S kD26 26 w b ok v l → Calls Try.prog 20 #[v,.int .i64 n] w fun e w'=>e = .returned (.int .i64 r)∧Kd.S kD26 26 w' b ok v l'∧Below b w w'∧Kept w w' ok)) :
  ∀ (l:List (S26)) (n r:Int) (l':List S26),mkv.f k l n = some (r,l') → ∀ (b:Nat) (ok:Nat → Prop) (v:Value) (w:World),b≤w.heap.size → Kd.S kD26 26 w b ok v l → Calls Try.prog 20 #[v,.int .i64 n] w fun e w'=>e = .returned (.int .i64 r)∧Kd.S kD26 26 w' b ok v l'∧Below b w w'∧Kept w w' ok:=by
 intro l n r l' h b ok v w hb hR
 cases k with
 | zero=>exact absurd h (by simp [mkv.f])
 | succ k =>
 simp only [mkv.f] at h;obtain ⟨Ao,co,eo⟩:=Kd.S_slice hR;subst eo;have HR:=Aside0.mk hR;have HBS:=Aside0.mk hb;have HK:=Aside0.mk (Kept.refl w ok);have HB:=Aside0.mk (Below.refl b w);clear hR hb;have H':=Aside0.mk h;clear h
 go_enter Try.func20,Try.ntmps20
 go_wp2
 go_loopg [1,5] k (fun kq v1 v5 w'=>∃ (x0:List S26) (x1:Int) (x5:Int),v1 = .int .i64 x1∧v5 = .int .i64 x5∧Aside0 (x0.length = l.length)∧Aside0 (mkv.l0 kq x0 x1 x5 = some (r,l'))∧Aside0 (kq≤k)∧Aside0 (Kd.S kD26 26 w' b ok (.slice Ao l.length co) x0)∧Aside0 (Below b w w')∧Aside0 (Kept w w' ok))
 case atStart=>exact ⟨l,n,0,(cl2),(cl2),⟨rfl⟩,H',⟨Nat.le_refl _⟩,HR,HB,HK⟩
 case round =>
  clear H' HR HB HK;obtain ⟨x0,x1,x5,rfl,rfl,HL,HA,HK1,HR,HB,HK⟩:=hrel
  cases gk with
  | zero=>exact absurd HA.out (by simp [mkv.l0])
  | succ k1 =>
   have H:=HA.out;clear HA;simp only [mkv.l0,HL.out] at H
   by_cases c3:x5 < (l.length:Int)
   ·rw [if_pos c3] at H
    have c3b0:decide (x5 < (l.length:Int)) = true:=decide_eq_true c3
    by_cases c4:0≤x5
    ·rw [if_pos c4] at H
     have c4b0:decide (0≤x5) = true:=decide_eq_true c4;replace H:=Option.bind_eq_some_iff.mp H;obtain ⟨t2,B2,H⟩:=H;have A2:=Aside0.mk B2;clear B2;replace H:=Option.bind_eq_some_iff.mp H;obtain ⟨⟨t3,l3⟩,B3,H⟩:=H;have A3:=Aside0.mk B3;clear B3;have H':=Aside0.mk H;clear H;obtain ⟨go5,co5,eo5,gb5,gl5,cl5,HG5⟩:=Kd.S_form HR.out (by have:=HL.out;omega)
     (first|cases eo5|(injection eo5 with ea_ en_ ec_;(first|subst ea_|(injection ea_ with ea_;subst ea_));subst ec_;clear en_))
     have HG:=Aside0.mk gb5;have HOK:=Aside0.mk ((Kd.S_R HR.out).1 go5 (by simp [Value.ownBlock]));clear gb5 gl5 HG5;have HC3:=Aside0.mk c3;have HC4:=Aside0.mk c4;obtain ⟨oki,ce5,hcl5,hM5,hcc5,hfr5,hoki,hH5⟩:=Kd.S_elem HR.out z26 (x5:Int) c4 c3;obtain ⟨v3,rfl,hR3⟩:=kD26_openM hM5;obtain ⟨Ai3,ci3,ei3⟩:=Kd.S_slice hR3;subst ei3;have HR3:=Aside0.mk hR3;have HH:=Aside0.mk hH5;have HOI:=Aside0.mk hoki;clear hR3 hH5 hoki HR;have hx0:wr.cell? ⟨go5,(x5:Int).toNat * 4,none⟩ = some (.int .i64 ((rd_T26 x0 x5).f0)):=hcc5 0 _ rfl;have hx1:wr.cell? ⟨go5,(x5:Int).toNat * 4 + 1,none⟩ = some (.int .i64 ((rd_T26 x0 x5).f1)):=hcc5 1 _ rfl;have hx2:wr.cell? ⟨go5,(x5:Int).toNat * 4 + 2,none⟩ = some (.string ((rd_T26 x0 x5).f2)):=hcc5 2 _ rfl;have hx3:wr.cell? ⟨go5,(x5:Int).toNat * 4 + 3,none⟩ = some (.slice Ai3 ((rd_T26 x0 x5).f3).length ci3):=hcc5 3 _ rfl;have hf0:wr.frozen? ⟨go5,(x5:Int).toNat * 4,none⟩ = false:=hfr5 0;have hf1:wr.frozen? ⟨go5,(x5:Int).toNat * 4 + 1,none⟩ = false:=hfr5 1;have hf2:wr.frozen? ⟨go5,(x5:Int).toNat * 4 + 2,none⟩ = false:=hfr5 2;have hf3:wr.frozen? ⟨go5,(x5:Int).toNat * 4 + 3,none⟩ = false:=hfr5 3;clear hcl5 hcc5 hfr5;have p5:=eq_true c4;have q5:=eq_true c3;clear c3 c4
     go_wp2_with (first|((with_reducible refine gate_store (t:=3) (p:=16) rfl ?_);refine store_event (t:=3) (p:=16) (v:=?vo_ws0) (w1:=(wr.setCell ⟨go5,(x5:Int).toNat * 4,none⟩ (.int .i64 x1))) ?hg ?ho ?hn ?hr ?_;(case ho=>rfl);(case hg=>rfl);(case hn=>rfl);(case hr=>first|(go_simp;done)|(go_simp;rfl));intro ws0 hw;have n_:=ai (Aside0.mk (show Kd.H kD26 26 ws0 b ok (.slice (some ⟨go5,0,none⟩) l.length co) x0 x5 oki [.int .i64 x1,.int .i64 ((rd_T26 x0 x5).f1),.string ((rd_T26 x0 x5).f2),.slice Ai3 ((rd_T26 x0 x5).f3).length ci3] from by rw [hw];exact (Kd.H_seg HH.out HC4.out HC3.out (seg:=[.int .i64 x1]) (j:=0) (show 0 + 1≤4 from by decide) (fun q hq=>by rw [List.mem_singleton.1 hq];rfl)).1)) <| ai (Aside0.mk (show Kd.S kD26 26 ws0 b oki (.slice Ai3 ((rd_T26 x0 x5).f3).length ci3) ((rd_T26 x0 x5).f3) from by rw [hw];exact Kd.S_far HR3.out (p:=⟨go5,(x5:Int).toNat * 4,none⟩) (fun k_ h_=>(HOI.out k_ h_).2) _)) <| ai (Aside0.mk (show Below b w ws0 from by rw [hw];exact Below.setCell HB.out (p:=⟨go5,(x5:Int).toNat * 4,none⟩) HG.out _)) <| Aside0.mk (show Kept w ws0 ok from by rw [hw];exact Kept.setCell HK.out (.inl HOK.out) _);clear HH HR3 HB HK hw;obtain ⟨HH,HR3,HB,HK⟩:=n_;clear hx0 hx1 hx2 hx3 hf0 hf1 hf2 hf3;have hcf:=Hcells HH.out HC4.out HC3.out;have hx0:ws0.cell? ⟨go5,(x5:Int).toNat * 4,none⟩ = some (.int .i64 x1):=hcf.1 0 _ rfl;have hf0:ws0.frozen? ⟨go5,(x5:Int).toNat * 4,none⟩ = false:=hcf.2 _;have hx1:ws0.cell? ⟨go5,(x5:Int).toNat * 4 + 1,none⟩ = some (.int .i64 ((rd_T26 x0 x5).f1)):=hcf.1 1 _ rfl;have hf1:ws0.frozen? ⟨go5,(x5:Int).toNat * 4 + 1,none⟩ = false:=hcf.2 _;have hx2:ws0.cell? ⟨go5,(x5:Int).toNat * 4 + 2,none⟩ = some (.string ((rd_T26 x0 x5).f2)):=hcf.1 2 _ rfl;have hf2:ws0.frozen? ⟨go5,(x5:Int).toNat * 4 + 2,none⟩ = false:=hcf.2 _;have hx3:ws0.cell? ⟨go5,(x5:Int).toNat * 4 + 3,none⟩ = some (.slice Ai3 ((rd_T26 x0 x5).f3).length ci3):=hcf.1 3 _ rfl;have hf3:ws0.frozen? ⟨go5,(x5:Int).toNat * 4 + 3,none⟩ = false:=hcf.2 _;clear hcf)|((with_reducible refine gate_store (t:=3) (p:=23) rfl ?_);refine store_event (t:=3) (p:=23) (v:=?vo_ws1) (w1:=(ws0.setCell ⟨go5,(x5:Int).toNat * 4 + 1,none⟩ (.int .i64 (wrap64 (x1 + 1))))) ?hg ?ho ?hn ?hr ?_;(case ho=>rfl);(case hg=>rfl);(case hn=>rfl);(case hr=>first|(go_simp;done)|(go_simp;rfl));intro ws1 hw;have n_:=ai (Aside0.mk (show Kd.H kD26 26 ws1 b ok (.slice (some ⟨go5,0,none⟩) l.length co) x0 x5 oki [.int .i64 x1,.int .i64 (wrap64 (x1 + 1)),.string ((rd_T26 x0 x5).f2),.slice Ai3 ((rd_T26 x0 x5).f3).length ci3] from by rw [hw];exact (Kd.H_seg HH.out HC4.out HC3.out (seg:=[.int .i64 (wrap64 (x1 + 1))]) (j:=1) (show 1 + 1≤4 from by decide) (fun q hq=>by rw [List.mem_singleton.1 hq];rfl)).1)) <| ai (Aside0.mk (show Kd.S kD26 26 ws1 b oki (.slice Ai3 ((rd_T26 x0 x5).f3).length ci3) ((rd_T26 x0 x5).f3) from by rw [hw];exact Kd.S_far HR3.out (p:=⟨go5,(x5:Int).toNat * 4 + 1,none⟩) (fun k_ h_=>(HOI.out k_ h_).2) _)) <| ai (Aside0.mk (show Below b w ws1 from by rw [hw];exact Below.setCell HB.out (p:=⟨go5,(x5:Int).toNat * 4 + 1,none⟩) HG.out _)) <| Aside0.mk (show Kept w ws1 ok from by rw [hw];exact Kept.setCell HK.out (.inl HOK.out) _);clear HH HR3 HB HK hw;obtain ⟨HH,HR3,HB,HK⟩:=n_;clear hx0 hx1 hx2 hx3 hf0 hf1 hf2 hf3;have hcf:=Hcells HH.out HC4.out HC3.out;have hx0:ws1.cell? ⟨go5,(x5:Int).toNat * 4,none⟩ = some (.int .i64 x1):=hcf.1 0 _ rfl;have hf0:ws1.frozen? ⟨go5,(x5:Int).toNat * 4,none⟩ = false:=hcf.2 _;have hx1:ws1.cell? ⟨go5,(x5:Int).toNat * 4 + 1,none⟩ = some (.int .i64 (wrap64 (x1 + 1))):=hcf.1 1 _ rfl;have hf1:ws1.frozen? ⟨go5,(x5:Int).toNat * 4 + 1,none⟩ = false:=hcf.2 _;have hx2:ws1.cell? ⟨go5,(x5:Int).toNat * 4 + 2,none⟩ = some (.string ((rd_T26 x0 x5).f2)):=hcf.1 2 _ rfl;have hf2:ws1.frozen? ⟨go5,(x5:Int).toNat * 4 + 2,none⟩ = false:=hcf.2 _;have hx3:ws1.cell? ⟨go5,(x5:Int).toNat * 4 + 3,none⟩ = some (.slice Ai3 ((rd_T26 x0 x5).f3).length ci3):=hcf.1 3 _ rfl;have hf3:ws1.frozen? ⟨go5,(x5:Int).toNat * 4 + 3,none⟩ = false:=hcf.2 _;clear hcf)|(go_at_call 19;(with_reducible refine (laws_markText.calls k1 (wrap64 ((wrap64 (x1 + 1)) + 1)) t2 _ A2.out).mono ?_);rintro e wc2 ⟨rfl,hb⟩;have n_:=ai (Aside0.mk (Kd.H_below HH.out hb)) <| ai (Aside0.mk (Kd.S_below HR3.out hb)) <| ai (Aside0.mk (HB.out.trans (hb.mono (Nat.le_trans HBS.out HB.out.size)))) <| Aside0.mk (Kept.below HK.out hb);clear HH HR3 HB HK hb;obtain ⟨HH,HR3,HB,HK⟩:=n_;clear hx0 hx1 hx2 hx3 hf0 hf1 hf2 hf3;have hcf:=Hcells HH.out HC4.out HC3.out;have hx0:wc2.cell? ⟨go5,(x5:Int).toNat * 4,none⟩ = some (.int .i64 x1):=hcf.1 0 _ rfl;have hf0:wc2.frozen? ⟨go5,(x5:Int).toNat * 4,none⟩ = false:=hcf.2 _;have hx1:wc2.cell? ⟨go5,(x5:Int).toNat * 4 + 1,none⟩ = some (.int .i64 (wrap64 (x1 + 1))):=hcf.1 1 _ rfl;have hf1:wc2.frozen? ⟨go5,(x5:Int).toNat * 4 + 1,none⟩ = false:=hcf.2 _;have hx2:wc2.cell? ⟨go5,(x5:Int).toNat * 4 + 2,none⟩ = some (.string ((rd_T26 x0 x5).f2)):=hcf.1 2 _ rfl;have hf2:wc2.frozen? ⟨go5,(x5:Int).toNat * 4 + 2,none⟩ = false:=hcf.2 _;have hx3:wc2.cell? ⟨go5,(x5:Int).toNat * 4 + 3,none⟩ = some (.slice Ai3 ((rd_T26 x0 x5).f3).length ci3):=hcf.1 3 _ rfl;have hf3:wc2.frozen? ⟨go5,(x5:Int).toNat * 4 + 3,none⟩ = false:=hcf.2 _;clear hcf)|((with_reducible refine gate_store (t:=9) (p:=31) rfl ?_);refine store_event (t:=9) (p:=31) (v:=?vo_ws2) (w1:=(wc2.setCell ⟨go5,(x5:Int).toNat * 4 + 2,none⟩ (.string t2))) ?hg ?ho ?hn ?hr ?_;(case ho=>rfl);(case hg=>rfl);(case hn=>rfl);(case hr=>first|(go_simp;done)|(go_simp;rfl));intro ws2 hw;have n_:=ai (Aside0.mk (show Kd.H kD26 26 ws2 b ok (.slice (some ⟨go5,0,none⟩) l.length co) x0 x5 oki [.int .i64 x1,.int .i64 (wrap64 (x1 + 1)),.string t2,.slice Ai3 ((rd_T26 x0 x5).f3).length ci3] from by rw [hw];exact (Kd.H_seg HH.out HC4.out HC3.out (seg:=[.string t2]) (j:=2) (show 2 + 1≤4 from by decide) (fun q hq=>by rw [List.mem_singleton.1 hq];rfl)).1)) <| ai (Aside0.mk (show Kd.S kD26 26 ws2 b oki (.slice Ai3 ((rd_T26 x0 x5).f3).length ci3) ((rd_T26 x0 x5).f3) from by rw [hw];exact Kd.S_far HR3.out (p:=⟨go5,(x5:Int).toNat * 4 + 2,none⟩) (fun k_ h_=>(HOI.out k_ h_).2) _)) <| ai (Aside0.mk (show Below b w ws2 from by rw [hw];exact Below.setCell HB.out (p:=⟨go5,(x5:Int).toNat * 4 + 2,none⟩) HG.out _)) <| Aside0.mk (show Kept w ws2 ok from by rw [hw];exact Kept.setCell HK.out (.inl HOK.out) _);clear HH HR3 HB HK hw;obtain ⟨HH,HR3,HB,HK⟩:=n_;clear hx0 hx1 hx2 hx3 hf0 hf1 hf2 hf3;have hcf:=Hcells HH.out HC4.out HC3.out;have hx0:ws2.cell? ⟨go5,(x5:Int).toNat * 4,none⟩ = some (.int .i64 x1):=hcf.1 0 _ rfl;have hf0:ws2.frozen? ⟨go5,(x5:Int).toNat * 4,none⟩ = false:=hcf.2 _;have hx1:ws2.cell? ⟨go5,(x5:Int).toNat * 4 + 1,none⟩ = some (.int .i64 (wrap64 (x1 + 1))):=hcf.1 1 _ rfl;have hf1:ws2.frozen? ⟨go5,(x5:Int).toNat * 4 + 1,none⟩ = false:=hcf.2 _;have hx2:ws2.cell? ⟨go5,(x5:Int).toNat * 4 + 2,none⟩ = some (.string t2):=hcf.1 2 _ rfl;have hf2:ws2.frozen? ⟨go5,(x5:Int).toNat * 4 + 2,none⟩ = false:=hcf.2 _;have hx3:ws2.cell? ⟨go5,(x5:Int).toNat * 4 + 3,none⟩ = some (.slice Ai3 ((rd_T26 x0 x5).f3).length ci3):=hcf.1 3 _ rfl;have hf3:ws2.frozen? ⟨go5,(x5:Int).toNat * 4 + 3,none⟩ = false:=hcf.2 _;clear hcf)|(go_at_call 20;(with_reducible refine (ih k1 (by have:=HK1.out;omega) _ _ t3 l3 A3.out b oki _ _ (Nat.le_trans HBS.out HB.out.size) HR3.out).mono ?_);rintro e wm3 ⟨rfl,hs,hb,hk⟩;have n0_:=Aside0.mk (Kd.H_back (Kd.H_step HH.out (fun k_ _ hn_ hlt_=>hk.2 k_ hlt_ hn_)) (kD26_mkM _ _ _ (⟨x1,wrap64 (x1 + 1),t2,l3⟩:S26) hs) (fun _ h_=>h_));have n2_:=Aside0.mk (HB.out.trans hb);have n3_:=Aside0.mk (Kept.then_ HK.out hk (fun k_ h_=>.inl (HOI.out k_ h_).1));clear HH HR3 HB HK hs hb hk hx0 hx1 hx2 hx3 hf0 hf1 hf2 hf3;have HR:=n0_;have HB:=n2_;have HK:=n3_;clear n0_ n2_ n3_))
     go_roundg k1
     case measure=>have:=HK1.out;omega
     case rel=>exact ⟨_,t3,wrap64 (x5 + 1),(cl2),(cl2),⟨by rw [List.length_set];exact HL.out⟩,H',⟨by have:=HK1.out;omega⟩,HR,HB,HK⟩
    ·rw [if_neg c4] at H
     exact absurd H (by simp)
   ·rw [if_neg c3] at H
    have c3b0:decide (x5 < (l.length:Int)) = false:=decide_eq_false c3;clear c3;simp only [Option.some.injEq,Prod.mk.injEq] at H;obtain ⟨rfl,rfl⟩:=H
    go_wp2
    go_ret
    exact ⟨cl2,HR.out,HB.out,HK.out⟩
theorem mkv.calls (k:Nat):∀ (l:List (S26)) (n r:Int) (l':List S26),mkv.f k l n = some (r,l') → ∀ (b:Nat) (ok:Nat → Prop) (v:Value) (w:World),b≤w.heap.size → Kd.S kD26 26 w b ok v l → Calls Try.prog 20 #[v,.int .i64 n] w fun e w'=>e = .returned (.int .i64 r)∧Kd.S kD26 26 w' b ok v l'∧Below b w w'∧Kept w w' ok:=by
 induction k using Nat.strongRecOn with
 | _ k ih =>
 exact mkv.step k (fun k_ h_=>ih k_ h_)
theorem kept_rows {b T:Nat} {ok P:Nat → Prop} {w wb w':World} (h1:Below w.heap.size w wb) (hb:b≤w.heap.size) (h2:Below b wb w') (hP:∀ k,ok k → P k) (hk:Kept wb w' (fun k=>ok k∧b≤k∧k < w.heap.size∧∃ q,q ∈ [T,T]∧∃ cells,w.heap[k]? = some (.cells cells q (0,0)))):Kept w w' (InRows b P [T] w):=by
 refine ⟨Nat.le_trans h1.size hk.1,fun i hi hn=>?_⟩
 refine (hk.2 i (Nat.lt_of_lt_of_le hi h1.size) (fun z=>hn ?_)).trans (h1.block i hi)
 obtain ⟨z1,z2,_,q,hq,z3⟩:=z
 exact ⟨z2,hP _ z1,q,by simp at hq;simp [hq],z3⟩
def laws_deepMarkTerm.f (k:Nat) (a0_0:Int) (a0_1:Int) (a0_2:ByteArray) (l0_3:List (S26)) (a1:Int):Option (Int × List (S26)):=mkv.f k l0_3 a1
theorem laws_deepMarkTerm.mono:∀ a0_0 a0_1 a0_2 l0_3 a1 k,LeO (laws_deepMarkTerm.f k a0_0 a0_1 a0_2 l0_3 a1) (laws_deepMarkTerm.f (k + 1) a0_0 a0_1 a0_2 l0_3 a1):=fun _ _ _ l a k=>mkv.mono l a k
set_option maxHeartbeats 8000000 in
set_option maxRecDepth 100000 in
theorem laws_deepMarkTerm.calls (k:Nat) (a0_0:Int) (a0_1:Int) (a0_2:ByteArray) (u3:Value) (l0_3:List (S26)) (a1:Int) (r:Int) (l':List (S26)) (b:Nat) (P:Nat → Prop) (ok3:Nat → Prop) (w:World) (hb:b≤w.heap.size) (ho3:Kd.S kD26 26 w b ok3 u3 l0_3) (hp3:∀ k_,ok3 k_ → P k_) (h:laws_deepMarkTerm.f k a0_0 a0_1 a0_2 l0_3 a1 = some (r,l')) :
  Calls Try.prog 11 #[.agg #[.int .i64 a0_0,.int .i64 a0_1,.string a0_2,u3],.int .i64 a1] w fun e w'=>e = .returned (.int .i64 r)∧Kd.S kD26 26 w' b ok3 u3 l'∧Below b w w'∧Kept w w' (InRows b P [26] w):=by
 have A3:=Aside0.mk (show mkv.f k l0_3 a1 = some (r,l') from h);clear h;obtain ⟨Ai3,ci3,ei3⟩:=Kd.S_slice ho3;subst ei3;have HR3:=Aside0.mk (Kd.S_bound ho3);have HP3:=Aside0.mk hp3;have HBS:=Aside0.mk hb;clear ho3 hp3 hb
 go_enter Try.func11,Try.ntmps11
 go_wp2_with (first|((with_reducible refine gate_dst (N:=2) rfl ?_);refine box_event ?hg (N:=2) ?hd (cs:=#[.int .i64 a0_0,.int .i64 a0_1,.string a0_2,.slice Ai3 l0_3.length ci3]) (t:=26) ?hr ?_;(case hd=>rfl);(case hg=>rfl);(case hr=>first|(go_simp;done)|(go_simp;rfl));intro gb hg wb hbox hb;have HR4:=Aside0.mk (Kd.S_below HR3.out hb);have HB1:=Aside0.mk hb;have hz3:wb.cell? ⟨gb,3,none⟩ = some (.slice Ai3 l0_3.length ci3):=(blk_cell hbox 3).trans rfl;clear hg hbox hb HR3)|(go_at_call 20;(with_reducible refine (mkv.calls k _ _ r l' A3.out b _ _ _ (Nat.le_trans HBS.out HB1.out.size) HR4.out).mono ?_);rintro e wm ⟨rfl,hs,hb2,hk⟩))
 go_ret
 exact ⟨cl2,Kd.S_mono hs (fun _ h_=>h_.1),(HB1.out.mono HBS.out).trans hb2,kept_rows HB1.out HBS.out hb2 HP3.out hk⟩

/-! ### laws_deepHeldTerm: deep rows, read -/
def laws_deepHeldTerm.f (k:Nat) (a0_0:Int) (a0_1:Int) (a0_2:ByteArray) (l0_3:List (S26)) (a1:Int):=laws_heldTerm.f k a0_0 a0_1 a0_2 l0_3 a1
theorem laws_deepHeldTerm.mono:∀ a0_0 a0_1 a0_2 l0_3 a1 k,LeO (laws_deepHeldTerm.f k a0_0 a0_1 a0_2 l0_3 a1) (laws_deepHeldTerm.f (k + 1) a0_0 a0_1 a0_2 l0_3 a1):=laws_heldTerm.mono
theorem laws_deepHeldTerm.calls (k:Nat) (a0_0:Int) (a0_1:Int) (a0_2:ByteArray) (A0_3:Option Addr) (c0_3:Nat) (l0_3:List (S26)) (a1:Int) (r:Int) (w:World) (hr0_3:Kd.C kD26 w A0_3 l0_3.length l0_3) (hc0_3:l0_3.length≤c0_3) (h:laws_deepHeldTerm.f k a0_0 a0_1 a0_2 l0_3 a1 = some r):Calls Try.prog 12 #[.agg #[.int .i64 a0_0,.int .i64 a0_1,.string a0_2,.slice A0_3 l0_3.length c0_3],.int .i64 a1] w fun e w'=>e = .returned (.int .i64 r)∧Below w.heap.size w w':=laws_heldTerm.calls k a0_0 a0_1 a0_2 A0_3 c0_3 l0_3 a1 r w (deepC hr0_3) hc0_3 h

end Go.Proofs.Ytmcmhpiknhjiaaa.QFnExactBindOf
