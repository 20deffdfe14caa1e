-- Written by a program of this workplace (print2.py) for this claim, over the print's words.
import Derived.Test.YtiooogcjoobjnaaQFnExactOperatex0
import Derived.Test.YtiooogcjoobjnaaQFnExactOperatex11
namespace Go.Proofs.Ytiooogcjoobjnaa.QFnExactOperate
open Go.RowKit Go.Proofs.YtiooogcjoobjnaaW.PrintWords Go.Proofs.YtiooogcjoobjnaaW.PrintLast Go.Proofs.YtiooogcjoobjnaaW.PrintMore
attribute [local go_sem] binOp_string_gtr max2_int min2_int max_two min_two max_three min_three max_four min_four   -- for this text's walks alone
set_option linter.unusedVariables false
set_option linter.unusedSimpArgs false

/-! ### laws_markTermS: marks, told weakly -/
mutual
def laws_markTermS.l0:Nat → List (S28) → Int → Int → Option (Int)
 | 0,_,_,_=>none
 | k + 1,x0,x1,x5=>if x5 < (x0.length:Int) then (if 0≤x5 then ((laws_markText.f k (wrap64 ((wrap64 (x1 + 1)) + 1))).bind fun t2=>((laws_markTermS.f k ((rd_T28 x0 x5).f3) (wrap64 ((wrap64 ((wrap64 (x1 + 1)) + 1)) + 1))).bind fun t3=>(laws_markTermS.l0 k x0 t3 (wrap64 (x5 + 1))))) else (none)) else (some x1)
def laws_markTermS.f:Nat → List (S28) → Int → Option (Int)
 | 0,_,_=>none
 | k + 1,l0,a1=>laws_markTermS.l0 k l0 a1 0
end
theorem laws_markTermS.mono_g:∀ k,(∀ y0 y1 y2,LeO (laws_markTermS.l0 k y0 y1 y2) (laws_markTermS.l0 (k + 1) y0 y1 y2))∧(∀ y0 y1,LeO (laws_markTermS.f k y0 y1) (laws_markTermS.f (k + 1) y0 y1))
 | 0=>⟨fun _ _ _ r h=>by simp [laws_markTermS.l0] at h,fun _ _ r h=>by simp [laws_markTermS.f] at h⟩
 | k + 1=>by
  obtain ⟨ih0,ih1⟩:=laws_markTermS.mono_g k
  refine ⟨?_,?_⟩
  ·intro y0 y1 y2
   unfold laws_markTermS.l0
   with_reducible repeat' first|apply ih0|apply ih1|apply laws_markText.mono|apply LeO.refl|apply LeO.none|apply LeO.ite|refine LeO.bind ?_ (fun _=>?_)
  ·intro y0 y1
   unfold laws_markTermS.f
   with_reducible repeat' first|apply ih0|apply ih1|apply laws_markText.mono|apply LeO.refl|apply LeO.none|apply LeO.ite|refine LeO.bind ?_ (fun _=>?_)
theorem laws_markTermS.mono:∀ a0 a1 k,LeO (laws_markTermS.f k a0 a1) (laws_markTermS.f (k + 1) a0 a1):=by
 intro a0 a1 k;obtain ⟨ih0,ih1⟩:=laws_markTermS.mono_g k
 exact ih1 a0 a1
set_option maxHeartbeats 8000000 in
set_option maxRecDepth 100000 in
theorem laws_markTermS.step (k:Nat) (ih_laws_markTermS:∀ k_,k_ < k → (∀ (l:List (S28)) (n r:Int),laws_markTermS.f k_ l n = some r → ∀ (b:Nat) (P ok:Nat → Prop) (v:Value) (ws w:World),b≤ws.heap.size → Kd.R k28 28 ws b ok v l → (∀ k_,ok k_ → P k_) → Soft b P [28] ws w → Calls Try.prog 20 #[v,.int .i64 n] w fun e w'=>e = .returned (.int .i64 r)∧Soft b P [28] ws w'∧Kept w w' (InRows b P [28] ws))):∀ (l:List (S28)) (n r:Int),laws_markTermS.f k l n = some r → ∀ (b:Nat) (P ok:Nat → Prop) (v:Value) (ws w:World),b≤ws.heap.size → Kd.R k28 28 ws b ok v l → (∀ k_,ok k_ → P k_) → Soft b P [28] ws w → Calls Try.prog 20 #[v,.int .i64 n] w fun e w'=>e = .returned (.int .i64 r)∧Soft b P [28] ws w'∧Kept w w' (InRows b P [28] ws):=by
 intro l n r h b P ok v ws w hb hR hP hS
 cases k with
 | zero=>exact absurd h (by simp [laws_markTermS.f])
 | succ k =>
 simp only [laws_markTermS.f] at h;obtain ⟨Ao,co,eo⟩:=Kd.R_slice hR;subst eo;have HR:=Aside0.mk hR;have HBS:=Aside0.mk hb;have HS:=Aside0.mk hS;have HP:=Aside0.mk hP;have HK:=Aside0.mk (Kept.refl w (InRows b P [28] ws));clear hR hb hS hP;have H':=Aside0.mk h;clear h
 go_enter Try.func20,Try.ntmps20
 go_wp2
 go_loopg [1,5] k (fun kq v1 v5 w'=>∃ (x1:Int) (x5:Int),v1 = .int .i64 x1∧v5 = .int .i64 x5∧Aside0 (laws_markTermS.l0 kq l x1 x5 = some r)∧Aside0 (kq≤k)∧Aside0 (Soft b P [28] ws w')∧Aside0 (Kept w w' (InRows b P [28] ws)))
 case atStart=>exact ⟨n,0,(cl2),(cl2),H',⟨Nat.le_refl _⟩,HS,HK⟩
 case round =>
  clear H';clear HS HK;obtain ⟨x1,x5,rfl,rfl,HA,HK1,HS,HK⟩:=hrel
  cases gk with
  | zero=>exact absurd HA.out (by simp [laws_markTermS.l0])
  | succ k1 =>
   have H:=HA.out;clear HA;simp only [laws_markTermS.l0] at H
   by_cases c3:x5 < (l.length:Int)
   ·rw [if_pos c3] at H
    have c3b0:decide (x5 < (l.length:Int)) = true:=decide_eq_true c3
    by_cases c4:0≤x5
    ·rw [if_pos c4] at H
     have c4b0:decide (0≤x5) = true:=decide_eq_true c4;replace H:=Option.bind_eq_some_iff.mp H;obtain ⟨t2,B2,H⟩:=H;replace H:((laws_markTermS.f k1 ((rd_T28 l x5).f3) (wrap64 ((wrap64 ((wrap64 (x1 + 1)) + 1)) + 1))).bind fun t3=>(laws_markTermS.l0 k1 l t3 (wrap64 (x5 + 1)))) = some r:=H;have A2:=Aside0.mk B2;clear B2;replace H:=Option.bind_eq_some_iff.mp H;obtain ⟨t3,B3,H⟩:=H;replace H:(laws_markTermS.l0 k1 l t3 (wrap64 (x5 + 1))) = some r:=H;have A3:=Aside0.mk B3;clear B3;have H':=Aside0.mk H;clear H;obtain ⟨go5,co5,eo5,gb5,gl5,cl5,HG5⟩:=Kd.R_form HR.out (by omega)
     (first|cases eo5|(injection eo5 with ea_ en_ ec_;(first|subst ea_|(injection ea_ with ea_;subst ea_));subst ec_;clear en_))
     have HG:=Aside0.mk (show InRows b P [28] ws go5 from ⟨gb5,HP.out _ (HR.out.1 go5 (by simp [Value.ownBlock])),28,by decide,cl5,HG5⟩);clear gb5 gl5 HG5;obtain ⟨ce5,hcl5,hM5,hcc5,hfr5⟩:=Kd.R_elem HR.out z28 (x5:Int) c4 c3;obtain ⟨v3,rfl,hR3⟩:=k28_openM hM5;obtain ⟨Ai3,ci3,ei3⟩:=Kd.R_slice hR3;subst ei3;have HR3:=Aside0.mk hR3;clear hR3;have HC0:=Aside0.mk (show ws.cell? ⟨go5,(x5:Int).toNat * 4,none⟩ = some (.int .i64 ((rd_T28 l x5).f0)) from hcc5 0 _ rfl);have HC1:=Aside0.mk (show ws.cell? ⟨go5,(x5:Int).toNat * 4 + 1,none⟩ = some (.int .i64 ((rd_T28 l x5).f1)) from hcc5 1 _ rfl);have HC2:=Aside0.mk (show ws.cell? ⟨go5,(x5:Int).toNat * 4 + 2,none⟩ = some (.string ((rd_T28 l x5).f2)) from hcc5 2 _ rfl);have HC3:=Aside0.mk (show ws.cell? ⟨go5,(x5:Int).toNat * 4 + 3,none⟩ = some (.slice Ai3 ((rd_T28 l x5).f3).length ci3) from hcc5 3 _ rfl);clear hcl5 hcc5 hfr5;obtain ⟨y0,hx0⟩:∃ y,wr.cell? ⟨go5,(x5:Int).toNat * 4,none⟩ = some (.int .i64 y):=(by obtain ⟨z_,h_,s_⟩:=HS.out.cell HG.out HC0.out;obtain ⟨y_,e_⟩:=s_.of_int;exact ⟨y_,e_ ▸ h_⟩);have hf0:wr.frozen? ⟨go5,(x5:Int).toNat * 4,none⟩ = false:=HS.out.frozen HG.out _;obtain ⟨y1,hx1⟩:∃ y,wr.cell? ⟨go5,(x5:Int).toNat * 4 + 1,none⟩ = some (.int .i64 y):=(by obtain ⟨z_,h_,s_⟩:=HS.out.cell HG.out HC1.out;obtain ⟨y_,e_⟩:=s_.of_int;exact ⟨y_,e_ ▸ h_⟩);have hf1:wr.frozen? ⟨go5,(x5:Int).toNat * 4 + 1,none⟩ = false:=HS.out.frozen HG.out _;obtain ⟨y2,hx2⟩:∃ y,wr.cell? ⟨go5,(x5:Int).toNat * 4 + 2,none⟩ = some (.string y):=(by obtain ⟨z_,h_,s_⟩:=HS.out.cell HG.out HC2.out;obtain ⟨y_,e_⟩:=s_.of_string;exact ⟨y_,e_ ▸ h_⟩);have hf2:wr.frozen? ⟨go5,(x5:Int).toNat * 4 + 2,none⟩ = false:=HS.out.frozen HG.out _;have hx3:wr.cell? ⟨go5,(x5:Int).toNat * 4 + 3,none⟩ = some (.slice Ai3 ((rd_T28 l x5).f3).length ci3):=(by obtain ⟨z_,h_,s_⟩:=HS.out.cell HG.out HC3.out;exact s_.of_slice ▸ h_);have hf3:wr.frozen? ⟨go5,(x5:Int).toNat * 4 + 3,none⟩ = false:=HS.out.frozen HG.out _;have p5:=eq_true c4;have q5:=eq_true c3;clear c3 c4
     go_wp2_with (first|((with_reducible refine gate_store (t:=3) (p:=16) rfl ?_);refine store_event (t:=3) (p:=16) (v:=?vo_ws0) (w1:=(wr.setCell ⟨go5,(x5:Int).toNat * 4,none⟩ (.int .i64 x1))) ?hg ?ho ?hn ?hr ?_;(case ho=>rfl);(case hg=>rfl);(case hn=>rfl);(case hr=>first|(go_simp;done)|(go_simp;rfl));intro ws0 hw;have n_:=ai (Aside0.mk (show Soft b P [28] ws ws0 from by rw [hw];exact Soft.set HS.out HG.out hx0 (SoftV.int _ _ _))) <| Aside0.mk (show Kept w ws0 (InRows b P [28] ws) from by rw [hw];exact Kept.setCell HK.out (.inl HG.out) _);clear HS HK hw;obtain ⟨HS,HK⟩:=n_;clear hx0 hf0;obtain ⟨y0,hx0⟩:∃ y,ws0.cell? ⟨go5,(x5:Int).toNat * 4,none⟩ = some (.int .i64 y):=(by obtain ⟨z_,h_,s_⟩:=HS.out.cell HG.out HC0.out;obtain ⟨y_,e_⟩:=s_.of_int;exact ⟨y_,e_ ▸ h_⟩);have hf0:ws0.frozen? ⟨go5,(x5:Int).toNat * 4,none⟩ = false:=HS.out.frozen HG.out _;clear hx1 hf1;obtain ⟨y1,hx1⟩:∃ y,ws0.cell? ⟨go5,(x5:Int).toNat * 4 + 1,none⟩ = some (.int .i64 y):=(by obtain ⟨z_,h_,s_⟩:=HS.out.cell HG.out HC1.out;obtain ⟨y_,e_⟩:=s_.of_int;exact ⟨y_,e_ ▸ h_⟩);have hf1:ws0.frozen? ⟨go5,(x5:Int).toNat * 4 + 1,none⟩ = false:=HS.out.frozen HG.out _;clear hx2 hf2;obtain ⟨y2,hx2⟩:∃ y,ws0.cell? ⟨go5,(x5:Int).toNat * 4 + 2,none⟩ = some (.string y):=(by obtain ⟨z_,h_,s_⟩:=HS.out.cell HG.out HC2.out;obtain ⟨y_,e_⟩:=s_.of_string;exact ⟨y_,e_ ▸ h_⟩);have hf2:ws0.frozen? ⟨go5,(x5:Int).toNat * 4 + 2,none⟩ = false:=HS.out.frozen HG.out _;clear hx3 hf3;have hx3:ws0.cell? ⟨go5,(x5:Int).toNat * 4 + 3,none⟩ = some (.slice Ai3 ((rd_T28 l x5).f3).length ci3):=(by obtain ⟨z_,h_,s_⟩:=HS.out.cell HG.out HC3.out;exact s_.of_slice ▸ h_);have hf3:ws0.frozen? ⟨go5,(x5:Int).toNat * 4 + 3,none⟩ = false:=HS.out.frozen HG.out _)|((with_reducible refine gate_store (t:=3) (p:=23) rfl ?_);refine store_event (t:=3) (p:=23) (v:=?vo_ws1) (w1:=(ws0.setCell ⟨go5,(x5:Int).toNat * 4 + 1,none⟩ (.int .i64 (wrap64 (x1 + 1))))) ?hg ?ho ?hn ?hr ?_;(case ho=>rfl);(case hg=>rfl);(case hn=>rfl);(case hr=>first|(go_simp;done)|(go_simp;rfl));intro ws1 hw;have n_:=ai (Aside0.mk (show Soft b P [28] ws ws1 from by rw [hw];exact Soft.set HS.out HG.out hx1 (SoftV.int _ _ _))) <| Aside0.mk (show Kept w ws1 (InRows b P [28] ws) from by rw [hw];exact Kept.setCell HK.out (.inl HG.out) _);clear HS HK hw;obtain ⟨HS,HK⟩:=n_;clear hx0 hf0;obtain ⟨y0,hx0⟩:∃ y,ws1.cell? ⟨go5,(x5:Int).toNat * 4,none⟩ = some (.int .i64 y):=(by obtain ⟨z_,h_,s_⟩:=HS.out.cell HG.out HC0.out;obtain ⟨y_,e_⟩:=s_.of_int;exact ⟨y_,e_ ▸ h_⟩);have hf0:ws1.frozen? ⟨go5,(x5:Int).toNat * 4,none⟩ = false:=HS.out.frozen HG.out _;clear hx1 hf1;obtain ⟨y1,hx1⟩:∃ y,ws1.cell? ⟨go5,(x5:Int).toNat * 4 + 1,none⟩ = some (.int .i64 y):=(by obtain ⟨z_,h_,s_⟩:=HS.out.cell HG.out HC1.out;obtain ⟨y_,e_⟩:=s_.of_int;exact ⟨y_,e_ ▸ h_⟩);have hf1:ws1.frozen? ⟨go5,(x5:Int).toNat * 4 + 1,none⟩ = false:=HS.out.frozen HG.out _;clear hx2 hf2;obtain ⟨y2,hx2⟩:∃ y,ws1.cell? ⟨go5,(x5:Int).toNat * 4 + 2,none⟩ = some (.string y):=(by obtain ⟨z_,h_,s_⟩:=HS.out.cell HG.out HC2.out;obtain ⟨y_,e_⟩:=s_.of_string;exact ⟨y_,e_ ▸ h_⟩);have hf2:ws1.frozen? ⟨go5,(x5:Int).toNat * 4 + 2,none⟩ = false:=HS.out.frozen HG.out _;clear hx3 hf3;have hx3:ws1.cell? ⟨go5,(x5:Int).toNat * 4 + 3,none⟩ = some (.slice Ai3 ((rd_T28 l x5).f3).length ci3):=(by obtain ⟨z_,h_,s_⟩:=HS.out.cell HG.out HC3.out;exact s_.of_slice ▸ h_);have hf3:ws1.frozen? ⟨go5,(x5:Int).toNat * 4 + 3,none⟩ = false:=HS.out.frozen HG.out _)|(go_at_call 33;(with_reducible refine (laws_markText.calls k1 (wrap64 ((wrap64 (x1 + 1)) + 1)) t2 _ A2.out).mono ?_);rintro e wc2 ⟨rfl,hb⟩;have n_:=ai (Aside0.mk (Soft.step HS.out HBS.out hb)) <| Aside0.mk (Kept.below HK.out hb);clear HS HK hb;obtain ⟨HS,HK⟩:=n_;clear hx0 hf0;obtain ⟨y0,hx0⟩:∃ y,wc2.cell? ⟨go5,(x5:Int).toNat * 4,none⟩ = some (.int .i64 y):=(by obtain ⟨z_,h_,s_⟩:=HS.out.cell HG.out HC0.out;obtain ⟨y_,e_⟩:=s_.of_int;exact ⟨y_,e_ ▸ h_⟩);have hf0:wc2.frozen? ⟨go5,(x5:Int).toNat * 4,none⟩ = false:=HS.out.frozen HG.out _;clear hx1 hf1;obtain ⟨y1,hx1⟩:∃ y,wc2.cell? ⟨go5,(x5:Int).toNat * 4 + 1,none⟩ = some (.int .i64 y):=(by obtain ⟨z_,h_,s_⟩:=HS.out.cell HG.out HC1.out;obtain ⟨y_,e_⟩:=s_.of_int;exact ⟨y_,e_ ▸ h_⟩);have hf1:wc2.frozen? ⟨go5,(x5:Int).toNat * 4 + 1,none⟩ = false:=HS.out.frozen HG.out _;clear hx2 hf2;obtain ⟨y2,hx2⟩:∃ y,wc2.cell? ⟨go5,(x5:Int).toNat * 4 + 2,none⟩ = some (.string y):=(by obtain ⟨z_,h_,s_⟩:=HS.out.cell HG.out HC2.out;obtain ⟨y_,e_⟩:=s_.of_string;exact ⟨y_,e_ ▸ h_⟩);have hf2:wc2.frozen? ⟨go5,(x5:Int).toNat * 4 + 2,none⟩ = false:=HS.out.frozen HG.out _;clear hx3 hf3;have hx3:wc2.cell? ⟨go5,(x5:Int).toNat * 4 + 3,none⟩ = some (.slice Ai3 ((rd_T28 l x5).f3).length ci3):=(by obtain ⟨z_,h_,s_⟩:=HS.out.cell HG.out HC3.out;exact s_.of_slice ▸ h_);have hf3:wc2.frozen? ⟨go5,(x5:Int).toNat * 4 + 3,none⟩ = false:=HS.out.frozen HG.out _)|((with_reducible refine gate_store (t:=9) (p:=31) rfl ?_);refine store_event (t:=9) (p:=31) (v:=?vo_ws2) (w1:=(wc2.setCell ⟨go5,(x5:Int).toNat * 4 + 2,none⟩ (.string t2))) ?hg ?ho ?hn ?hr ?_;(case ho=>rfl);(case hg=>rfl);(case hn=>rfl);(case hr=>first|(go_simp;done)|(go_simp;rfl));intro ws2 hw;have n_:=ai (Aside0.mk (show Soft b P [28] ws ws2 from by rw [hw];exact Soft.set HS.out HG.out hx2 (SoftV.string _ _))) <| Aside0.mk (show Kept w ws2 (InRows b P [28] ws) from by rw [hw];exact Kept.setCell HK.out (.inl HG.out) _);clear HS HK hw;obtain ⟨HS,HK⟩:=n_;clear hx0 hf0;obtain ⟨y0,hx0⟩:∃ y,ws2.cell? ⟨go5,(x5:Int).toNat * 4,none⟩ = some (.int .i64 y):=(by obtain ⟨z_,h_,s_⟩:=HS.out.cell HG.out HC0.out;obtain ⟨y_,e_⟩:=s_.of_int;exact ⟨y_,e_ ▸ h_⟩);have hf0:ws2.frozen? ⟨go5,(x5:Int).toNat * 4,none⟩ = false:=HS.out.frozen HG.out _;clear hx1 hf1;obtain ⟨y1,hx1⟩:∃ y,ws2.cell? ⟨go5,(x5:Int).toNat * 4 + 1,none⟩ = some (.int .i64 y):=(by obtain ⟨z_,h_,s_⟩:=HS.out.cell HG.out HC1.out;obtain ⟨y_,e_⟩:=s_.of_int;exact ⟨y_,e_ ▸ h_⟩);have hf1:ws2.frozen? ⟨go5,(x5:Int).toNat * 4 + 1,none⟩ = false:=HS.out.frozen HG.out _;clear hx2 hf2;obtain ⟨y2,hx2⟩:∃ y,ws2.cell? ⟨go5,(x5:Int).toNat * 4 + 2,none⟩ = some (.string y):=(by obtain ⟨z_,h_,s_⟩:=HS.out.cell HG.out HC2.out;obtain ⟨y_,e_⟩:=s_.of_string;exact ⟨y_,e_ ▸ h_⟩);have hf2:ws2.frozen? ⟨go5,(x5:Int).toNat * 4 + 2,none⟩ = false:=HS.out.frozen HG.out _;clear hx3 hf3;have hx3:ws2.cell? ⟨go5,(x5:Int).toNat * 4 + 3,none⟩ = some (.slice Ai3 ((rd_T28 l x5).f3).length ci3):=(by obtain ⟨z_,h_,s_⟩:=HS.out.cell HG.out HC3.out;exact s_.of_slice ▸ h_);have hf3:ws2.frozen? ⟨go5,(x5:Int).toNat * 4 + 3,none⟩ = false:=HS.out.frozen HG.out _)|(go_at_call 20;(with_reducible refine (ih_laws_markTermS k1 (by have:=HK1.out;omega) _ _ t3 A3.out b P _ _ ws _ HBS.out HR3.out (fun _ h_=>HP.out _ h_.1) HS.out).mono ?_);rintro e wm3 ⟨rfl,hs,hk⟩;have n_:=ai (Aside0.mk hs) <| Aside0.mk (Kept.then_ HK.out hk (fun _ h_=>.inl h_));clear HS HK hs hk;obtain ⟨HS,HK⟩:=n_;clear hx0 hf0;obtain ⟨y0,hx0⟩:∃ y,wm3.cell? ⟨go5,(x5:Int).toNat * 4,none⟩ = some (.int .i64 y):=(by obtain ⟨z_,h_,s_⟩:=HS.out.cell HG.out HC0.out;obtain ⟨y_,e_⟩:=s_.of_int;exact ⟨y_,e_ ▸ h_⟩);have hf0:wm3.frozen? ⟨go5,(x5:Int).toNat * 4,none⟩ = false:=HS.out.frozen HG.out _;clear hx1 hf1;obtain ⟨y1,hx1⟩:∃ y,wm3.cell? ⟨go5,(x5:Int).toNat * 4 + 1,none⟩ = some (.int .i64 y):=(by obtain ⟨z_,h_,s_⟩:=HS.out.cell HG.out HC1.out;obtain ⟨y_,e_⟩:=s_.of_int;exact ⟨y_,e_ ▸ h_⟩);have hf1:wm3.frozen? ⟨go5,(x5:Int).toNat * 4 + 1,none⟩ = false:=HS.out.frozen HG.out _;clear hx2 hf2;obtain ⟨y2,hx2⟩:∃ y,wm3.cell? ⟨go5,(x5:Int).toNat * 4 + 2,none⟩ = some (.string y):=(by obtain ⟨z_,h_,s_⟩:=HS.out.cell HG.out HC2.out;obtain ⟨y_,e_⟩:=s_.of_string;exact ⟨y_,e_ ▸ h_⟩);have hf2:wm3.frozen? ⟨go5,(x5:Int).toNat * 4 + 2,none⟩ = false:=HS.out.frozen HG.out _;clear hx3 hf3;have hx3:wm3.cell? ⟨go5,(x5:Int).toNat * 4 + 3,none⟩ = some (.slice Ai3 ((rd_T28 l x5).f3).length ci3):=(by obtain ⟨z_,h_,s_⟩:=HS.out.cell HG.out HC3.out;exact s_.of_slice ▸ h_);have hf3:wm3.frozen? ⟨go5,(x5:Int).toNat * 4 + 3,none⟩ = false:=HS.out.frozen HG.out _))
     go_roundg k1
     case measure=>have:=HK1.out;omega
     case rel=>exact ⟨t3,wrap64 (x5 + 1),(cl2),(cl2),H',⟨by have:=HK1.out;omega⟩,HS,HK⟩
    ·rw [if_neg c4] at H
     exact absurd H (by simp)
   ·rw [if_neg c3] at H
    have c3b0:decide (x5 < (l.length:Int)) = false:=decide_eq_false c3;clear c3;simp only [Option.some.injEq] at H;subst H
    go_wp2
    go_ret
    exact ⟨cl2,HS.out,HK.out⟩
theorem laws_markTermS.all (k:Nat):∀ (l:List (S28)) (n r:Int),laws_markTermS.f k l n = some r → ∀ (b:Nat) (P ok:Nat → Prop) (v:Value) (ws w:World),b≤ws.heap.size → Kd.R k28 28 ws b ok v l → (∀ k_,ok k_ → P k_) → Soft b P [28] ws w → Calls Try.prog 20 #[v,.int .i64 n] w fun e w'=>e = .returned (.int .i64 r)∧Soft b P [28] ws w'∧Kept w w' (InRows b P [28] ws):=by
 induction k using Nat.strongRecOn with
 | _ k ih =>
 exact laws_markTermS.step k (fun k_ h_=>ih k_ h_)
theorem laws_markTermS.weak (k:Nat):∀ (l:List (S28)) (n r:Int),laws_markTermS.f k l n = some r → ∀ (b:Nat) (P ok:Nat → Prop) (v:Value) (ws w:World),b≤ws.heap.size → Kd.R k28 28 ws b ok v l → (∀ k_,ok k_ → P k_) → Soft b P [28] ws w → Calls Try.prog 20 #[v,.int .i64 n] w fun e w'=>e = .returned (.int .i64 r)∧Soft b P [28] ws w'∧Kept w w' (InRows b P [28] ws):=(laws_markTermS.all k)

/-! ### laws_markTerm: function 9: marks, told weakly -/
def laws_markTerm.f (k:Nat) (a0_0:Int) (a0_1:Int) (a0_2:ByteArray) (l0_3:List (S28)) (a1:Int):Option (Int):=(laws_markTermS.f k l0_3 a1).bind fun t3=>(some t3)
theorem laws_markTerm.mono:∀ a0_0 a0_1 a0_2 l0_3 a1 k,LeO (laws_markTerm.f k a0_0 a0_1 a0_2 l0_3 a1) (laws_markTerm.f (k + 1) a0_0 a0_1 a0_2 l0_3 a1):=by
 intro a0_0 a0_1 a0_2 l0_3 a1 k
 unfold laws_markTerm.f
 with_reducible repeat' first|apply laws_markTermS.mono|apply LeO.refl|refine LeO.bind ?_ (fun _=>?_)
set_option maxHeartbeats 8000000 in
set_option maxRecDepth 100000 in
theorem laws_markTerm.soft (k:Nat) (a0_0:Int) (a0_1:Int) (a0_2:ByteArray) (u3:Value) (l0_3:List (S28)) (a1:Int) (r:Int) (b:Nat) (P:Nat → Prop) (ok3:Nat → Prop) (ws w:World) (hb:b≤ws.heap.size) (ho3:Kd.R k28 28 ws b ok3 u3 l0_3) (hp3:∀ k_,ok3 k_ → P k_) (hs:Soft b P [28] ws w) (h:laws_markTerm.f k a0_0 a0_1 a0_2 l0_3 a1 = some r) :
  Calls Try.prog 9 #[.agg #[.int .i64 a0_0,.int .i64 a0_1,.string a0_2,u3],.int .i64 a1] w fun e w'=>e = .returned (.int .i64 r)∧Soft b P [28] ws w'∧Below b w w'∧Kept w w' (InRows b P [28] ws):=by
 unfold laws_markTerm.f at h
 replace h:=Option.bind_eq_some_iff.mp h;obtain ⟨t3,B3,h⟩:=h;have A3:=Aside0.mk B3;clear B3;obtain rfl:=Option.some.inj h;obtain ⟨Ai3,ci3,ei3⟩:=Kd.R_slice ho3;subst ei3;have HR3:=Aside0.mk ho3;have HP3:=Aside0.mk hp3;clear ho3 hp3;have HBS:=Aside0.mk hb;have HS0:=Aside0.mk hs;have HK:=Aside0.mk (Kept.refl w (InRows b P [28] ws));clear hb hs
 go_enter Try.func9,Try.ntmps9
 go_wp2_with (first|((with_reducible refine gate_dst (N:=2) rfl ?_);refine box_event ?hg (N:=2) ?hd (cs:=#[.int .i64 a0_0,.int .i64 a0_1,.string a0_2,.slice Ai3 l0_3.length ci3]) (t:=28) ?hr ?_;(case hd=>rfl);(case hg=>rfl);(case hr=>first|(go_simp;done)|(go_simp;rfl));intro gb hg wb hbox hb;have HS:=Aside0.mk (Soft.step HS0.out HBS.out hb);have n1_:=Aside0.mk (Kept.below HK.out hb);clear HK;have HK:=n1_;clear n1_;have BK:=Aside0.mk hbox;have hz3:wb.cell? ⟨gb,3,none⟩ = some (.slice Ai3 l0_3.length ci3):=(blk_cell BK.out 3).trans rfl;have NG:=Aside0.mk hg;clear hg hbox hb)|(go_at_call 20;(with_reducible refine (laws_markTermS.weak k _ _ t3 A3.out b P _ _ ws _ HBS.out HR3.out HP3.out HS.out).mono ?_);rintro e wm3 ⟨rfl,hs,hk⟩;have n_:=ai (Aside0.mk hs) <| Aside0.mk (Kept.then_ HK.out hk (fun _ h_=>.inl h_));clear HS HK hs hk;obtain ⟨HS,HK⟩:=n_))
 go_ret
 exact ⟨cl2,HS.out,Soft.between HS0.out HS.out HK.out,HK.out⟩
theorem laws_markTerm.calls (k:Nat) (a0_0:Int) (a0_1:Int) (a0_2:ByteArray) (u3:Value) (l0_3:List (S28)) (a1:Int) (r:Int) (b:Nat) (P:Nat → Prop) (ok3:Nat → Prop) (w:World) (hb:b≤w.heap.size) (ho3:Kd.R k28 28 w b ok3 u3 l0_3) (hp3:∀ k_,ok3 k_ → P k_) (h:laws_markTerm.f k a0_0 a0_1 a0_2 l0_3 a1 = some r) :
  Calls Try.prog 9 #[.agg #[.int .i64 a0_0,.int .i64 a0_1,.string a0_2,u3],.int .i64 a1] w fun e w'=>e = .returned (.int .i64 r)∧Below b w w'∧Kept w w' (InRows b P [28] w):=(laws_markTerm.soft k a0_0 a0_1 a0_2 u3 l0_3 a1 r b P ok3 w w hb ho3 hp3 (Soft.refl b P [28] w) h).mono (fun _ _ h_=>⟨h_.1,h_.2.2⟩)

/-! ### laws_heldTermS: function 21 -/
mutual
def laws_heldTermS.l0:Nat → List (S28) → Int → Int → Option (Int)
 | 0,_,_,_=>none
 | k + 1,x0,x1,x5=>if x5 < (x0.length:Int) then (if 0≤x5 then (if ((rd_T28 x0 x5).f0) = x1 then (if ((rd_T28 x0 x5).f1) = (wrap64 (x1 + 1)) then ((laws_markText.f k (wrap64 ((wrap64 (x1 + 1)) + 1))).bind fun t282=>(if ((rd_T28 x0 x5).f2).toList = t282.toList then ((laws_heldTermS.f k ((rd_T28 x0 x5).f3) (wrap64 ((wrap64 ((wrap64 (x1 + 1)) + 1)) + 1))).bind fun t284=>(if t284 < 0 then (some (-1)) else (laws_heldTermS.l0 k x0 t284 (wrap64 (x5 + 1))))) else (some (-1)))) else (some (-1))) else (some (-1))) else (none)) else (some x1)
def laws_heldTermS.f:Nat → List (S28) → Int → Option (Int)
 | 0,_,_=>none
 | k + 1,l0,a1=>laws_heldTermS.l0 k l0 a1 0
end
theorem laws_heldTermS.mono_l:∀ k,(∀ y0 y1,LeO (laws_heldTermS.f k y0 y1) (laws_heldTermS.f (k + 1) y0 y1))∧(∀ y0 y1 y2,LeO (laws_heldTermS.l0 k y0 y1 y2) (laws_heldTermS.l0 (k + 1) y0 y1 y2))
 | 0=>⟨fun _ _ r h=>by simp [laws_heldTermS.f] at h,fun _ _ _ r h=>by simp [laws_heldTermS.l0] at h⟩
 | k + 1=>by
  obtain ⟨ih0,ih1⟩:=laws_heldTermS.mono_l k
  refine ⟨?_,?_⟩
  ·intro y0 y1
   unfold laws_heldTermS.f
   with_reducible repeat' first|apply ih0|apply ih1|apply laws_markText.mono|apply LeO.refl|apply LeO.none|apply LeO.ite|refine LeO.bind ?_ (fun _=>?_)
  ·intro y0 y1 y2
   unfold laws_heldTermS.l0
   with_reducible repeat' first|apply ih0|apply ih1|apply laws_markText.mono|apply LeO.refl|apply LeO.none|apply LeO.ite|refine LeO.bind ?_ (fun _=>?_)
theorem laws_heldTermS.mono:∀ a0 a1 k,LeO (laws_heldTermS.f k a0 a1) (laws_heldTermS.f (k + 1) a0 a1):=by
 intro a0 a1 k;obtain ⟨ih0,ih1⟩:=laws_heldTermS.mono_l k
 exact ih0 a0 a1
def laws_heldTermS.T10:Bool × List (List Nat × List Nat):=(true,[([],[]),([],[]),([0,1],[0,1]),([2],[2]),([3],[3]),([],[]),([5],[5]),([4,6],[4,6])])
def laws_heldTermS.B10:List Nat:=[0,0,3,7,15,0,32,127]
theorem laws_heldTermS.tab10:rtab .any (opsOf Try.f21 10) = laws_heldTermS.T10:=by kernel_rfl
theorem laws_heldTermS.bits10:waitsOk laws_heldTermS.T10.2 laws_heldTermS.B10 = true:=by kernel_rfl
set_option maxHeartbeats 8000000 in
set_option maxRecDepth 100000 in
theorem laws_heldTermS.calls (k:Nat):∀ (A0:Option Addr) (c0:Nat) (l0:List (S28)) (a1:Int) (r:Int) (w:World) (hr0:Kd.C k28 w A0 l0.length l0) (hc0:l0.length≤c0) (h:laws_heldTermS.f k l0 a1 = some r),
  Calls Try.prog 21 #[.slice A0 l0.length c0,.int .i64 a1] w fun e w'=>e = .returned (.int .i64 r)∧Below w.heap.size w w':=by
 induction k using Nat.strongRecOn with
 | _ k ih =>
 intro A0 c0 l0 a1 r w hr0 hc0 h
 cases k with
 | zero=>exact absurd h (by simp [laws_heldTermS.f])
 | succ k =>
 simp only [laws_heldTermS.f] at h;have HR0:=Aside0.mk hr0;have HC0:=Aside0.mk hc0;clear hr0 hc0;have HB:=Aside0.mk (Below.refl w.heap.size w);have H:(laws_heldTermS.l0 k l0 a1 0) = some r:=h;clear h;have H':=Aside0.mk H;clear H
 go_enter Try.func21,Try.ntmps21
 go_wp2
 go_loopg [1,5] k (fun kq v1 v5 w'=>∃ (x1_1:Int) (x5_1:Int),v1 = .int .i64 x1_1∧v5 = .int .i64 x5_1∧Aside0 (laws_heldTermS.l0 kq l0 x1_1 x5_1 = some r)∧Aside0 (kq≤k)∧Aside0 (Below w.heap.size w w'))
 case atStart=>exact ⟨(a1),(0),(cl2),(cl2),H',⟨Nat.le_refl _⟩,⟨bl HB.out⟩⟩
 case round =>
  clear H';(try clear HB);obtain ⟨x1_1,x5_1,rfl,rfl,HA,HK1,HB⟩:=hrel
  cases gk with
  | zero=>exact absurd HA.out (by simp [laws_heldTermS.l0])
  | succ k1 =>
   have H:=HA.out;clear HA;simp only [laws_heldTermS.l0] at H
   by_cases c3:x5_1 < (l0.length:Int)
   ·rw [if_pos c3] at H
    have c3b0:decide (x5_1 < (l0.length:Int)) = true:=decide_eq_true c3;clear c3
    by_cases c4:0≤x5_1
    ·rw [if_pos c4] at H
     have c4b0:decide (0≤x5_1) = true:=decide_eq_true c4;clear c4
     by_cases c5:((rd_T28 l0 x5_1).f0) = x1_1
     ·rw [if_pos c5] at H
      have c5b0:(((rd_T28 l0 x5_1).f0) == x1_1) = true:=beq_iff_eq.mpr c5;have c5b1:(((rd_T28 l0 x5_1).f0) != x1_1) = false:=bne_eq_false_iff_eq.mpr c5;clear c5
      by_cases c6:((rd_T28 l0 x5_1).f1) = (wrap64 (x1_1 + 1))
      ·rw [if_pos c6] at H
       have c6b0:(((rd_T28 l0 x5_1).f1) == (wrap64 (x1_1 + 1))) = true:=beq_iff_eq.mpr c6;have c6b1:(((rd_T28 l0 x5_1).f1) != (wrap64 (x1_1 + 1))) = false:=bne_eq_false_iff_eq.mpr c6;clear c6;replace H:=Option.bind_eq_some_iff.mp H;obtain ⟨t282,A70,H⟩:=H;replace H:(if ((rd_T28 l0 x5_1).f2).toList = t282.toList then ((laws_heldTermS.f k1 ((rd_T28 l0 x5_1).f3) (wrap64 ((wrap64 ((wrap64 (x1_1 + 1)) + 1)) + 1))).bind fun t284=>(if t284 < 0 then (some (-1)) else (laws_heldTermS.l0 k1 l0 t284 (wrap64 (x5_1 + 1))))) else (some (-1))) = some r:=H;have A7:=Aside0.mk A70;clear A70;have p279:0≤(x5_1:Int):=od;have q279:x5_1 < (l0.length:Int):=od;obtain ⟨ad279,A279_3,c279_3,e279,hx279_0,hx279_1,hx279_2,hx279_3,hl279_3,hi279_3⟩:=at_T28 HR0.out x5_1 p279 q279;cases e279;replace hx279_0:=cb HB hx279_0;replace hx279_1:=cb HB hx279_1;replace hx279_2:=cb HB hx279_2;replace hx279_3:=cb HB hx279_3;have HR279_3:=Aside0.mk hi279_3;have HC279_3:=Aside0.mk hl279_3;clear hi279_3 hl279_3;replace p279:=eq_true p279;replace q279:=eq_true q279;have p280:0≤(x5_1:Int):=od;have q280:x5_1 < (l0.length:Int):=od;obtain ⟨ad280,A280_3,c280_3,e280,hx280_0,hx280_1,hx280_2,hx280_3,hl280_3,hi280_3⟩:=at_T28 HR0.out x5_1 p280 q280;obtain rfl:ad279 = ad280:=(by injection e280);replace hx280_0:=cb HB hx280_0;replace hx280_1:=cb HB hx280_1;replace hx280_2:=cb HB hx280_2;replace hx280_3:=cb HB hx280_3;have HR280_3:=Aside0.mk hi280_3;have HC280_3:=Aside0.mk hl280_3;clear hi280_3 hl280_3;replace p280:=eq_true p280;replace q280:=eq_true q280;have ea_:=Option.some.inj (hx279_3.symm.trans hx280_3)
       injection ea_ with ea_ en_ ec_
       subst ea_;subst ec_;clear en_
       try go_wp2
       have n_:=dh HB;clear HB;have HB:=n_;clear n_;have p281:0≤(x5_1:Int):=od;have q281:x5_1 < (l0.length:Int):=od;obtain ⟨ad281,A281_3,c281_3,e281,hx281_0,hx281_1,hx281_2,hx281_3,hl281_3,hi281_3⟩:=at_T28 HR0.out x5_1 p281 q281;have hw281_3:=hx281_3;have hw281_2:=hx281_2;have hw281_1:=hx281_1;have hw281_0:=hx281_0;obtain rfl:ad279 = ad281:=(by injection e281);replace hx281_0:=cb HB hx281_0;replace hx281_1:=cb HB hx281_1;replace hx281_2:=cb HB hx281_2;replace hx281_3:=cb HB hx281_3;have HR281_3:=Aside0.mk hi281_3;have HC281_3:=Aside0.mk hl281_3;clear hi281_3 hl281_3;replace p281:=eq_true p281;replace q281:=eq_true q281
       refine start_ (n:=8) (S:=fun w'=>w'.cell? (ad279.add ((x5_1).toNat * 4)) = some (.int .i64 ((rd_T28 l0 x5_1).f0))∧w'.cell? ⟨(ad279.add ((x5_1).toNat * 4)).block,(ad279.add ((x5_1).toNat * 4)).off + 1,none⟩ = some (.int .i64 ((rd_T28 l0 x5_1).f1))∧w'.cell? ⟨(ad279.add ((x5_1).toNat * 4)).block,(ad279.add ((x5_1).toNat * 4)).off + 2,none⟩ = some (.string ((rd_T28 l0 x5_1).f2))∧w'.cell? ⟨(ad279.add ((x5_1).toNat * 4)).block,(ad279.add ((x5_1).toNat * 4)).off + 3,none⟩ = some (.slice A281_3 ((rd_T28 l0 x5_1).f3).length c281_3)) (ds:=[]) #[false,false,false,false,false,false,false,false] (by kernel_rfl) rfl rfl ⟨(cb HB hw281_0 :),(cb HB hw281_1 :),(cb HB hw281_2 :),(cb HB hw281_3 :)⟩ (fun hHeld=>?_);refine with_tabW laws_heldTermS.tab10 laws_heldTermS.bits10 (fun HT_ HW_=>?_)
       generalize wr.drew = w11 at HB HR281_3 hx281_0 hx281_1 hx281_2 hx281_3 hHeld ⊢;refine pu 0 30 ?_;refine pu 1 31 ?_;refine pu 2 32 ?_;refine pu 3 33 ?_;refine pu 5 35 ?_;refine ta 4 34 hHeld ?_
       refine one_ (i:=6) (N:=some 36) #[true,true,true,true,true,true,true,false] rfl rfl (one_of HT_.out (by kernel_rfl)) (by decide) (fun K hK=>?_)
       refine goes_ Try.func33 (by kernel_rfl) rfl #[.int .i64 (wrap64 ((wrap64 (x1_1 + 1)) + 1))] (by rfl) rfl rfl gs ?_
       with_reducible refine (laws_markText.calls k1 (wrap64 ((wrap64 (x1_1 + 1)) + 1)) t282 _ A7.out).mono ?_
       rintro e w12 ⟨rfl,hb⟩
       refine ⟨_,rfl,?_⟩
       have n_:=bq HB hb;clear HB;have HB:=n_;clear n_;(try clear hb)
       refine hK.out _ _ ⟨(cb HB hw281_0 :),(cb HB hw281_1 :),(cb HB hw281_2 :),(cb HB hw281_3 :)⟩ (fun hHeld=>?_)
       clear hK K
       refine norm_ (a':=?_) ?_ ?_
       rotate_left
       ·show Act.put _ (some 36) _ = _
        simp only [Act.put,List.setIfInBounds_toArray,List.set_cons_zero,List.set_cons_succ,i64_w,i32_w]
        rfl
       refine pu 7 37 ?_
       refine done_ (done_of HT_.out (by kernel_rfl)) ?_
       by_cases c8:((rd_T28 l0 x5_1).f2).toList = t282.toList
       ·rw [if_pos c8] at H
        have c8b0:(((rd_T28 l0 x5_1).f2).toList == t282.toList) = true:=beq_iff_eq.mpr c8;have c8b1:(((rd_T28 l0 x5_1).f2).toList != t282.toList) = false:=bne_eq_false_iff_eq.mpr c8;clear c8;replace H:=Option.bind_eq_some_iff.mp H;obtain ⟨t284,A90,H⟩:=H;replace H:(if t284 < 0 then (some (-1)) else (laws_heldTermS.l0 k1 l0 t284 (wrap64 (x5_1 + 1)))) = some r:=H;have A9:=Aside0.mk A90;clear A90;(try simp only [c8b0,c8b1,Bool.not_true,Bool.not_false])
        by_cases c10:t284 < 0
        ·rw [if_pos c10] at H
         have c10b0:decide (t284 < 0) = true:=decide_eq_true c10;clear c10;obtain rfl:=Option.some.inj H;(try simp only [c10b0,Bool.not_true,Bool.not_false]);have p283:0≤(x5_1:Int):=od;have q283:x5_1 < (l0.length:Int):=od;obtain ⟨ad283,A283_3,c283_3,e283,hx283_0,hx283_1,hx283_2,hx283_3,hl283_3,hi283_3⟩:=at_T28 HR0.out x5_1 p283 q283;obtain rfl:ad279 = ad283:=(by injection e283);replace hx283_0:=cb HB hx283_0;replace hx283_1:=cb HB hx283_1;replace hx283_2:=cb HB hx283_2;replace hx283_3:=cb HB hx283_3;have HR283_3:=Aside0.mk hi283_3;have HC283_3:=Aside0.mk hl283_3;clear hi283_3 hl283_3;replace p283:=eq_true p283;replace q283:=eq_true q283;(try clear hHeld)
         try go_wp2_with (first|((with_reducible refine gate_callee (f:=21) rfl ?_);refine goesL_ (some 46) rfl rfl Try.func21 (by kernel_rfl) rfl #[.slice A283_3 ((rd_T28 l0 x5_1).f3).length c283_3,.int .i64 (wrap64 ((wrap64 ((wrap64 (x1_1 + 1)) + 1)) + 1))] rfl gs ?_;(with_reducible refine (ih k1 (by have:=HK1.out;omega) _ _ ((rd_T28 l0 x5_1).f3) (wrap64 ((wrap64 ((wrap64 (x1_1 + 1)) + 1)) + 1)) t284 _ ?side1 ?side2 A9.out).mono ?_);(case side1=>exact ck (Kd.C_below HR283_3.out HB.out));(case side2=>exact HC283_3.out);rintro e w13 ⟨rfl,hb⟩;refine ⟨_,rfl,?_⟩;have n_:=bq HB hb;clear HB;have HB:=n_;clear n_;(try clear hb);(try clear hi)))
         go_ret
         exact ⟨cl,bl HB.out⟩
        ·rw [if_neg c10] at H
         have c10b0:decide (t284 < 0) = false:=decide_eq_false c10;clear c10;have H':=Aside0.mk H;clear H;(try simp only [c10b0,Bool.not_true,Bool.not_false]);have p283:0≤(x5_1:Int):=od;have q283:x5_1 < (l0.length:Int):=od;obtain ⟨ad283,A283_3,c283_3,e283,hx283_0,hx283_1,hx283_2,hx283_3,hl283_3,hi283_3⟩:=at_T28 HR0.out x5_1 p283 q283;obtain rfl:ad279 = ad283:=(by injection e283);replace hx283_0:=cb HB hx283_0;replace hx283_1:=cb HB hx283_1;replace hx283_2:=cb HB hx283_2;replace hx283_3:=cb HB hx283_3;have HR283_3:=Aside0.mk hi283_3;have HC283_3:=Aside0.mk hl283_3;clear hi283_3 hl283_3;replace p283:=eq_true p283;replace q283:=eq_true q283;(try clear hHeld)
         try go_wp2_with (first|((with_reducible refine gate_callee (f:=21) rfl ?_);refine goesL_ (some 46) rfl rfl Try.func21 (by kernel_rfl) rfl #[.slice A283_3 ((rd_T28 l0 x5_1).f3).length c283_3,.int .i64 (wrap64 ((wrap64 ((wrap64 (x1_1 + 1)) + 1)) + 1))] rfl gs ?_;(with_reducible refine (ih k1 (by have:=HK1.out;omega) _ _ ((rd_T28 l0 x5_1).f3) (wrap64 ((wrap64 ((wrap64 (x1_1 + 1)) + 1)) + 1)) t284 _ ?side1 ?side2 A9.out).mono ?_);(case side1=>exact ck (Kd.C_below HR283_3.out HB.out));(case side2=>exact HC283_3.out);rintro e w16 ⟨rfl,hb⟩;refine ⟨_,rfl,?_⟩;have n_:=bq HB hb;clear HB;have HB:=n_;clear n_;(try clear hb);(try clear hi)))
         go_roundg k1
         case measure=>have:=HK1.out;omega
         case rel=>exact ⟨(t284),(wrap64 (x5_1 + 1)),(cl2),(cl2),H',⟨by have:=HK1.out;omega⟩,⟨bl HB.out⟩⟩
       ·rw [if_neg c8] at H
        have c8b0:(((rd_T28 l0 x5_1).f2).toList == t282.toList) = false:=beq_eq_false_iff_ne.mpr c8;have c8b1:(((rd_T28 l0 x5_1).f2).toList != t282.toList) = true:=bne_iff_ne.mpr c8;obtain rfl:=Option.some.inj H;(try simp only [c8b0,c8b1,Bool.not_true,Bool.not_false])
        try go_wp2
        go_ret
        exact ⟨cl,bl HB.out⟩
      ·rw [if_neg c6] at H
       have c6b0:(((rd_T28 l0 x5_1).f1) == (wrap64 (x1_1 + 1))) = false:=beq_eq_false_iff_ne.mpr c6;have c6b1:(((rd_T28 l0 x5_1).f1) != (wrap64 (x1_1 + 1))) = true:=bne_iff_ne.mpr c6;obtain rfl:=Option.some.inj H;have p279:0≤(x5_1:Int):=od;have q279:x5_1 < (l0.length:Int):=od;obtain ⟨ad279,A279_3,c279_3,e279,hx279_0,hx279_1,hx279_2,hx279_3,hl279_3,hi279_3⟩:=at_T28 HR0.out x5_1 p279 q279;cases e279;replace hx279_0:=cb HB hx279_0;replace hx279_1:=cb HB hx279_1;replace hx279_2:=cb HB hx279_2;replace hx279_3:=cb HB hx279_3;have HR279_3:=Aside0.mk hi279_3;have HC279_3:=Aside0.mk hl279_3;clear hi279_3 hl279_3;replace p279:=eq_true p279;replace q279:=eq_true q279;have p280:0≤(x5_1:Int):=od;have q280:x5_1 < (l0.length:Int):=od;obtain ⟨ad280,A280_3,c280_3,e280,hx280_0,hx280_1,hx280_2,hx280_3,hl280_3,hi280_3⟩:=at_T28 HR0.out x5_1 p280 q280;obtain rfl:ad279 = ad280:=(by injection e280);replace hx280_0:=cb HB hx280_0;replace hx280_1:=cb HB hx280_1;replace hx280_2:=cb HB hx280_2;replace hx280_3:=cb HB hx280_3;have HR280_3:=Aside0.mk hi280_3;have HC280_3:=Aside0.mk hl280_3;clear hi280_3 hl280_3;replace p280:=eq_true p280;replace q280:=eq_true q280;have ea_:=Option.some.inj (hx279_3.symm.trans hx280_3)
       injection ea_ with ea_ en_ ec_
       subst ea_;subst ec_;clear en_
       go_wp2
       go_ret
       exact ⟨cl,bl HB.out⟩
     ·rw [if_neg c5] at H
      have c5b0:(((rd_T28 l0 x5_1).f0) == x1_1) = false:=beq_eq_false_iff_ne.mpr c5;have c5b1:(((rd_T28 l0 x5_1).f0) != x1_1) = true:=bne_iff_ne.mpr c5;obtain rfl:=Option.some.inj H;have p279:0≤(x5_1:Int):=od;have q279:x5_1 < (l0.length:Int):=od;obtain ⟨ad279,A279_3,c279_3,e279,hx279_0,hx279_1,hx279_2,hx279_3,hl279_3,hi279_3⟩:=at_T28 HR0.out x5_1 p279 q279;cases e279;replace hx279_0:=cb HB hx279_0;replace hx279_1:=cb HB hx279_1;replace hx279_2:=cb HB hx279_2;replace hx279_3:=cb HB hx279_3;have HR279_3:=Aside0.mk hi279_3;have HC279_3:=Aside0.mk hl279_3;clear hi279_3 hl279_3;replace p279:=eq_true p279;replace q279:=eq_true q279
      go_wp2
      go_ret
      exact ⟨cl,bl HB.out⟩
    ·rw [if_neg c4] at H
     exact absurd H (by simp)
   ·rw [if_neg c3] at H
    have c3b0:decide (x5_1 < (l0.length:Int)) = false:=decide_eq_false c3;clear c3;obtain rfl:=Option.some.inj H
    go_wp2
    go_ret
    exact ⟨cl,bl HB.out⟩

/-! ### laws_heldTerm: function 10 -/
def laws_heldTerm.f (k:Nat) (a0_0:Int) (a0_1:Int) (a0_2:ByteArray) (l0_3:List (S28)) (a1:Int):Option (Int):=(laws_heldTermS.f k l0_3 a1).bind fun t286=>(if t286 < 0 then (some (-1)) else (some t286))
theorem laws_heldTerm.mono:∀ a0 a1 a2 a3 a4 k,LeO (laws_heldTerm.f k a0 a1 a2 a3 a4) (laws_heldTerm.f (k + 1) a0 a1 a2 a3 a4):=by
 intro a0 a1 a2 a3 a4 k
 unfold laws_heldTerm.f
 with_reducible repeat' first|apply laws_heldTermS.mono|apply LeO.refl|apply LeO.none|apply LeO.ite|refine LeO.bind ?_ (fun _=>?_)
set_option maxHeartbeats 8000000 in
set_option maxRecDepth 100000 in
theorem laws_heldTerm.calls (k:Nat) (a0_0:Int) (a0_1:Int) (a0_2:ByteArray) (A0_3:Option Addr) (c0_3:Nat) (l0_3:List (S28)) (a1:Int) (r:Int) (w:World) (hr0_3:Kd.C k28 w A0_3 l0_3.length l0_3) (hc0_3:l0_3.length≤c0_3) (h:laws_heldTerm.f k a0_0 a0_1 a0_2 l0_3 a1 = some r) :
  Calls Try.prog 10 #[.agg #[.int .i64 a0_0,.int .i64 a0_1,.string a0_2,.slice A0_3 l0_3.length c0_3],.int .i64 a1] w fun e w'=>e = .returned (.int .i64 r)∧Below w.heap.size w w':=by
 have hu28:=Try.underlying28;have HR0_3:=Aside0.mk hr0_3;have HC0_3:=Aside0.mk hc0_3;clear hr0_3 hc0_3;have HB:=Aside0.mk (Below.refl w.heap.size w);have H:((laws_heldTermS.f k l0_3 a1).bind fun t286=>(if t286 < 0 then (some (-1)) else (some t286))) = some r:=h;clear h;replace H:=Option.bind_eq_some_iff.mp H;obtain ⟨t286,A30,H⟩:=H;replace H:(if t286 < 0 then (some (-1)) else (some t286)) = some r:=H;have A3:=Aside0.mk A30;clear A30
 by_cases c4:t286 < 0
 ·rw [if_pos c4] at H
  have c4b0:decide (t286 < 0) = true:=decide_eq_true c4;clear c4;obtain rfl:=Option.some.inj H
  go_enter Try.func10,Try.ntmps10
  go_wp2_with (first|((with_reducible refine gate_dst (N:=2) rfl ?_);refine box_event ?hg (N:=2) ?hd (cs:=#[.int .i64 a0_0,.int .i64 a0_1,.string a0_2,.slice A0_3 l0_3.length c0_3]) (t:=28) ?hr ?_;(case hd=>rfl);(case hg=>rfl);(case hr=>first|(go_simp;done)|(go_simp;rfl));intro gb285 hg w5 hbox hb;have n_:=ai (bq HB hb) <| ai (Aside0.mk (hbox)) <| ai (bz hg HB) <| bz hg HB;clear HB;obtain ⟨HB,BK285,GW285,GE285⟩:=n_;clear hb hbox hg;obtain ⟨h6_0,h6_1,h6_2,h6_3⟩:=kb4 BK285.out;obtain ⟨z6_0,z6_1,z6_2,z6_3⟩:=kz4 BK285.out)|((with_reducible refine gate_callee (f:=21) rfl ?_);refine goesL_ (some 8) rfl rfl Try.func21 (by kernel_rfl) rfl #[.slice A0_3 l0_3.length c0_3,.int .i64 a1] rfl gs ?_;(with_reducible refine (laws_heldTermS.calls k _ _ l0_3 a1 t286 _ ?side1 ?side2 A3.out).mono ?_);(case side1=>exact ck (Kd.C_below HR0_3.out HB.out));(case side2=>exact HC0_3.out);rintro e w7 ⟨rfl,hb⟩;refine ⟨_,rfl,?_⟩;have n_:=ai (bw BK285 hb) <| bq HB hb;clear BK285 HB;obtain ⟨BK285,HB⟩:=n_;(try clear hb);(try clear hi)))
  go_ret
  exact ⟨cl,bl HB.out⟩
 ·rw [if_neg c4] at H
  have c4b0:decide (t286 < 0) = false:=decide_eq_false c4;clear c4;obtain rfl:=Option.some.inj H
  go_enter Try.func10,Try.ntmps10
  go_wp2_with (first|((with_reducible refine gate_dst (N:=2) rfl ?_);refine box_event ?hg (N:=2) ?hd (cs:=#[.int .i64 a0_0,.int .i64 a0_1,.string a0_2,.slice A0_3 l0_3.length c0_3]) (t:=28) ?hr ?_;(case hd=>rfl);(case hg=>rfl);(case hr=>first|(go_simp;done)|(go_simp;rfl));intro gb285 hg w8 hbox hb;have n_:=ai (bq HB hb) <| ai (Aside0.mk (hbox)) <| ai (bz hg HB) <| bz hg HB;clear HB;obtain ⟨HB,BK285,GW285,GE285⟩:=n_;clear hb hbox hg;obtain ⟨h9_0,h9_1,h9_2,h9_3⟩:=kb4 BK285.out;obtain ⟨z9_0,z9_1,z9_2,z9_3⟩:=kz4 BK285.out)|((with_reducible refine gate_callee (f:=21) rfl ?_);refine goesL_ (some 8) rfl rfl Try.func21 (by kernel_rfl) rfl #[.slice A0_3 l0_3.length c0_3,.int .i64 a1] rfl gs ?_;(with_reducible refine (laws_heldTermS.calls k _ _ l0_3 a1 t286 _ ?side1 ?side2 A3.out).mono ?_);(case side1=>exact ck (Kd.C_below HR0_3.out HB.out));(case side2=>exact HC0_3.out);rintro e w10 ⟨rfl,hb⟩;refine ⟨_,rfl,?_⟩;have n_:=ai (bw BK285 hb) <| bq HB hb;clear BK285 HB;obtain ⟨BK285,HB⟩:=n_;(try clear hb);(try clear hi)))
  go_ret
  exact ⟨cl,bl HB.out⟩

/-! ### laws_nilMarkTerm: function 9 at what has no row: by hand -/
set_option maxHeartbeats 8000000 in
theorem laws_nilMarkTerm.nil (Ao:Option Addr) (c:Nat) (n:Int) (w:World):Calls Try.prog 20 #[.slice Ao 0 c,.int .i64 n] w fun e w'=>e = .returned (.int .i64 n)∧Below w.heap.size w w':=by
 go_enter Try.func20,Try.ntmps20
 go_wp2
 go_loopg [1,5] 0 (fun kq v1 v5 w'=>v1 = .int .i64 n∧v5 = .int .i64 0∧Aside0 (Below w.heap.size w w'))
 case atStart=>exact ⟨(by first|rfl|(simp;done)),(by first|rfl|(simp;done)),⟨Below.refl _ _⟩⟩
 case round =>
  obtain ⟨rfl,rfl,HB⟩:=hrel
  go_wp2
  go_ret
  exact ⟨rfl,HB.out⟩
def laws_nilMarkTerm.f (a0_0:Int) (a0_1:Int) (a0_2:ByteArray) (l0_3:List (S28)) (a1:Int):Option (Int):=if l0_3.length = 0 then some a1 else none
set_option maxHeartbeats 8000000 in
theorem laws_nilMarkTerm.calls (a0_0:Int) (a0_1:Int) (a0_2:ByteArray) (A0_3:Option Addr) (c0_3:Nat) (l0_3:List (S28)) (a1:Int) (r:Int) (w:World) (hr0_3:Kd.C k28 w A0_3 l0_3.length l0_3) (hc0_3:l0_3.length≤c0_3) (h:laws_nilMarkTerm.f a0_0 a0_1 a0_2 l0_3 a1 = some r) :
  Calls Try.prog 9 #[.agg #[.int .i64 a0_0,.int .i64 a0_1,.string a0_2,.slice A0_3 l0_3.length c0_3],.int .i64 a1] w fun e w'=>e = .returned (.int .i64 r)∧Below w.heap.size w w':=by
 unfold laws_nilMarkTerm.f at h
 by_cases h0:l0_3.length = 0
 ·rw [if_pos h0] at h
  injection h with h
  subst h;rw [h0];have hu28:=Try.underlying28;clear hr0_3 hc0_3 h0
  go_enter Try.func9,Try.ntmps9
  go_wp2_with (first|((with_reducible refine gate_dst (N:=2) rfl ?_);refine box_event ?hg (N:=2) ?hd (cs:=#[.int .i64 a0_0,.int .i64 a0_1,.string a0_2,.slice A0_3 0 c0_3]) (t:=28) ?hr ?_;(case hd=>rfl);(case hg=>rfl);(case hr=>first|(go_simp;done)|(go_simp;rfl));intro gb hg wb hbox hb;have hz:=(blk_cell hbox 3).trans rfl;have hz2:wb.cell? ⟨gb,3,none⟩ = some (.slice A0_3 0 c0_3):=hz;have HB:=Aside0.mk hb;clear hg hbox hb hz)|(go_at_call 20;refine (laws_nilMarkTerm.nil A0_3 c0_3 a1 _).mono ?_;rintro e w2 ⟨rfl,hb2⟩))
  go_ret
  exact ⟨rfl,by first|exact HB.out.trans (hb2.mono HB.out.size)|exact hb2⟩
 ·rw [if_neg h0] at h
  cases h

end Go.Proofs.Ytiooogcjoobjnaa.QFnExactOperate
