-- Written by a program of this workplace (print2.py) for this claim, over the print's words.
import Derived.Test.YtefkjmkmojmllaaQFnExactGetTermx0
namespace Go.Proofs.Ytefkjmkmojmllaa.QFnExactGetTerm
open Go.RowKit Go.Proofs.YtefkjmkmojmllaaW.PrintWords Go.Proofs.YtefkjmkmojmllaaW.PrintLast Go.Proofs.YtefkjmkmojmllaaW.PrintMore
attribute [local go_sem] max2_int min2_int max_two min_two max_three min_three max_four min_four   -- for this text's walks alone
set_option linter.unusedVariables false
set_option linter.unusedSimpArgs false

/-! ### laws_markText: function 31 -/
def laws_markText.l0:Nat → Int → ByteArray → Option (ByteArray)
 | 0,_,_=>none
 | k + 1,x0,x3=>if x0 > 0 then ((some (([(wrap64 (48 + (Int.tmod x0 10))) % 256]:List Int):List Int)).bind fun y287=>(if (strOfNums y287).size + x3.size≤9223372036854775807 then (laws_markText.l0 k (wrap64 (Int.tdiv x0 10)) ((strOfNums y287) ++ x3)) else (none))) else (if 1 + x3.size≤9223372036854775807 then (some ((⟨#[109]⟩:ByteArray) ++ x3)) else (none))
def laws_markText.f (k:Nat) (a0:Int):Option (ByteArray):=if a0≤0 then (some (⟨#[109,48]⟩:ByteArray)) else (laws_markText.l0 k a0 (⟨#[]⟩:ByteArray))
theorem laws_markText.mono_l:∀ k,(∀ y0 y1,LeO (laws_markText.l0 k y0 y1) (laws_markText.l0 (k + 1) y0 y1))
 | 0=>fun _ _ r h=>by simp [laws_markText.l0] at h
 | k + 1=>by
  have ih0:=laws_markText.mono_l k
  ·intro y0 y1
   unfold laws_markText.l0
   with_reducible repeat' first|apply ih0|apply LeO.refl|apply LeO.none|apply LeO.ite|refine LeO.bind ?_ (fun _=>?_)
theorem laws_markText.mono:∀ a0 k,LeO (laws_markText.f k a0) (laws_markText.f (k + 1) a0):=by
 intro a0 k;have ih0:=laws_markText.mono_l k
 unfold laws_markText.f
 with_reducible repeat' first|apply ih0|apply LeO.refl|apply LeO.none|apply LeO.ite|refine LeO.bind ?_ (fun _=>?_)
set_option maxHeartbeats 8000000 in
set_option maxRecDepth 100000 in
theorem laws_markText.calls (k:Nat) (a0:Int) (r:ByteArray) (w:World) (h:laws_markText.f k a0 = some r) :
  Calls Try.prog 31 #[.int .i64 a0] w fun e w'=>e = .returned (.string r)∧Below w.heap.size w w':=by
 have HB:=Aside0.mk (Below.refl w.heap.size w);have H:(if a0≤0 then (some (⟨#[109,48]⟩:ByteArray)) else (laws_markText.l0 k a0 (⟨#[]⟩:ByteArray))) = some r:=h;clear h
 by_cases c2:a0≤0
 ·rw [if_pos c2] at H
  have c2b0:decide (a0≤0) = true:=decide_eq_true c2;clear c2;obtain rfl:=Option.some.inj H
  go_enter Try.func31,Try.ntmps31
  go_wp2
  go_ret
  exact ⟨cl,bl HB.out⟩
 ·rw [if_neg c2] at H
  have c2b0:decide (a0≤0) = false:=decide_eq_false c2;clear c2;have H':=Aside0.mk H;clear H
  go_enter Try.func31,Try.ntmps31
  go_wp2
  go_loopg [0,3] k (fun kq v0 v3 w'=>∃ (x0_1:Int) (x3_1:ByteArray),v0 = .int .i64 x0_1∧v3 = .string x3_1∧Aside0 (laws_markText.l0 kq x0_1 x3_1 = some r)∧Aside0 (kq≤k)∧Aside0 (Below w.heap.size w w'))
  case atStart=>exact ⟨(a0),((⟨#[]⟩:ByteArray)),(cl2),(cl2),H',⟨Nat.le_refl _⟩,⟨bl HB.out⟩⟩
  case round =>
   clear H';(try clear c2);(try clear c2b0);(try clear HB);obtain ⟨x0_1,x3_1,rfl,rfl,HA,HK1,HB⟩:=hrel
   cases gk with
   | zero=>exact absurd HA.out (by simp [laws_markText.l0])
   | succ k1 =>
    have H:=HA.out;clear HA;simp only [laws_markText.l0] at H
    by_cases c3:x0_1 > 0
    ·rw [if_pos c3] at H
     have c3b0:decide (0 < x0_1) = true:=decide_eq_true c3;clear c3;obtain ⟨y287,hy287⟩:∃ y_:List Int,y_ = (([(wrap64 (48 + (Int.tmod x0_1 10))) % 256]:List Int)):=⟨_,rfl⟩;replace H:(if (strOfNums y287).size + x3_1.size≤9223372036854775807 then (laws_markText.l0 k1 (wrap64 (Int.tdiv x0_1 10)) ((strOfNums y287) ++ x3_1)) else (none)) = some r:=by first|(rw [hy287];with_reducible exact H)|(have H2_:=(Option.bind_some _ _).symm.trans H;rw [hy287];with_reducible exact H2_)|(have H2_:=(Option.bind_some _ _).symm.trans H;with_reducible exact H2_)|with_reducible exact H|(rw [hy287];exact H)|exact H
     have Ny287:=Aside0.mk hy287;clear hy287
     by_cases c4:(strOfNums y287).size + x3_1.size≤9223372036854775807
     ·rw [if_pos c4] at H
      have c4b0:=eq_true c4;have c4b1:decide ((strOfNums y287).size + x3_1.size≤9223372036854775807) = true:=decide_eq_true c4
      try have c4b2:(9223372036854775807 < (strOfNums y287).size + x3_1.size) = False:=eq_false (Nat.not_lt.2 c4)
      have H':=Aside0.mk H;clear H
      go_wp2_with (first|((with_reducible refine gate_dst (N:=12) rfl ?_);refine Kd.R_lit (Kd.int .u8) _ 5 ?hg (N:=12) ?hd (xs:=([(wrap64 (48 + (Int.tmod x0_1 10))) % 256]:List Int)) (inner:=[.int .u8 ((wrap64 (48 + (Int.tmod x0_1 10))) % 256)]) (ok:=fun _=>True) (okp:=fun _=>True) ?hr ?hp (fun _ hk=>hk) trivial (Below.refl _ _) (Nat.le_refl _) (by simp) ?_;(case hd=>rfl);(case hg=>rfl);(case hr=>first|(go_simp;done)|(go_simp;rfl));(case hp=>exact (Reps.one (show Kd.M (Kd.int .u8) _ _ _ ((wrap64 (48 + (Int.tmod x0_1 10))) % 256) [.int .u8 ((wrap64 (48 + (Int.tmod x0_1 10))) % 256)] from rfl) (Reps.none _ _)));intro v288 w5 ho6 hb hg_ hnew_;clear hg_ hnew_;(first|rw [← Ny287.out] at ho6|(simp only [Int.reduceToNat] at ho6;rw [← Ny287.out] at ho6));have n_:=ai (Aside0.mk (Kd.R_lower ho6 (below_size (bl HB.out)))) <| bq HB hb;clear HB;obtain ⟨HO289,HB⟩:=n_;clear hb ho6;have hcv7:=own_string (P:=Try.prog) Try.underlying22 Try.underlying5 Try.underlying9 (Kd.own_of_R HO289.out)))
      go_roundg k1
      case measure=>have:=HK1.out;omega
      case rel=>exact ⟨(wrap64 (Int.tdiv x0_1 10)),((strOfNums y287) ++ x3_1),(cl2),(cl2),H',⟨by have:=HK1.out;omega⟩,⟨bl HB.out⟩⟩
     ·rw [if_neg c4] at H
      exact absurd H (by simp)
    ·rw [if_neg c3] at H
     have c3b0:decide (0 < x0_1) = false:=decide_eq_false c3;clear c3
     by_cases c8:1 + x3_1.size≤9223372036854775807
     ·rw [if_pos c8] at H
      have c8b0:=eq_true c8;have c8b1:decide (1 + x3_1.size≤9223372036854775807) = true:=decide_eq_true c8
      try have c8b2:(9223372036854775807 < 1 + x3_1.size) = False:=eq_false (Nat.not_lt.2 c8)
      obtain rfl:=Option.some.inj H
      go_wp2
      go_ret
      exact ⟨cl,bl HB.out⟩
     ·rw [if_neg c8] at H
      exact absurd H (by simp)

/-! ### laws_markTermS: marks, told weakly -/
mutual
def laws_markTermS.l0:Nat → List (S25) → Int → Int → Option (Int)
 | 0,_,_,_=>none
 | k + 1,x0,x1,x5=>if x5 < (x0.length:Int) then (if 0≤x5 then ((laws_markText.f k (wrap64 ((wrap64 (x1 + 1)) + 1))).bind fun t2=>((laws_markTermS.f k ((rd_T25 x0 x5).f3) (wrap64 ((wrap64 ((wrap64 (x1 + 1)) + 1)) + 1))).bind fun t3=>(laws_markTermS.l0 k x0 t3 (wrap64 (x5 + 1))))) else (none)) else (some x1)
def laws_markTermS.f:Nat → List (S25) → Int → Option (Int)
 | 0,_,_=>none
 | k + 1,l0,a1=>laws_markTermS.l0 k l0 a1 0
end
theorem laws_markTermS.mono_g:∀ k,(∀ y0 y1 y2,LeO (laws_markTermS.l0 k y0 y1 y2) (laws_markTermS.l0 (k + 1) y0 y1 y2))∧(∀ y0 y1,LeO (laws_markTermS.f k y0 y1) (laws_markTermS.f (k + 1) y0 y1))
 | 0=>⟨fun _ _ _ r h=>by simp [laws_markTermS.l0] at h,fun _ _ r h=>by simp [laws_markTermS.f] at h⟩
 | k + 1=>by
  obtain ⟨ih0,ih1⟩:=laws_markTermS.mono_g k
  refine ⟨?_,?_⟩
  ·intro y0 y1 y2
   unfold laws_markTermS.l0
   with_reducible repeat' first|apply ih0|apply ih1|apply laws_markText.mono|apply LeO.refl|apply LeO.none|apply LeO.ite|refine LeO.bind ?_ (fun _=>?_)
  ·intro y0 y1
   unfold laws_markTermS.f
   with_reducible repeat' first|apply ih0|apply ih1|apply laws_markText.mono|apply LeO.refl|apply LeO.none|apply LeO.ite|refine LeO.bind ?_ (fun _=>?_)
theorem laws_markTermS.mono:∀ a0 a1 k,LeO (laws_markTermS.f k a0 a1) (laws_markTermS.f (k + 1) a0 a1):=by
 intro a0 a1 k;obtain ⟨ih0,ih1⟩:=laws_markTermS.mono_g k
 exact ih1 a0 a1
set_option maxHeartbeats 8000000 in
set_option maxRecDepth 100000 in
theorem laws_markTermS.step (k:Nat) (ih_laws_markTermS:∀ k_,k_ < k → (∀ (E:List Nat),(∀ t_,t_ ∈ [25] → t_ ∈ E) → ∀ (l:List (S25)) (n r:Int),laws_markTermS.f k_ l n = some r → ∀ (b:Nat) (P ok:Nat → Prop) (v:Value) (ws w:World),b≤ws.heap.size → Kd.R k25 25 ws b ok v l → (∀ k_,ok k_ → P k_) → Soft b P E ws w → Calls Try.prog 19 #[v,.int .i64 n] w fun e w'=>e = .returned (.int .i64 r)∧Soft b P E ws w'∧Kept w w' (InRows b P E ws))):∀ (E:List Nat),(∀ t_,t_ ∈ [25] → t_ ∈ E) → ∀ (l:List (S25)) (n r:Int),laws_markTermS.f k l n = some r → ∀ (b:Nat) (P ok:Nat → Prop) (v:Value) (ws w:World),b≤ws.heap.size → Kd.R k25 25 ws b ok v l → (∀ k_,ok k_ → P k_) → Soft b P E ws w → Calls Try.prog 19 #[v,.int .i64 n] w fun e w'=>e = .returned (.int .i64 r)∧Soft b P E ws w'∧Kept w w' (InRows b P E ws):=by
 intro E hE l n r h b P ok v ws w hb hR hP hS
 cases k with
 | zero=>exact absurd h (by simp [laws_markTermS.f])
 | succ k =>
 simp only [laws_markTermS.f] at h;obtain ⟨Ao,co,eo⟩:=Kd.R_slice hR;subst eo;have HR:=Aside0.mk hR;have HBS:=Aside0.mk hb;have HS:=Aside0.mk hS;have HP:=Aside0.mk hP;have HK:=Aside0.mk (Kept.refl w (InRows b P E ws));clear hR hb hS hP;have H':=Aside0.mk h;clear h
 go_enter Try.func19,Try.ntmps19
 go_wp2
 go_loopg [1,5] k (fun kq v1 v5 w'=>∃ (x1:Int) (x5:Int),v1 = .int .i64 x1∧v5 = .int .i64 x5∧Aside0 (laws_markTermS.l0 kq l x1 x5 = some r)∧Aside0 (kq≤k)∧Aside0 (Soft b P E ws w')∧Aside0 (Kept w w' (InRows b P E ws)))
 case atStart=>exact ⟨n,0,(cl2),(cl2),H',⟨Nat.le_refl _⟩,HS,HK⟩
 case round =>
  clear H';clear HS HK;obtain ⟨x1,x5,rfl,rfl,HA,HK1,HS,HK⟩:=hrel
  cases gk with
  | zero=>exact absurd HA.out (by simp [laws_markTermS.l0])
  | succ k1 =>
   have H:=HA.out;clear HA;simp only [laws_markTermS.l0] at H
   by_cases c3:x5 < (l.length:Int)
   ·rw [if_pos c3] at H
    have c3b0:decide (x5 < (l.length:Int)) = true:=decide_eq_true c3
    by_cases c4:0≤x5
    ·rw [if_pos c4] at H
     have c4b0:decide (0≤x5) = true:=decide_eq_true c4;replace H:=Option.bind_eq_some_iff.mp H;obtain ⟨t2,B2,H⟩:=H;replace H:((laws_markTermS.f k1 ((rd_T25 l x5).f3) (wrap64 ((wrap64 ((wrap64 (x1 + 1)) + 1)) + 1))).bind fun t3=>(laws_markTermS.l0 k1 l t3 (wrap64 (x5 + 1)))) = some r:=H;have A2:=Aside0.mk B2;clear B2;replace H:=Option.bind_eq_some_iff.mp H;obtain ⟨t3,B3,H⟩:=H;replace H:(laws_markTermS.l0 k1 l t3 (wrap64 (x5 + 1))) = some r:=H;have A3:=Aside0.mk B3;clear B3;have H':=Aside0.mk H;clear H;obtain ⟨go5,co5,eo5,gb5,gl5,cl5,HG5⟩:=Kd.R_form HR.out (by omega)
     (first|cases eo5|(injection eo5 with ea_ en_ ec_;(first|subst ea_|(injection ea_ with ea_;subst ea_));subst ec_;clear en_))
     have HG:=Aside0.mk (show InRows b P E ws go5 from ⟨gb5,HP.out _ (HR.out.1 go5 (by simp [Value.ownBlock])),25,hE _ (by decide),cl5,HG5⟩);clear gb5 gl5 HG5;obtain ⟨ce5,hcl5,hM5,hcc5,hfr5⟩:=Kd.R_elem HR.out z25 (x5:Int) c4 c3;obtain ⟨v3,rfl,hR3⟩:=k25_openM hM5;obtain ⟨Ai3,ci3,ei3⟩:=Kd.R_slice hR3;subst ei3;have HR3:=Aside0.mk hR3;clear hR3;have HC0:=Aside0.mk (show ws.cell? ⟨go5,(x5:Int).toNat * 4,none⟩ = some (.int .i64 ((rd_T25 l x5).f0)) from hcc5 0 _ rfl);have HC1:=Aside0.mk (show ws.cell? ⟨go5,(x5:Int).toNat * 4 + 1,none⟩ = some (.int .i64 ((rd_T25 l x5).f1)) from hcc5 1 _ rfl);have HC2:=Aside0.mk (show ws.cell? ⟨go5,(x5:Int).toNat * 4 + 2,none⟩ = some (.string ((rd_T25 l x5).f2)) from hcc5 2 _ rfl);have HC3:=Aside0.mk (show ws.cell? ⟨go5,(x5:Int).toNat * 4 + 3,none⟩ = some (.slice Ai3 ((rd_T25 l x5).f3).length ci3) from hcc5 3 _ rfl);clear hcl5 hcc5 hfr5;obtain ⟨y0,hx0⟩:∃ y,wr.cell? ⟨go5,(x5:Int).toNat * 4,none⟩ = some (.int .i64 y):=(by obtain ⟨z_,h_,s_⟩:=HS.out.cell HG.out HC0.out;obtain ⟨y_,e_⟩:=s_.of_int;exact ⟨y_,e_ ▸ h_⟩);have hf0:wr.frozen? ⟨go5,(x5:Int).toNat * 4,none⟩ = false:=HS.out.frozen HG.out _;obtain ⟨y1,hx1⟩:∃ y,wr.cell? ⟨go5,(x5:Int).toNat * 4 + 1,none⟩ = some (.int .i64 y):=(by obtain ⟨z_,h_,s_⟩:=HS.out.cell HG.out HC1.out;obtain ⟨y_,e_⟩:=s_.of_int;exact ⟨y_,e_ ▸ h_⟩);have hf1:wr.frozen? ⟨go5,(x5:Int).toNat * 4 + 1,none⟩ = false:=HS.out.frozen HG.out _;obtain ⟨y2,hx2⟩:∃ y,wr.cell? ⟨go5,(x5:Int).toNat * 4 + 2,none⟩ = some (.string y):=(by obtain ⟨z_,h_,s_⟩:=HS.out.cell HG.out HC2.out;obtain ⟨y_,e_⟩:=s_.of_string;exact ⟨y_,e_ ▸ h_⟩);have hf2:wr.frozen? ⟨go5,(x5:Int).toNat * 4 + 2,none⟩ = false:=HS.out.frozen HG.out _;have hx3:wr.cell? ⟨go5,(x5:Int).toNat * 4 + 3,none⟩ = some (.slice Ai3 ((rd_T25 l x5).f3).length ci3):=(by obtain ⟨z_,h_,s_⟩:=HS.out.cell HG.out HC3.out;exact s_.of_slice ▸ h_);have hf3:wr.frozen? ⟨go5,(x5:Int).toNat * 4 + 3,none⟩ = false:=HS.out.frozen HG.out _;have p5:=eq_true c4;have q5:=eq_true c3;clear c3 c4
     go_wp2_with (first|((with_reducible refine gate_store (t:=3) (p:=16) rfl ?_);refine store_event (t:=3) (p:=16) (v:=?vo_ws0) (w1:=(wr.setCell ⟨go5,(x5:Int).toNat * 4,none⟩ (.int .i64 x1))) ?hg ?ho ?hn ?hr ?_;(case ho=>rfl);(case hg=>rfl);(case hn=>rfl);(case hr=>first|(go_simp;done)|(go_simp;rfl));intro ws0 hw;have n_:=ai (Aside0.mk (show Soft b P E ws ws0 from by rw [hw];exact Soft.set HS.out HG.out hx0 (SoftV.int _ _ _))) <| Aside0.mk (show Kept w ws0 (InRows b P E ws) from by rw [hw];exact Kept.setCell HK.out (.inl HG.out) _);clear HS HK hw;obtain ⟨HS,HK⟩:=n_;clear hx0 hf0;obtain ⟨y0,hx0⟩:∃ y,ws0.cell? ⟨go5,(x5:Int).toNat * 4,none⟩ = some (.int .i64 y):=(by obtain ⟨z_,h_,s_⟩:=HS.out.cell HG.out HC0.out;obtain ⟨y_,e_⟩:=s_.of_int;exact ⟨y_,e_ ▸ h_⟩);have hf0:ws0.frozen? ⟨go5,(x5:Int).toNat * 4,none⟩ = false:=HS.out.frozen HG.out _;clear hx1 hf1;obtain ⟨y1,hx1⟩:∃ y,ws0.cell? ⟨go5,(x5:Int).toNat * 4 + 1,none⟩ = some (.int .i64 y):=(by obtain ⟨z_,h_,s_⟩:=HS.out.cell HG.out HC1.out;obtain ⟨y_,e_⟩:=s_.of_int;exact ⟨y_,e_ ▸ h_⟩);have hf1:ws0.frozen? ⟨go5,(x5:Int).toNat * 4 + 1,none⟩ = false:=HS.out.frozen HG.out _;clear hx2 hf2;obtain ⟨y2,hx2⟩:∃ y,ws0.cell? ⟨go5,(x5:Int).toNat * 4 + 2,none⟩ = some (.string y):=(by obtain ⟨z_,h_,s_⟩:=HS.out.cell HG.out HC2.out;obtain ⟨y_,e_⟩:=s_.of_string;exact ⟨y_,e_ ▸ h_⟩);have hf2:ws0.frozen? ⟨go5,(x5:Int).toNat * 4 + 2,none⟩ = false:=HS.out.frozen HG.out _;clear hx3 hf3;have hx3:ws0.cell? ⟨go5,(x5:Int).toNat * 4 + 3,none⟩ = some (.slice Ai3 ((rd_T25 l x5).f3).length ci3):=(by obtain ⟨z_,h_,s_⟩:=HS.out.cell HG.out HC3.out;exact s_.of_slice ▸ h_);have hf3:ws0.frozen? ⟨go5,(x5:Int).toNat * 4 + 3,none⟩ = false:=HS.out.frozen HG.out _)|((with_reducible refine gate_store (t:=3) (p:=23) rfl ?_);refine store_event (t:=3) (p:=23) (v:=?vo_ws1) (w1:=(ws0.setCell ⟨go5,(x5:Int).toNat * 4 + 1,none⟩ (.int .i64 (wrap64 (x1 + 1))))) ?hg ?ho ?hn ?hr ?_;(case ho=>rfl);(case hg=>rfl);(case hn=>rfl);(case hr=>first|(go_simp;done)|(go_simp;rfl));intro ws1 hw;have n_:=ai (Aside0.mk (show Soft b P E ws ws1 from by rw [hw];exact Soft.set HS.out HG.out hx1 (SoftV.int _ _ _))) <| Aside0.mk (show Kept w ws1 (InRows b P E ws) from by rw [hw];exact Kept.setCell HK.out (.inl HG.out) _);clear HS HK hw;obtain ⟨HS,HK⟩:=n_;clear hx0 hf0;obtain ⟨y0,hx0⟩:∃ y,ws1.cell? ⟨go5,(x5:Int).toNat * 4,none⟩ = some (.int .i64 y):=(by obtain ⟨z_,h_,s_⟩:=HS.out.cell HG.out HC0.out;obtain ⟨y_,e_⟩:=s_.of_int;exact ⟨y_,e_ ▸ h_⟩);have hf0:ws1.frozen? ⟨go5,(x5:Int).toNat * 4,none⟩ = false:=HS.out.frozen HG.out _;clear hx1 hf1;obtain ⟨y1,hx1⟩:∃ y,ws1.cell? ⟨go5,(x5:Int).toNat * 4 + 1,none⟩ = some (.int .i64 y):=(by obtain ⟨z_,h_,s_⟩:=HS.out.cell HG.out HC1.out;obtain ⟨y_,e_⟩:=s_.of_int;exact ⟨y_,e_ ▸ h_⟩);have hf1:ws1.frozen? ⟨go5,(x5:Int).toNat * 4 + 1,none⟩ = false:=HS.out.frozen HG.out _;clear hx2 hf2;obtain ⟨y2,hx2⟩:∃ y,ws1.cell? ⟨go5,(x5:Int).toNat * 4 + 2,none⟩ = some (.string y):=(by obtain ⟨z_,h_,s_⟩:=HS.out.cell HG.out HC2.out;obtain ⟨y_,e_⟩:=s_.of_string;exact ⟨y_,e_ ▸ h_⟩);have hf2:ws1.frozen? ⟨go5,(x5:Int).toNat * 4 + 2,none⟩ = false:=HS.out.frozen HG.out _;clear hx3 hf3;have hx3:ws1.cell? ⟨go5,(x5:Int).toNat * 4 + 3,none⟩ = some (.slice Ai3 ((rd_T25 l x5).f3).length ci3):=(by obtain ⟨z_,h_,s_⟩:=HS.out.cell HG.out HC3.out;exact s_.of_slice ▸ h_);have hf3:ws1.frozen? ⟨go5,(x5:Int).toNat * 4 + 3,none⟩ = false:=HS.out.frozen HG.out _)|(go_at_call 31;(with_reducible refine (laws_markText.calls k1 (wrap64 ((wrap64 (x1 + 1)) + 1)) t2 _ A2.out).mono ?_);rintro e wc2 ⟨rfl,hb⟩;have n_:=ai (Aside0.mk (Soft.step HS.out HBS.out hb)) <| Aside0.mk (Kept.below HK.out hb);clear HS HK hb;obtain ⟨HS,HK⟩:=n_;clear hx0 hf0;obtain ⟨y0,hx0⟩:∃ y,wc2.cell? ⟨go5,(x5:Int).toNat * 4,none⟩ = some (.int .i64 y):=(by obtain ⟨z_,h_,s_⟩:=HS.out.cell HG.out HC0.out;obtain ⟨y_,e_⟩:=s_.of_int;exact ⟨y_,e_ ▸ h_⟩);have hf0:wc2.frozen? ⟨go5,(x5:Int).toNat * 4,none⟩ = false:=HS.out.frozen HG.out _;clear hx1 hf1;obtain ⟨y1,hx1⟩:∃ y,wc2.cell? ⟨go5,(x5:Int).toNat * 4 + 1,none⟩ = some (.int .i64 y):=(by obtain ⟨z_,h_,s_⟩:=HS.out.cell HG.out HC1.out;obtain ⟨y_,e_⟩:=s_.of_int;exact ⟨y_,e_ ▸ h_⟩);have hf1:wc2.frozen? ⟨go5,(x5:Int).toNat * 4 + 1,none⟩ = false:=HS.out.frozen HG.out _;clear hx2 hf2;obtain ⟨y2,hx2⟩:∃ y,wc2.cell? ⟨go5,(x5:Int).toNat * 4 + 2,none⟩ = some (.string y):=(by obtain ⟨z_,h_,s_⟩:=HS.out.cell HG.out HC2.out;obtain ⟨y_,e_⟩:=s_.of_string;exact ⟨y_,e_ ▸ h_⟩);have hf2:wc2.frozen? ⟨go5,(x5:Int).toNat * 4 + 2,none⟩ = false:=HS.out.frozen HG.out _;clear hx3 hf3;have hx3:wc2.cell? ⟨go5,(x5:Int).toNat * 4 + 3,none⟩ = some (.slice Ai3 ((rd_T25 l x5).f3).length ci3):=(by obtain ⟨z_,h_,s_⟩:=HS.out.cell HG.out HC3.out;exact s_.of_slice ▸ h_);have hf3:wc2.frozen? ⟨go5,(x5:Int).toNat * 4 + 3,none⟩ = false:=HS.out.frozen HG.out _)|((with_reducible refine gate_store (t:=9) (p:=31) rfl ?_);refine store_event (t:=9) (p:=31) (v:=?vo_ws2) (w1:=(wc2.setCell ⟨go5,(x5:Int).toNat * 4 + 2,none⟩ (.string t2))) ?hg ?ho ?hn ?hr ?_;(case ho=>rfl);(case hg=>rfl);(case hn=>rfl);(case hr=>first|(go_simp;done)|(go_simp;rfl));intro ws2 hw;have n_:=ai (Aside0.mk (show Soft b P E ws ws2 from by rw [hw];exact Soft.set HS.out HG.out hx2 (SoftV.string _ _))) <| Aside0.mk (show Kept w ws2 (InRows b P E ws) from by rw [hw];exact Kept.setCell HK.out (.inl HG.out) _);clear HS HK hw;obtain ⟨HS,HK⟩:=n_;clear hx0 hf0;obtain ⟨y0,hx0⟩:∃ y,ws2.cell? ⟨go5,(x5:Int).toNat * 4,none⟩ = some (.int .i64 y):=(by obtain ⟨z_,h_,s_⟩:=HS.out.cell HG.out HC0.out;obtain ⟨y_,e_⟩:=s_.of_int;exact ⟨y_,e_ ▸ h_⟩);have hf0:ws2.frozen? ⟨go5,(x5:Int).toNat * 4,none⟩ = false:=HS.out.frozen HG.out _;clear hx1 hf1;obtain ⟨y1,hx1⟩:∃ y,ws2.cell? ⟨go5,(x5:Int).toNat * 4 + 1,none⟩ = some (.int .i64 y):=(by obtain ⟨z_,h_,s_⟩:=HS.out.cell HG.out HC1.out;obtain ⟨y_,e_⟩:=s_.of_int;exact ⟨y_,e_ ▸ h_⟩);have hf1:ws2.frozen? ⟨go5,(x5:Int).toNat * 4 + 1,none⟩ = false:=HS.out.frozen HG.out _;clear hx2 hf2;obtain ⟨y2,hx2⟩:∃ y,ws2.cell? ⟨go5,(x5:Int).toNat * 4 + 2,none⟩ = some (.string y):=(by obtain ⟨z_,h_,s_⟩:=HS.out.cell HG.out HC2.out;obtain ⟨y_,e_⟩:=s_.of_string;exact ⟨y_,e_ ▸ h_⟩);have hf2:ws2.frozen? ⟨go5,(x5:Int).toNat * 4 + 2,none⟩ = false:=HS.out.frozen HG.out _;clear hx3 hf3;have hx3:ws2.cell? ⟨go5,(x5:Int).toNat * 4 + 3,none⟩ = some (.slice Ai3 ((rd_T25 l x5).f3).length ci3):=(by obtain ⟨z_,h_,s_⟩:=HS.out.cell HG.out HC3.out;exact s_.of_slice ▸ h_);have hf3:ws2.frozen? ⟨go5,(x5:Int).toNat * 4 + 3,none⟩ = false:=HS.out.frozen HG.out _)|(go_at_call 19;(with_reducible refine (ih_laws_markTermS k1 (by have:=HK1.out;omega) E hE _ _ t3 A3.out b P _ _ ws _ HBS.out HR3.out (fun _ h_=>HP.out _ h_.1) HS.out).mono ?_);rintro e wm3 ⟨rfl,hs,hk⟩;have n_:=ai (Aside0.mk hs) <| Aside0.mk (Kept.then_ HK.out hk (fun _ h_=>.inl h_));clear HS HK hs hk;obtain ⟨HS,HK⟩:=n_;clear hx0 hf0;obtain ⟨y0,hx0⟩:∃ y,wm3.cell? ⟨go5,(x5:Int).toNat * 4,none⟩ = some (.int .i64 y):=(by obtain ⟨z_,h_,s_⟩:=HS.out.cell HG.out HC0.out;obtain ⟨y_,e_⟩:=s_.of_int;exact ⟨y_,e_ ▸ h_⟩);have hf0:wm3.frozen? ⟨go5,(x5:Int).toNat * 4,none⟩ = false:=HS.out.frozen HG.out _;clear hx1 hf1;obtain ⟨y1,hx1⟩:∃ y,wm3.cell? ⟨go5,(x5:Int).toNat * 4 + 1,none⟩ = some (.int .i64 y):=(by obtain ⟨z_,h_,s_⟩:=HS.out.cell HG.out HC1.out;obtain ⟨y_,e_⟩:=s_.of_int;exact ⟨y_,e_ ▸ h_⟩);have hf1:wm3.frozen? ⟨go5,(x5:Int).toNat * 4 + 1,none⟩ = false:=HS.out.frozen HG.out _;clear hx2 hf2;obtain ⟨y2,hx2⟩:∃ y,wm3.cell? ⟨go5,(x5:Int).toNat * 4 + 2,none⟩ = some (.string y):=(by obtain ⟨z_,h_,s_⟩:=HS.out.cell HG.out HC2.out;obtain ⟨y_,e_⟩:=s_.of_string;exact ⟨y_,e_ ▸ h_⟩);have hf2:wm3.frozen? ⟨go5,(x5:Int).toNat * 4 + 2,none⟩ = false:=HS.out.frozen HG.out _;clear hx3 hf3;have hx3:wm3.cell? ⟨go5,(x5:Int).toNat * 4 + 3,none⟩ = some (.slice Ai3 ((rd_T25 l x5).f3).length ci3):=(by obtain ⟨z_,h_,s_⟩:=HS.out.cell HG.out HC3.out;exact s_.of_slice ▸ h_);have hf3:wm3.frozen? ⟨go5,(x5:Int).toNat * 4 + 3,none⟩ = false:=HS.out.frozen HG.out _))
     go_roundg k1
     case measure=>have:=HK1.out;omega
     case rel=>exact ⟨t3,wrap64 (x5 + 1),(cl2),(cl2),H',⟨by have:=HK1.out;omega⟩,HS,HK⟩
    ·rw [if_neg c4] at H
     exact absurd H (by simp)
   ·rw [if_neg c3] at H
    have c3b0:decide (x5 < (l.length:Int)) = false:=decide_eq_false c3;clear c3;simp only [Option.some.injEq] at H;subst H
    go_wp2
    go_ret
    exact ⟨cl2,HS.out,HK.out⟩
theorem laws_markTermS.all (k:Nat):∀ (E:List Nat),(∀ t_,t_ ∈ [25] → t_ ∈ E) → ∀ (l:List (S25)) (n r:Int),laws_markTermS.f k l n = some r → ∀ (b:Nat) (P ok:Nat → Prop) (v:Value) (ws w:World),b≤ws.heap.size → Kd.R k25 25 ws b ok v l → (∀ k_,ok k_ → P k_) → Soft b P E ws w → Calls Try.prog 19 #[v,.int .i64 n] w fun e w'=>e = .returned (.int .i64 r)∧Soft b P E ws w'∧Kept w w' (InRows b P E ws):=by
 induction k using Nat.strongRecOn with
 | _ k ih =>
 exact laws_markTermS.step k (fun k_ h_=>ih k_ h_)
theorem laws_markTermS.wide (k:Nat):∀ (E:List Nat),(∀ t_,t_ ∈ [25] → t_ ∈ E) → ∀ (l:List (S25)) (n r:Int),laws_markTermS.f k l n = some r → ∀ (b:Nat) (P ok:Nat → Prop) (v:Value) (ws w:World),b≤ws.heap.size → Kd.R k25 25 ws b ok v l → (∀ k_,ok k_ → P k_) → Soft b P E ws w → Calls Try.prog 19 #[v,.int .i64 n] w fun e w'=>e = .returned (.int .i64 r)∧Soft b P E ws w'∧Kept w w' (InRows b P E ws):=(laws_markTermS.all k)
theorem laws_markTermS.weak (k:Nat):∀ (l:List (S25)) (n r:Int),laws_markTermS.f k l n = some r → ∀ (b:Nat) (P ok:Nat → Prop) (v:Value) (ws w:World),b≤ws.heap.size → Kd.R k25 25 ws b ok v l → (∀ k_,ok k_ → P k_) → Soft b P [25] ws w → Calls Try.prog 19 #[v,.int .i64 n] w fun e w'=>e = .returned (.int .i64 r)∧Soft b P [25] ws w'∧Kept w w' (InRows b P [25] ws):=laws_markTermS.wide k [25] (fun _ h_=>h_)
theorem laws_markTermS.soft (k:Nat) (u0:Value) (l0_0:List (S25)) (a1:Int) (r:Int) (b:Nat) (P:Nat → Prop) (ok0:Nat → Prop) (ws w:World) (hb:b≤ws.heap.size) (ho0:Kd.R k25 25 ws b ok0 u0 l0_0) (hp0:∀ k_,ok0 k_ → P k_) (hs:Soft b P [25] ws w) (h:laws_markTermS.f k l0_0 a1 = some r) :
  Calls Try.prog 19 #[u0,.int .i64 a1] w fun e w'=>e = .returned (.int .i64 r)∧Soft b P [25] ws w'∧Below b w w'∧Kept w w' (InRows b P [25] ws):=(laws_markTermS.weak k l0_0 a1 r h b P ok0 u0 ws w hb ho0 hp0 hs).mono (fun _ _ h_=>⟨h_.1,h_.2.1,Soft.between hs h_.2.1 h_.2.2,h_.2.2⟩)
theorem laws_markTermS.calls (k:Nat) (u0:Value) (l0_0:List (S25)) (a1:Int) (r:Int) (b:Nat) (P:Nat → Prop) (ok0:Nat → Prop) (w:World) (hb:b≤w.heap.size) (ho0:Kd.R k25 25 w b ok0 u0 l0_0) (hp0:∀ k_,ok0 k_ → P k_) (h:laws_markTermS.f k l0_0 a1 = some r) :
  Calls Try.prog 19 #[u0,.int .i64 a1] w fun e w'=>e = .returned (.int .i64 r)∧Below b w w'∧Kept w w' (InRows b P [25] w):=(laws_markTermS.soft k u0 l0_0 a1 r b P ok0 w w hb ho0 hp0 (Soft.refl b P [25] w) h).mono (fun _ _ h_=>⟨h_.1,h_.2.2⟩)

/-! ### laws_markTerm: function 10: marks, told weakly -/
def laws_markTerm.f (k:Nat) (a0_0:Int) (a0_1:Int) (a0_2:ByteArray) (l0_3:List (S25)) (a1:Int):Option (Int):=(laws_markTermS.f k l0_3 a1).bind fun t3=>(some t3)
theorem laws_markTerm.mono:∀ a0_0 a0_1 a0_2 l0_3 a1 k,LeO (laws_markTerm.f k a0_0 a0_1 a0_2 l0_3 a1) (laws_markTerm.f (k + 1) a0_0 a0_1 a0_2 l0_3 a1):=by
 intro a0_0 a0_1 a0_2 l0_3 a1 k
 unfold laws_markTerm.f
 with_reducible repeat' first|apply laws_markTermS.mono|apply LeO.refl|refine LeO.bind ?_ (fun _=>?_)
set_option maxHeartbeats 8000000 in
set_option maxRecDepth 100000 in
theorem laws_markTerm.soft (k:Nat) (a0_0:Int) (a0_1:Int) (a0_2:ByteArray) (u3:Value) (l0_3:List (S25)) (a1:Int) (r:Int) (b:Nat) (P:Nat → Prop) (ok3:Nat → Prop) (ws w:World) (hb:b≤ws.heap.size) (ho3:Kd.R k25 25 ws b ok3 u3 l0_3) (hp3:∀ k_,ok3 k_ → P k_) (hs:Soft b P [25] ws w) (h:laws_markTerm.f k a0_0 a0_1 a0_2 l0_3 a1 = some r) :
  Calls Try.prog 10 #[.agg #[.int .i64 a0_0,.int .i64 a0_1,.string a0_2,u3],.int .i64 a1] w fun e w'=>e = .returned (.int .i64 r)∧Soft b P [25] ws w'∧Below b w w'∧Kept w w' (InRows b P [25] ws):=by
 unfold laws_markTerm.f at h
 replace h:=Option.bind_eq_some_iff.mp h;obtain ⟨t3,B3,h⟩:=h;have A3:=Aside0.mk B3;clear B3;obtain rfl:=Option.some.inj h;obtain ⟨Ai3,ci3,ei3⟩:=Kd.R_slice ho3;subst ei3;have HR3:=Aside0.mk ho3;have HP3:=Aside0.mk hp3;clear ho3 hp3;have HBS:=Aside0.mk hb;have HS0:=Aside0.mk hs;have HK:=Aside0.mk (Kept.refl w (InRows b P [25] ws));clear hb hs
 go_enter Try.func10,Try.ntmps10
 go_wp2_with (first|((with_reducible refine gate_dst (N:=2) rfl ?_);refine box_event ?hg (N:=2) ?hd (cs:=#[.int .i64 a0_0,.int .i64 a0_1,.string a0_2,.slice Ai3 l0_3.length ci3]) (t:=25) ?hr ?_;(case hd=>rfl);(case hg=>rfl);(case hr=>first|(go_simp;done)|(go_simp;rfl));intro gb hg wb hbox hb;have HS:=Aside0.mk (Soft.step HS0.out HBS.out hb);have n1_:=Aside0.mk (Kept.below HK.out hb);clear HK;have HK:=n1_;clear n1_;have BK:=Aside0.mk hbox;have hz3:wb.cell? ⟨gb,3,none⟩ = some (.slice Ai3 l0_3.length ci3):=(blk_cell BK.out 3).trans rfl;have NG:=Aside0.mk hg;clear hg hbox hb)|(go_at_call 19;(with_reducible refine (laws_markTermS.weak k _ _ t3 A3.out b P _ _ ws _ HBS.out HR3.out HP3.out HS.out).mono ?_);rintro e wm3 ⟨rfl,hs,hk⟩;have n_:=ai (Aside0.mk hs) <| Aside0.mk (Kept.then_ HK.out hk (fun _ h_=>.inl h_));clear HS HK hs hk;obtain ⟨HS,HK⟩:=n_))
 go_ret
 exact ⟨cl2,HS.out,Soft.between HS0.out HS.out HK.out,HK.out⟩
theorem laws_markTerm.calls (k:Nat) (a0_0:Int) (a0_1:Int) (a0_2:ByteArray) (u3:Value) (l0_3:List (S25)) (a1:Int) (r:Int) (b:Nat) (P:Nat → Prop) (ok3:Nat → Prop) (w:World) (hb:b≤w.heap.size) (ho3:Kd.R k25 25 w b ok3 u3 l0_3) (hp3:∀ k_,ok3 k_ → P k_) (h:laws_markTerm.f k a0_0 a0_1 a0_2 l0_3 a1 = some r) :
  Calls Try.prog 10 #[.agg #[.int .i64 a0_0,.int .i64 a0_1,.string a0_2,u3],.int .i64 a1] w fun e w'=>e = .returned (.int .i64 r)∧Below b w w'∧Kept w w' (InRows b P [25] w):=(laws_markTerm.soft k a0_0 a0_1 a0_2 u3 l0_3 a1 r b P ok3 w w hb ho3 hp3 (Soft.refl b P [25] w) h).mono (fun _ _ h_=>⟨h_.1,h_.2.2⟩)

end Go.Proofs.Ytefkjmkmojmllaa.QFnExactGetTerm
