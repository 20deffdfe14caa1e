-- Written by a program of this workplace (print2.py) for this claim, over the print's words.
import Derived.Test.YtjgegnkphkfmoaaQFnExactExprOkx0
import Derived.Test.YtjgegnkphkfmoaaQFnExactExprOkx7
import Derived.Test.YtjgegnkphkfmoaaQFnExactExprOkx9
namespace Go.Proofs.Ytjgegnkphkfmoaa.QFnExactExprOk
open Go.RowKit Go.Proofs.YtjgegnkphkfmoaaW.PrintWords Go.Proofs.YtjgegnkphkfmoaaW.PrintLast Go.Proofs.YtjgegnkphkfmoaaW.PrintMore
attribute [local go_sem] max2_int min2_int max_two min_two max_three min_three max_four min_four   -- for this text's walks alone
set_option linter.unusedVariables false
set_option linter.unusedSimpArgs false

/-! ### impl_judge_expr: function 14 -/
mutual
def impl_judge_expr.j0:Nat → Int → Bool → Int → List ByteArray → Int → Int → ByteArray → List (S31) → List (S53) → Option (Bool × List ByteArray × Int)
 | 0,_,_,_,_,_,_,_,_,_=>none
 | k + 1,x2,x49,x1000,x1001,x266000,x266001,x266002,x266003,x266004=>if x49 = true then (some (false,x1001,x1000)) else (if ((x266000 == 9) != (decide ((x266004.length:Int) > 0))) = true then (impl_judge_expr.j1 k x2 true x1000 x1001 x266000 x266001 x266002 x266003 x266004) else (impl_judge_expr.j1 k x2 (decide ((x266004.length:Int) > 6)) x1000 x1001 x266000 x266001 x266002 x266003 x266004))
def impl_judge_expr.j1:Nat → Int → Bool → Int → List ByteArray → Int → Int → ByteArray → List (S31) → List (S53) → Option (Bool × List ByteArray × Int)
 | 0,_,_,_,_,_,_,_,_,_=>none
 | k + 1,x2,x63,x1000,x1001,x266000,x266001,x266002,x266003,x266004=>if x63 = true then (some (false,x1001,x1000)) else (impl_judge_expr.l0 k x2 x266003 (x266003.length:Int) 0 x1000 x1001 x266000 x266001 x266002 x266003 x266004)
def impl_judge_expr.l0:Nat → Int → List (S31) → Int → Int → Int → List ByteArray → Int → Int → ByteArray → List (S31) → List (S53) → Option (Bool × List ByteArray × Int)
 | 0,_,_,_,_,_,_,_,_,_,_,_=>none
 | k + 1,x2,x65,x66,x67,x1000,x1001,x266000,x266001,x266002,x266003,x266004=>if x67 < x66 then (if 0≤x67 then (if x67 < (x65.length:Int) then ((impl_judge_expr.f k x1000 x1001 ((rd_T31 x65 x67).f0) ((rd_T31 x65 x67).f1) ((rd_T31 x65 x67).f2) ((rd_T31 x65 x67).f3) ((rd_T31 x65 x67).f4) (wrap64 (x2 + 1))).bind fun bt269=>(if bt269.1 = true then (impl_judge_expr.l0 k x2 x65 x66 (wrap64 (x67 + 1)) bt269.2.2 bt269.2.1 x266000 x266001 x266002 x266003 x266004) else (some (false,bt269.2.1,bt269.2.2)))) else (none)) else (none)) else (impl_judge_expr.l1 k x2 x266004 (x266004.length:Int) 0 x1000 x1001)
def impl_judge_expr.l1:Nat → Int → List (S53) → Int → Int → Int → List ByteArray → Option (Bool × List ByteArray × Int)
 | 0,_,_,_,_,_,_=>none
 | k + 1,x2,x79,x80,x81,x1000,x1001=>if x81 < x80 then (if 0≤x81 then (if x81 < (x79.length:Int) then ((impl_judge_pat.f k x1000 ([]:List ByteArray) ((rd_T53 x79 x81).f0.f0) ((rd_T53 x79 x81).f0.f1) ((rd_T53 x79 x81).f0.f2) ((rd_T53 x79 x81).f0.f3) ((rd_T53 x79 x81).f0.f4) (wrap64 (x2 + 1))).bind fun bt276=>(if bt276.1 = true then ((impl_judge_expr.f k bt276.2.2 bt276.2.1 ((rd_T53 x79 x81).f1.f0) ((rd_T53 x79 x81).f1.f1) ((rd_T53 x79 x81).f1.f2) ((rd_T53 x79 x81).f1.f3) ((rd_T53 x79 x81).f1.f4) (wrap64 (x2 + 1))).bind fun bt281=>(if bt281.1 = true then (impl_judge_expr.l1 k x2 x79 x80 (wrap64 (x81 + 1)) bt281.2.2 bt281.2.1) else (some (false,bt281.2.1,bt281.2.2)))) else (some (false,bt276.2.1,bt276.2.2)))) else (none)) else (none)) else (some (true,x1001,x1000))
def impl_judge_expr.f:Nat → Int → List ByteArray → Int → Int → ByteArray → List (S31) → List (S53) → Int → Option (Bool × List ByteArray × Int)
 | 0,_,_,_,_,_,_,_,_=>none
 | k + 1,s0_0,l0_1,a1_0,a1_1,a1_2,l1_3,l1_4,a2=>if a2 > 10 then (impl_judge_expr.j0 k a2 true (wrap64 (s0_0 + 1)) l0_1 a1_0 a1_1 a1_2 l1_3 l1_4) else (if (wrap64 (s0_0 + 1)) > 300 then (impl_judge_expr.j0 k a2 true (wrap64 (s0_0 + 1)) l0_1 a1_0 a1_1 a1_2 l1_3 l1_4) else ((impl_shapeOk.f k a1_0 a1_1 a1_2 (l1_3.length:Int)).bind fun t266=>(if t266 = true then (if a1_0 = 3 then (impl_judge_expr.j0 k a2 (a1_2.toList == ([95]:List UInt8)) (wrap64 (s0_0 + 1)) l0_1 a1_0 a1_1 a1_2 l1_3 l1_4) else (impl_judge_expr.j0 k a2 false (wrap64 (s0_0 + 1)) l0_1 a1_0 a1_1 a1_2 l1_3 l1_4)) else (impl_judge_expr.j0 k a2 true (wrap64 (s0_0 + 1)) l0_1 a1_0 a1_1 a1_2 l1_3 l1_4))))
end
theorem impl_judge_expr.mono_l:∀ k,(∀ y0 y1 y2 y3 y4 y5 y6 y7,LeO (impl_judge_expr.f k y0 y1 y2 y3 y4 y5 y6 y7) (impl_judge_expr.f (k + 1) y0 y1 y2 y3 y4 y5 y6 y7))∧(∀ y0 y1 y2 y3 y4 y5 y6 y7 y8,LeO (impl_judge_expr.j0 k y0 y1 y2 y3 y4 y5 y6 y7 y8) (impl_judge_expr.j0 (k + 1) y0 y1 y2 y3 y4 y5 y6 y7 y8))∧(∀ y0 y1 y2 y3 y4 y5 y6 y7 y8,LeO (impl_judge_expr.j1 k y0 y1 y2 y3 y4 y5 y6 y7 y8) (impl_judge_expr.j1 (k + 1) y0 y1 y2 y3 y4 y5 y6 y7 y8))∧(∀ y0 y1 y2 y3 y4 y5 y6 y7 y8 y9 y10,LeO (impl_judge_expr.l0 k y0 y1 y2 y3 y4 y5 y6 y7 y8 y9 y10) (impl_judge_expr.l0 (k + 1) y0 y1 y2 y3 y4 y5 y6 y7 y8 y9 y10))∧(∀ y0 y1 y2 y3 y4 y5,LeO (impl_judge_expr.l1 k y0 y1 y2 y3 y4 y5) (impl_judge_expr.l1 (k + 1) y0 y1 y2 y3 y4 y5))
 | 0=>⟨fun _ _ _ _ _ _ _ _ r h=>by simp [impl_judge_expr.f] at h,fun _ _ _ _ _ _ _ _ _ r h=>by simp [impl_judge_expr.j0] at h,fun _ _ _ _ _ _ _ _ _ r h=>by simp [impl_judge_expr.j1] at h,fun _ _ _ _ _ _ _ _ _ _ _ r h=>by simp [impl_judge_expr.l0] at h,fun _ _ _ _ _ _ r h=>by simp [impl_judge_expr.l1] at h⟩
 | k + 1=>by
  obtain ⟨ih0,ih1,ih2,ih3,ih4⟩:=impl_judge_expr.mono_l k
  refine ⟨?_,?_,?_,?_,?_⟩
  ·intro y0 y1 y2 y3 y4 y5 y6 y7
   unfold impl_judge_expr.f
   repeat' first
   | (with_reducible exact ih0 _ _ _ _ _ _ _ _)
   | (with_reducible exact ih1 _ _ _ _ _ _ _ _ _)
   | (with_reducible exact ih2 _ _ _ _ _ _ _ _ _)
   | (with_reducible exact ih3 _ _ _ _ _ _ _ _ _ _ _)
   | (with_reducible exact ih4 _ _ _ _ _ _)
   | (with_reducible exact impl_judge_pat.mono _ _ _ _ _ _ _ _ _)
   | (with_reducible exact impl_shapeOk.mono _ _ _ _ _)
   | (with_reducible exact LeO.refl _)
   | (with_reducible exact LeO.none _)
   | (with_reducible refine LeO.ite ?_ ?_)
   | (with_reducible refine LeO.bind ?_ (fun _=>?_))
   | exact ih0 _ _ _ _ _ _ _ _
   | exact ih1 _ _ _ _ _ _ _ _ _
   | exact ih2 _ _ _ _ _ _ _ _ _
   | exact ih3 _ _ _ _ _ _ _ _ _ _ _
   | exact ih4 _ _ _ _ _ _
   | exact impl_judge_pat.mono _ _ _ _ _ _ _ _ _
   | exact impl_shapeOk.mono _ _ _ _ _
   | exact LeO.none _
   | refine LeO.ite ?_ ?_
   | refine LeO.bind ?_ (fun _=>?_)
  ·intro y0 y1 y2 y3 y4 y5 y6 y7 y8
   unfold impl_judge_expr.j0
   repeat' first
   | (with_reducible exact ih0 _ _ _ _ _ _ _ _)
   | (with_reducible exact ih1 _ _ _ _ _ _ _ _ _)
   | (with_reducible exact ih2 _ _ _ _ _ _ _ _ _)
   | (with_reducible exact ih3 _ _ _ _ _ _ _ _ _ _ _)
   | (with_reducible exact ih4 _ _ _ _ _ _)
   | (with_reducible exact impl_judge_pat.mono _ _ _ _ _ _ _ _ _)
   | (with_reducible exact impl_shapeOk.mono _ _ _ _ _)
   | (with_reducible exact LeO.refl _)
   | (with_reducible exact LeO.none _)
   | (with_reducible refine LeO.ite ?_ ?_)
   | (with_reducible refine LeO.bind ?_ (fun _=>?_))
   | exact ih0 _ _ _ _ _ _ _ _
   | exact ih1 _ _ _ _ _ _ _ _ _
   | exact ih2 _ _ _ _ _ _ _ _ _
   | exact ih3 _ _ _ _ _ _ _ _ _ _ _
   | exact ih4 _ _ _ _ _ _
   | exact impl_judge_pat.mono _ _ _ _ _ _ _ _ _
   | exact impl_shapeOk.mono _ _ _ _ _
   | exact LeO.none _
   | refine LeO.ite ?_ ?_
   | refine LeO.bind ?_ (fun _=>?_)
  ·intro y0 y1 y2 y3 y4 y5 y6 y7 y8
   unfold impl_judge_expr.j1
   repeat' first
   | (with_reducible exact ih0 _ _ _ _ _ _ _ _)
   | (with_reducible exact ih1 _ _ _ _ _ _ _ _ _)
   | (with_reducible exact ih2 _ _ _ _ _ _ _ _ _)
   | (with_reducible exact ih3 _ _ _ _ _ _ _ _ _ _ _)
   | (with_reducible exact ih4 _ _ _ _ _ _)
   | (with_reducible exact impl_judge_pat.mono _ _ _ _ _ _ _ _ _)
   | (with_reducible exact impl_shapeOk.mono _ _ _ _ _)
   | (with_reducible exact LeO.refl _)
   | (with_reducible exact LeO.none _)
   | (with_reducible refine LeO.ite ?_ ?_)
   | (with_reducible refine LeO.bind ?_ (fun _=>?_))
   | exact ih0 _ _ _ _ _ _ _ _
   | exact ih1 _ _ _ _ _ _ _ _ _
   | exact ih2 _ _ _ _ _ _ _ _ _
   | exact ih3 _ _ _ _ _ _ _ _ _ _ _
   | exact ih4 _ _ _ _ _ _
   | exact impl_judge_pat.mono _ _ _ _ _ _ _ _ _
   | exact impl_shapeOk.mono _ _ _ _ _
   | exact LeO.none _
   | refine LeO.ite ?_ ?_
   | refine LeO.bind ?_ (fun _=>?_)
  ·intro y0 y1 y2 y3 y4 y5 y6 y7 y8 y9 y10
   unfold impl_judge_expr.l0
   repeat' first
   | (with_reducible exact ih0 _ _ _ _ _ _ _ _)
   | (with_reducible exact ih1 _ _ _ _ _ _ _ _ _)
   | (with_reducible exact ih2 _ _ _ _ _ _ _ _ _)
   | (with_reducible exact ih3 _ _ _ _ _ _ _ _ _ _ _)
   | (with_reducible exact ih4 _ _ _ _ _ _)
   | (with_reducible exact impl_judge_pat.mono _ _ _ _ _ _ _ _ _)
   | (with_reducible exact impl_shapeOk.mono _ _ _ _ _)
   | (with_reducible exact LeO.refl _)
   | (with_reducible exact LeO.none _)
   | (with_reducible refine LeO.ite ?_ ?_)
   | (with_reducible refine LeO.bind ?_ (fun _=>?_))
   | exact ih0 _ _ _ _ _ _ _ _
   | exact ih1 _ _ _ _ _ _ _ _ _
   | exact ih2 _ _ _ _ _ _ _ _ _
   | exact ih3 _ _ _ _ _ _ _ _ _ _ _
   | exact ih4 _ _ _ _ _ _
   | exact impl_judge_pat.mono _ _ _ _ _ _ _ _ _
   | exact impl_shapeOk.mono _ _ _ _ _
   | exact LeO.none _
   | refine LeO.ite ?_ ?_
   | refine LeO.bind ?_ (fun _=>?_)
  ·intro y0 y1 y2 y3 y4 y5
   unfold impl_judge_expr.l1
   repeat' first
   | (with_reducible exact ih0 _ _ _ _ _ _ _ _)
   | (with_reducible exact ih1 _ _ _ _ _ _ _ _ _)
   | (with_reducible exact ih2 _ _ _ _ _ _ _ _ _)
   | (with_reducible exact ih3 _ _ _ _ _ _ _ _ _ _ _)
   | (with_reducible exact ih4 _ _ _ _ _ _)
   | (with_reducible exact impl_judge_pat.mono _ _ _ _ _ _ _ _ _)
   | (with_reducible exact impl_shapeOk.mono _ _ _ _ _)
   | (with_reducible exact LeO.refl _)
   | (with_reducible exact LeO.none _)
   | (with_reducible refine LeO.ite ?_ ?_)
   | (with_reducible refine LeO.bind ?_ (fun _=>?_))
   | exact ih0 _ _ _ _ _ _ _ _
   | exact ih1 _ _ _ _ _ _ _ _ _
   | exact ih2 _ _ _ _ _ _ _ _ _
   | exact ih3 _ _ _ _ _ _ _ _ _ _ _
   | exact ih4 _ _ _ _ _ _
   | exact impl_judge_pat.mono _ _ _ _ _ _ _ _ _
   | exact impl_shapeOk.mono _ _ _ _ _
   | exact LeO.none _
   | refine LeO.ite ?_ ?_
   | refine LeO.bind ?_ (fun _=>?_)
theorem impl_judge_expr.mono:∀ a0 a1 a2 a3 a4 a5 a6 a7 k,LeO (impl_judge_expr.f k a0 a1 a2 a3 a4 a5 a6 a7) (impl_judge_expr.f (k + 1) a0 a1 a2 a3 a4 a5 a6 a7):=by
 intro a0 a1 a2 a3 a4 a5 a6 a7 k
 obtain ⟨ih0,ih1,ih2,ih3,ih4⟩:=impl_judge_expr.mono_l k
 exact ih0 a0 a1 a2 a3 a4 a5 a6 a7
set_option maxHeartbeats 8000000 in
set_option maxRecDepth 100000 in
theorem impl_judge_expr.calls (k:Nat):∀ (g:Nat) (s0_0:Int) (P0_1_:Nat → Prop) (u9000_:Value) (l0_1:List ByteArray) (a1_0:Int) (a1_1:Int) (a1_2:ByteArray) (P1_3_:Nat → Prop) (A1_3:Option Addr) (c1_3:Nat) (l1_3:List (S31)) (P1_4_:Nat → Prop) (A1_4:Option Addr) (c1_4:Nat) (l1_4:List (S53)) (a2:Int) (r1:Bool) (r2:List ByteArray) (r3:Int) (w0 w:World) (hI:IsS42 w0 w g s0_0 u9000_) (hB:Below w0.heap.size w0 w) (ho0_1:Kd.R Kd.string 9 w w0.heap.size P0_1_ u9000_ l0_1) (hs1_3:Kd.V k31 31 w w0.heap.size (fun k_=>P1_3_ k_∧some k_≠(u9000_:Value).ownBlock∧k_≠g) (.slice A1_3 l1_3.length c1_3) l1_3) (hs1_4:Kd.V k53 53 w w0.heap.size (fun k_=>P1_4_ k_∧some k_≠(u9000_:Value).ownBlock∧k_≠g) (.slice A1_4 l1_4.length c1_4) l1_4) (h:impl_judge_expr.f k s0_0 l0_1 a1_0 a1_1 a1_2 l1_3 l1_4 a2 = some (r1,r2,r3)),
  Calls Try.prog 14 #[.pointer (some ⟨g,0,none⟩),.agg #[.int .i64 a1_0,.int .i64 a1_1,.string a1_2,.slice A1_3 l1_3.length c1_3,.slice A1_4 l1_4.length c1_4],.int .i64 a2] w fun e w'=>∃ v1_:Value,e = .returned (.bool r1)∧Kd.R Kd.string 9 w' w0.heap.size (fun k_=>(P0_1_ k_∨w.heap.size≤k_)) v1_ r2∧IsS42 w0 w' g r3 v1_∧Below w0.heap.size w0 w'∧Kept w w' (fun k_=>(P0_1_ k_)∨k_ = g):=by
 induction k using Nat.strongRecOn with
 | _ k ih =>
 intro g s0_0 P0_1_ u9000_ l0_1 a1_0 a1_1 a1_2 P1_3_ A1_3 c1_3 l1_3 P1_4_ A1_4 c1_4 l1_4 a2 r1 r2 r3 w0 w hI hB ho0_1 hs1_3 hs1_4 h
 cases k with
 | zero=>exact absurd h (by simp [impl_judge_expr.f])
 | succ k =>
 simp only [impl_judge_expr.f] at h
 have hu31:=Try.underlying31
 have hu53:=Try.underlying53
 have HO0_1:=Aside0.mk (show Kd.R Kd.string 9 w w0.heap.size (fun k_=>(P0_1_ k_∨w.heap.size≤k_)) u9000_ l0_1 from Kd.R_mono ho0_1 (fun k_ hk=>(.inl hk)))
 have HO1_3:=Aside0.mk (show Kd.V k31 31 w w0.heap.size (fun k_=>((P0_1_ k_∨P1_3_ k_∨P1_4_ k_)∨w.heap.size≤k_)∧some k_≠(u9000_:Value).ownBlock∧k_≠g) (.slice A1_3 l1_3.length c1_3) l1_3 from Kd.V_mono hs1_3 (fun k_ hk=>⟨.inl (.inr (.inl hk.1)),hk.2⟩))
 have HO1_4:=Aside0.mk (show Kd.V k53 53 w w0.heap.size (fun k_=>((P0_1_ k_∨P1_3_ k_∨P1_4_ k_)∨w.heap.size≤k_)∧some k_≠(u9000_:Value).ownBlock∧k_≠g) (.slice A1_4 l1_4.length c1_4) l1_4 from Kd.V_mono hs1_4 (fun k_ hk=>⟨.inl (.inr (.inr hk.1)),hk.2⟩))
 have HI0:=Aside0.mk hI
 have HL:=Aside0.mk hB.size
 clear hI
 have HK:=Aside0.mk (Kept.refl w (fun k_=>(P0_1_ k_)∨k_ = g))
 have HW0:=Aside0.mk hB.size
 have HB:=Aside0.mk hB
 clear hB
 have H:(if a2 > 10 then (impl_judge_expr.j0 k a2 true (wrap64 (s0_0 + 1)) l0_1 a1_0 a1_1 a1_2 l1_3 l1_4) else (if (wrap64 (s0_0 + 1)) > 300 then (impl_judge_expr.j0 k a2 true (wrap64 (s0_0 + 1)) l0_1 a1_0 a1_1 a1_2 l1_3 l1_4) else ((impl_shapeOk.f k a1_0 a1_1 a1_2 (l1_3.length:Int)).bind fun t266=>(if t266 = true then (if a1_0 = 3 then (impl_judge_expr.j0 k a2 (a1_2.toList == ([95]:List UInt8)) (wrap64 (s0_0 + 1)) l0_1 a1_0 a1_1 a1_2 l1_3 l1_4) else (impl_judge_expr.j0 k a2 false (wrap64 (s0_0 + 1)) l0_1 a1_0 a1_1 a1_2 l1_3 l1_4)) else (impl_judge_expr.j0 k a2 true (wrap64 (s0_0 + 1)) l0_1 a1_0 a1_1 a1_2 l1_3 l1_4))))) = some (r1,r2,r3):=h
 clear h
 have HC4:=Aside0.mk H
 clear H
 go_enter Try.func14,Try.ntmps14
 go_upto_region 2 with (first|((with_reducible refine gate_dst (N:=4) rfl ?_);(try (refine gate_guard (by rfl) ?_;dsimp only));refine box_event ?hg (N:=4) ?hd (cs:=#[.int .i64 a1_0,.int .i64 a1_1,.string a1_2,.slice A1_3 l1_3.length c1_3,.slice A1_4 l1_4.length c1_4]) (t:=31) ?hr ?_;(case hd=>rfl);(case hg=>rfl);(case hr=>first|(go_simp;done)|(go_simp;rfl));intro gb265 hg w5 hbox hb;have n0_:=Aside0.mk (Kd.R_below (by (with_reducible repeat (first|apply Kd.R_alloc|apply Kd.R_drewN|apply Kd.R_drew));exact HO0_1.out) hb);have n1_:=Aside0.mk (Kd.V_below (Kd.V_elderB (by (with_reducible repeat (first|apply Kd.V_alloc|apply Kd.V_drewN|apply Kd.V_drew));exact HO1_3.out) gb265 (Nat.le_of_eq hg.symm)) hb);have n2_:=Aside0.mk (Kd.V_below (Kd.V_elderB (by (with_reducible repeat (first|apply Kd.V_alloc|apply Kd.V_drewN|apply Kd.V_drew));exact HO1_4.out) gb265 (Nat.le_of_eq hg.symm)) hb);have n3_:=Aside0.mk (IsS42.below (by repeat (first|(with_reducible first|exact HI0.out|apply IsS42.alloc|apply IsS42.drewN|apply IsS42.drew|apply IsS42.set_0|apply IsS42.set_1)|exact HI0.out)) hb);have n4_:=Aside0.mk (Kept.below (S:=(fun k_=>(P0_1_ k_)∨k_ = g)) (by repeat (first|(with_reducible first|exact HK.out|apply Kept.alloc|apply Kept.drewN|apply Kept.drew|refine Kept.setCell ?_ (.inl (.inr rfl)) _)|exact HK.out)) hb);have n5_:=Aside0.mk (below_step (by repeat (first|(with_reducible first|exact HB.out|apply below_alloc|apply pw_below_drewN|apply below_drew1|refine below_set ?_ (IsS42.ge HI0.out))|exact HB.out)) hb);have n6_:=Aside0.mk (hbox);have n7_:=Aside0.mk ((by rw [hg];exact (by first|exact HK.out.1|exact (show Kept w _ (fun k_=>(P0_1_ k_)∨k_ = g) from by repeat (first|(with_reducible first|exact HK.out|apply Kept.alloc|apply Kept.drewN|apply Kept.drew|refine Kept.setCell ?_ (.inl (.inr rfl)) _)|exact HK.out)).1):w.heap.size≤gb265));have n8_:=Aside0.mk ((by rw [hg];exact (below_size (by repeat (first|(with_reducible first|exact HB.out|apply below_alloc|apply pw_below_drewN|apply below_drew1|refine below_set ?_ (IsS42.ge HI0.out))|exact HB.out))):w0.heap.size≤gb265));have n9_:=Aside0.mk ((by rw [hg];exact Nat.ne_of_lt (IsS42.lt (show IsS42 w0 _ g s0_0 u9000_ from by repeat (first|(with_reducible first|exact HI0.out|apply IsS42.alloc|apply IsS42.drewN|apply IsS42.drew|apply IsS42.set_0|apply IsS42.set_1)|exact HI0.out))):g≠gb265));have n10_:=Aside0.mk ((by rw [hg];exact Nat.ne_of_gt (IsS42.lt (show IsS42 w0 _ g s0_0 u9000_ from by repeat (first|(with_reducible first|exact HI0.out|apply IsS42.alloc|apply IsS42.drewN|apply IsS42.drew|apply IsS42.set_0|apply IsS42.set_1)|exact HI0.out))):gb265≠g));clear HO0_1;clear HO1_3;clear HO1_4;clear HI0;clear HK;clear HB;have HO0_1:=n0_;have HO1_3:=n1_;have HO1_4:=n2_;have HI0:=n3_;have HK:=n4_;have HB:=n5_;have BK265:=n6_;have GW265:=n7_;have GE265:=n8_;have NB0_265:=n9_;have NB265_0:=n10_;clear n0_ n1_ n2_ n3_ n4_ n5_ n6_ n7_ n8_ n9_ n10_;clear hb hbox hg;obtain ⟨HGz6,hgz6⟩:=HI0.out;have hcz6_0:=cellS42_0 HGz6;have hcz6_1:=cellS42_1 HGz6;have hfz6_0:=blk_frozen HGz6 0;have hfz6_1:=blk_frozen HGz6 1;clear HGz6 hgz6))
 (try simp only [Act.put,List.setIfInBounds_toArray,List.set_cons_zero,List.set_cons_succ])
 go_cut [49] (fun v49 wc=>∃ (kq:Nat) (x49_3:Bool),v49 = .bool x49_3∧Aside0 (impl_judge_expr.j0 kq a2 x49_3 (wrap64 (s0_0 + 1)) l0_1 a1_0 a1_1 a1_2 l1_3 l1_4 = some (r1,r2,r3))∧Aside0 (kq≤k)∧Aside0 (Kd.R Kd.string 9 wc w0.heap.size (fun k_=>(P0_1_ k_∨w.heap.size≤k_)) u9000_ l0_1)∧Aside0 (Kd.V k31 31 wc w0.heap.size (fun k_=>((P0_1_ k_∨P1_3_ k_∨P1_4_ k_)∨w.heap.size≤k_)∧some k_≠(u9000_:Value).ownBlock∧k_≠gb265∧k_≠g) (.slice A1_3 l1_3.length c1_3) l1_3)∧Aside0 (Kd.V k53 53 wc w0.heap.size (fun k_=>((P0_1_ k_∨P1_3_ k_∨P1_4_ k_)∨w.heap.size≤k_)∧some k_≠(u9000_:Value).ownBlock∧k_≠gb265∧k_≠g) (.slice A1_4 l1_4.length c1_4) l1_4)∧Aside0 (wc.heap[gb265]? = some (.cells #[.int .i64 a1_0,.int .i64 a1_1,.string a1_2,(.slice A1_3 l1_3.length c1_3),(.slice A1_4 l1_4.length c1_4)] 31 (0,0)))∧Aside0 (IsS42 w0 wc g (wrap64 (s0_0 + 1)) u9000_)∧Aside0 (Kept w wc (fun k_=>(P0_1_ k_)∨k_ = g))∧Aside0 (Below w0.heap.size w0 wc))
 case first =>
  have H:=HC4.out
  clear HC4
  by_cases c7:a2 > 10
  ·rw [if_pos c7] at H
   have c7b0:decide (10 < a2) = true:=decide_eq_true c7
   clear c7
   (first|rw [c7b0]|(simp only [i64_w,i32_w];rw [c7b0])|(simp only [c7b2,Bool.not_true,Bool.not_false])|skip)
   have H':=Aside0.mk H
   clear H
   go_wp2
   go_meet
   case rel=>exact ⟨_,(true),(by first|rfl|(simp;done)|(simp [*];done)),H',⟨by first|omega|exact Nat.le_refl _⟩,⟨by (with_reducible repeat (first|apply Kd.R_alloc|apply Kd.R_drewN|apply Kd.R_drew));exact Kd.R_mono (Kd.R_far (p:=⟨g,0,none⟩) (IsS42.apart HI0.out HO0_1.out (by decide)) (fun _ hk=>hk.2) (.int .i64 (wrap64 (s0_0 + 1)))) (fun _ hk=>hk.1)⟩,⟨by (with_reducible repeat (first|apply Kd.V_alloc|apply Kd.V_drewN|apply Kd.V_drew));exact Kd.V_mono (Kd.V_far (p:=⟨g,0,none⟩) (Kd.V_mono HO1_3.out (fun k_ hk=>(⟨hk,hk.1.2.2⟩:_∧k_≠g))) (fun _ hk=>hk.2) (.int .i64 (wrap64 (s0_0 + 1)))) (fun _ hk=>⟨hk.1.1.1,⟨hk.1.1.2.1,⟨hk.1.2,hk.1.1.2.2⟩⟩⟩)⟩,⟨by (with_reducible repeat (first|apply Kd.V_alloc|apply Kd.V_drewN|apply Kd.V_drew));exact Kd.V_mono (Kd.V_far (p:=⟨g,0,none⟩) (Kd.V_mono HO1_4.out (fun k_ hk=>(⟨hk,hk.1.2.2⟩:_∧k_≠g))) (fun _ hk=>hk.2) (.int .i64 (wrap64 (s0_0 + 1)))) (fun _ hk=>⟨hk.1.1.1,⟨hk.1.1.2.1,⟨hk.1.2,hk.1.1.2.2⟩⟩⟩)⟩,⟨by (with_reducible repeat (first|refine blk_drewN ?_ _|refine blk_drew ?_|refine blk_alloc ?_ _));refine blk_far ?_ NB265_0.out _;(with_reducible repeat (first|refine blk_drewN ?_ _|refine blk_drew ?_|refine blk_alloc ?_ _));exact BK265.out⟩,⟨by repeat (first|(with_reducible first|exact HI0.out|apply IsS42.alloc|apply IsS42.drewN|apply IsS42.drew|apply IsS42.set_0|apply IsS42.set_1|refine IsS42.far ?_ NB0_265.out _)|exact HI0.out)⟩,⟨by repeat (first|(with_reducible first|exact HK.out|apply Kept.alloc|apply Kept.drewN|apply Kept.drew|refine Kept.setCell ?_ (.inl (.inr rfl)) _|refine Kept.setCell ?_ (.inr GW265.out) _)|exact HK.out)⟩,⟨by repeat (first|(with_reducible first|exact HB.out|apply below_alloc|apply pw_below_drewN|apply below_drew1|refine below_set ?_ (IsS42.ge HI0.out)|refine below_set ?_ GE265.out)|exact HB.out)⟩⟩
  ·rw [if_neg c7] at H
   have c7b0:decide (10 < a2) = false:=decide_eq_false c7
   clear c7
   (first|rw [c7b0]|(simp only [i64_w,i32_w];rw [c7b0])|(simp only [c7b2,Bool.not_true,Bool.not_false])|skip)
   by_cases c8:(wrap64 (s0_0 + 1)) > 300
   ·rw [if_pos c8] at H
    have c8b0:decide (300 < (wrap64 (s0_0 + 1))) = true:=decide_eq_true c8
    clear c8
    have H':=Aside0.mk H
    clear H
    obtain ⟨HGz9,hgz9⟩:=HI0.out
    have hcz9_0:=cellS42_0 HGz9
    have hcz9_1:=cellS42_1 HGz9
    have hfz9_0:=blk_frozen HGz9 0
    have hfz9_1:=blk_frozen HGz9 1
    clear HGz9 hgz9
    go_wp2
    go_meet
    case rel=>exact ⟨_,(true),(by first|rfl|(simp;done)|(simp [*];done)),H',⟨by first|omega|exact Nat.le_refl _⟩,⟨by (with_reducible repeat (first|apply Kd.R_alloc|apply Kd.R_drewN|apply Kd.R_drew));exact Kd.R_mono (Kd.R_far (p:=⟨g,0,none⟩) (IsS42.apart HI0.out HO0_1.out (by decide)) (fun _ hk=>hk.2) (.int .i64 (wrap64 (s0_0 + 1)))) (fun _ hk=>hk.1)⟩,⟨by (with_reducible repeat (first|apply Kd.V_alloc|apply Kd.V_drewN|apply Kd.V_drew));exact Kd.V_mono (Kd.V_far (p:=⟨g,0,none⟩) (Kd.V_mono HO1_3.out (fun k_ hk=>(⟨hk,hk.1.2.2⟩:_∧k_≠g))) (fun _ hk=>hk.2) (.int .i64 (wrap64 (s0_0 + 1)))) (fun _ hk=>⟨hk.1.1.1,⟨hk.1.1.2.1,⟨hk.1.2,hk.1.1.2.2⟩⟩⟩)⟩,⟨by (with_reducible repeat (first|apply Kd.V_alloc|apply Kd.V_drewN|apply Kd.V_drew));exact Kd.V_mono (Kd.V_far (p:=⟨g,0,none⟩) (Kd.V_mono HO1_4.out (fun k_ hk=>(⟨hk,hk.1.2.2⟩:_∧k_≠g))) (fun _ hk=>hk.2) (.int .i64 (wrap64 (s0_0 + 1)))) (fun _ hk=>⟨hk.1.1.1,⟨hk.1.1.2.1,⟨hk.1.2,hk.1.1.2.2⟩⟩⟩)⟩,⟨by (with_reducible repeat (first|refine blk_drewN ?_ _|refine blk_drew ?_|refine blk_alloc ?_ _));refine blk_far ?_ NB265_0.out _;(with_reducible repeat (first|refine blk_drewN ?_ _|refine blk_drew ?_|refine blk_alloc ?_ _));exact BK265.out⟩,⟨by repeat (first|(with_reducible first|exact HI0.out|apply IsS42.alloc|apply IsS42.drewN|apply IsS42.drew|apply IsS42.set_0|apply IsS42.set_1|refine IsS42.far ?_ NB0_265.out _)|exact HI0.out)⟩,⟨by repeat (first|(with_reducible first|exact HK.out|apply Kept.alloc|apply Kept.drewN|apply Kept.drew|refine Kept.setCell ?_ (.inl (.inr rfl)) _|refine Kept.setCell ?_ (.inr GW265.out) _)|exact HK.out)⟩,⟨by repeat (first|(with_reducible first|exact HB.out|apply below_alloc|apply pw_below_drewN|apply below_drew1|refine below_set ?_ (IsS42.ge HI0.out)|refine below_set ?_ GE265.out)|exact HB.out)⟩⟩
   ·rw [if_neg c8] at H
    have c8b0:decide (300 < (wrap64 (s0_0 + 1))) = false:=decide_eq_false c8
    clear c8
    replace H:=Option.bind_eq_some_iff.mp H
    obtain ⟨t266,A100,H⟩:=H
    replace H:(if t266 = true then (if a1_0 = 3 then (impl_judge_expr.j0 k a2 (a1_2.toList == ([95]:List UInt8)) (wrap64 (s0_0 + 1)) l0_1 a1_0 a1_1 a1_2 l1_3 l1_4) else (impl_judge_expr.j0 k a2 false (wrap64 (s0_0 + 1)) l0_1 a1_0 a1_1 a1_2 l1_3 l1_4)) else (impl_judge_expr.j0 k a2 true (wrap64 (s0_0 + 1)) l0_1 a1_0 a1_1 a1_2 l1_3 l1_4)) = some (r1,r2,r3):=H
    have A10:=Aside0.mk A100
    clear A100
    by_cases c11:t266 = true
    ·subst c11
     have H1:(if a1_0 = 3 then (impl_judge_expr.j0 k a2 (a1_2.toList == ([95]:List UInt8)) (wrap64 (s0_0 + 1)) l0_1 a1_0 a1_1 a1_2 l1_3 l1_4) else (impl_judge_expr.j0 k a2 false (wrap64 (s0_0 + 1)) l0_1 a1_0 a1_1 a1_2 l1_3 l1_4)) = some (r1,r2,r3):=by rw [if_pos rfl] at H;exact H
     clear H
     have H:=H1
     clear H1
     by_cases c12:a1_0 = 3
     ·rw [if_pos c12] at H
      have c12b0:(a1_0 == 3) = true:=beq_iff_eq.mpr c12
      have c12b1:(a1_0 != 3) = false:=bne_eq_false_iff_eq.mpr c12
      clear c12
      have H':=Aside0.mk H
      clear H
      obtain ⟨HGz13,hgz13⟩:=HI0.out
      have hcz13_0:=cellS42_0 HGz13
      have hcz13_1:=cellS42_1 HGz13
      have hfz13_0:=blk_frozen HGz13 0
      have hfz13_1:=blk_frozen HGz13 1
      clear HGz13 hgz13
      have hnb14:=NB265_0.out
      have hnc14:=NB0_265.out
      have hcz15_0:w5.cell? ⟨gb265,0,none⟩ = some (.int .i64 a1_0):=(blk_cell BK265.out 0).trans rfl
      have hcz15_1:w5.cell? ⟨gb265,1,none⟩ = some (.int .i64 a1_1):=(blk_cell BK265.out 1).trans rfl
      have hcz15_2:w5.cell? ⟨gb265,2,none⟩ = some (.string a1_2):=(blk_cell BK265.out 2).trans rfl
      have hcz15_3:w5.cell? ⟨gb265,3,none⟩ = some (.slice A1_3 l1_3.length c1_3):=(blk_cell BK265.out 3).trans rfl
      have hcz15_4:w5.cell? ⟨gb265,4,none⟩ = some (.slice A1_4 l1_4.length c1_4):=(blk_cell BK265.out 4).trans rfl
      have hfz15_0:=blk_frozen BK265.out 0
      have hfz15_1:=blk_frozen BK265.out 1
      have hfz15_2:=blk_frozen BK265.out 2
      have hfz15_3:=blk_frozen BK265.out 3
      have hfz15_4:=blk_frozen BK265.out 4
      go_wp2_with (first|(go_at_call 22;(with_reducible refine (impl_shapeOk.calls k a1_0 a1_1 a1_2 (l1_3.length:Int) true _ A10.out).mono ?_);rintro e w' ⟨rfl,⟨nd,rfl⟩⟩))
      go_meet
      case rel=>exact ⟨_,((a1_2.toList == ([95]:List UInt8))),(by first|rfl|(simp;done)|(simp [*];done)),H',⟨by first|omega|exact Nat.le_refl _⟩,⟨by (with_reducible repeat (first|apply Kd.R_alloc|apply Kd.R_drewN|apply Kd.R_drew));exact Kd.R_mono (Kd.R_far (p:=⟨g,0,none⟩) (IsS42.apart HI0.out HO0_1.out (by decide)) (fun _ hk=>hk.2) (.int .i64 (wrap64 (s0_0 + 1)))) (fun _ hk=>hk.1)⟩,⟨by (with_reducible repeat (first|apply Kd.V_alloc|apply Kd.V_drewN|apply Kd.V_drew));exact Kd.V_mono (Kd.V_far (p:=⟨g,0,none⟩) (Kd.V_mono HO1_3.out (fun k_ hk=>(⟨hk,hk.1.2.2⟩:_∧k_≠g))) (fun _ hk=>hk.2) (.int .i64 (wrap64 (s0_0 + 1)))) (fun _ hk=>⟨hk.1.1.1,⟨hk.1.1.2.1,⟨hk.1.2,hk.1.1.2.2⟩⟩⟩)⟩,⟨by (with_reducible repeat (first|apply Kd.V_alloc|apply Kd.V_drewN|apply Kd.V_drew));exact Kd.V_mono (Kd.V_far (p:=⟨g,0,none⟩) (Kd.V_mono HO1_4.out (fun k_ hk=>(⟨hk,hk.1.2.2⟩:_∧k_≠g))) (fun _ hk=>hk.2) (.int .i64 (wrap64 (s0_0 + 1)))) (fun _ hk=>⟨hk.1.1.1,⟨hk.1.1.2.1,⟨hk.1.2,hk.1.1.2.2⟩⟩⟩)⟩,⟨by (with_reducible repeat (first|refine blk_drewN ?_ _|refine blk_drew ?_|refine blk_alloc ?_ _));refine blk_far ?_ NB265_0.out _;(with_reducible repeat (first|refine blk_drewN ?_ _|refine blk_drew ?_|refine blk_alloc ?_ _));exact BK265.out⟩,⟨by repeat (first|(with_reducible first|exact HI0.out|apply IsS42.alloc|apply IsS42.drewN|apply IsS42.drew|apply IsS42.set_0|apply IsS42.set_1|refine IsS42.far ?_ NB0_265.out _)|exact HI0.out)⟩,⟨by repeat (first|(with_reducible first|exact HK.out|apply Kept.alloc|apply Kept.drewN|apply Kept.drew|refine Kept.setCell ?_ (.inl (.inr rfl)) _|refine Kept.setCell ?_ (.inr GW265.out) _)|exact HK.out)⟩,⟨by repeat (first|(with_reducible first|exact HB.out|apply below_alloc|apply pw_below_drewN|apply below_drew1|refine below_set ?_ (IsS42.ge HI0.out)|refine below_set ?_ GE265.out)|exact HB.out)⟩⟩
     ·rw [if_neg c12] at H
      have c12b0:(a1_0 == 3) = false:=beq_eq_false_iff_ne.mpr c12
      have c12b1:(a1_0 != 3) = true:=bne_iff_ne.mpr c12
      have H':=Aside0.mk H
      clear H
      obtain ⟨HGz16,hgz16⟩:=HI0.out
      have hcz16_0:=cellS42_0 HGz16
      have hcz16_1:=cellS42_1 HGz16
      have hfz16_0:=blk_frozen HGz16 0
      have hfz16_1:=blk_frozen HGz16 1
      clear HGz16 hgz16
      have hnb17:=NB265_0.out
      have hnc17:=NB0_265.out
      have hcz18_0:w5.cell? ⟨gb265,0,none⟩ = some (.int .i64 a1_0):=(blk_cell BK265.out 0).trans rfl
      have hcz18_1:w5.cell? ⟨gb265,1,none⟩ = some (.int .i64 a1_1):=(blk_cell BK265.out 1).trans rfl
      have hcz18_2:w5.cell? ⟨gb265,2,none⟩ = some (.string a1_2):=(blk_cell BK265.out 2).trans rfl
      have hcz18_3:w5.cell? ⟨gb265,3,none⟩ = some (.slice A1_3 l1_3.length c1_3):=(blk_cell BK265.out 3).trans rfl
      have hcz18_4:w5.cell? ⟨gb265,4,none⟩ = some (.slice A1_4 l1_4.length c1_4):=(blk_cell BK265.out 4).trans rfl
      have hfz18_0:=blk_frozen BK265.out 0
      have hfz18_1:=blk_frozen BK265.out 1
      have hfz18_2:=blk_frozen BK265.out 2
      have hfz18_3:=blk_frozen BK265.out 3
      have hfz18_4:=blk_frozen BK265.out 4
      go_wp2_with (first|(go_at_call 22;(with_reducible refine (impl_shapeOk.calls k a1_0 a1_1 a1_2 (l1_3.length:Int) true _ A10.out).mono ?_);rintro e w' ⟨rfl,⟨nd,rfl⟩⟩))
      go_meet
      case rel=>exact ⟨_,(false),(by first|rfl|(simp;done)|(simp [*];done)),H',⟨by first|omega|exact Nat.le_refl _⟩,⟨by (with_reducible repeat (first|apply Kd.R_alloc|apply Kd.R_drewN|apply Kd.R_drew));exact Kd.R_mono (Kd.R_far (p:=⟨g,0,none⟩) (IsS42.apart HI0.out HO0_1.out (by decide)) (fun _ hk=>hk.2) (.int .i64 (wrap64 (s0_0 + 1)))) (fun _ hk=>hk.1)⟩,⟨by (with_reducible repeat (first|apply Kd.V_alloc|apply Kd.V_drewN|apply Kd.V_drew));exact Kd.V_mono (Kd.V_far (p:=⟨g,0,none⟩) (Kd.V_mono HO1_3.out (fun k_ hk=>(⟨hk,hk.1.2.2⟩:_∧k_≠g))) (fun _ hk=>hk.2) (.int .i64 (wrap64 (s0_0 + 1)))) (fun _ hk=>⟨hk.1.1.1,⟨hk.1.1.2.1,⟨hk.1.2,hk.1.1.2.2⟩⟩⟩)⟩,⟨by (with_reducible repeat (first|apply Kd.V_alloc|apply Kd.V_drewN|apply Kd.V_drew));exact Kd.V_mono (Kd.V_far (p:=⟨g,0,none⟩) (Kd.V_mono HO1_4.out (fun k_ hk=>(⟨hk,hk.1.2.2⟩:_∧k_≠g))) (fun _ hk=>hk.2) (.int .i64 (wrap64 (s0_0 + 1)))) (fun _ hk=>⟨hk.1.1.1,⟨hk.1.1.2.1,⟨hk.1.2,hk.1.1.2.2⟩⟩⟩)⟩,⟨by (with_reducible repeat (first|refine blk_drewN ?_ _|refine blk_drew ?_|refine blk_alloc ?_ _));refine blk_far ?_ NB265_0.out _;(with_reducible repeat (first|refine blk_drewN ?_ _|refine blk_drew ?_|refine blk_alloc ?_ _));exact BK265.out⟩,⟨by repeat (first|(with_reducible first|exact HI0.out|apply IsS42.alloc|apply IsS42.drewN|apply IsS42.drew|apply IsS42.set_0|apply IsS42.set_1|refine IsS42.far ?_ NB0_265.out _)|exact HI0.out)⟩,⟨by repeat (first|(with_reducible first|exact HK.out|apply Kept.alloc|apply Kept.drewN|apply Kept.drew|refine Kept.setCell ?_ (.inl (.inr rfl)) _|refine Kept.setCell ?_ (.inr GW265.out) _)|exact HK.out)⟩,⟨by repeat (first|(with_reducible first|exact HB.out|apply below_alloc|apply pw_below_drewN|apply below_drew1|refine below_set ?_ (IsS42.ge HI0.out)|refine below_set ?_ GE265.out)|exact HB.out)⟩⟩
    ·replace c11:=Bool.eq_false_iff.mpr c11
     subst c11
     have H1:(impl_judge_expr.j0 k a2 true (wrap64 (s0_0 + 1)) l0_1 a1_0 a1_1 a1_2 l1_3 l1_4) = some (r1,r2,r3):=by rw [if_neg (show ¬ (false = true) by decide)] at H;exact H
     clear H
     have H:=H1
     clear H1
     have H':=Aside0.mk H
     clear H
     obtain ⟨HGz19,hgz19⟩:=HI0.out
     have hcz19_0:=cellS42_0 HGz19
     have hcz19_1:=cellS42_1 HGz19
     have hfz19_0:=blk_frozen HGz19 0
     have hfz19_1:=blk_frozen HGz19 1
     clear HGz19 hgz19
     have hnb20:=NB265_0.out
     have hnc20:=NB0_265.out
     have hcz21_0:w5.cell? ⟨gb265,0,none⟩ = some (.int .i64 a1_0):=(blk_cell BK265.out 0).trans rfl
     have hcz21_1:w5.cell? ⟨gb265,1,none⟩ = some (.int .i64 a1_1):=(blk_cell BK265.out 1).trans rfl
     have hcz21_2:w5.cell? ⟨gb265,2,none⟩ = some (.string a1_2):=(blk_cell BK265.out 2).trans rfl
     have hcz21_3:w5.cell? ⟨gb265,3,none⟩ = some (.slice A1_3 l1_3.length c1_3):=(blk_cell BK265.out 3).trans rfl
     have hcz21_4:w5.cell? ⟨gb265,4,none⟩ = some (.slice A1_4 l1_4.length c1_4):=(blk_cell BK265.out 4).trans rfl
     have hfz21_0:=blk_frozen BK265.out 0
     have hfz21_1:=blk_frozen BK265.out 1
     have hfz21_2:=blk_frozen BK265.out 2
     have hfz21_3:=blk_frozen BK265.out 3
     have hfz21_4:=blk_frozen BK265.out 4
     go_wp2_with (first|(go_at_call 22;(with_reducible refine (impl_shapeOk.calls k a1_0 a1_1 a1_2 (l1_3.length:Int) false _ A10.out).mono ?_);rintro e w' ⟨rfl,⟨nd,rfl⟩⟩))
     go_meet
     case rel=>exact ⟨_,(true),(by first|rfl|(simp;done)|(simp [*];done)),H',⟨by first|omega|exact Nat.le_refl _⟩,⟨by (with_reducible repeat (first|apply Kd.R_alloc|apply Kd.R_drewN|apply Kd.R_drew));exact Kd.R_mono (Kd.R_far (p:=⟨g,0,none⟩) (IsS42.apart HI0.out HO0_1.out (by decide)) (fun _ hk=>hk.2) (.int .i64 (wrap64 (s0_0 + 1)))) (fun _ hk=>hk.1)⟩,⟨by (with_reducible repeat (first|apply Kd.V_alloc|apply Kd.V_drewN|apply Kd.V_drew));exact Kd.V_mono (Kd.V_far (p:=⟨g,0,none⟩) (Kd.V_mono HO1_3.out (fun k_ hk=>(⟨hk,hk.1.2.2⟩:_∧k_≠g))) (fun _ hk=>hk.2) (.int .i64 (wrap64 (s0_0 + 1)))) (fun _ hk=>⟨hk.1.1.1,⟨hk.1.1.2.1,⟨hk.1.2,hk.1.1.2.2⟩⟩⟩)⟩,⟨by (with_reducible repeat (first|apply Kd.V_alloc|apply Kd.V_drewN|apply Kd.V_drew));exact Kd.V_mono (Kd.V_far (p:=⟨g,0,none⟩) (Kd.V_mono HO1_4.out (fun k_ hk=>(⟨hk,hk.1.2.2⟩:_∧k_≠g))) (fun _ hk=>hk.2) (.int .i64 (wrap64 (s0_0 + 1)))) (fun _ hk=>⟨hk.1.1.1,⟨hk.1.1.2.1,⟨hk.1.2,hk.1.1.2.2⟩⟩⟩)⟩,⟨by (with_reducible repeat (first|refine blk_drewN ?_ _|refine blk_drew ?_|refine blk_alloc ?_ _));refine blk_far ?_ NB265_0.out _;(with_reducible repeat (first|refine blk_drewN ?_ _|refine blk_drew ?_|refine blk_alloc ?_ _));exact BK265.out⟩,⟨by repeat (first|(with_reducible first|exact HI0.out|apply IsS42.alloc|apply IsS42.drewN|apply IsS42.drew|apply IsS42.set_0|apply IsS42.set_1|refine IsS42.far ?_ NB0_265.out _)|exact HI0.out)⟩,⟨by repeat (first|(with_reducible first|exact HK.out|apply Kept.alloc|apply Kept.drewN|apply Kept.drew|refine Kept.setCell ?_ (.inl (.inr rfl)) _|refine Kept.setCell ?_ (.inr GW265.out) _)|exact HK.out)⟩,⟨by repeat (first|(with_reducible first|exact HB.out|apply below_alloc|apply pw_below_drewN|apply below_drew1|refine below_set ?_ (IsS42.ge HI0.out)|refine below_set ?_ GE265.out)|exact HB.out)⟩⟩
 case rest =>
  clear HC4
  try clear c1
  try clear c2
  try clear p2
  try clear p6
  try clear c7
  try clear c7b0
  try clear c7b2
  try clear c8
  try clear c8b0
  try clear c11
  try clear c12
  try clear c12b0
  try clear c12b1
  try clear c14
  try clear c17
  try clear c20
  try clear hcz13_0
  try clear hcz13_1
  try clear hcz15_0
  try clear hcz15_1
  try clear hcz15_2
  try clear hcz15_3
  try clear hcz15_4
  try clear hcz16_0
  try clear hcz16_1
  try clear hcz18_0
  try clear hcz18_1
  try clear hcz18_2
  try clear hcz18_3
  try clear hcz18_4
  try clear hcz19_0
  try clear hcz19_1
  try clear hcz21_0
  try clear hcz21_1
  try clear hcz21_2
  try clear hcz21_3
  try clear hcz21_4
  try clear hcz6_0
  try clear hcz6_1
  try clear hcz9_0
  try clear hcz9_1
  try clear hfz13_0
  try clear hfz13_1
  try clear hfz15_0
  try clear hfz15_1
  try clear hfz15_2
  try clear hfz15_3
  try clear hfz15_4
  try clear hfz16_0
  try clear hfz16_1
  try clear hfz18_0
  try clear hfz18_1
  try clear hfz18_2
  try clear hfz18_3
  try clear hfz18_4
  try clear hfz19_0
  try clear hfz19_1
  try clear hfz21_0
  try clear hfz21_1
  try clear hfz21_2
  try clear hfz21_3
  try clear hfz21_4
  try clear hfz6_0
  try clear hfz6_1
  try clear hfz9_0
  try clear hfz9_1
  try clear HO_1001
  try clear HO_266003
  try clear HO_266004
  try clear BK265
  try clear HI0
  try clear HK
  try clear HB
  obtain ⟨kq,x49_3,rfl,HA,HJ3,HO_1001,HO_266003,HO_266004,BK265,HI0,HK,HB⟩:=hcut
  cases kq with
  | zero=>exact absurd HA.out (by simp [impl_judge_expr.j0])
  | succ kj3 =>
   have H:=HA.out
   clear HA
   simp only [impl_judge_expr.j0] at H
   by_cases c22:x49_3 = true
   ·subst c22
    have H1:(some (false,l0_1,(wrap64 (s0_0 + 1)))) = some (r1,r2,r3):=by rw [if_pos rfl] at H;exact H
    clear H
    have H:=H1
    clear H1
    simp only [Option.some.injEq,Prod.mk.injEq] at H
    obtain ⟨rfl,rfl,rfl⟩:=H
    go_wp2
    go_ret
    exact ⟨_,by first|rfl|(simp [*,errW_none,errW_some] <;> rfl),by (with_reducible repeat (first|apply Kd.R_alloc|apply Kd.R_drewN|apply Kd.R_drew));exact HO_1001.out,by repeat (first|(with_reducible first|exact HI0.out|apply IsS42.alloc|apply IsS42.drewN|apply IsS42.drew|apply IsS42.set_0|apply IsS42.set_1|refine IsS42.far ?_ NB0_265.out _)|exact HI0.out),by repeat (first|(with_reducible first|exact HB.out|apply below_alloc|apply pw_below_drewN|apply below_drew1|refine below_set ?_ (IsS42.ge HI0.out)|refine below_set ?_ GE265.out)|exact HB.out),by repeat (first|(with_reducible first|exact HK.out|apply Kept.alloc|apply Kept.drewN|apply Kept.drew|refine Kept.setCell ?_ (.inl (.inr rfl)) _|refine Kept.setCell ?_ (.inr GW265.out) _)|exact HK.out)⟩
   ·replace c22:=Bool.eq_false_iff.mpr c22
    subst c22
    have H1:(if ((a1_0 == 9) != (decide ((l1_4.length:Int) > 0))) = true then (impl_judge_expr.j1 kj3 a2 true (wrap64 (s0_0 + 1)) l0_1 a1_0 a1_1 a1_2 l1_3 l1_4) else (impl_judge_expr.j1 kj3 a2 (decide ((l1_4.length:Int) > 6)) (wrap64 (s0_0 + 1)) l0_1 a1_0 a1_1 a1_2 l1_3 l1_4)) = some (r1,r2,r3):=by rw [if_neg (show ¬ (false = true) by decide)] at H;exact H
    clear H
    have H:=H1
    clear H1
    have HC23:=Aside0.mk H
    clear H
    go_upto_region 4 with (fail)
    go_cut [63] (fun v63 wc=>∃ (kq:Nat) (x63_22:Bool),v63 = .bool x63_22∧Aside0 (impl_judge_expr.j1 kq a2 x63_22 (wrap64 (s0_0 + 1)) l0_1 a1_0 a1_1 a1_2 l1_3 l1_4 = some (r1,r2,r3))∧Aside0 (kq≤kj3)∧Aside0 (Kd.R Kd.string 9 wc w0.heap.size (fun k_=>(P0_1_ k_∨w.heap.size≤k_)) u9000_ l0_1)∧Aside0 (Kd.V k31 31 wc w0.heap.size (fun k_=>((P0_1_ k_∨P1_3_ k_∨P1_4_ k_)∨w.heap.size≤k_)∧some k_≠(u9000_:Value).ownBlock∧k_≠gb265∧k_≠g) (.slice A1_3 l1_3.length c1_3) l1_3)∧Aside0 (Kd.V k53 53 wc w0.heap.size (fun k_=>((P0_1_ k_∨P1_3_ k_∨P1_4_ k_)∨w.heap.size≤k_)∧some k_≠(u9000_:Value).ownBlock∧k_≠gb265∧k_≠g) (.slice A1_4 l1_4.length c1_4) l1_4)∧Aside0 (wc.heap[gb265]? = some (.cells #[.int .i64 a1_0,.int .i64 a1_1,.string a1_2,(.slice A1_3 l1_3.length c1_3),(.slice A1_4 l1_4.length c1_4)] 31 (0,0)))∧Aside0 (IsS42 w0 wc g (wrap64 (s0_0 + 1)) u9000_)∧Aside0 (Kept w wc (fun k_=>(P0_1_ k_)∨k_ = g))∧Aside0 (Below w0.heap.size w0 wc))
    case first =>
     have H:=HC23.out
     clear HC23
     by_cases c24:((a1_0 == 9) != (decide ((l1_4.length:Int) > 0))) = true
     ·rw [if_pos c24] at H
      have c24b0:((a1_0 == 9) != (decide ((l1_4.length:Int) > 0))) = true:=c24
      (try (have c24b1:decide ((a1_0 == 9) = (decide ((l1_4.length:Int) > 0))) = false:=by simpa using c24))
      (try (have c24b2:((a1_0 == 9) == (decide ((l1_4.length:Int) > 0))) = false:=by simpa using c24))
      (try (have c24b3 : ¬ ((a1_0 == 9) = (decide ((l1_4.length:Int) > 0))):=by simpa using c24))
      (try (have c24b4:decide ((a1_0 == 9) = (decide (0 < l1_4.length))) = false:=by have e_:decide (0 < l1_4.length) = decide ((l1_4.length:Int) > 0):=decide_eq_decide.2 (by omega);rw [e_];simpa using c24))
      (try (have c24b5:((a1_0 == 9) == (decide (0 < l1_4.length))) = false:=by have e_:decide (0 < l1_4.length) = decide ((l1_4.length:Int) > 0):=decide_eq_decide.2 (by omega);rw [e_];simpa using c24))
      (try (have c24b6 : ¬ ((a1_0 == 9) = (decide (0 < l1_4.length))):=by have e_:decide (0 < l1_4.length) = decide ((l1_4.length:Int) > 0):=decide_eq_decide.2 (by omega);rw [e_];simpa using c24))
      clear c24
      (first|rw [c24b0]|(simp only [i64_w,i32_w];rw [c24b0])|(simp only [c24b2,Bool.not_true,Bool.not_false])|skip)
      have H':=Aside0.mk H
      clear H
      have hnb25:=NB265_0.out
      have hnc25:=NB0_265.out
      have hcz26_0:wc.cell? ⟨gb265,0,none⟩ = some (.int .i64 a1_0):=(blk_cell BK265.out 0).trans rfl
      have hcz26_1:wc.cell? ⟨gb265,1,none⟩ = some (.int .i64 a1_1):=(blk_cell BK265.out 1).trans rfl
      have hcz26_2:wc.cell? ⟨gb265,2,none⟩ = some (.string a1_2):=(blk_cell BK265.out 2).trans rfl
      have hcz26_3:wc.cell? ⟨gb265,3,none⟩ = some (.slice A1_3 l1_3.length c1_3):=(blk_cell BK265.out 3).trans rfl
      have hcz26_4:wc.cell? ⟨gb265,4,none⟩ = some (.slice A1_4 l1_4.length c1_4):=(blk_cell BK265.out 4).trans rfl
      have hfz26_0:=blk_frozen BK265.out 0
      have hfz26_1:=blk_frozen BK265.out 1
      have hfz26_2:=blk_frozen BK265.out 2
      have hfz26_3:=blk_frozen BK265.out 3
      have hfz26_4:=blk_frozen BK265.out 4
      go_wp2
      go_meet
      case rel=>exact ⟨_,(true),(by first|rfl|(simp;done)|(simp [*];done)),H',⟨by have:=HJ3.out;first|omega|exact Nat.le_refl _⟩,⟨by (with_reducible repeat (first|apply Kd.R_alloc|apply Kd.R_drewN|apply Kd.R_drew));exact HO_1001.out⟩,⟨by (with_reducible repeat (first|apply Kd.V_alloc|apply Kd.V_drewN|apply Kd.V_drew));exact HO_266003.out⟩,⟨by (with_reducible repeat (first|apply Kd.V_alloc|apply Kd.V_drewN|apply Kd.V_drew));exact HO_266004.out⟩,⟨by (with_reducible repeat (first|refine blk_drewN ?_ _|refine blk_drew ?_|refine blk_alloc ?_ _));exact BK265.out⟩,⟨by repeat (first|(with_reducible first|exact HI0.out|apply IsS42.alloc|apply IsS42.drewN|apply IsS42.drew|apply IsS42.set_0|apply IsS42.set_1|refine IsS42.far ?_ NB0_265.out _)|exact HI0.out)⟩,⟨by repeat (first|(with_reducible first|exact HK.out|apply Kept.alloc|apply Kept.drewN|apply Kept.drew|refine Kept.setCell ?_ (.inl (.inr rfl)) _|refine Kept.setCell ?_ (.inr GW265.out) _)|exact HK.out)⟩,⟨by repeat (first|(with_reducible first|exact HB.out|apply below_alloc|apply pw_below_drewN|apply below_drew1|refine below_set ?_ (IsS42.ge HI0.out)|refine below_set ?_ GE265.out)|exact HB.out)⟩⟩
     ·rw [if_neg c24] at H
      have c24b0:((a1_0 == 9) != (decide ((l1_4.length:Int) > 0))) = false:=by simpa using c24
      (try (have c24b1:decide ((a1_0 == 9) = (decide ((l1_4.length:Int) > 0))) = true:=by simpa using c24))
      (try (have c24b2:((a1_0 == 9) == (decide ((l1_4.length:Int) > 0))) = true:=by simpa using c24))
      (try (have c24b3:decide ((a1_0 == 9) = (decide (0 < l1_4.length))) = true:=by have e_:decide (0 < l1_4.length) = decide ((l1_4.length:Int) > 0):=decide_eq_decide.2 (by omega);rw [e_];simpa using c24))
      (try (have c24b4:((a1_0 == 9) == (decide (0 < l1_4.length))) = true:=by have e_:decide (0 < l1_4.length) = decide ((l1_4.length:Int) > 0):=decide_eq_decide.2 (by omega);rw [e_];simpa using c24))
      (try (have c24b5:((a1_0 == 9) = (decide (0 < l1_4.length))):=by have e_:decide (0 < l1_4.length) = decide ((l1_4.length:Int) > 0):=decide_eq_decide.2 (by omega);rw [e_];simpa using c24))
      clear c24
      (first|rw [c24b0]|(simp only [i64_w,i32_w];rw [c24b0])|(simp only [c24b2,Bool.not_true,Bool.not_false])|skip)
      have H':=Aside0.mk H
      clear H
      have hnb27:=NB265_0.out
      have hnc27:=NB0_265.out
      have hcz28_0:wc.cell? ⟨gb265,0,none⟩ = some (.int .i64 a1_0):=(blk_cell BK265.out 0).trans rfl
      have hcz28_1:wc.cell? ⟨gb265,1,none⟩ = some (.int .i64 a1_1):=(blk_cell BK265.out 1).trans rfl
      have hcz28_2:wc.cell? ⟨gb265,2,none⟩ = some (.string a1_2):=(blk_cell BK265.out 2).trans rfl
      have hcz28_3:wc.cell? ⟨gb265,3,none⟩ = some (.slice A1_3 l1_3.length c1_3):=(blk_cell BK265.out 3).trans rfl
      have hcz28_4:wc.cell? ⟨gb265,4,none⟩ = some (.slice A1_4 l1_4.length c1_4):=(blk_cell BK265.out 4).trans rfl
      have hfz28_0:=blk_frozen BK265.out 0
      have hfz28_1:=blk_frozen BK265.out 1
      have hfz28_2:=blk_frozen BK265.out 2
      have hfz28_3:=blk_frozen BK265.out 3
      have hfz28_4:=blk_frozen BK265.out 4
      go_wp2
      go_meet
      case rel=>exact ⟨_,(decide ((l1_4.length:Int) > 6)),(by first|rfl|(simp;done)|(simp [*];done)),H',⟨by have:=HJ3.out;first|omega|exact Nat.le_refl _⟩,⟨by (with_reducible repeat (first|apply Kd.R_alloc|apply Kd.R_drewN|apply Kd.R_drew));exact HO_1001.out⟩,⟨by (with_reducible repeat (first|apply Kd.V_alloc|apply Kd.V_drewN|apply Kd.V_drew));exact HO_266003.out⟩,⟨by (with_reducible repeat (first|apply Kd.V_alloc|apply Kd.V_drewN|apply Kd.V_drew));exact HO_266004.out⟩,⟨by (with_reducible repeat (first|refine blk_drewN ?_ _|refine blk_drew ?_|refine blk_alloc ?_ _));exact BK265.out⟩,⟨by repeat (first|(with_reducible first|exact HI0.out|apply IsS42.alloc|apply IsS42.drewN|apply IsS42.drew|apply IsS42.set_0|apply IsS42.set_1|refine IsS42.far ?_ NB0_265.out _)|exact HI0.out)⟩,⟨by repeat (first|(with_reducible first|exact HK.out|apply Kept.alloc|apply Kept.drewN|apply Kept.drew|refine Kept.setCell ?_ (.inl (.inr rfl)) _|refine Kept.setCell ?_ (.inr GW265.out) _)|exact HK.out)⟩,⟨by repeat (first|(with_reducible first|exact HB.out|apply below_alloc|apply pw_below_drewN|apply below_drew1|refine below_set ?_ (IsS42.ge HI0.out)|refine below_set ?_ GE265.out)|exact HB.out)⟩⟩
    case rest =>
     clear HC23
     try clear c1
     try clear c2
     try clear p2
     try clear p6
     try clear c7
     try clear c7b0
     try clear c7b2
     try clear c8
     try clear c8b0
     try clear c11
     try clear c12
     try clear c12b0
     try clear c12b1
     try clear c14
     try clear c17
     try clear c20
     try clear c22
     try clear c24
     try clear c24b0
     try clear c24b1
     try clear c24b2
     try clear c25
     try clear c27
     try clear hcz13_0
     try clear hcz13_1
     try clear hcz15_0
     try clear hcz15_1
     try clear hcz15_2
     try clear hcz15_3
     try clear hcz15_4
     try clear hcz16_0
     try clear hcz16_1
     try clear hcz18_0
     try clear hcz18_1
     try clear hcz18_2
     try clear hcz18_3
     try clear hcz18_4
     try clear hcz19_0
     try clear hcz19_1
     try clear hcz21_0
     try clear hcz21_1
     try clear hcz21_2
     try clear hcz21_3
     try clear hcz21_4
     try clear hcz26_0
     try clear hcz26_1
     try clear hcz26_2
     try clear hcz26_3
     try clear hcz26_4
     try clear hcz28_0
     try clear hcz28_1
     try clear hcz28_2
     try clear hcz28_3
     try clear hcz28_4
     try clear hcz6_0
     try clear hcz6_1
     try clear hcz9_0
     try clear hcz9_1
     try clear hfz13_0
     try clear hfz13_1
     try clear hfz15_0
     try clear hfz15_1
     try clear hfz15_2
     try clear hfz15_3
     try clear hfz15_4
     try clear hfz16_0
     try clear hfz16_1
     try clear hfz18_0
     try clear hfz18_1
     try clear hfz18_2
     try clear hfz18_3
     try clear hfz18_4
     try clear hfz19_0
     try clear hfz19_1
     try clear hfz21_0
     try clear hfz21_1
     try clear hfz21_2
     try clear hfz21_3
     try clear hfz21_4
     try clear hfz26_0
     try clear hfz26_1
     try clear hfz26_2
     try clear hfz26_3
     try clear hfz26_4
     try clear hfz28_0
     try clear hfz28_1
     try clear hfz28_2
     try clear hfz28_3
     try clear hfz28_4
     try clear hfz6_0
     try clear hfz6_1
     try clear hfz9_0
     try clear hfz9_1
     try clear p2
     try clear p6
     try clear HO_1001
     try clear HO_266003
     try clear HO_266004
     try clear BK265
     try clear HI0
     try clear HK
     try clear HB
     obtain ⟨kq,x63_22,rfl,HA,HJ22,HO_1001,HO_266003,HO_266004,BK265,HI0,HK,HB⟩:=hcut
     cases kq with
     | zero=>exact absurd HA.out (by simp [impl_judge_expr.j1])
     | succ kj22 =>
      have H:=HA.out
      clear HA
      simp only [impl_judge_expr.j1] at H
      by_cases c29:x63_22 = true
      ·subst c29
       have H1:(some (false,l0_1,(wrap64 (s0_0 + 1)))) = some (r1,r2,r3):=by rw [if_pos rfl] at H;exact H
       clear H
       have H:=H1
       clear H1
       simp only [Option.some.injEq,Prod.mk.injEq] at H
       obtain ⟨rfl,rfl,rfl⟩:=H
       go_wp2
       go_ret
       exact ⟨_,by first|rfl|(simp [*,errW_none,errW_some] <;> rfl),by (with_reducible repeat (first|apply Kd.R_alloc|apply Kd.R_drewN|apply Kd.R_drew));exact HO_1001.out,by repeat (first|(with_reducible first|exact HI0.out|apply IsS42.alloc|apply IsS42.drewN|apply IsS42.drew|apply IsS42.set_0|apply IsS42.set_1|refine IsS42.far ?_ NB0_265.out _)|exact HI0.out),by repeat (first|(with_reducible first|exact HB.out|apply below_alloc|apply pw_below_drewN|apply below_drew1|refine below_set ?_ (IsS42.ge HI0.out)|refine below_set ?_ GE265.out)|exact HB.out),by repeat (first|(with_reducible first|exact HK.out|apply Kept.alloc|apply Kept.drewN|apply Kept.drew|refine Kept.setCell ?_ (.inl (.inr rfl)) _|refine Kept.setCell ?_ (.inr GW265.out) _)|exact HK.out)⟩
      ·replace c29:=Bool.eq_false_iff.mpr c29
       subst c29
       have H1:(impl_judge_expr.l0 kj22 a2 l1_3 (l1_3.length:Int) 0 (wrap64 (s0_0 + 1)) l0_1 a1_0 a1_1 a1_2 l1_3 l1_4) = some (r1,r2,r3):=by rw [if_neg (show ¬ (false = true) by decide)] at H;exact H
       clear H
       have H:=H1
       clear H1
       have H':=Aside0.mk H
       clear H
       have hnb30:=NB265_0.out
       have hnc30:=NB0_265.out
       have hcz31_0:wc.cell? ⟨gb265,0,none⟩ = some (.int .i64 a1_0):=(blk_cell BK265.out 0).trans rfl
       have hcz31_1:wc.cell? ⟨gb265,1,none⟩ = some (.int .i64 a1_1):=(blk_cell BK265.out 1).trans rfl
       have hcz31_2:wc.cell? ⟨gb265,2,none⟩ = some (.string a1_2):=(blk_cell BK265.out 2).trans rfl
       have hcz31_3:wc.cell? ⟨gb265,3,none⟩ = some (.slice A1_3 l1_3.length c1_3):=(blk_cell BK265.out 3).trans rfl
       have hcz31_4:wc.cell? ⟨gb265,4,none⟩ = some (.slice A1_4 l1_4.length c1_4):=(blk_cell BK265.out 4).trans rfl
       have hfz31_0:=blk_frozen BK265.out 0
       have hfz31_1:=blk_frozen BK265.out 1
       have hfz31_2:=blk_frozen BK265.out 2
       have hfz31_3:=blk_frozen BK265.out 3
       have hfz31_4:=blk_frozen BK265.out 4
       go_wp2
       go_loopg [67] kj22 (fun kq v67 w'=>∃ (x67_3:Int) (x1000_3:Int) (x1001_3:List ByteArray) (u1001:Value),v67 = .int .i64 x67_3∧Aside0 (impl_judge_expr.l0 kq a2 l1_3 (l1_3.length:Int) x67_3 x1000_3 x1001_3 a1_0 a1_1 a1_2 l1_3 l1_4 = some (r1,r2,r3))∧Aside0 (kq≤kj22)∧Aside0 (Kd.V k31 31 w' w0.heap.size (fun k_=>((P0_1_ k_∨P1_3_ k_∨P1_4_ k_)∨w.heap.size≤k_)∧some k_≠(u1001:Value).ownBlock∧k_≠gb265∧k_≠g) (.slice A1_3 l1_3.length c1_3) l1_3)∧Aside0 (Kd.R Kd.string 9 w' w0.heap.size (fun k_=>(P0_1_ k_∨w.heap.size≤k_)) u1001 x1001_3)∧Aside0 (Kd.V k31 31 w' w0.heap.size (fun k_=>((P0_1_ k_∨P1_3_ k_∨P1_4_ k_)∨w.heap.size≤k_)∧some k_≠(u1001:Value).ownBlock∧k_≠gb265∧k_≠g) (.slice A1_3 l1_3.length c1_3) l1_3)∧Aside0 (Kd.V k53 53 w' w0.heap.size (fun k_=>((P0_1_ k_∨P1_3_ k_∨P1_4_ k_)∨w.heap.size≤k_)∧some k_≠(u1001:Value).ownBlock∧k_≠gb265∧k_≠g) (.slice A1_4 l1_4.length c1_4) l1_4)∧Aside0 (w'.heap[gb265]? = some (.cells #[.int .i64 a1_0,.int .i64 a1_1,.string a1_2,(.slice A1_3 l1_3.length c1_3),(.slice A1_4 l1_4.length c1_4)] 31 (0,0)))∧Aside0 (IsS42 w0 w' g x1000_3 u1001)∧Aside0 (Kept w w' (fun k_=>(P0_1_ k_)∨k_ = g))∧Aside0 (Below w0.heap.size w0 w'))
       case atStart=>exact ⟨(0),((wrap64 (s0_0 + 1))),(l0_1),(u9000_),(by first|rfl|(simp;done)|(simp [*];done)),H',⟨Nat.le_refl _⟩,⟨by (with_reducible repeat (first|apply Kd.V_alloc|apply Kd.V_drewN|apply Kd.V_drew));exact HO_266003.out⟩,⟨by (with_reducible repeat (first|apply Kd.R_alloc|apply Kd.R_drewN|apply Kd.R_drew));exact HO_1001.out⟩,⟨by (with_reducible repeat (first|apply Kd.V_alloc|apply Kd.V_drewN|apply Kd.V_drew));exact HO_266003.out⟩,⟨by (with_reducible repeat (first|apply Kd.V_alloc|apply Kd.V_drewN|apply Kd.V_drew));exact HO_266004.out⟩,⟨by (with_reducible repeat (first|refine blk_drewN ?_ _|refine blk_drew ?_|refine blk_alloc ?_ _));exact BK265.out⟩,⟨by repeat (first|(with_reducible first|exact HI0.out|apply IsS42.alloc|apply IsS42.drewN|apply IsS42.drew|apply IsS42.set_0|apply IsS42.set_1|refine IsS42.far ?_ NB0_265.out _)|exact HI0.out)⟩,⟨by repeat (first|(with_reducible first|exact HK.out|apply Kept.alloc|apply Kept.drewN|apply Kept.drew|refine Kept.setCell ?_ (.inl (.inr rfl)) _|refine Kept.setCell ?_ (.inr GW265.out) _)|exact HK.out)⟩,⟨by repeat (first|(with_reducible first|exact HB.out|apply below_alloc|apply pw_below_drewN|apply below_drew1|refine below_set ?_ (IsS42.ge HI0.out)|refine below_set ?_ GE265.out)|exact HB.out)⟩⟩
       case round =>
        clear H'
        try clear c1
        try clear c2
        try clear p2
        try clear c3
        try clear p6
        try clear c7
        try clear c7b0
        try clear c7b2
        try clear c8
        try clear c8b0
        try clear c11
        try clear c12
        try clear c12b0
        try clear c12b1
        try clear c14
        try clear c17
        try clear c20
        try clear c22
        try clear c24
        try clear c24b0
        try clear c24b1
        try clear c24b2
        try clear c25
        try clear c27
        try clear c29
        try clear c30
        try clear hcz13_0
        try clear hcz13_1
        try clear hcz15_0
        try clear hcz15_1
        try clear hcz15_2
        try clear hcz15_3
        try clear hcz15_4
        try clear hcz16_0
        try clear hcz16_1
        try clear hcz18_0
        try clear hcz18_1
        try clear hcz18_2
        try clear hcz18_3
        try clear hcz18_4
        try clear hcz19_0
        try clear hcz19_1
        try clear hcz21_0
        try clear hcz21_1
        try clear hcz21_2
        try clear hcz21_3
        try clear hcz21_4
        try clear hcz26_0
        try clear hcz26_1
        try clear hcz26_2
        try clear hcz26_3
        try clear hcz26_4
        try clear hcz28_0
        try clear hcz28_1
        try clear hcz28_2
        try clear hcz28_3
        try clear hcz28_4
        try clear hcz31_0
        try clear hcz31_1
        try clear hcz31_2
        try clear hcz31_3
        try clear hcz31_4
        try clear hcz6_0
        try clear hcz6_1
        try clear hcz9_0
        try clear hcz9_1
        try clear hfz13_0
        try clear hfz13_1
        try clear hfz15_0
        try clear hfz15_1
        try clear hfz15_2
        try clear hfz15_3
        try clear hfz15_4
        try clear hfz16_0
        try clear hfz16_1
        try clear hfz18_0
        try clear hfz18_1
        try clear hfz18_2
        try clear hfz18_3
        try clear hfz18_4
        try clear hfz19_0
        try clear hfz19_1
        try clear hfz21_0
        try clear hfz21_1
        try clear hfz21_2
        try clear hfz21_3
        try clear hfz21_4
        try clear hfz26_0
        try clear hfz26_1
        try clear hfz26_2
        try clear hfz26_3
        try clear hfz26_4
        try clear hfz28_0
        try clear hfz28_1
        try clear hfz28_2
        try clear hfz28_3
        try clear hfz28_4
        try clear hfz31_0
        try clear hfz31_1
        try clear hfz31_2
        try clear hfz31_3
        try clear hfz31_4
        try clear hfz6_0
        try clear hfz6_1
        try clear hfz9_0
        try clear hfz9_1
        try clear p2
        try clear p6
        try clear HO_65
        try clear HO_1001
        try clear HO_266003
        try clear HO_266004
        try clear BK265
        try clear HI0
        try clear HK
        try clear HB
        obtain ⟨x67_3,x1000_3,x1001_3,u1001,rfl,HA,HK3,HO_65,HO_1001,HO_266003,HO_266004,BK265,HI0,HK,HB⟩:=hrel
        cases gk with
        | zero=>exact absurd HA.out (by simp [impl_judge_expr.l0])
        | succ k3 =>
         have H:=HA.out
         clear HA
         simp only [impl_judge_expr.l0] at H
         by_cases c32:x67_3 < (l1_3.length:Int)
         ·rw [if_pos c32] at H
          have c32b0:decide (x67_3 < (l1_3.length:Int)) = true:=decide_eq_true c32
          clear c32
          by_cases c33:0≤x67_3
          ·rw [if_pos c33] at H
           have c33b0:decide (0≤x67_3) = true:=decide_eq_true c33
           clear c33
           by_cases c34:x67_3 < (l1_3.length:Int)
           ·rw [if_pos c34] at H
            have c34b0:decide (x67_3 < (l1_3.length:Int)) = true:=decide_eq_true c34
            clear c34
            replace H:=Option.bind_eq_some_iff.mp H
            obtain ⟨⟨t269,t270,t273⟩,A350,H⟩:=H
            replace H:(if t269 = true then (impl_judge_expr.l0 k3 a2 l1_3 (l1_3.length:Int) (wrap64 (x67_3 + 1)) t273 t270 a1_0 a1_1 a1_2 l1_3 l1_4) else (some (false,t270,t273))) = some (r1,r2,r3):=H
            have A35:=Aside0.mk A350
            clear A350
            by_cases c36:t269 = true
            focus
             subst c36
             have H1:(impl_judge_expr.l0 k3 a2 l1_3 (l1_3.length:Int) (wrap64 (x67_3 + 1)) t273 t270 a1_0 a1_1 a1_2 l1_3 l1_4) = some (r1,r2,r3):=by rw [if_pos rfl] at H;exact H
             clear H
             have H:=H1
             clear H1
             have H':=Aside0.mk H
             clear H
            rotate_left
            focus
             replace c36:=Bool.eq_false_iff.mpr c36
             subst c36
             have H1:(some (false,t270,t273)) = some (r1,r2,r3):=by rw [if_neg (show ¬ (false = true) by decide)] at H;exact H
             clear H
             have H:=H1
             clear H1
             simp only [Option.some.injEq,Prod.mk.injEq] at H
             obtain ⟨rfl,rfl,rfl⟩:=H
            rotate_left
            all_goals
             have p267:0≤(x67_3:Int):=of_decide_eq_true (by first|(with_reducible assumption)|assumption)
             have q267:x67_3 < (l1_3.length:Int):=of_decide_eq_true (by first|(with_reducible assumption)|assumption)
             obtain ⟨ad267,A267_3,c267_3,A267_4,c267_4,e267,hx267_0,hx267_1,hx267_2,hx267_3,hx267_4,hl267_3,hi267_3,hl267_4,hi267_4⟩:=at_T31 (Kd.V_reads' HO_65.out).2.2 x67_3 p267 q267
             cases e267
             obtain ⟨ce267,hce267,hMe267,hcc267⟩:=Kd.V_get HO_65.out z31 x67_3 p267 (by first|exact q267|exact of_decide_eq_true (by first|(with_reducible assumption)|assumption)|(have e_:=(Kd.V_reads' HO_65.out).1;omega))
             obtain ⟨ua267_3,uc267_3,ua267_4,uc267_4,rfl,ul267_3,ge267_3,ul267_4,ge267_4⟩:=k31_openF hMe267
             have hv267_3:=hcc267 3 _ rfl
             rw [add_field _ _ 3 (by omega)] at hv267_3
             replace hv267_3:=Option.some.inj (hv267_3.symm.trans hx267_3)
             injection hv267_3 with hva_ hvn_ hvc_
             rw [hva_] at ge267_3
             rw [hvc_] at ul267_3
             have HL267_3:=Aside0.mk (show Kd.V k31 31 _ w0.heap.size _ _ ((rd_T31 l1_3 x67_3).f3) from Kd.V_mk ul267_3 ge267_3)
             clear hva_ hvn_ hvc_ ge267_3 ul267_3
             have hv267_4:=hcc267 4 _ rfl
             rw [add_field _ _ 4 (by omega)] at hv267_4
             replace hv267_4:=Option.some.inj (hv267_4.symm.trans hx267_4)
             injection hv267_4 with hva_ hvn_ hvc_
             rw [hva_] at ge267_4
             rw [hvc_] at ul267_4
             have HL267_4:=Aside0.mk (show Kd.V k53 53 _ w0.heap.size _ _ ((rd_T31 l1_3 x67_3).f4) from Kd.V_mk ul267_4 ge267_4)
             clear hva_ hvn_ hvc_ ge267_4 ul267_4
             clear hcc267 hce267
             have HR267_3:=Aside0.mk hi267_3
             have HC267_3:=Aside0.mk hl267_3
             clear hi267_3 hl267_3
             have HR267_4:=Aside0.mk hi267_4
             have HC267_4:=Aside0.mk hl267_4
             clear hi267_4 hl267_4
             replace p267:=eq_true p267
             replace q267:=eq_true q267
             go_wp2_with (first|((with_reducible refine gate_dst (N:=8) rfl ?_);(try (refine gate_guard (by rfl) ?_;dsimp only));refine box_event ?hg (N:=8) ?hd (cs:=#[.int .i64 0,.int .i64 0,.string (⟨#[]⟩:ByteArray),.slice none 0 0,.slice none 0 0]) (t:=31) ?hr ?_;(case hd=>rfl);(case hg=>rfl);(case hr=>first|(go_simp;done)|(go_simp;rfl));intro gb268 hg w37 hbox hb;have n0_:=Aside0.mk (Kd.V_below (Kd.V_elderB (by (with_reducible repeat (first|apply Kd.V_alloc|apply Kd.V_drewN|apply Kd.V_drew));exact HO_65.out) gb268 (Nat.le_of_eq hg.symm)) hb);have n1_:=Aside0.mk (Kd.R_below (by (with_reducible repeat (first|apply Kd.R_alloc|apply Kd.R_drewN|apply Kd.R_drew));exact HO_1001.out) hb);have n2_:=Aside0.mk (Kd.V_below (Kd.V_elderB (by (with_reducible repeat (first|apply Kd.V_alloc|apply Kd.V_drewN|apply Kd.V_drew));exact HO_266003.out) gb268 (Nat.le_of_eq hg.symm)) hb);have n3_:=Aside0.mk (Kd.V_below (Kd.V_elderB (by (with_reducible repeat (first|apply Kd.V_alloc|apply Kd.V_drewN|apply Kd.V_drew));exact HO_266004.out) gb268 (Nat.le_of_eq hg.symm)) hb);have n4_:=Aside0.mk (Kd.V_below (Kd.V_elderB (by (with_reducible repeat (first|apply Kd.V_alloc|apply Kd.V_drewN|apply Kd.V_drew));exact HL267_3.out) gb268 (Nat.le_of_eq hg.symm)) hb);have n5_:=Aside0.mk (Kd.V_below (Kd.V_elderB (by (with_reducible repeat (first|apply Kd.V_alloc|apply Kd.V_drewN|apply Kd.V_drew));exact HL267_4.out) gb268 (Nat.le_of_eq hg.symm)) hb);have n6_:=Aside0.mk (blk_below (g:=gb265) (o:=.cells #[.int .i64 a1_0,.int .i64 a1_1,.string a1_2,.slice (some ad267) l1_3.length c1_3,.slice A1_4 l1_4.length c1_4] 31 (0,0)) (by (with_reducible repeat (first|refine blk_drewN ?_ _|refine blk_drew ?_|refine blk_alloc ?_ _));exact BK265.out) hb);have n7_:=Aside0.mk (IsS42.below (by repeat (first|(with_reducible first|exact HI0.out|apply IsS42.alloc|apply IsS42.drewN|apply IsS42.drew|apply IsS42.set_0|apply IsS42.set_1|refine IsS42.far ?_ NB0_265.out _)|exact HI0.out)) hb);have n8_:=Aside0.mk (Kd.C_below (by repeat (first|(with_reducible exact HR267_3.out)|(with_reducible refine Kd.C_alloc ?_ _)|(with_reducible refine Kd.C_drewN ?_ _)|(with_reducible refine Kd.C_drew ?_)|exact HR267_3.out)) hb);have n9_:=Aside0.mk (Kd.C_below (by repeat (first|(with_reducible exact HR267_4.out)|(with_reducible refine Kd.C_alloc ?_ _)|(with_reducible refine Kd.C_drewN ?_ _)|(with_reducible refine Kd.C_drew ?_)|exact HR267_4.out)) hb);have n10_:=Aside0.mk (Kept.below (S:=(fun k_=>(P0_1_ k_)∨k_ = g)) (by repeat (first|(with_reducible first|exact HK.out|apply Kept.alloc|apply Kept.drewN|apply Kept.drew|refine Kept.setCell ?_ (.inl (.inr rfl)) _|refine Kept.setCell ?_ (.inr GW265.out) _)|exact HK.out)) hb);have n11_:=Aside0.mk (below_step (by repeat (first|(with_reducible first|exact HB.out|apply below_alloc|apply pw_below_drewN|apply below_drew1|refine below_set ?_ (IsS42.ge HI0.out)|refine below_set ?_ GE265.out)|exact HB.out)) hb);have n12_:=Aside0.mk (hbox);have n13_:=Aside0.mk ((by rw [hg];exact (by first|exact HK.out.1|exact (show Kept w _ (fun k_=>(P0_1_ k_)∨k_ = g) from by repeat (first|(with_reducible first|exact HK.out|apply Kept.alloc|apply Kept.drewN|apply Kept.drew|refine Kept.setCell ?_ (.inl (.inr rfl)) _|refine Kept.setCell ?_ (.inr GW265.out) _)|exact HK.out)).1):w.heap.size≤gb268));have n14_:=Aside0.mk ((by rw [hg];exact (below_size (by repeat (first|(with_reducible first|exact HB.out|apply below_alloc|apply pw_below_drewN|apply below_drew1|refine below_set ?_ (IsS42.ge HI0.out)|refine below_set ?_ GE265.out)|exact HB.out))):w0.heap.size≤gb268));have n15_:=Aside0.mk ((by rw [hg];exact Nat.ne_of_lt (blk_lt (g:=gb265) (o:=.cells #[.int .i64 a1_0,.int .i64 a1_1,.string a1_2,.slice (some ad267) l1_3.length c1_3,.slice A1_4 l1_4.length c1_4] 31 (0,0)) (by (with_reducible repeat (first|refine blk_drewN ?_ _|refine blk_drew ?_|refine blk_alloc ?_ _));exact BK265.out)):gb265≠gb268));have n16_:=Aside0.mk ((by rw [hg];exact Nat.ne_of_gt (blk_lt (g:=gb265) (o:=.cells #[.int .i64 a1_0,.int .i64 a1_1,.string a1_2,.slice (some ad267) l1_3.length c1_3,.slice A1_4 l1_4.length c1_4] 31 (0,0)) (by (with_reducible repeat (first|refine blk_drewN ?_ _|refine blk_drew ?_|refine blk_alloc ?_ _));exact BK265.out)):gb268≠gb265));have n17_:=Aside0.mk ((by rw [hg];exact Nat.ne_of_lt (IsS42.lt (show IsS42 w0 _ g x1000_3 u1001 from by repeat (first|(with_reducible first|exact HI0.out|apply IsS42.alloc|apply IsS42.drewN|apply IsS42.drew|apply IsS42.set_0|apply IsS42.set_1|refine IsS42.far ?_ NB0_265.out _)|exact HI0.out))):g≠gb268));have n18_:=Aside0.mk ((by rw [hg];exact Nat.ne_of_gt (IsS42.lt (show IsS42 w0 _ g x1000_3 u1001 from by repeat (first|(with_reducible first|exact HI0.out|apply IsS42.alloc|apply IsS42.drewN|apply IsS42.drew|apply IsS42.set_0|apply IsS42.set_1|refine IsS42.far ?_ NB0_265.out _)|exact HI0.out))):gb268≠g));clear HO_65;clear HO_1001;clear HO_266003;clear HO_266004;clear HL267_3;clear HL267_4;clear BK265;clear HI0;clear HR267_3;clear HR267_4;clear HK;clear HB;have HO_65:=n0_;have HO_1001:=n1_;have HO_266003:=n2_;have HO_266004:=n3_;have HL267_3:=n4_;have HL267_4:=n5_;have BK265:=n6_;have HI0:=n7_;have HR267_3:=n8_;have HR267_4:=n9_;have HK:=n10_;have HB:=n11_;have BK268:=n12_;have GW268:=n13_;have GE268:=n14_;have NB265_268:=n15_;have NB268_265:=n16_;have NB0_268:=n17_;have NB268_0:=n18_;clear n0_ n1_ n2_ n3_ n4_ n5_ n6_ n7_ n8_ n9_ n10_ n11_ n12_ n13_ n14_ n15_ n16_ n17_ n18_;clear hb hbox hg;have hnb38:=NB268_265.out;have hnc38:=NB265_268.out;have hnb39:=NB268_0.out;have hnc39:=NB0_268.out;have hcz40_0:w37.cell? ⟨gb268,0,none⟩ = some (.int .i64 0):=(blk_cell BK268.out 0).trans rfl;have hcz40_1:w37.cell? ⟨gb268,1,none⟩ = some (.int .i64 0):=(blk_cell BK268.out 1).trans rfl;have hcz40_2:w37.cell? ⟨gb268,2,none⟩ = some (.string (⟨#[]⟩:ByteArray)):=(blk_cell BK268.out 2).trans rfl;have hcz40_3:w37.cell? ⟨gb268,3,none⟩ = some (.slice none 0 0):=(blk_cell BK268.out 3).trans rfl;have hcz40_4:w37.cell? ⟨gb268,4,none⟩ = some (.slice none 0 0):=(blk_cell BK268.out 4).trans rfl;have hfz40_0:=blk_frozen BK268.out 0;have hfz40_1:=blk_frozen BK268.out 1;have hfz40_2:=blk_frozen BK268.out 2;have hfz40_3:=blk_frozen BK268.out 3;have hfz40_4:=blk_frozen BK268.out 4)|((with_reducible refine gate_store (t:=31) (p:=8) rfl ?_);refine store_event (t:=31) (p:=8) (v:=?vo_w41) (w1:=(((((w37.setCell ⟨gb268,0,none⟩ (.int .i64 ((rd_T31 l1_3 x67_3).f0))).setCell ⟨gb268,1,none⟩ (.int .i64 ((rd_T31 l1_3 x67_3).f1))).setCell ⟨gb268,2,none⟩ (.string ((rd_T31 l1_3 x67_3).f2))).setCell ⟨gb268,3,none⟩ (.slice A267_3 ((rd_T31 l1_3 x67_3).f3).length c267_3)).setCell ⟨gb268,4,none⟩ (.slice A267_4 ((rd_T31 l1_3 x67_3).f4).length c267_4))) ?hg ?ho ?hn ?hr ?_;(case ho=>rfl);(case hg=>rfl);(case hn=>rfl);(case hr=>first|(go_simp;done)|(go_simp;rfl));intro w41 hw;have n0_:Aside0 (Kd.V k31 31 w41 w0.heap.size (fun k_=>((P0_1_ k_∨P1_3_ k_∨P1_4_ k_)∨w.heap.size≤k_)∧some k_≠(u1001:Value).ownBlock∧k_≠gb265∧k_≠g∧k_≠gb268) (.slice (some ad267) l1_3.length c1_3) l1_3):=⟨(by rw [hw];exact (by (with_reducible repeat (first|apply Kd.V_alloc|apply Kd.V_drewN|apply Kd.V_drew));exact Kd.V_mono (Kd.V_far (p:=⟨gb268,4,none⟩) (Kd.V_far (p:=⟨gb268,3,none⟩) (Kd.V_far (p:=⟨gb268,2,none⟩) (Kd.V_far (p:=⟨gb268,1,none⟩) (Kd.V_far (p:=⟨gb268,0,none⟩) (Kd.V_mono HO_65.out (fun k_ hk=>(⟨hk,hk.2⟩:_∧k_≠gb268))) (fun _ hk=>hk.2) (.int .i64 ((rd_T31 l1_3 x67_3).f0))) (fun _ hk=>hk.2) (.int .i64 ((rd_T31 l1_3 x67_3).f1))) (fun _ hk=>hk.2) (.string ((rd_T31 l1_3 x67_3).f2))) (fun _ hk=>hk.2) (.slice A267_3 ((rd_T31 l1_3 x67_3).f3).length c267_3)) (fun _ hk=>hk.2) (.slice A267_4 ((rd_T31 l1_3 x67_3).f4).length c267_4)) (fun _ hk=>⟨hk.1.1.1,⟨hk.1.1.2.1,⟨hk.1.1.2.2.1,⟨hk.1.1.2.2.2,hk.1.2⟩⟩⟩⟩)))⟩;have n1_:Aside0 (Kd.R Kd.string 9 w41 w0.heap.size (fun k_=>(P0_1_ k_∨w.heap.size≤k_)) u1001 x1001_3):=⟨(by rw [hw];exact (by (with_reducible repeat (first|apply Kd.R_alloc|apply Kd.R_drewN|apply Kd.R_drew));exact Kd.R_mono (Kd.R_far (p:=⟨gb268,4,none⟩) (Kd.R_far (p:=⟨gb268,3,none⟩) (Kd.R_far (p:=⟨gb268,2,none⟩) (Kd.R_far (p:=⟨gb268,1,none⟩) (Kd.R_far (p:=⟨gb268,0,none⟩) (Kd.R_types HO_1001.out BK268.out (by decide)) (fun _ hk=>hk.2) (.int .i64 ((rd_T31 l1_3 x67_3).f0))) (fun _ hk=>hk.2) (.int .i64 ((rd_T31 l1_3 x67_3).f1))) (fun _ hk=>hk.2) (.string ((rd_T31 l1_3 x67_3).f2))) (fun _ hk=>hk.2) (.slice A267_3 ((rd_T31 l1_3 x67_3).f3).length c267_3)) (fun _ hk=>hk.2) (.slice A267_4 ((rd_T31 l1_3 x67_3).f4).length c267_4)) (fun _ hk=>hk.1)))⟩;have n2_:Aside0 (Kd.V k31 31 w41 w0.heap.size (fun k_=>((P0_1_ k_∨P1_3_ k_∨P1_4_ k_)∨w.heap.size≤k_)∧some k_≠(u1001:Value).ownBlock∧k_≠gb265∧k_≠g∧k_≠gb268) (.slice (some ad267) l1_3.length c1_3) l1_3):=⟨(by rw [hw];exact (by (with_reducible repeat (first|apply Kd.V_alloc|apply Kd.V_drewN|apply Kd.V_drew));exact Kd.V_mono (Kd.V_far (p:=⟨gb268,4,none⟩) (Kd.V_far (p:=⟨gb268,3,none⟩) (Kd.V_far (p:=⟨gb268,2,none⟩) (Kd.V_far (p:=⟨gb268,1,none⟩) (Kd.V_far (p:=⟨gb268,0,none⟩) (Kd.V_mono HO_266003.out (fun k_ hk=>(⟨hk,hk.2⟩:_∧k_≠gb268))) (fun _ hk=>hk.2) (.int .i64 ((rd_T31 l1_3 x67_3).f0))) (fun _ hk=>hk.2) (.int .i64 ((rd_T31 l1_3 x67_3).f1))) (fun _ hk=>hk.2) (.string ((rd_T31 l1_3 x67_3).f2))) (fun _ hk=>hk.2) (.slice A267_3 ((rd_T31 l1_3 x67_3).f3).length c267_3)) (fun _ hk=>hk.2) (.slice A267_4 ((rd_T31 l1_3 x67_3).f4).length c267_4)) (fun _ hk=>⟨hk.1.1.1,⟨hk.1.1.2.1,⟨hk.1.1.2.2.1,⟨hk.1.1.2.2.2,hk.1.2⟩⟩⟩⟩)))⟩;have n3_:Aside0 (Kd.V k53 53 w41 w0.heap.size (fun k_=>((P0_1_ k_∨P1_3_ k_∨P1_4_ k_)∨w.heap.size≤k_)∧some k_≠(u1001:Value).ownBlock∧k_≠gb265∧k_≠g∧k_≠gb268) (.slice A1_4 l1_4.length c1_4) l1_4):=⟨(by rw [hw];exact (by (with_reducible repeat (first|apply Kd.V_alloc|apply Kd.V_drewN|apply Kd.V_drew));exact Kd.V_mono (Kd.V_far (p:=⟨gb268,4,none⟩) (Kd.V_far (p:=⟨gb268,3,none⟩) (Kd.V_far (p:=⟨gb268,2,none⟩) (Kd.V_far (p:=⟨gb268,1,none⟩) (Kd.V_far (p:=⟨gb268,0,none⟩) (Kd.V_mono HO_266004.out (fun k_ hk=>(⟨hk,hk.2⟩:_∧k_≠gb268))) (fun _ hk=>hk.2) (.int .i64 ((rd_T31 l1_3 x67_3).f0))) (fun _ hk=>hk.2) (.int .i64 ((rd_T31 l1_3 x67_3).f1))) (fun _ hk=>hk.2) (.string ((rd_T31 l1_3 x67_3).f2))) (fun _ hk=>hk.2) (.slice A267_3 ((rd_T31 l1_3 x67_3).f3).length c267_3)) (fun _ hk=>hk.2) (.slice A267_4 ((rd_T31 l1_3 x67_3).f4).length c267_4)) (fun _ hk=>⟨hk.1.1.1,⟨hk.1.1.2.1,⟨hk.1.1.2.2.1,⟨hk.1.1.2.2.2,hk.1.2⟩⟩⟩⟩)))⟩;have n4_:Aside0 (Kd.V k31 31 w41 w0.heap.size (fun k_=>((P0_1_ k_∨P1_3_ k_∨P1_4_ k_)∨w.heap.size≤k_)∧some k_≠(u1001:Value).ownBlock∧k_≠gb265∧k_≠g∧k_≠gb268) (.slice A267_3 ((rd_T31 l1_3 x67_3).f3).length c267_3) ((rd_T31 l1_3 x67_3).f3)):=⟨(by rw [hw];exact (by (with_reducible repeat (first|apply Kd.V_alloc|apply Kd.V_drewN|apply Kd.V_drew));exact Kd.V_mono (Kd.V_far (p:=⟨gb268,4,none⟩) (Kd.V_far (p:=⟨gb268,3,none⟩) (Kd.V_far (p:=⟨gb268,2,none⟩) (Kd.V_far (p:=⟨gb268,1,none⟩) (Kd.V_far (p:=⟨gb268,0,none⟩) (Kd.V_mono HL267_3.out (fun k_ hk=>(⟨hk,hk.2⟩:_∧k_≠gb268))) (fun _ hk=>hk.2) (.int .i64 ((rd_T31 l1_3 x67_3).f0))) (fun _ hk=>hk.2) (.int .i64 ((rd_T31 l1_3 x67_3).f1))) (fun _ hk=>hk.2) (.string ((rd_T31 l1_3 x67_3).f2))) (fun _ hk=>hk.2) (.slice A267_3 ((rd_T31 l1_3 x67_3).f3).length c267_3)) (fun _ hk=>hk.2) (.slice A267_4 ((rd_T31 l1_3 x67_3).f4).length c267_4)) (fun _ hk=>⟨hk.1.1.1,⟨hk.1.1.2.1,⟨hk.1.1.2.2.1,⟨hk.1.1.2.2.2,hk.1.2⟩⟩⟩⟩)))⟩;have n5_:Aside0 (Kd.V k53 53 w41 w0.heap.size (fun k_=>((P0_1_ k_∨P1_3_ k_∨P1_4_ k_)∨w.heap.size≤k_)∧some k_≠(u1001:Value).ownBlock∧k_≠gb265∧k_≠g∧k_≠gb268) (.slice A267_4 ((rd_T31 l1_3 x67_3).f4).length c267_4) ((rd_T31 l1_3 x67_3).f4)):=⟨(by rw [hw];exact (by (with_reducible repeat (first|apply Kd.V_alloc|apply Kd.V_drewN|apply Kd.V_drew));exact Kd.V_mono (Kd.V_far (p:=⟨gb268,4,none⟩) (Kd.V_far (p:=⟨gb268,3,none⟩) (Kd.V_far (p:=⟨gb268,2,none⟩) (Kd.V_far (p:=⟨gb268,1,none⟩) (Kd.V_far (p:=⟨gb268,0,none⟩) (Kd.V_mono HL267_4.out (fun k_ hk=>(⟨hk,hk.2⟩:_∧k_≠gb268))) (fun _ hk=>hk.2) (.int .i64 ((rd_T31 l1_3 x67_3).f0))) (fun _ hk=>hk.2) (.int .i64 ((rd_T31 l1_3 x67_3).f1))) (fun _ hk=>hk.2) (.string ((rd_T31 l1_3 x67_3).f2))) (fun _ hk=>hk.2) (.slice A267_3 ((rd_T31 l1_3 x67_3).f3).length c267_3)) (fun _ hk=>hk.2) (.slice A267_4 ((rd_T31 l1_3 x67_3).f4).length c267_4)) (fun _ hk=>⟨hk.1.1.1,⟨hk.1.1.2.1,⟨hk.1.1.2.2.1,⟨hk.1.1.2.2.2,hk.1.2⟩⟩⟩⟩)))⟩;have n6_:Aside0 (w41.heap[gb265]? = some (.cells #[.int .i64 a1_0,.int .i64 a1_1,.string a1_2,.slice (some ad267) l1_3.length c1_3,.slice A1_4 l1_4.length c1_4] 31 (0,0))):=⟨(by rw [hw];exact (by (with_reducible repeat (first|refine blk_drewN ?_ _|refine blk_drew ?_|refine blk_alloc ?_ _));refine blk_far ?_ NB265_268.out _;(with_reducible repeat (first|refine blk_drewN ?_ _|refine blk_drew ?_|refine blk_alloc ?_ _));refine blk_far ?_ NB265_268.out _;(with_reducible repeat (first|refine blk_drewN ?_ _|refine blk_drew ?_|refine blk_alloc ?_ _));refine blk_far ?_ NB265_268.out _;(with_reducible repeat (first|refine blk_drewN ?_ _|refine blk_drew ?_|refine blk_alloc ?_ _));refine blk_far ?_ NB265_268.out _;(with_reducible repeat (first|refine blk_drewN ?_ _|refine blk_drew ?_|refine blk_alloc ?_ _));refine blk_far ?_ NB265_268.out _;(with_reducible repeat (first|refine blk_drewN ?_ _|refine blk_drew ?_|refine blk_alloc ?_ _));exact BK265.out))⟩;have n7_:Aside0 (w41.heap[gb268]? = some (.cells #[.int .i64 ((rd_T31 l1_3 x67_3).f0),.int .i64 ((rd_T31 l1_3 x67_3).f1),.string ((rd_T31 l1_3 x67_3).f2),.slice A267_3 ((rd_T31 l1_3 x67_3).f3).length c267_3,.slice A267_4 ((rd_T31 l1_3 x67_3).f4).length c267_4] 31 (0,0))):=⟨(by rw [hw];exact (by (with_reducible repeat (first|refine blk_drewN ?_ _|refine blk_drew ?_|refine blk_alloc ?_ _));refine blk_put (cs:=#[.int .i64 ((rd_T31 l1_3 x67_3).f0),.int .i64 ((rd_T31 l1_3 x67_3).f1),.string ((rd_T31 l1_3 x67_3).f2),.slice A267_3 ((rd_T31 l1_3 x67_3).f3).length c267_3,.slice none 0 0]) ?_ 4 _ rfl;(with_reducible repeat (first|refine blk_drewN ?_ _|refine blk_drew ?_|refine blk_alloc ?_ _));refine blk_put (cs:=#[.int .i64 ((rd_T31 l1_3 x67_3).f0),.int .i64 ((rd_T31 l1_3 x67_3).f1),.string ((rd_T31 l1_3 x67_3).f2),.slice none 0 0,.slice none 0 0]) ?_ 3 _ rfl;(with_reducible repeat (first|refine blk_drewN ?_ _|refine blk_drew ?_|refine blk_alloc ?_ _));refine blk_put (cs:=#[.int .i64 ((rd_T31 l1_3 x67_3).f0),.int .i64 ((rd_T31 l1_3 x67_3).f1),.string (⟨#[]⟩:ByteArray),.slice none 0 0,.slice none 0 0]) ?_ 2 _ rfl;(with_reducible repeat (first|refine blk_drewN ?_ _|refine blk_drew ?_|refine blk_alloc ?_ _));refine blk_put (cs:=#[.int .i64 ((rd_T31 l1_3 x67_3).f0),.int .i64 0,.string (⟨#[]⟩:ByteArray),.slice none 0 0,.slice none 0 0]) ?_ 1 _ rfl;(with_reducible repeat (first|refine blk_drewN ?_ _|refine blk_drew ?_|refine blk_alloc ?_ _));refine blk_put (cs:=#[.int .i64 0,.int .i64 0,.string (⟨#[]⟩:ByteArray),.slice none 0 0,.slice none 0 0]) ?_ 0 _ rfl;(with_reducible repeat (first|refine blk_drewN ?_ _|refine blk_drew ?_|refine blk_alloc ?_ _));exact BK268.out))⟩;have n8_:Aside0 (IsS42 w0 w41 g x1000_3 u1001):=⟨(by rw [hw];exact (by repeat (first|(with_reducible first|exact HI0.out|apply IsS42.alloc|apply IsS42.drewN|apply IsS42.drew|apply IsS42.set_0|apply IsS42.set_1|refine IsS42.far ?_ NB0_265.out _|refine IsS42.far ?_ NB0_268.out _)|exact HI0.out)))⟩;have n9_:Aside0 (Kept w w41 (fun k_=>(P0_1_ k_)∨k_ = g)):=⟨(by rw [hw];exact (by repeat (first|(with_reducible first|exact HK.out|apply Kept.alloc|apply Kept.drewN|apply Kept.drew|refine Kept.setCell ?_ (.inl (.inr rfl)) _|refine Kept.setCell ?_ (.inr GW265.out) _|refine Kept.setCell ?_ (.inr GW268.out) _)|exact HK.out)))⟩;have n10_:Aside0 (Below w0.heap.size w0 w41):=⟨(by rw [hw];exact (by repeat (first|(with_reducible first|exact HB.out|apply below_alloc|apply pw_below_drewN|apply below_drew1|refine below_set ?_ (IsS42.ge HI0.out)|refine below_set ?_ GE265.out|refine below_set ?_ GE268.out)|exact HB.out)))⟩;clear hw;clear HO_65;clear HO_1001;clear HO_266003;clear HO_266004;clear HL267_3;clear HL267_4;clear BK265;clear BK268;clear HI0;clear HK;clear HB;have HO_65:=n0_;have HO_1001:=n1_;have HO_266003:=n2_;have HO_266004:=n3_;have HL267_3:=n4_;have HL267_4:=n5_;have BK265:=n6_;have BK268:=n7_;have HI0:=n8_;have HK:=n9_;have HB:=n10_;clear n0_ n1_ n2_ n3_ n4_ n5_ n6_ n7_ n8_ n9_ n10_;have hcz42_0:w41.cell? ⟨gb268,0,none⟩ = some (.int .i64 ((rd_T31 l1_3 x67_3).f0)):=(blk_cell BK268.out 0).trans rfl;have hcz42_1:w41.cell? ⟨gb268,1,none⟩ = some (.int .i64 ((rd_T31 l1_3 x67_3).f1)):=(blk_cell BK268.out 1).trans rfl;have hcz42_2:w41.cell? ⟨gb268,2,none⟩ = some (.string ((rd_T31 l1_3 x67_3).f2)):=(blk_cell BK268.out 2).trans rfl;have hcz42_3:w41.cell? ⟨gb268,3,none⟩ = some (.slice A267_3 ((rd_T31 l1_3 x67_3).f3).length c267_3):=(blk_cell BK268.out 3).trans rfl;have hcz42_4:w41.cell? ⟨gb268,4,none⟩ = some (.slice A267_4 ((rd_T31 l1_3 x67_3).f4).length c267_4):=(blk_cell BK268.out 4).trans rfl;have hfz42_0:=blk_frozen BK268.out 0;have hfz42_1:=blk_frozen BK268.out 1;have hfz42_2:=blk_frozen BK268.out 2;have hfz42_3:=blk_frozen BK268.out 3;have hfz42_4:=blk_frozen BK268.out 4)|((with_reducible refine gate_callee (f:=14) rfl ?_);refine goesL_ (some 75) rfl rfl Try.func14 (by kernel_rfl) rfl #[.pointer (some ⟨g,0,none⟩),.agg #[.int .i64 ((rd_T31 l1_3 x67_3).f0),.int .i64 ((rd_T31 l1_3 x67_3).f1),.string ((rd_T31 l1_3 x67_3).f2),.slice A267_3 ((rd_T31 l1_3 x67_3).f3).length c267_3,.slice A267_4 ((rd_T31 l1_3 x67_3).f4).length c267_4],.int .i64 (wrap64 (a2 + 1))] rfl (by (try simp only [List.map_toArray,List.map_cons,List.map_nil]);first|done|rfl|(simp only [List.length_drop,List.length_take];rfl)) ?_;(with_reducible refine (ih k3 (by have:=HJ3.out;have:=HJ22.out;have:=HK3.out;omega) g x1000_3 (fun k_=>some k_ = (u1001:Value).ownBlock) u1001 x1001_3 ((rd_T31 l1_3 x67_3).f0) ((rd_T31 l1_3 x67_3).f1) ((rd_T31 l1_3 x67_3).f2) (fun k_=>(((P0_1_ k_∨P1_3_ k_∨P1_4_ k_)∨w.heap.size≤k_)∧(some k_≠(u1001:Value).ownBlock∧(k_≠gb265∧(k_≠g∧k_≠gb268))))) _ _ ((rd_T31 l1_3 x67_3).f3) (fun k_=>(((P0_1_ k_∨P1_3_ k_∨P1_4_ k_)∨w.heap.size≤k_)∧(some k_≠(u1001:Value).ownBlock∧(k_≠gb265∧(k_≠g∧k_≠gb268))))) _ _ ((rd_T31 l1_3 x67_3).f4) (wrap64 (a2 + 1)) _ t270 t273 w0 _ ?side1 ?side2 ?side3 ?side4 ?side5 A35.out).mono ?_);(case side1=>repeat (first|(with_reducible first|exact HI0.out|apply IsS42.alloc|apply IsS42.drewN|apply IsS42.drew|apply IsS42.set_0|apply IsS42.set_1|refine IsS42.far ?_ NB0_265.out _|refine IsS42.far ?_ NB0_268.out _)|exact HI0.out));(case side2=>repeat (first|(with_reducible first|exact HB.out|apply below_alloc|apply pw_below_drewN|apply below_drew1|refine below_set ?_ (IsS42.ge HI0.out)|refine below_set ?_ GE265.out|refine below_set ?_ GE268.out)|exact HB.out));(case side3=>exact Kd.R_tight rfl HO_1001.out);(case side4=>exact Kd.V_mono (HL267_3.out) (fun k_ hk_=>⟨hk_,hk_.2.1,hk_.2.2.2.1⟩));(case side5=>exact Kd.V_mono (HL267_4.out) (fun k_ hk_=>⟨hk_,hk_.2.1,hk_.2.2.2.1⟩));rintro e w43 ⟨v271,rfl,ho0,hi,hb,hkp⟩;refine ⟨_,rfl,?_⟩;have n0_:=Aside0.mk (Kd.V_mono (ok':=fun k_=>((P0_1_ k_∨P1_3_ k_∨P1_4_ k_)∨w.heap.size≤k_)∧k_≠gb265∧k_≠gb268∧k_≠g∧some k_≠(v271:Value).ownBlock) (Kd.V_keptB (HO_65.out) hkp (fun k_ hk_ hs_=>Or.elim hs_ (fun hs_=>(hk_.2.1) hs_) (fun e_=>(hk_.2.2.2.1) e_))) (fun k_ hk_=>⟨hk_.1.1,hk_.1.2.2.1,hk_.1.2.2.2.2,hk_.1.2.2.2.1,fun e_=>Or.elim (ho0.1 k_ e_.symm) (fun hs_=>hk_.2.1 (.inl hs_)) (fun hn_=>Nat.not_le.2 hk_.2.2 hn_)⟩));have n1_:=Aside0.mk (Kd.V_mono (ok':=fun k_=>((P0_1_ k_∨P1_3_ k_∨P1_4_ k_)∨w.heap.size≤k_)∧k_≠gb265∧k_≠gb268∧k_≠g∧some k_≠(v271:Value).ownBlock) (Kd.V_keptB (HO_266003.out) hkp (fun k_ hk_ hs_=>Or.elim hs_ (fun hs_=>(hk_.2.1) hs_) (fun e_=>(hk_.2.2.2.1) e_))) (fun k_ hk_=>⟨hk_.1.1,hk_.1.2.2.1,hk_.1.2.2.2.2,hk_.1.2.2.2.1,fun e_=>Or.elim (ho0.1 k_ e_.symm) (fun hs_=>hk_.2.1 (.inl hs_)) (fun hn_=>Nat.not_le.2 hk_.2.2 hn_)⟩));have n2_:=Aside0.mk (Kd.V_mono (ok':=fun k_=>((P0_1_ k_∨P1_3_ k_∨P1_4_ k_)∨w.heap.size≤k_)∧k_≠gb265∧k_≠gb268∧k_≠g∧some k_≠(v271:Value).ownBlock) (Kd.V_keptB (HO_266004.out) hkp (fun k_ hk_ hs_=>Or.elim hs_ (fun hs_=>(hk_.2.1) hs_) (fun e_=>(hk_.2.2.2.1) e_))) (fun k_ hk_=>⟨hk_.1.1,hk_.1.2.2.1,hk_.1.2.2.2.2,hk_.1.2.2.2.1,fun e_=>Or.elim (ho0.1 k_ e_.symm) (fun hs_=>hk_.2.1 (.inl hs_)) (fun hn_=>Nat.not_le.2 hk_.2.2 hn_)⟩));have n3_:=Aside0.mk (blk_kept (by (with_reducible repeat (first|refine blk_drewN ?_ _|refine blk_drew ?_|refine blk_alloc ?_ _));exact BK265.out) hkp (fun hs_=>Or.elim hs_ (fun hs_=>(fun e_=>(Kd.R_ne HO_1001.out BK265.out (by decide)) e_) hs_) (fun e_=>NB265_0.out e_)));have n4_:=Aside0.mk (hi);have n5_:=Aside0.mk (Kd.V_mono (ok':=fun k_=>((P0_1_ k_∨P1_3_ k_∨P1_4_ k_)∨w.heap.size≤k_)∧k_≠gb265∧k_≠gb268∧k_≠g∧some k_≠(v271:Value).ownBlock) (Kd.V_keptB (HL267_3.out) hkp (fun k_ hk_ hs_=>Or.elim hs_ (fun hs_=>(hk_.2.1) hs_) (fun e_=>(hk_.2.2.2.1) e_))) (fun k_ hk_=>⟨hk_.1.1,hk_.1.2.2.1,hk_.1.2.2.2.2,hk_.1.2.2.2.1,fun e_=>Or.elim (ho0.1 k_ e_.symm) (fun hs_=>hk_.2.1 (.inl hs_)) (fun hn_=>Nat.not_le.2 hk_.2.2 hn_)⟩));have n6_:=Aside0.mk (Kd.V_mono (ok':=fun k_=>((P0_1_ k_∨P1_3_ k_∨P1_4_ k_)∨w.heap.size≤k_)∧k_≠gb265∧k_≠gb268∧k_≠g∧some k_≠(v271:Value).ownBlock) (Kd.V_keptB (HL267_4.out) hkp (fun k_ hk_ hs_=>Or.elim hs_ (fun hs_=>(hk_.2.1) hs_) (fun e_=>(hk_.2.2.2.1) e_))) (fun k_ hk_=>⟨hk_.1.1,hk_.1.2.2.1,hk_.1.2.2.2.2,hk_.1.2.2.2.1,fun e_=>Or.elim (ho0.1 k_ e_.symm) (fun hs_=>hk_.2.1 (.inl hs_)) (fun hn_=>Nat.not_le.2 hk_.2.2 hn_)⟩));have n7_:=Aside0.mk (blk_kept (by (with_reducible repeat (first|refine blk_drewN ?_ _|refine blk_drew ?_|refine blk_alloc ?_ _));exact BK268.out) hkp (fun hs_=>Or.elim hs_ (fun hs_=>(fun e_=>(Kd.R_ne HO_1001.out BK268.out (by decide)) e_) hs_) (fun e_=>NB268_0.out e_)));have n8_:=Aside0.mk (Kd.R_mono (ok':=fun k_=>(P0_1_ k_∨w.heap.size≤k_)) ho0 (fun k_ hk_=>Or.elim hk_ (fun hs_=>(HO_1001.out.1 k_ (hs_).symm)) (fun hn_=>(.inr (Nat.le_trans (by first|exact HK.out.1|exact (show Kept w _ (fun k_=>(P0_1_ k_)∨k_ = g) from by repeat (first|(with_reducible first|exact HK.out|apply Kept.alloc|apply Kept.drewN|apply Kept.drew|refine Kept.setCell ?_ (.inl (.inr rfl)) _|refine Kept.setCell ?_ (.inr GW265.out) _|refine Kept.setCell ?_ (.inr GW268.out) _)|exact HK.out)).1) hn_)))));have n9_:=Aside0.mk (Kept.then_ (S:=(fun k_=>(P0_1_ k_)∨k_ = g)) (by repeat (first|(with_reducible first|exact HK.out|apply Kept.alloc|apply Kept.drewN|apply Kept.drew|refine Kept.setCell ?_ (.inl (.inr rfl)) _|refine Kept.setCell ?_ (.inr GW265.out) _|refine Kept.setCell ?_ (.inr GW268.out) _)|exact HK.out)) hkp (fun k_ hs_=>Or.elim hs_ (fun hs_=>(fun e_=>Or.imp_left Or.inl ((HO_1001.out.1 k_ e_.symm))) hs_) (fun e_=>.inl (.inr e_))));have n10_:=Aside0.mk (hb);clear HO_65;clear HO_266003;clear HO_266004;clear BK265;clear HI0;clear HL267_3;clear HL267_4;clear BK268;clear HK;clear HB;clear HO_1001;have HO_65:=n0_;have HO_266003:=n1_;have HO_266004:=n2_;have BK265:=n3_;have HI0:=n4_;have HL267_3:=n5_;have HL267_4:=n6_;have BK268:=n7_;have HO272:=n8_;have HK:=n9_;have HB:=n10_;clear n0_ n1_ n2_ n3_ n4_ n5_ n6_ n7_ n8_ n9_ n10_;(try clear hb);(try clear hkp);(try clear ho0)))
            ·go_roundg k3
             case measure=>have:=HJ3.out;have:=HJ22.out;have:=HK3.out;omega
             case rel=>exact ⟨(wrap64 (x67_3 + 1)),(t273),(t270),(v271),(by first|rfl|(simp;done)|(simp [*];done)),H',⟨by have:=HJ3.out;have:=HJ22.out;have:=HK3.out;omega⟩,⟨by (with_reducible repeat (first|apply Kd.V_alloc|apply Kd.V_drewN|apply Kd.V_drew));exact Kd.V_mono HO_65.out (fun _ hk=>⟨hk.1,⟨hk.2.2.2.2,⟨hk.2.1,hk.2.2.2.1⟩⟩⟩)⟩,⟨by (with_reducible repeat (first|apply Kd.R_alloc|apply Kd.R_drewN|apply Kd.R_drew));exact HO272.out⟩,⟨by (with_reducible repeat (first|apply Kd.V_alloc|apply Kd.V_drewN|apply Kd.V_drew));exact Kd.V_mono HO_266003.out (fun _ hk=>⟨hk.1,⟨hk.2.2.2.2,⟨hk.2.1,hk.2.2.2.1⟩⟩⟩)⟩,⟨by (with_reducible repeat (first|apply Kd.V_alloc|apply Kd.V_drewN|apply Kd.V_drew));exact Kd.V_mono HO_266004.out (fun _ hk=>⟨hk.1,⟨hk.2.2.2.2,⟨hk.2.1,hk.2.2.2.1⟩⟩⟩)⟩,⟨by (with_reducible repeat (first|refine blk_drewN ?_ _|refine blk_drew ?_|refine blk_alloc ?_ _));exact BK265.out⟩,⟨by repeat (first|(with_reducible first|exact HI0.out|apply IsS42.alloc|apply IsS42.drewN|apply IsS42.drew|apply IsS42.set_0|apply IsS42.set_1|refine IsS42.far ?_ NB0_265.out _|refine IsS42.far ?_ NB0_268.out _)|exact HI0.out)⟩,⟨by repeat (first|(with_reducible first|exact HK.out|apply Kept.alloc|apply Kept.drewN|apply Kept.drew|refine Kept.setCell ?_ (.inl (.inr rfl)) _|refine Kept.setCell ?_ (.inr GW265.out) _|refine Kept.setCell ?_ (.inr GW268.out) _)|exact HK.out)⟩,⟨by repeat (first|(with_reducible first|exact HB.out|apply below_alloc|apply pw_below_drewN|apply below_drew1|refine below_set ?_ (IsS42.ge HI0.out)|refine below_set ?_ GE265.out|refine below_set ?_ GE268.out)|exact HB.out)⟩⟩
            ·go_ret
             exact ⟨_,by first|rfl|(simp [*,errW_none,errW_some] <;> rfl),by (with_reducible repeat (first|apply Kd.R_alloc|apply Kd.R_drewN|apply Kd.R_drew));exact HO272.out,by repeat (first|(with_reducible first|exact HI0.out|apply IsS42.alloc|apply IsS42.drewN|apply IsS42.drew|apply IsS42.set_0|apply IsS42.set_1|refine IsS42.far ?_ NB0_265.out _|refine IsS42.far ?_ NB0_268.out _)|exact HI0.out),by repeat (first|(with_reducible first|exact HB.out|apply below_alloc|apply pw_below_drewN|apply below_drew1|refine below_set ?_ (IsS42.ge HI0.out)|refine below_set ?_ GE265.out|refine below_set ?_ GE268.out)|exact HB.out),by repeat (first|(with_reducible first|exact HK.out|apply Kept.alloc|apply Kept.drewN|apply Kept.drew|refine Kept.setCell ?_ (.inl (.inr rfl)) _|refine Kept.setCell ?_ (.inr GW265.out) _|refine Kept.setCell ?_ (.inr GW268.out) _)|exact HK.out)⟩
           ·rw [if_neg c34] at H
            exact absurd H (by simp)
          ·rw [if_neg c33] at H
           exact absurd H (by simp)
         ·rw [if_neg c32] at H
          have c32b0:decide (x67_3 < (l1_3.length:Int)) = false:=decide_eq_false c32
          clear c32
          have H':=Aside0.mk H
          clear H
          have hnb51:=NB265_0.out
          have hnc51:=NB0_265.out
          have hcz52_0:wr.cell? ⟨gb265,0,none⟩ = some (.int .i64 a1_0):=(blk_cell BK265.out 0).trans rfl
          have hcz52_1:wr.cell? ⟨gb265,1,none⟩ = some (.int .i64 a1_1):=(blk_cell BK265.out 1).trans rfl
          have hcz52_2:wr.cell? ⟨gb265,2,none⟩ = some (.string a1_2):=(blk_cell BK265.out 2).trans rfl
          have hcz52_3:wr.cell? ⟨gb265,3,none⟩ = some (.slice A1_3 l1_3.length c1_3):=(blk_cell BK265.out 3).trans rfl
          have hcz52_4:wr.cell? ⟨gb265,4,none⟩ = some (.slice A1_4 l1_4.length c1_4):=(blk_cell BK265.out 4).trans rfl
          have hfz52_0:=blk_frozen BK265.out 0
          have hfz52_1:=blk_frozen BK265.out 1
          have hfz52_2:=blk_frozen BK265.out 2
          have hfz52_3:=blk_frozen BK265.out 3
          have hfz52_4:=blk_frozen BK265.out 4
          go_wp2
          go_loopg [81] k3 (fun kq v81 w'=>∃ (x81_4:Int) (x1000_4:Int) (x1001_4:List ByteArray) (u1001:Value),v81 = .int .i64 x81_4∧Aside0 (impl_judge_expr.l1 kq a2 l1_4 (l1_4.length:Int) x81_4 x1000_4 x1001_4 = some (r1,r2,r3))∧Aside0 (kq≤k3)∧Aside0 (Kd.V k53 53 w' w0.heap.size (fun k_=>((P0_1_ k_∨P1_3_ k_∨P1_4_ k_)∨w.heap.size≤k_)∧some k_≠(u1001:Value).ownBlock∧k_≠gb265∧k_≠g) (.slice A1_4 l1_4.length c1_4) l1_4)∧Aside0 (Kd.R Kd.string 9 w' w0.heap.size (fun k_=>(P0_1_ k_∨w.heap.size≤k_)) u1001 x1001_4)∧Aside0 (Kd.V k31 31 w' w0.heap.size (fun k_=>((P0_1_ k_∨P1_3_ k_∨P1_4_ k_)∨w.heap.size≤k_)∧some k_≠(u1001:Value).ownBlock∧k_≠gb265∧k_≠g) (.slice A1_3 l1_3.length c1_3) l1_3)∧Aside0 (Kd.V k53 53 w' w0.heap.size (fun k_=>((P0_1_ k_∨P1_3_ k_∨P1_4_ k_)∨w.heap.size≤k_)∧some k_≠(u1001:Value).ownBlock∧k_≠gb265∧k_≠g) (.slice A1_4 l1_4.length c1_4) l1_4)∧Aside0 (w'.heap[gb265]? = some (.cells #[.int .i64 a1_0,.int .i64 a1_1,.string a1_2,(.slice A1_3 l1_3.length c1_3),(.slice A1_4 l1_4.length c1_4)] 31 (0,0)))∧Aside0 (IsS42 w0 w' g x1000_4 u1001)∧Aside0 (Kept w w' (fun k_=>(P0_1_ k_)∨k_ = g))∧Aside0 (Below w0.heap.size w0 w'))
          case atStart=>exact ⟨(0),(x1000_3),(x1001_3),(u1001),(by first|rfl|(simp;done)|(simp [*];done)),H',⟨Nat.le_refl _⟩,⟨by (with_reducible repeat (first|apply Kd.V_alloc|apply Kd.V_drewN|apply Kd.V_drew));exact HO_266004.out⟩,⟨by (with_reducible repeat (first|apply Kd.R_alloc|apply Kd.R_drewN|apply Kd.R_drew));exact HO_1001.out⟩,⟨by (with_reducible repeat (first|apply Kd.V_alloc|apply Kd.V_drewN|apply Kd.V_drew));exact HO_266003.out⟩,⟨by (with_reducible repeat (first|apply Kd.V_alloc|apply Kd.V_drewN|apply Kd.V_drew));exact HO_266004.out⟩,⟨by (with_reducible repeat (first|refine blk_drewN ?_ _|refine blk_drew ?_|refine blk_alloc ?_ _));exact BK265.out⟩,⟨by repeat (first|(with_reducible first|exact HI0.out|apply IsS42.alloc|apply IsS42.drewN|apply IsS42.drew|apply IsS42.set_0|apply IsS42.set_1|refine IsS42.far ?_ NB0_265.out _)|exact HI0.out)⟩,⟨by repeat (first|(with_reducible first|exact HK.out|apply Kept.alloc|apply Kept.drewN|apply Kept.drew|refine Kept.setCell ?_ (.inl (.inr rfl)) _|refine Kept.setCell ?_ (.inr GW265.out) _)|exact HK.out)⟩,⟨by repeat (first|(with_reducible first|exact HB.out|apply below_alloc|apply pw_below_drewN|apply below_drew1|refine below_set ?_ (IsS42.ge HI0.out)|refine below_set ?_ GE265.out)|exact HB.out)⟩⟩
          case round =>
           clear H'
           try clear c1
           try clear c2
           try clear p2
           try clear q2
           try clear hx2
           try clear c3
           try clear c4
           try clear c5
           try clear p6
           try clear c7
           try clear c7b0
           try clear c7b2
           try clear c8
           try clear c8b0
           try clear c11
           try clear c12
           try clear c12b0
           try clear c12b1
           try clear c14
           try clear c17
           try clear c20
           try clear c22
           try clear c24
           try clear c24b0
           try clear c24b1
           try clear c24b2
           try clear c25
           try clear c26
           try clear p26
           try clear q26
           try clear hx26
           try clear c27
           try clear c29
           try clear c30
           try clear c32
           try clear c32b0
           try clear c33
           try clear c33b0
           try clear c34
           try clear c34b0
           try clear c36
           try clear c38
           try clear c39
           try clear c45
           try clear c46
           try clear c51
           try clear hcz13_0
           try clear hcz13_1
           try clear hcz15_0
           try clear hcz15_1
           try clear hcz15_2
           try clear hcz15_3
           try clear hcz15_4
           try clear hcz16_0
           try clear hcz16_1
           try clear hcz18_0
           try clear hcz18_1
           try clear hcz18_2
           try clear hcz18_3
           try clear hcz18_4
           try clear hcz19_0
           try clear hcz19_1
           try clear hcz21_0
           try clear hcz21_1
           try clear hcz21_2
           try clear hcz21_3
           try clear hcz21_4
           try clear hcz26_0
           try clear hcz26_1
           try clear hcz26_2
           try clear hcz26_3
           try clear hcz26_4
           try clear hcz28_0
           try clear hcz28_1
           try clear hcz28_2
           try clear hcz28_3
           try clear hcz28_4
           try clear hcz31_0
           try clear hcz31_1
           try clear hcz31_2
           try clear hcz31_3
           try clear hcz31_4
           try clear hcz40_0
           try clear hcz40_1
           try clear hcz40_2
           try clear hcz40_3
           try clear hcz40_4
           try clear hcz42_0
           try clear hcz42_1
           try clear hcz42_2
           try clear hcz42_3
           try clear hcz42_4
           try clear hcz47_0
           try clear hcz47_1
           try clear hcz47_2
           try clear hcz47_3
           try clear hcz47_4
           try clear hcz49_0
           try clear hcz49_1
           try clear hcz49_2
           try clear hcz49_3
           try clear hcz49_4
           try clear hcz52_0
           try clear hcz52_1
           try clear hcz52_2
           try clear hcz52_3
           try clear hcz52_4
           try clear hcz6_0
           try clear hcz6_1
           try clear hcz9_0
           try clear hcz9_1
           try clear hfz13_0
           try clear hfz13_1
           try clear hfz15_0
           try clear hfz15_1
           try clear hfz15_2
           try clear hfz15_3
           try clear hfz15_4
           try clear hfz16_0
           try clear hfz16_1
           try clear hfz18_0
           try clear hfz18_1
           try clear hfz18_2
           try clear hfz18_3
           try clear hfz18_4
           try clear hfz19_0
           try clear hfz19_1
           try clear hfz21_0
           try clear hfz21_1
           try clear hfz21_2
           try clear hfz21_3
           try clear hfz21_4
           try clear hfz26_0
           try clear hfz26_1
           try clear hfz26_2
           try clear hfz26_3
           try clear hfz26_4
           try clear hfz28_0
           try clear hfz28_1
           try clear hfz28_2
           try clear hfz28_3
           try clear hfz28_4
           try clear hfz31_0
           try clear hfz31_1
           try clear hfz31_2
           try clear hfz31_3
           try clear hfz31_4
           try clear hfz40_0
           try clear hfz40_1
           try clear hfz40_2
           try clear hfz40_3
           try clear hfz40_4
           try clear hfz42_0
           try clear hfz42_1
           try clear hfz42_2
           try clear hfz42_3
           try clear hfz42_4
           try clear hfz47_0
           try clear hfz47_1
           try clear hfz47_2
           try clear hfz47_3
           try clear hfz47_4
           try clear hfz49_0
           try clear hfz49_1
           try clear hfz49_2
           try clear hfz49_3
           try clear hfz49_4
           try clear hfz52_0
           try clear hfz52_1
           try clear hfz52_2
           try clear hfz52_3
           try clear hfz52_4
           try clear hfz6_0
           try clear hfz6_1
           try clear hfz9_0
           try clear hfz9_1
           try clear hx267_0
           try clear hx267_1
           try clear hx267_2
           try clear hx267_3
           try clear hx267_4
           try clear p2
           try clear p267
           try clear p6
           try clear q267
           try clear HO_79
           try clear HO_1001
           try clear HO_266003
           try clear HO_266004
           try clear BK265
           try clear HI0
           try clear HK
           try clear HB
           obtain ⟨x81_4,x1000_4,x1001_4,u1001,rfl,HA,HK4,HO_79,HO_1001,HO_266003,HO_266004,BK265,HI0,HK,HB⟩:=hrel
           cases gk with
           | zero=>exact absurd HA.out (by simp [impl_judge_expr.l1])
           | succ k4 =>
            have H:=HA.out
            clear HA
            simp only [impl_judge_expr.l1] at H
            by_cases c53:x81_4 < (l1_4.length:Int)
            ·rw [if_pos c53] at H
             have c53b0:decide (x81_4 < (l1_4.length:Int)) = true:=decide_eq_true c53
             clear c53
             by_cases c54:0≤x81_4
             ·rw [if_pos c54] at H
              have c54b0:decide (0≤x81_4) = true:=decide_eq_true c54
              clear c54
              by_cases c55:x81_4 < (l1_4.length:Int)
              ·rw [if_pos c55] at H
               have c55b0:decide (x81_4 < (l1_4.length:Int)) = true:=decide_eq_true c55
               clear c55
               replace H:=Option.bind_eq_some_iff.mp H
               obtain ⟨⟨t276,t277,t280⟩,A560,H⟩:=H
               replace H:(if t276 = true then ((impl_judge_expr.f k4 t280 t277 ((rd_T53 l1_4 x81_4).f1.f0) ((rd_T53 l1_4 x81_4).f1.f1) ((rd_T53 l1_4 x81_4).f1.f2) ((rd_T53 l1_4 x81_4).f1.f3) ((rd_T53 l1_4 x81_4).f1.f4) (wrap64 (a2 + 1))).bind fun bt281=>(if bt281.1 = true then (impl_judge_expr.l1 k4 a2 l1_4 (l1_4.length:Int) (wrap64 (x81_4 + 1)) bt281.2.2 bt281.2.1) else (some (false,bt281.2.1,bt281.2.2)))) else (some (false,t277,t280))) = some (r1,r2,r3):=H
               have A56:=Aside0.mk A560
               clear A560
               by_cases c57:t276 = true
               ·subst c57
                have H1:((impl_judge_expr.f k4 t280 t277 ((rd_T53 l1_4 x81_4).f1.f0) ((rd_T53 l1_4 x81_4).f1.f1) ((rd_T53 l1_4 x81_4).f1.f2) ((rd_T53 l1_4 x81_4).f1.f3) ((rd_T53 l1_4 x81_4).f1.f4) (wrap64 (a2 + 1))).bind fun bt281=>(if bt281.1 = true then (impl_judge_expr.l1 k4 a2 l1_4 (l1_4.length:Int) (wrap64 (x81_4 + 1)) bt281.2.2 bt281.2.1) else (some (false,bt281.2.1,bt281.2.2)))) = some (r1,r2,r3):=by rw [if_pos rfl] at H;exact H
                clear H
                have H:=H1
                clear H1
                replace H:=Option.bind_eq_some_iff.mp H
                obtain ⟨⟨t281,t282,t285⟩,A580,H⟩:=H
                replace H:(if t281 = true then (impl_judge_expr.l1 k4 a2 l1_4 (l1_4.length:Int) (wrap64 (x81_4 + 1)) t285 t282) else (some (false,t282,t285))) = some (r1,r2,r3):=H
                have A58:=Aside0.mk A580
                clear A580
                by_cases c59:t281 = true
                focus
                 subst c59
                 have H1:(impl_judge_expr.l1 k4 a2 l1_4 (l1_4.length:Int) (wrap64 (x81_4 + 1)) t285 t282) = some (r1,r2,r3):=by rw [if_pos rfl] at H;exact H
                 clear H
                 have H:=H1
                 clear H1
                 have H':=Aside0.mk H
                 clear H
                rotate_left
                focus
                 replace c59:=Bool.eq_false_iff.mpr c59
                 subst c59
                 have H1:(some (false,t282,t285)) = some (r1,r2,r3):=by rw [if_neg (show ¬ (false = true) by decide)] at H;exact H
                 clear H
                 have H:=H1
                 clear H1
                 simp only [Option.some.injEq,Prod.mk.injEq] at H
                 obtain ⟨rfl,rfl,rfl⟩:=H
                rotate_left
                all_goals
                 have p274:0≤(x81_4:Int):=of_decide_eq_true (by first|(with_reducible assumption)|assumption)
                 have q274:x81_4 < (l1_4.length:Int):=of_decide_eq_true (by first|(with_reducible assumption)|assumption)
                 obtain ⟨ad274,A274_3,c274_3,A274_4,c274_4,A274_8,c274_8,A274_9,c274_9,e274,hx274_0,hx274_1,hx274_2,hx274_3,hx274_4,hx274_5,hx274_6,hx274_7,hx274_8,hx274_9,hl274_3,hi274_3,hl274_4,hi274_4,hl274_8,hi274_8,hl274_9,hi274_9⟩:=at_T53 (Kd.V_reads' HO_79.out).2.2 x81_4 p274 q274
                 cases e274
                 obtain ⟨ce274,hce274,hMe274,hcc274⟩:=Kd.V_get HO_79.out z53 x81_4 p274 (by first|exact q274|exact of_decide_eq_true (by first|(with_reducible assumption)|assumption)|(have e_:=(Kd.V_reads' HO_79.out).1;omega))
                 obtain ⟨ua274_3,uc274_3,ua274_4,uc274_4,ua274_8,uc274_8,ua274_9,uc274_9,rfl,ul274_3,ge274_3,ul274_4,ge274_4,ul274_8,ge274_8,ul274_9,ge274_9⟩:=k53_openF hMe274
                 have hv274_3:=hcc274 3 _ rfl
                 rw [add_field _ _ 3 (by omega)] at hv274_3
                 replace hv274_3:=Option.some.inj (hv274_3.symm.trans hx274_3)
                 injection hv274_3 with hva_ hvn_ hvc_
                 rw [hva_] at ge274_3
                 rw [hvc_] at ul274_3
                 have HL274_3:=Aside0.mk (show Kd.V k31 31 _ w0.heap.size _ _ ((rd_T53 l1_4 x81_4).f0.f3) from Kd.V_mk ul274_3 ge274_3)
                 clear hva_ hvn_ hvc_ ge274_3 ul274_3
                 have hv274_4:=hcc274 4 _ rfl
                 rw [add_field _ _ 4 (by omega)] at hv274_4
                 replace hv274_4:=Option.some.inj (hv274_4.symm.trans hx274_4)
                 injection hv274_4 with hva_ hvn_ hvc_
                 rw [hva_] at ge274_4
                 rw [hvc_] at ul274_4
                 have HL274_4:=Aside0.mk (show Kd.V k53 53 _ w0.heap.size _ _ ((rd_T53 l1_4 x81_4).f0.f4) from Kd.V_mk ul274_4 ge274_4)
                 clear hva_ hvn_ hvc_ ge274_4 ul274_4
                 have hv274_8:=hcc274 8 _ rfl
                 rw [add_field _ _ 8 (by omega)] at hv274_8
                 replace hv274_8:=Option.some.inj (hv274_8.symm.trans hx274_8)
                 injection hv274_8 with hva_ hvn_ hvc_
                 rw [hva_] at ge274_8
                 rw [hvc_] at ul274_8
                 have HL274_8:=Aside0.mk (show Kd.V k31 31 _ w0.heap.size _ _ ((rd_T53 l1_4 x81_4).f1.f3) from Kd.V_mk ul274_8 ge274_8)
                 clear hva_ hvn_ hvc_ ge274_8 ul274_8
                 have hv274_9:=hcc274 9 _ rfl
                 rw [add_field _ _ 9 (by omega)] at hv274_9
                 replace hv274_9:=Option.some.inj (hv274_9.symm.trans hx274_9)
                 injection hv274_9 with hva_ hvn_ hvc_
                 rw [hva_] at ge274_9
                 rw [hvc_] at ul274_9
                 have HL274_9:=Aside0.mk (show Kd.V k53 53 _ w0.heap.size _ _ ((rd_T53 l1_4 x81_4).f1.f4) from Kd.V_mk ul274_9 ge274_9)
                 clear hva_ hvn_ hvc_ ge274_9 ul274_9
                 clear hcc274 hce274
                 have HR274_3:=Aside0.mk hi274_3
                 have HC274_3:=Aside0.mk hl274_3
                 clear hi274_3 hl274_3
                 have HR274_4:=Aside0.mk hi274_4
                 have HC274_4:=Aside0.mk hl274_4
                 clear hi274_4 hl274_4
                 have HR274_8:=Aside0.mk hi274_8
                 have HC274_8:=Aside0.mk hl274_8
                 clear hi274_8 hl274_8
                 have HR274_9:=Aside0.mk hi274_9
                 have HC274_9:=Aside0.mk hl274_9
                 clear hi274_9 hl274_9
                 replace p274:=eq_true p274
                 replace q274:=eq_true q274
                 go_wp2_with (first|((with_reducible refine gate_dst (N:=10) rfl ?_);(try (refine gate_guard (by rfl) ?_;dsimp only));refine box_event ?hg (N:=10) ?hd (cs:=#[.int .i64 0,.int .i64 0,.string (⟨#[]⟩:ByteArray),.slice none 0 0,.slice none 0 0,.int .i64 0,.int .i64 0,.string (⟨#[]⟩:ByteArray),.slice none 0 0,.slice none 0 0]) (t:=53) ?hr ?_;(case hd=>rfl);(case hg=>rfl);(case hr=>first|(go_simp;done)|(go_simp;rfl));intro gb275 hg w60 hbox hb;have n0_:=Aside0.mk (Kd.V_below (Kd.V_elderB (by (with_reducible repeat (first|apply Kd.V_alloc|apply Kd.V_drewN|apply Kd.V_drew));exact HO_79.out) gb275 (Nat.le_of_eq hg.symm)) hb);have n1_:=Aside0.mk (Kd.R_below (by (with_reducible repeat (first|apply Kd.R_alloc|apply Kd.R_drewN|apply Kd.R_drew));exact HO_1001.out) hb);have n2_:=Aside0.mk (Kd.V_below (Kd.V_elderB (by (with_reducible repeat (first|apply Kd.V_alloc|apply Kd.V_drewN|apply Kd.V_drew));exact HO_266003.out) gb275 (Nat.le_of_eq hg.symm)) hb);have n3_:=Aside0.mk (Kd.V_below (Kd.V_elderB (by (with_reducible repeat (first|apply Kd.V_alloc|apply Kd.V_drewN|apply Kd.V_drew));exact HO_266004.out) gb275 (Nat.le_of_eq hg.symm)) hb);have n4_:=Aside0.mk (Kd.V_below (Kd.V_elderB (by (with_reducible repeat (first|apply Kd.V_alloc|apply Kd.V_drewN|apply Kd.V_drew));exact HL274_3.out) gb275 (Nat.le_of_eq hg.symm)) hb);have n5_:=Aside0.mk (Kd.V_below (Kd.V_elderB (by (with_reducible repeat (first|apply Kd.V_alloc|apply Kd.V_drewN|apply Kd.V_drew));exact HL274_4.out) gb275 (Nat.le_of_eq hg.symm)) hb);have n6_:=Aside0.mk (Kd.V_below (Kd.V_elderB (by (with_reducible repeat (first|apply Kd.V_alloc|apply Kd.V_drewN|apply Kd.V_drew));exact HL274_8.out) gb275 (Nat.le_of_eq hg.symm)) hb);have n7_:=Aside0.mk (Kd.V_below (Kd.V_elderB (by (with_reducible repeat (first|apply Kd.V_alloc|apply Kd.V_drewN|apply Kd.V_drew));exact HL274_9.out) gb275 (Nat.le_of_eq hg.symm)) hb);have n8_:=Aside0.mk (blk_below (g:=gb265) (o:=.cells #[.int .i64 a1_0,.int .i64 a1_1,.string a1_2,.slice A1_3 l1_3.length c1_3,.slice (some ad274) l1_4.length c1_4] 31 (0,0)) (by (with_reducible repeat (first|refine blk_drewN ?_ _|refine blk_drew ?_|refine blk_alloc ?_ _));exact BK265.out) hb);have n9_:=Aside0.mk (IsS42.below (by repeat (first|(with_reducible first|exact HI0.out|apply IsS42.alloc|apply IsS42.drewN|apply IsS42.drew|apply IsS42.set_0|apply IsS42.set_1|refine IsS42.far ?_ NB0_265.out _)|exact HI0.out)) hb);have n10_:=Aside0.mk (Kd.C_below (by repeat (first|(with_reducible exact HR274_3.out)|(with_reducible refine Kd.C_alloc ?_ _)|(with_reducible refine Kd.C_drewN ?_ _)|(with_reducible refine Kd.C_drew ?_)|exact HR274_3.out)) hb);have n11_:=Aside0.mk (Kd.C_below (by repeat (first|(with_reducible exact HR274_4.out)|(with_reducible refine Kd.C_alloc ?_ _)|(with_reducible refine Kd.C_drewN ?_ _)|(with_reducible refine Kd.C_drew ?_)|exact HR274_4.out)) hb);have n12_:=Aside0.mk (Kd.C_below (by repeat (first|(with_reducible exact HR274_8.out)|(with_reducible refine Kd.C_alloc ?_ _)|(with_reducible refine Kd.C_drewN ?_ _)|(with_reducible refine Kd.C_drew ?_)|exact HR274_8.out)) hb);have n13_:=Aside0.mk (Kd.C_below (by repeat (first|(with_reducible exact HR274_9.out)|(with_reducible refine Kd.C_alloc ?_ _)|(with_reducible refine Kd.C_drewN ?_ _)|(with_reducible refine Kd.C_drew ?_)|exact HR274_9.out)) hb);have n14_:=Aside0.mk (Kept.below (S:=(fun k_=>(P0_1_ k_)∨k_ = g)) (by repeat (first|(with_reducible first|exact HK.out|apply Kept.alloc|apply Kept.drewN|apply Kept.drew|refine Kept.setCell ?_ (.inl (.inr rfl)) _|refine Kept.setCell ?_ (.inr GW265.out) _)|exact HK.out)) hb);have n15_:=Aside0.mk (below_step (by repeat (first|(with_reducible first|exact HB.out|apply below_alloc|apply pw_below_drewN|apply below_drew1|refine below_set ?_ (IsS42.ge HI0.out)|refine below_set ?_ GE265.out)|exact HB.out)) hb);have n16_:=Aside0.mk (hbox);have n17_:=Aside0.mk ((by rw [hg];exact (by first|exact HK.out.1|exact (show Kept w _ (fun k_=>(P0_1_ k_)∨k_ = g) from by repeat (first|(with_reducible first|exact HK.out|apply Kept.alloc|apply Kept.drewN|apply Kept.drew|refine Kept.setCell ?_ (.inl (.inr rfl)) _|refine Kept.setCell ?_ (.inr GW265.out) _)|exact HK.out)).1):w.heap.size≤gb275));have n18_:=Aside0.mk ((by rw [hg];exact (below_size (by repeat (first|(with_reducible first|exact HB.out|apply below_alloc|apply pw_below_drewN|apply below_drew1|refine below_set ?_ (IsS42.ge HI0.out)|refine below_set ?_ GE265.out)|exact HB.out))):w0.heap.size≤gb275));have n19_:=Aside0.mk ((by rw [hg];exact Nat.ne_of_lt (blk_lt (g:=gb265) (o:=.cells #[.int .i64 a1_0,.int .i64 a1_1,.string a1_2,.slice A1_3 l1_3.length c1_3,.slice (some ad274) l1_4.length c1_4] 31 (0,0)) (by (with_reducible repeat (first|refine blk_drewN ?_ _|refine blk_drew ?_|refine blk_alloc ?_ _));exact BK265.out)):gb265≠gb275));have n20_:=Aside0.mk ((by rw [hg];exact Nat.ne_of_gt (blk_lt (g:=gb265) (o:=.cells #[.int .i64 a1_0,.int .i64 a1_1,.string a1_2,.slice A1_3 l1_3.length c1_3,.slice (some ad274) l1_4.length c1_4] 31 (0,0)) (by (with_reducible repeat (first|refine blk_drewN ?_ _|refine blk_drew ?_|refine blk_alloc ?_ _));exact BK265.out)):gb275≠gb265));have n21_:=Aside0.mk ((by rw [hg];exact Nat.ne_of_lt (IsS42.lt (show IsS42 w0 _ g x1000_4 u1001 from by repeat (first|(with_reducible first|exact HI0.out|apply IsS42.alloc|apply IsS42.drewN|apply IsS42.drew|apply IsS42.set_0|apply IsS42.set_1|refine IsS42.far ?_ NB0_265.out _)|exact HI0.out))):g≠gb275));have n22_:=Aside0.mk ((by rw [hg];exact Nat.ne_of_gt (IsS42.lt (show IsS42 w0 _ g x1000_4 u1001 from by repeat (first|(with_reducible first|exact HI0.out|apply IsS42.alloc|apply IsS42.drewN|apply IsS42.drew|apply IsS42.set_0|apply IsS42.set_1|refine IsS42.far ?_ NB0_265.out _)|exact HI0.out))):gb275≠g));clear HO_79;clear HO_1001;clear HO_266003;clear HO_266004;clear HL274_3;clear HL274_4;clear HL274_8;clear HL274_9;clear BK265;clear HI0;clear HR274_3;clear HR274_4;clear HR274_8;clear HR274_9;clear HK;clear HB;have HO_79:=n0_;have HO_1001:=n1_;have HO_266003:=n2_;have HO_266004:=n3_;have HL274_3:=n4_;have HL274_4:=n5_;have HL274_8:=n6_;have HL274_9:=n7_;have BK265:=n8_;have HI0:=n9_;have HR274_3:=n10_;have HR274_4:=n11_;have HR274_8:=n12_;have HR274_9:=n13_;have HK:=n14_;have HB:=n15_;have BK275:=n16_;have GW275:=n17_;have GE275:=n18_;have NB265_275:=n19_;have NB275_265:=n20_;have NB0_275:=n21_;have NB275_0:=n22_;clear n0_ n1_ n2_ n3_ n4_ n5_ n6_ n7_ n8_ n9_ n10_ n11_ n12_ n13_ n14_ n15_ n16_ n17_ n18_ n19_ n20_ n21_ n22_;clear hb hbox hg;have hnb61:=NB275_265.out;have hnc61:=NB265_275.out;have hnb62:=NB275_0.out;have hnc62:=NB0_275.out;have hcz63_0:w60.cell? ⟨gb275,0,none⟩ = some (.int .i64 0):=(blk_cell BK275.out 0).trans rfl;have hcz63_1:w60.cell? ⟨gb275,1,none⟩ = some (.int .i64 0):=(blk_cell BK275.out 1).trans rfl;have hcz63_2:w60.cell? ⟨gb275,2,none⟩ = some (.string (⟨#[]⟩:ByteArray)):=(blk_cell BK275.out 2).trans rfl;have hcz63_3:w60.cell? ⟨gb275,3,none⟩ = some (.slice none 0 0):=(blk_cell BK275.out 3).trans rfl;have hcz63_4:w60.cell? ⟨gb275,4,none⟩ = some (.slice none 0 0):=(blk_cell BK275.out 4).trans rfl;have hcz63_5:w60.cell? ⟨gb275,5,none⟩ = some (.int .i64 0):=(blk_cell BK275.out 5).trans rfl;have hcz63_6:w60.cell? ⟨gb275,6,none⟩ = some (.int .i64 0):=(blk_cell BK275.out 6).trans rfl;have hcz63_7:w60.cell? ⟨gb275,7,none⟩ = some (.string (⟨#[]⟩:ByteArray)):=(blk_cell BK275.out 7).trans rfl;have hcz63_8:w60.cell? ⟨gb275,8,none⟩ = some (.slice none 0 0):=(blk_cell BK275.out 8).trans rfl;have hcz63_9:w60.cell? ⟨gb275,9,none⟩ = some (.slice none 0 0):=(blk_cell BK275.out 9).trans rfl;have hfz63_0:=blk_frozen BK275.out 0;have hfz63_1:=blk_frozen BK275.out 1;have hfz63_2:=blk_frozen BK275.out 2;have hfz63_3:=blk_frozen BK275.out 3;have hfz63_4:=blk_frozen BK275.out 4;have hfz63_5:=blk_frozen BK275.out 5;have hfz63_6:=blk_frozen BK275.out 6;have hfz63_7:=blk_frozen BK275.out 7;have hfz63_8:=blk_frozen BK275.out 8;have hfz63_9:=blk_frozen BK275.out 9)|((with_reducible refine gate_store (t:=53) (p:=10) rfl ?_);refine store_event (t:=53) (p:=10) (v:=?vo_w64) (w1:=((((((((((w60.setCell ⟨gb275,0,none⟩ (.int .i64 ((rd_T53 l1_4 x81_4).f0.f0))).setCell ⟨gb275,1,none⟩ (.int .i64 ((rd_T53 l1_4 x81_4).f0.f1))).setCell ⟨gb275,2,none⟩ (.string ((rd_T53 l1_4 x81_4).f0.f2))).setCell ⟨gb275,3,none⟩ (.slice A274_3 ((rd_T53 l1_4 x81_4).f0.f3).length c274_3)).setCell ⟨gb275,4,none⟩ (.slice A274_4 ((rd_T53 l1_4 x81_4).f0.f4).length c274_4)).setCell ⟨gb275,5,none⟩ (.int .i64 ((rd_T53 l1_4 x81_4).f1.f0))).setCell ⟨gb275,6,none⟩ (.int .i64 ((rd_T53 l1_4 x81_4).f1.f1))).setCell ⟨gb275,7,none⟩ (.string ((rd_T53 l1_4 x81_4).f1.f2))).setCell ⟨gb275,8,none⟩ (.slice A274_8 ((rd_T53 l1_4 x81_4).f1.f3).length c274_8)).setCell ⟨gb275,9,none⟩ (.slice A274_9 ((rd_T53 l1_4 x81_4).f1.f4).length c274_9))) ?hg ?ho ?hn ?hr ?_;(case ho=>rfl);(case hg=>rfl);(case hn=>rfl);(case hr=>first|(go_simp;done)|(go_simp;rfl));intro w64 hw;have n0_:Aside0 (Kd.V k53 53 w64 w0.heap.size (fun k_=>((P0_1_ k_∨P1_3_ k_∨P1_4_ k_)∨w.heap.size≤k_)∧some k_≠(u1001:Value).ownBlock∧k_≠gb265∧k_≠g∧k_≠gb275) (.slice (some ad274) l1_4.length c1_4) l1_4):=⟨(by rw [hw];exact (by (with_reducible repeat (first|apply Kd.V_alloc|apply Kd.V_drewN|apply Kd.V_drew));exact Kd.V_mono (Kd.V_far (p:=⟨gb275,9,none⟩) (Kd.V_far (p:=⟨gb275,8,none⟩) (Kd.V_far (p:=⟨gb275,7,none⟩) (Kd.V_far (p:=⟨gb275,6,none⟩) (Kd.V_far (p:=⟨gb275,5,none⟩) (Kd.V_far (p:=⟨gb275,4,none⟩) (Kd.V_far (p:=⟨gb275,3,none⟩) (Kd.V_far (p:=⟨gb275,2,none⟩) (Kd.V_far (p:=⟨gb275,1,none⟩) (Kd.V_far (p:=⟨gb275,0,none⟩) (Kd.V_mono HO_79.out (fun k_ hk=>(⟨hk,hk.2⟩:_∧k_≠gb275))) (fun _ hk=>hk.2) (.int .i64 ((rd_T53 l1_4 x81_4).f0.f0))) (fun _ hk=>hk.2) (.int .i64 ((rd_T53 l1_4 x81_4).f0.f1))) (fun _ hk=>hk.2) (.string ((rd_T53 l1_4 x81_4).f0.f2))) (fun _ hk=>hk.2) (.slice A274_3 ((rd_T53 l1_4 x81_4).f0.f3).length c274_3)) (fun _ hk=>hk.2) (.slice A274_4 ((rd_T53 l1_4 x81_4).f0.f4).length c274_4)) (fun _ hk=>hk.2) (.int .i64 ((rd_T53 l1_4 x81_4).f1.f0))) (fun _ hk=>hk.2) (.int .i64 ((rd_T53 l1_4 x81_4).f1.f1))) (fun _ hk=>hk.2) (.string ((rd_T53 l1_4 x81_4).f1.f2))) (fun _ hk=>hk.2) (.slice A274_8 ((rd_T53 l1_4 x81_4).f1.f3).length c274_8)) (fun _ hk=>hk.2) (.slice A274_9 ((rd_T53 l1_4 x81_4).f1.f4).length c274_9)) (fun _ hk=>⟨hk.1.1.1,⟨hk.1.1.2.1,⟨hk.1.1.2.2.1,⟨hk.1.1.2.2.2,hk.1.2⟩⟩⟩⟩)))⟩;have n1_:Aside0 (Kd.R Kd.string 9 w64 w0.heap.size (fun k_=>(P0_1_ k_∨w.heap.size≤k_)) u1001 x1001_4):=⟨(by rw [hw];exact (by (with_reducible repeat (first|apply Kd.R_alloc|apply Kd.R_drewN|apply Kd.R_drew));exact Kd.R_mono (Kd.R_far (p:=⟨gb275,9,none⟩) (Kd.R_far (p:=⟨gb275,8,none⟩) (Kd.R_far (p:=⟨gb275,7,none⟩) (Kd.R_far (p:=⟨gb275,6,none⟩) (Kd.R_far (p:=⟨gb275,5,none⟩) (Kd.R_far (p:=⟨gb275,4,none⟩) (Kd.R_far (p:=⟨gb275,3,none⟩) (Kd.R_far (p:=⟨gb275,2,none⟩) (Kd.R_far (p:=⟨gb275,1,none⟩) (Kd.R_far (p:=⟨gb275,0,none⟩) (Kd.R_types HO_1001.out BK275.out (by decide)) (fun _ hk=>hk.2) (.int .i64 ((rd_T53 l1_4 x81_4).f0.f0))) (fun _ hk=>hk.2) (.int .i64 ((rd_T53 l1_4 x81_4).f0.f1))) (fun _ hk=>hk.2) (.string ((rd_T53 l1_4 x81_4).f0.f2))) (fun _ hk=>hk.2) (.slice A274_3 ((rd_T53 l1_4 x81_4).f0.f3).length c274_3)) (fun _ hk=>hk.2) (.slice A274_4 ((rd_T53 l1_4 x81_4).f0.f4).length c274_4)) (fun _ hk=>hk.2) (.int .i64 ((rd_T53 l1_4 x81_4).f1.f0))) (fun _ hk=>hk.2) (.int .i64 ((rd_T53 l1_4 x81_4).f1.f1))) (fun _ hk=>hk.2) (.string ((rd_T53 l1_4 x81_4).f1.f2))) (fun _ hk=>hk.2) (.slice A274_8 ((rd_T53 l1_4 x81_4).f1.f3).length c274_8)) (fun _ hk=>hk.2) (.slice A274_9 ((rd_T53 l1_4 x81_4).f1.f4).length c274_9)) (fun _ hk=>hk.1)))⟩;have n2_:Aside0 (Kd.V k31 31 w64 w0.heap.size (fun k_=>((P0_1_ k_∨P1_3_ k_∨P1_4_ k_)∨w.heap.size≤k_)∧some k_≠(u1001:Value).ownBlock∧k_≠gb265∧k_≠g∧k_≠gb275) (.slice A1_3 l1_3.length c1_3) l1_3):=⟨(by rw [hw];exact (by (with_reducible repeat (first|apply Kd.V_alloc|apply Kd.V_drewN|apply Kd.V_drew));exact Kd.V_mono (Kd.V_far (p:=⟨gb275,9,none⟩) (Kd.V_far (p:=⟨gb275,8,none⟩) (Kd.V_far (p:=⟨gb275,7,none⟩) (Kd.V_far (p:=⟨gb275,6,none⟩) (Kd.V_far (p:=⟨gb275,5,none⟩) (Kd.V_far (p:=⟨gb275,4,none⟩) (Kd.V_far (p:=⟨gb275,3,none⟩) (Kd.V_far (p:=⟨gb275,2,none⟩) (Kd.V_far (p:=⟨gb275,1,none⟩) (Kd.V_far (p:=⟨gb275,0,none⟩) (Kd.V_mono HO_266003.out (fun k_ hk=>(⟨hk,hk.2⟩:_∧k_≠gb275))) (fun _ hk=>hk.2) (.int .i64 ((rd_T53 l1_4 x81_4).f0.f0))) (fun _ hk=>hk.2) (.int .i64 ((rd_T53 l1_4 x81_4).f0.f1))) (fun _ hk=>hk.2) (.string ((rd_T53 l1_4 x81_4).f0.f2))) (fun _ hk=>hk.2) (.slice A274_3 ((rd_T53 l1_4 x81_4).f0.f3).length c274_3)) (fun _ hk=>hk.2) (.slice A274_4 ((rd_T53 l1_4 x81_4).f0.f4).length c274_4)) (fun _ hk=>hk.2) (.int .i64 ((rd_T53 l1_4 x81_4).f1.f0))) (fun _ hk=>hk.2) (.int .i64 ((rd_T53 l1_4 x81_4).f1.f1))) (fun _ hk=>hk.2) (.string ((rd_T53 l1_4 x81_4).f1.f2))) (fun _ hk=>hk.2) (.slice A274_8 ((rd_T53 l1_4 x81_4).f1.f3).length c274_8)) (fun _ hk=>hk.2) (.slice A274_9 ((rd_T53 l1_4 x81_4).f1.f4).length c274_9)) (fun _ hk=>⟨hk.1.1.1,⟨hk.1.1.2.1,⟨hk.1.1.2.2.1,⟨hk.1.1.2.2.2,hk.1.2⟩⟩⟩⟩)))⟩;have n3_:Aside0 (Kd.V k53 53 w64 w0.heap.size (fun k_=>((P0_1_ k_∨P1_3_ k_∨P1_4_ k_)∨w.heap.size≤k_)∧some k_≠(u1001:Value).ownBlock∧k_≠gb265∧k_≠g∧k_≠gb275) (.slice (some ad274) l1_4.length c1_4) l1_4):=⟨(by rw [hw];exact (by (with_reducible repeat (first|apply Kd.V_alloc|apply Kd.V_drewN|apply Kd.V_drew));exact Kd.V_mono (Kd.V_far (p:=⟨gb275,9,none⟩) (Kd.V_far (p:=⟨gb275,8,none⟩) (Kd.V_far (p:=⟨gb275,7,none⟩) (Kd.V_far (p:=⟨gb275,6,none⟩) (Kd.V_far (p:=⟨gb275,5,none⟩) (Kd.V_far (p:=⟨gb275,4,none⟩) (Kd.V_far (p:=⟨gb275,3,none⟩) (Kd.V_far (p:=⟨gb275,2,none⟩) (Kd.V_far (p:=⟨gb275,1,none⟩) (Kd.V_far (p:=⟨gb275,0,none⟩) (Kd.V_mono HO_266004.out (fun k_ hk=>(⟨hk,hk.2⟩:_∧k_≠gb275))) (fun _ hk=>hk.2) (.int .i64 ((rd_T53 l1_4 x81_4).f0.f0))) (fun _ hk=>hk.2) (.int .i64 ((rd_T53 l1_4 x81_4).f0.f1))) (fun _ hk=>hk.2) (.string ((rd_T53 l1_4 x81_4).f0.f2))) (fun _ hk=>hk.2) (.slice A274_3 ((rd_T53 l1_4 x81_4).f0.f3).length c274_3)) (fun _ hk=>hk.2) (.slice A274_4 ((rd_T53 l1_4 x81_4).f0.f4).length c274_4)) (fun _ hk=>hk.2) (.int .i64 ((rd_T53 l1_4 x81_4).f1.f0))) (fun _ hk=>hk.2) (.int .i64 ((rd_T53 l1_4 x81_4).f1.f1))) (fun _ hk=>hk.2) (.string ((rd_T53 l1_4 x81_4).f1.f2))) (fun _ hk=>hk.2) (.slice A274_8 ((rd_T53 l1_4 x81_4).f1.f3).length c274_8)) (fun _ hk=>hk.2) (.slice A274_9 ((rd_T53 l1_4 x81_4).f1.f4).length c274_9)) (fun _ hk=>⟨hk.1.1.1,⟨hk.1.1.2.1,⟨hk.1.1.2.2.1,⟨hk.1.1.2.2.2,hk.1.2⟩⟩⟩⟩)))⟩;have n4_:Aside0 (Kd.V k31 31 w64 w0.heap.size (fun k_=>((P0_1_ k_∨P1_3_ k_∨P1_4_ k_)∨w.heap.size≤k_)∧some k_≠(u1001:Value).ownBlock∧k_≠gb265∧k_≠g∧k_≠gb275) (.slice A274_3 ((rd_T53 l1_4 x81_4).f0.f3).length c274_3) ((rd_T53 l1_4 x81_4).f0.f3)):=⟨(by rw [hw];exact (by (with_reducible repeat (first|apply Kd.V_alloc|apply Kd.V_drewN|apply Kd.V_drew));exact Kd.V_mono (Kd.V_far (p:=⟨gb275,9,none⟩) (Kd.V_far (p:=⟨gb275,8,none⟩) (Kd.V_far (p:=⟨gb275,7,none⟩) (Kd.V_far (p:=⟨gb275,6,none⟩) (Kd.V_far (p:=⟨gb275,5,none⟩) (Kd.V_far (p:=⟨gb275,4,none⟩) (Kd.V_far (p:=⟨gb275,3,none⟩) (Kd.V_far (p:=⟨gb275,2,none⟩) (Kd.V_far (p:=⟨gb275,1,none⟩) (Kd.V_far (p:=⟨gb275,0,none⟩) (Kd.V_mono HL274_3.out (fun k_ hk=>(⟨hk,hk.2⟩:_∧k_≠gb275))) (fun _ hk=>hk.2) (.int .i64 ((rd_T53 l1_4 x81_4).f0.f0))) (fun _ hk=>hk.2) (.int .i64 ((rd_T53 l1_4 x81_4).f0.f1))) (fun _ hk=>hk.2) (.string ((rd_T53 l1_4 x81_4).f0.f2))) (fun _ hk=>hk.2) (.slice A274_3 ((rd_T53 l1_4 x81_4).f0.f3).length c274_3)) (fun _ hk=>hk.2) (.slice A274_4 ((rd_T53 l1_4 x81_4).f0.f4).length c274_4)) (fun _ hk=>hk.2) (.int .i64 ((rd_T53 l1_4 x81_4).f1.f0))) (fun _ hk=>hk.2) (.int .i64 ((rd_T53 l1_4 x81_4).f1.f1))) (fun _ hk=>hk.2) (.string ((rd_T53 l1_4 x81_4).f1.f2))) (fun _ hk=>hk.2) (.slice A274_8 ((rd_T53 l1_4 x81_4).f1.f3).length c274_8)) (fun _ hk=>hk.2) (.slice A274_9 ((rd_T53 l1_4 x81_4).f1.f4).length c274_9)) (fun _ hk=>⟨hk.1.1.1,⟨hk.1.1.2.1,⟨hk.1.1.2.2.1,⟨hk.1.1.2.2.2,hk.1.2⟩⟩⟩⟩)))⟩;have n5_:Aside0 (Kd.V k53 53 w64 w0.heap.size (fun k_=>((P0_1_ k_∨P1_3_ k_∨P1_4_ k_)∨w.heap.size≤k_)∧some k_≠(u1001:Value).ownBlock∧k_≠gb265∧k_≠g∧k_≠gb275) (.slice A274_4 ((rd_T53 l1_4 x81_4).f0.f4).length c274_4) ((rd_T53 l1_4 x81_4).f0.f4)):=⟨(by rw [hw];exact (by (with_reducible repeat (first|apply Kd.V_alloc|apply Kd.V_drewN|apply Kd.V_drew));exact Kd.V_mono (Kd.V_far (p:=⟨gb275,9,none⟩) (Kd.V_far (p:=⟨gb275,8,none⟩) (Kd.V_far (p:=⟨gb275,7,none⟩) (Kd.V_far (p:=⟨gb275,6,none⟩) (Kd.V_far (p:=⟨gb275,5,none⟩) (Kd.V_far (p:=⟨gb275,4,none⟩) (Kd.V_far (p:=⟨gb275,3,none⟩) (Kd.V_far (p:=⟨gb275,2,none⟩) (Kd.V_far (p:=⟨gb275,1,none⟩) (Kd.V_far (p:=⟨gb275,0,none⟩) (Kd.V_mono HL274_4.out (fun k_ hk=>(⟨hk,hk.2⟩:_∧k_≠gb275))) (fun _ hk=>hk.2) (.int .i64 ((rd_T53 l1_4 x81_4).f0.f0))) (fun _ hk=>hk.2) (.int .i64 ((rd_T53 l1_4 x81_4).f0.f1))) (fun _ hk=>hk.2) (.string ((rd_T53 l1_4 x81_4).f0.f2))) (fun _ hk=>hk.2) (.slice A274_3 ((rd_T53 l1_4 x81_4).f0.f3).length c274_3)) (fun _ hk=>hk.2) (.slice A274_4 ((rd_T53 l1_4 x81_4).f0.f4).length c274_4)) (fun _ hk=>hk.2) (.int .i64 ((rd_T53 l1_4 x81_4).f1.f0))) (fun _ hk=>hk.2) (.int .i64 ((rd_T53 l1_4 x81_4).f1.f1))) (fun _ hk=>hk.2) (.string ((rd_T53 l1_4 x81_4).f1.f2))) (fun _ hk=>hk.2) (.slice A274_8 ((rd_T53 l1_4 x81_4).f1.f3).length c274_8)) (fun _ hk=>hk.2) (.slice A274_9 ((rd_T53 l1_4 x81_4).f1.f4).length c274_9)) (fun _ hk=>⟨hk.1.1.1,⟨hk.1.1.2.1,⟨hk.1.1.2.2.1,⟨hk.1.1.2.2.2,hk.1.2⟩⟩⟩⟩)))⟩;have n6_:Aside0 (Kd.V k31 31 w64 w0.heap.size (fun k_=>((P0_1_ k_∨P1_3_ k_∨P1_4_ k_)∨w.heap.size≤k_)∧some k_≠(u1001:Value).ownBlock∧k_≠gb265∧k_≠g∧k_≠gb275) (.slice A274_8 ((rd_T53 l1_4 x81_4).f1.f3).length c274_8) ((rd_T53 l1_4 x81_4).f1.f3)):=⟨(by rw [hw];exact (by (with_reducible repeat (first|apply Kd.V_alloc|apply Kd.V_drewN|apply Kd.V_drew));exact Kd.V_mono (Kd.V_far (p:=⟨gb275,9,none⟩) (Kd.V_far (p:=⟨gb275,8,none⟩) (Kd.V_far (p:=⟨gb275,7,none⟩) (Kd.V_far (p:=⟨gb275,6,none⟩) (Kd.V_far (p:=⟨gb275,5,none⟩) (Kd.V_far (p:=⟨gb275,4,none⟩) (Kd.V_far (p:=⟨gb275,3,none⟩) (Kd.V_far (p:=⟨gb275,2,none⟩) (Kd.V_far (p:=⟨gb275,1,none⟩) (Kd.V_far (p:=⟨gb275,0,none⟩) (Kd.V_mono HL274_8.out (fun k_ hk=>(⟨hk,hk.2⟩:_∧k_≠gb275))) (fun _ hk=>hk.2) (.int .i64 ((rd_T53 l1_4 x81_4).f0.f0))) (fun _ hk=>hk.2) (.int .i64 ((rd_T53 l1_4 x81_4).f0.f1))) (fun _ hk=>hk.2) (.string ((rd_T53 l1_4 x81_4).f0.f2))) (fun _ hk=>hk.2) (.slice A274_3 ((rd_T53 l1_4 x81_4).f0.f3).length c274_3)) (fun _ hk=>hk.2) (.slice A274_4 ((rd_T53 l1_4 x81_4).f0.f4).length c274_4)) (fun _ hk=>hk.2) (.int .i64 ((rd_T53 l1_4 x81_4).f1.f0))) (fun _ hk=>hk.2) (.int .i64 ((rd_T53 l1_4 x81_4).f1.f1))) (fun _ hk=>hk.2) (.string ((rd_T53 l1_4 x81_4).f1.f2))) (fun _ hk=>hk.2) (.slice A274_8 ((rd_T53 l1_4 x81_4).f1.f3).length c274_8)) (fun _ hk=>hk.2) (.slice A274_9 ((rd_T53 l1_4 x81_4).f1.f4).length c274_9)) (fun _ hk=>⟨hk.1.1.1,⟨hk.1.1.2.1,⟨hk.1.1.2.2.1,⟨hk.1.1.2.2.2,hk.1.2⟩⟩⟩⟩)))⟩;have n7_:Aside0 (Kd.V k53 53 w64 w0.heap.size (fun k_=>((P0_1_ k_∨P1_3_ k_∨P1_4_ k_)∨w.heap.size≤k_)∧some k_≠(u1001:Value).ownBlock∧k_≠gb265∧k_≠g∧k_≠gb275) (.slice A274_9 ((rd_T53 l1_4 x81_4).f1.f4).length c274_9) ((rd_T53 l1_4 x81_4).f1.f4)):=⟨(by rw [hw];exact (by (with_reducible repeat (first|apply Kd.V_alloc|apply Kd.V_drewN|apply Kd.V_drew));exact Kd.V_mono (Kd.V_far (p:=⟨gb275,9,none⟩) (Kd.V_far (p:=⟨gb275,8,none⟩) (Kd.V_far (p:=⟨gb275,7,none⟩) (Kd.V_far (p:=⟨gb275,6,none⟩) (Kd.V_far (p:=⟨gb275,5,none⟩) (Kd.V_far (p:=⟨gb275,4,none⟩) (Kd.V_far (p:=⟨gb275,3,none⟩) (Kd.V_far (p:=⟨gb275,2,none⟩) (Kd.V_far (p:=⟨gb275,1,none⟩) (Kd.V_far (p:=⟨gb275,0,none⟩) (Kd.V_mono HL274_9.out (fun k_ hk=>(⟨hk,hk.2⟩:_∧k_≠gb275))) (fun _ hk=>hk.2) (.int .i64 ((rd_T53 l1_4 x81_4).f0.f0))) (fun _ hk=>hk.2) (.int .i64 ((rd_T53 l1_4 x81_4).f0.f1))) (fun _ hk=>hk.2) (.string ((rd_T53 l1_4 x81_4).f0.f2))) (fun _ hk=>hk.2) (.slice A274_3 ((rd_T53 l1_4 x81_4).f0.f3).length c274_3)) (fun _ hk=>hk.2) (.slice A274_4 ((rd_T53 l1_4 x81_4).f0.f4).length c274_4)) (fun _ hk=>hk.2) (.int .i64 ((rd_T53 l1_4 x81_4).f1.f0))) (fun _ hk=>hk.2) (.int .i64 ((rd_T53 l1_4 x81_4).f1.f1))) (fun _ hk=>hk.2) (.string ((rd_T53 l1_4 x81_4).f1.f2))) (fun _ hk=>hk.2) (.slice A274_8 ((rd_T53 l1_4 x81_4).f1.f3).length c274_8)) (fun _ hk=>hk.2) (.slice A274_9 ((rd_T53 l1_4 x81_4).f1.f4).length c274_9)) (fun _ hk=>⟨hk.1.1.1,⟨hk.1.1.2.1,⟨hk.1.1.2.2.1,⟨hk.1.1.2.2.2,hk.1.2⟩⟩⟩⟩)))⟩;have n8_:Aside0 (w64.heap[gb265]? = some (.cells #[.int .i64 a1_0,.int .i64 a1_1,.string a1_2,.slice A1_3 l1_3.length c1_3,.slice (some ad274) l1_4.length c1_4] 31 (0,0))):=⟨(by rw [hw];exact (by (with_reducible repeat (first|refine blk_drewN ?_ _|refine blk_drew ?_|refine blk_alloc ?_ _));refine blk_far ?_ NB265_275.out _;(with_reducible repeat (first|refine blk_drewN ?_ _|refine blk_drew ?_|refine blk_alloc ?_ _));refine blk_far ?_ NB265_275.out _;(with_reducible repeat (first|refine blk_drewN ?_ _|refine blk_drew ?_|refine blk_alloc ?_ _));refine blk_far ?_ NB265_275.out _;(with_reducible repeat (first|refine blk_drewN ?_ _|refine blk_drew ?_|refine blk_alloc ?_ _));refine blk_far ?_ NB265_275.out _;(with_reducible repeat (first|refine blk_drewN ?_ _|refine blk_drew ?_|refine blk_alloc ?_ _));refine blk_far ?_ NB265_275.out _;(with_reducible repeat (first|refine blk_drewN ?_ _|refine blk_drew ?_|refine blk_alloc ?_ _));refine blk_far ?_ NB265_275.out _;(with_reducible repeat (first|refine blk_drewN ?_ _|refine blk_drew ?_|refine blk_alloc ?_ _));refine blk_far ?_ NB265_275.out _;(with_reducible repeat (first|refine blk_drewN ?_ _|refine blk_drew ?_|refine blk_alloc ?_ _));refine blk_far ?_ NB265_275.out _;(with_reducible repeat (first|refine blk_drewN ?_ _|refine blk_drew ?_|refine blk_alloc ?_ _));refine blk_far ?_ NB265_275.out _;(with_reducible repeat (first|refine blk_drewN ?_ _|refine blk_drew ?_|refine blk_alloc ?_ _));refine blk_far ?_ NB265_275.out _;(with_reducible repeat (first|refine blk_drewN ?_ _|refine blk_drew ?_|refine blk_alloc ?_ _));exact BK265.out))⟩;have n9_:Aside0 (w64.heap[gb275]? = some (.cells #[.int .i64 ((rd_T53 l1_4 x81_4).f0.f0),.int .i64 ((rd_T53 l1_4 x81_4).f0.f1),.string ((rd_T53 l1_4 x81_4).f0.f2),.slice A274_3 ((rd_T53 l1_4 x81_4).f0.f3).length c274_3,.slice A274_4 ((rd_T53 l1_4 x81_4).f0.f4).length c274_4,.int .i64 ((rd_T53 l1_4 x81_4).f1.f0),.int .i64 ((rd_T53 l1_4 x81_4).f1.f1),.string ((rd_T53 l1_4 x81_4).f1.f2),.slice A274_8 ((rd_T53 l1_4 x81_4).f1.f3).length c274_8,.slice A274_9 ((rd_T53 l1_4 x81_4).f1.f4).length c274_9] 53 (0,0))):=⟨(by rw [hw];exact (by (with_reducible repeat (first|refine blk_drewN ?_ _|refine blk_drew ?_|refine blk_alloc ?_ _));refine blk_put (cs:=#[.int .i64 ((rd_T53 l1_4 x81_4).f0.f0),.int .i64 ((rd_T53 l1_4 x81_4).f0.f1),.string ((rd_T53 l1_4 x81_4).f0.f2),.slice A274_3 ((rd_T53 l1_4 x81_4).f0.f3).length c274_3,.slice A274_4 ((rd_T53 l1_4 x81_4).f0.f4).length c274_4,.int .i64 ((rd_T53 l1_4 x81_4).f1.f0),.int .i64 ((rd_T53 l1_4 x81_4).f1.f1),.string ((rd_T53 l1_4 x81_4).f1.f2),.slice A274_8 ((rd_T53 l1_4 x81_4).f1.f3).length c274_8,.slice none 0 0]) ?_ 9 _ rfl;(with_reducible repeat (first|refine blk_drewN ?_ _|refine blk_drew ?_|refine blk_alloc ?_ _));refine blk_put (cs:=#[.int .i64 ((rd_T53 l1_4 x81_4).f0.f0),.int .i64 ((rd_T53 l1_4 x81_4).f0.f1),.string ((rd_T53 l1_4 x81_4).f0.f2),.slice A274_3 ((rd_T53 l1_4 x81_4).f0.f3).length c274_3,.slice A274_4 ((rd_T53 l1_4 x81_4).f0.f4).length c274_4,.int .i64 ((rd_T53 l1_4 x81_4).f1.f0),.int .i64 ((rd_T53 l1_4 x81_4).f1.f1),.string ((rd_T53 l1_4 x81_4).f1.f2),.slice none 0 0,.slice none 0 0]) ?_ 8 _ rfl;(with_reducible repeat (first|refine blk_drewN ?_ _|refine blk_drew ?_|refine blk_alloc ?_ _));refine blk_put (cs:=#[.int .i64 ((rd_T53 l1_4 x81_4).f0.f0),.int .i64 ((rd_T53 l1_4 x81_4).f0.f1),.string ((rd_T53 l1_4 x81_4).f0.f2),.slice A274_3 ((rd_T53 l1_4 x81_4).f0.f3).length c274_3,.slice A274_4 ((rd_T53 l1_4 x81_4).f0.f4).length c274_4,.int .i64 ((rd_T53 l1_4 x81_4).f1.f0),.int .i64 ((rd_T53 l1_4 x81_4).f1.f1),.string (⟨#[]⟩:ByteArray),.slice none 0 0,.slice none 0 0]) ?_ 7 _ rfl;(with_reducible repeat (first|refine blk_drewN ?_ _|refine blk_drew ?_|refine blk_alloc ?_ _));refine blk_put (cs:=#[.int .i64 ((rd_T53 l1_4 x81_4).f0.f0),.int .i64 ((rd_T53 l1_4 x81_4).f0.f1),.string ((rd_T53 l1_4 x81_4).f0.f2),.slice A274_3 ((rd_T53 l1_4 x81_4).f0.f3).length c274_3,.slice A274_4 ((rd_T53 l1_4 x81_4).f0.f4).length c274_4,.int .i64 ((rd_T53 l1_4 x81_4).f1.f0),.int .i64 0,.string (⟨#[]⟩:ByteArray),.slice none 0 0,.slice none 0 0]) ?_ 6 _ rfl;(with_reducible repeat (first|refine blk_drewN ?_ _|refine blk_drew ?_|refine blk_alloc ?_ _));refine blk_put (cs:=#[.int .i64 ((rd_T53 l1_4 x81_4).f0.f0),.int .i64 ((rd_T53 l1_4 x81_4).f0.f1),.string ((rd_T53 l1_4 x81_4).f0.f2),.slice A274_3 ((rd_T53 l1_4 x81_4).f0.f3).length c274_3,.slice A274_4 ((rd_T53 l1_4 x81_4).f0.f4).length c274_4,.int .i64 0,.int .i64 0,.string (⟨#[]⟩:ByteArray),.slice none 0 0,.slice none 0 0]) ?_ 5 _ rfl;(with_reducible repeat (first|refine blk_drewN ?_ _|refine blk_drew ?_|refine blk_alloc ?_ _));refine blk_put (cs:=#[.int .i64 ((rd_T53 l1_4 x81_4).f0.f0),.int .i64 ((rd_T53 l1_4 x81_4).f0.f1),.string ((rd_T53 l1_4 x81_4).f0.f2),.slice A274_3 ((rd_T53 l1_4 x81_4).f0.f3).length c274_3,.slice none 0 0,.int .i64 0,.int .i64 0,.string (⟨#[]⟩:ByteArray),.slice none 0 0,.slice none 0 0]) ?_ 4 _ rfl;(with_reducible repeat (first|refine blk_drewN ?_ _|refine blk_drew ?_|refine blk_alloc ?_ _));refine blk_put (cs:=#[.int .i64 ((rd_T53 l1_4 x81_4).f0.f0),.int .i64 ((rd_T53 l1_4 x81_4).f0.f1),.string ((rd_T53 l1_4 x81_4).f0.f2),.slice none 0 0,.slice none 0 0,.int .i64 0,.int .i64 0,.string (⟨#[]⟩:ByteArray),.slice none 0 0,.slice none 0 0]) ?_ 3 _ rfl;(with_reducible repeat (first|refine blk_drewN ?_ _|refine blk_drew ?_|refine blk_alloc ?_ _));refine blk_put (cs:=#[.int .i64 ((rd_T53 l1_4 x81_4).f0.f0),.int .i64 ((rd_T53 l1_4 x81_4).f0.f1),.string (⟨#[]⟩:ByteArray),.slice none 0 0,.slice none 0 0,.int .i64 0,.int .i64 0,.string (⟨#[]⟩:ByteArray),.slice none 0 0,.slice none 0 0]) ?_ 2 _ rfl;(with_reducible repeat (first|refine blk_drewN ?_ _|refine blk_drew ?_|refine blk_alloc ?_ _));refine blk_put (cs:=#[.int .i64 ((rd_T53 l1_4 x81_4).f0.f0),.int .i64 0,.string (⟨#[]⟩:ByteArray),.slice none 0 0,.slice none 0 0,.int .i64 0,.int .i64 0,.string (⟨#[]⟩:ByteArray),.slice none 0 0,.slice none 0 0]) ?_ 1 _ rfl;(with_reducible repeat (first|refine blk_drewN ?_ _|refine blk_drew ?_|refine blk_alloc ?_ _));refine blk_put (cs:=#[.int .i64 0,.int .i64 0,.string (⟨#[]⟩:ByteArray),.slice none 0 0,.slice none 0 0,.int .i64 0,.int .i64 0,.string (⟨#[]⟩:ByteArray),.slice none 0 0,.slice none 0 0]) ?_ 0 _ rfl;(with_reducible repeat (first|refine blk_drewN ?_ _|refine blk_drew ?_|refine blk_alloc ?_ _));exact BK275.out))⟩;have n10_:Aside0 (IsS42 w0 w64 g x1000_4 u1001):=⟨(by rw [hw];exact (by repeat (first|(with_reducible first|exact HI0.out|apply IsS42.alloc|apply IsS42.drewN|apply IsS42.drew|apply IsS42.set_0|apply IsS42.set_1|refine IsS42.far ?_ NB0_265.out _|refine IsS42.far ?_ NB0_275.out _)|exact HI0.out)))⟩;have n11_:Aside0 (Kept w w64 (fun k_=>(P0_1_ k_)∨k_ = g)):=⟨(by rw [hw];exact (by repeat (first|(with_reducible first|exact HK.out|apply Kept.alloc|apply Kept.drewN|apply Kept.drew|refine Kept.setCell ?_ (.inl (.inr rfl)) _|refine Kept.setCell ?_ (.inr GW265.out) _|refine Kept.setCell ?_ (.inr GW275.out) _)|exact HK.out)))⟩;have n12_:Aside0 (Below w0.heap.size w0 w64):=⟨(by rw [hw];exact (by repeat (first|(with_reducible first|exact HB.out|apply below_alloc|apply pw_below_drewN|apply below_drew1|refine below_set ?_ (IsS42.ge HI0.out)|refine below_set ?_ GE265.out|refine below_set ?_ GE275.out)|exact HB.out)))⟩;clear hw;clear HO_79;clear HO_1001;clear HO_266003;clear HO_266004;clear HL274_3;clear HL274_4;clear HL274_8;clear HL274_9;clear BK265;clear BK275;clear HI0;clear HK;clear HB;have HO_79:=n0_;have HO_1001:=n1_;have HO_266003:=n2_;have HO_266004:=n3_;have HL274_3:=n4_;have HL274_4:=n5_;have HL274_8:=n6_;have HL274_9:=n7_;have BK265:=n8_;have BK275:=n9_;have HI0:=n10_;have HK:=n11_;have HB:=n12_;clear n0_ n1_ n2_ n3_ n4_ n5_ n6_ n7_ n8_ n9_ n10_ n11_ n12_;obtain ⟨HGz65,hgz65⟩:=HI0.out;have hcz65_0:=cellS42_0 HGz65;have hcz65_1:=cellS42_1 HGz65;have hfz65_0:=blk_frozen HGz65 0;have hfz65_1:=blk_frozen HGz65 1;clear HGz65 hgz65)|((with_reducible refine gate_store (t:=40) (p:=87) rfl ?_);refine store_event (t:=40) (p:=87) (v:=?vo_w66) (w1:=(w64.setCell ⟨g,1,none⟩ (.slice none 0 0))) ?hg ?ho ?hn ?hr ?_;(case ho=>rfl);(case hg=>rfl);(case hn=>rfl);(case hr=>first|(go_simp;done)|(go_simp;rfl));intro w66 hw;have n0_:Aside0 (Kd.V k53 53 w66 w0.heap.size (fun k_=>((P0_1_ k_∨P1_3_ k_∨P1_4_ k_)∨w.heap.size≤k_)∧some k_≠(u1001:Value).ownBlock∧k_≠gb265∧k_≠g∧k_≠gb275) (.slice (some ad274) l1_4.length c1_4) l1_4):=⟨(by rw [hw];exact (by (with_reducible repeat (first|apply Kd.V_alloc|apply Kd.V_drewN|apply Kd.V_drew));exact Kd.V_mono (Kd.V_far (p:=⟨g,1,none⟩) (Kd.V_mono HO_79.out (fun k_ hk=>(⟨hk,hk.2.2.2.1⟩:_∧k_≠g))) (fun _ hk=>hk.2) (.slice none 0 0)) (fun _ hk=>⟨hk.1.1,⟨hk.1.2.1,⟨hk.1.2.2.1,⟨hk.1.2.2.2.1,hk.1.2.2.2.2⟩⟩⟩⟩)))⟩;have n1_:Aside0 (Kd.R Kd.string 9 w66 w0.heap.size (fun k_=>(P0_1_ k_∨w.heap.size≤k_)) u1001 x1001_4):=⟨(by rw [hw];exact (by (with_reducible repeat (first|apply Kd.R_alloc|apply Kd.R_drewN|apply Kd.R_drew));exact Kd.R_mono (Kd.R_far (p:=⟨g,1,none⟩) (IsS42.apart HI0.out HO_1001.out (by decide)) (fun _ hk=>hk.2) (.slice none 0 0)) (fun _ hk=>hk.1)))⟩;have n2_:Aside0 (Kd.V k31 31 w66 w0.heap.size (fun k_=>((P0_1_ k_∨P1_3_ k_∨P1_4_ k_)∨w.heap.size≤k_)∧some k_≠(u1001:Value).ownBlock∧k_≠gb265∧k_≠g∧k_≠gb275) (.slice A1_3 l1_3.length c1_3) l1_3):=⟨(by rw [hw];exact (by (with_reducible repeat (first|apply Kd.V_alloc|apply Kd.V_drewN|apply Kd.V_drew));exact Kd.V_mono (Kd.V_far (p:=⟨g,1,none⟩) (Kd.V_mono HO_266003.out (fun k_ hk=>(⟨hk,hk.2.2.2.1⟩:_∧k_≠g))) (fun _ hk=>hk.2) (.slice none 0 0)) (fun _ hk=>⟨hk.1.1,⟨hk.1.2.1,⟨hk.1.2.2.1,⟨hk.1.2.2.2.1,hk.1.2.2.2.2⟩⟩⟩⟩)))⟩;have n3_:Aside0 (Kd.V k53 53 w66 w0.heap.size (fun k_=>((P0_1_ k_∨P1_3_ k_∨P1_4_ k_)∨w.heap.size≤k_)∧some k_≠(u1001:Value).ownBlock∧k_≠gb265∧k_≠g∧k_≠gb275) (.slice (some ad274) l1_4.length c1_4) l1_4):=⟨(by rw [hw];exact (by (with_reducible repeat (first|apply Kd.V_alloc|apply Kd.V_drewN|apply Kd.V_drew));exact Kd.V_mono (Kd.V_far (p:=⟨g,1,none⟩) (Kd.V_mono HO_266004.out (fun k_ hk=>(⟨hk,hk.2.2.2.1⟩:_∧k_≠g))) (fun _ hk=>hk.2) (.slice none 0 0)) (fun _ hk=>⟨hk.1.1,⟨hk.1.2.1,⟨hk.1.2.2.1,⟨hk.1.2.2.2.1,hk.1.2.2.2.2⟩⟩⟩⟩)))⟩;have n4_:Aside0 (Kd.V k31 31 w66 w0.heap.size (fun k_=>((P0_1_ k_∨P1_3_ k_∨P1_4_ k_)∨w.heap.size≤k_)∧some k_≠(u1001:Value).ownBlock∧k_≠gb265∧k_≠g∧k_≠gb275) (.slice A274_3 ((rd_T53 l1_4 x81_4).f0.f3).length c274_3) ((rd_T53 l1_4 x81_4).f0.f3)):=⟨(by rw [hw];exact (by (with_reducible repeat (first|apply Kd.V_alloc|apply Kd.V_drewN|apply Kd.V_drew));exact Kd.V_mono (Kd.V_far (p:=⟨g,1,none⟩) (Kd.V_mono HL274_3.out (fun k_ hk=>(⟨hk,hk.2.2.2.1⟩:_∧k_≠g))) (fun _ hk=>hk.2) (.slice none 0 0)) (fun _ hk=>⟨hk.1.1,⟨hk.1.2.1,⟨hk.1.2.2.1,⟨hk.1.2.2.2.1,hk.1.2.2.2.2⟩⟩⟩⟩)))⟩;have n5_:Aside0 (Kd.V k53 53 w66 w0.heap.size (fun k_=>((P0_1_ k_∨P1_3_ k_∨P1_4_ k_)∨w.heap.size≤k_)∧some k_≠(u1001:Value).ownBlock∧k_≠gb265∧k_≠g∧k_≠gb275) (.slice A274_4 ((rd_T53 l1_4 x81_4).f0.f4).length c274_4) ((rd_T53 l1_4 x81_4).f0.f4)):=⟨(by rw [hw];exact (by (with_reducible repeat (first|apply Kd.V_alloc|apply Kd.V_drewN|apply Kd.V_drew));exact Kd.V_mono (Kd.V_far (p:=⟨g,1,none⟩) (Kd.V_mono HL274_4.out (fun k_ hk=>(⟨hk,hk.2.2.2.1⟩:_∧k_≠g))) (fun _ hk=>hk.2) (.slice none 0 0)) (fun _ hk=>⟨hk.1.1,⟨hk.1.2.1,⟨hk.1.2.2.1,⟨hk.1.2.2.2.1,hk.1.2.2.2.2⟩⟩⟩⟩)))⟩;have n6_:Aside0 (Kd.V k31 31 w66 w0.heap.size (fun k_=>((P0_1_ k_∨P1_3_ k_∨P1_4_ k_)∨w.heap.size≤k_)∧some k_≠(u1001:Value).ownBlock∧k_≠gb265∧k_≠g∧k_≠gb275) (.slice A274_8 ((rd_T53 l1_4 x81_4).f1.f3).length c274_8) ((rd_T53 l1_4 x81_4).f1.f3)):=⟨(by rw [hw];exact (by (with_reducible repeat (first|apply Kd.V_alloc|apply Kd.V_drewN|apply Kd.V_drew));exact Kd.V_mono (Kd.V_far (p:=⟨g,1,none⟩) (Kd.V_mono HL274_8.out (fun k_ hk=>(⟨hk,hk.2.2.2.1⟩:_∧k_≠g))) (fun _ hk=>hk.2) (.slice none 0 0)) (fun _ hk=>⟨hk.1.1,⟨hk.1.2.1,⟨hk.1.2.2.1,⟨hk.1.2.2.2.1,hk.1.2.2.2.2⟩⟩⟩⟩)))⟩;have n7_:Aside0 (Kd.V k53 53 w66 w0.heap.size (fun k_=>((P0_1_ k_∨P1_3_ k_∨P1_4_ k_)∨w.heap.size≤k_)∧some k_≠(u1001:Value).ownBlock∧k_≠gb265∧k_≠g∧k_≠gb275) (.slice A274_9 ((rd_T53 l1_4 x81_4).f1.f4).length c274_9) ((rd_T53 l1_4 x81_4).f1.f4)):=⟨(by rw [hw];exact (by (with_reducible repeat (first|apply Kd.V_alloc|apply Kd.V_drewN|apply Kd.V_drew));exact Kd.V_mono (Kd.V_far (p:=⟨g,1,none⟩) (Kd.V_mono HL274_9.out (fun k_ hk=>(⟨hk,hk.2.2.2.1⟩:_∧k_≠g))) (fun _ hk=>hk.2) (.slice none 0 0)) (fun _ hk=>⟨hk.1.1,⟨hk.1.2.1,⟨hk.1.2.2.1,⟨hk.1.2.2.2.1,hk.1.2.2.2.2⟩⟩⟩⟩)))⟩;have n8_:Aside0 (w66.heap[gb265]? = some (.cells #[.int .i64 a1_0,.int .i64 a1_1,.string a1_2,.slice A1_3 l1_3.length c1_3,.slice (some ad274) l1_4.length c1_4] 31 (0,0))):=⟨(by rw [hw];exact (by (with_reducible repeat (first|refine blk_drewN ?_ _|refine blk_drew ?_|refine blk_alloc ?_ _));refine blk_far ?_ NB265_0.out _;(with_reducible repeat (first|refine blk_drewN ?_ _|refine blk_drew ?_|refine blk_alloc ?_ _));exact BK265.out))⟩;have n9_:Aside0 (w66.heap[gb275]? = some (.cells #[.int .i64 ((rd_T53 l1_4 x81_4).f0.f0),.int .i64 ((rd_T53 l1_4 x81_4).f0.f1),.string ((rd_T53 l1_4 x81_4).f0.f2),.slice A274_3 ((rd_T53 l1_4 x81_4).f0.f3).length c274_3,.slice A274_4 ((rd_T53 l1_4 x81_4).f0.f4).length c274_4,.int .i64 ((rd_T53 l1_4 x81_4).f1.f0),.int .i64 ((rd_T53 l1_4 x81_4).f1.f1),.string ((rd_T53 l1_4 x81_4).f1.f2),.slice A274_8 ((rd_T53 l1_4 x81_4).f1.f3).length c274_8,.slice A274_9 ((rd_T53 l1_4 x81_4).f1.f4).length c274_9] 53 (0,0))):=⟨(by rw [hw];exact (by (with_reducible repeat (first|refine blk_drewN ?_ _|refine blk_drew ?_|refine blk_alloc ?_ _));refine blk_far ?_ NB275_0.out _;(with_reducible repeat (first|refine blk_drewN ?_ _|refine blk_drew ?_|refine blk_alloc ?_ _));exact BK275.out))⟩;have n10_:Aside0 (IsS42 w0 w66 g x1000_4 (.slice none 0 0)):=⟨(by rw [hw];exact (by repeat (first|(with_reducible first|exact HI0.out|apply IsS42.alloc|apply IsS42.drewN|apply IsS42.drew|apply IsS42.set_0|apply IsS42.set_1|refine IsS42.far ?_ NB0_265.out _|refine IsS42.far ?_ NB0_275.out _)|exact HI0.out)))⟩;have n11_:Aside0 (Kept w w66 (fun k_=>(P0_1_ k_)∨k_ = g)):=⟨(by rw [hw];exact (by repeat (first|(with_reducible first|exact HK.out|apply Kept.alloc|apply Kept.drewN|apply Kept.drew|refine Kept.setCell ?_ (.inl (.inr rfl)) _|refine Kept.setCell ?_ (.inr GW265.out) _|refine Kept.setCell ?_ (.inr GW275.out) _)|exact HK.out)))⟩;have n12_:Aside0 (Below w0.heap.size w0 w66):=⟨(by rw [hw];exact (by repeat (first|(with_reducible first|exact HB.out|apply below_alloc|apply pw_below_drewN|apply below_drew1|refine below_set ?_ (IsS42.ge HI0.out)|refine below_set ?_ GE265.out|refine below_set ?_ GE275.out)|exact HB.out)))⟩;clear hw;clear HO_79;clear HO_1001;clear HO_266003;clear HO_266004;clear HL274_3;clear HL274_4;clear HL274_8;clear HL274_9;clear BK265;clear BK275;clear HI0;clear HK;clear HB;have HO_79:=n0_;have HO_1001:=n1_;have HO_266003:=n2_;have HO_266004:=n3_;have HL274_3:=n4_;have HL274_4:=n5_;have HL274_8:=n6_;have HL274_9:=n7_;have BK265:=n8_;have BK275:=n9_;have HI0:=n10_;have HK:=n11_;have HB:=n12_;clear n0_ n1_ n2_ n3_ n4_ n5_ n6_ n7_ n8_ n9_ n10_ n11_ n12_;have hcz67_0:w66.cell? ⟨gb275,0,none⟩ = some (.int .i64 ((rd_T53 l1_4 x81_4).f0.f0)):=(blk_cell BK275.out 0).trans rfl;have hcz67_1:w66.cell? ⟨gb275,1,none⟩ = some (.int .i64 ((rd_T53 l1_4 x81_4).f0.f1)):=(blk_cell BK275.out 1).trans rfl;have hcz67_2:w66.cell? ⟨gb275,2,none⟩ = some (.string ((rd_T53 l1_4 x81_4).f0.f2)):=(blk_cell BK275.out 2).trans rfl;have hcz67_3:w66.cell? ⟨gb275,3,none⟩ = some (.slice A274_3 ((rd_T53 l1_4 x81_4).f0.f3).length c274_3):=(blk_cell BK275.out 3).trans rfl;have hcz67_4:w66.cell? ⟨gb275,4,none⟩ = some (.slice A274_4 ((rd_T53 l1_4 x81_4).f0.f4).length c274_4):=(blk_cell BK275.out 4).trans rfl;have hcz67_5:w66.cell? ⟨gb275,5,none⟩ = some (.int .i64 ((rd_T53 l1_4 x81_4).f1.f0)):=(blk_cell BK275.out 5).trans rfl;have hcz67_6:w66.cell? ⟨gb275,6,none⟩ = some (.int .i64 ((rd_T53 l1_4 x81_4).f1.f1)):=(blk_cell BK275.out 6).trans rfl;have hcz67_7:w66.cell? ⟨gb275,7,none⟩ = some (.string ((rd_T53 l1_4 x81_4).f1.f2)):=(blk_cell BK275.out 7).trans rfl;have hcz67_8:w66.cell? ⟨gb275,8,none⟩ = some (.slice A274_8 ((rd_T53 l1_4 x81_4).f1.f3).length c274_8):=(blk_cell BK275.out 8).trans rfl;have hcz67_9:w66.cell? ⟨gb275,9,none⟩ = some (.slice A274_9 ((rd_T53 l1_4 x81_4).f1.f4).length c274_9):=(blk_cell BK275.out 9).trans rfl;have hfz67_0:=blk_frozen BK275.out 0;have hfz67_1:=blk_frozen BK275.out 1;have hfz67_2:=blk_frozen BK275.out 2;have hfz67_3:=blk_frozen BK275.out 3;have hfz67_4:=blk_frozen BK275.out 4;have hfz67_5:=blk_frozen BK275.out 5;have hfz67_6:=blk_frozen BK275.out 6;have hfz67_7:=blk_frozen BK275.out 7;have hfz67_8:=blk_frozen BK275.out 8;have hfz67_9:=blk_frozen BK275.out 9)|((with_reducible refine gate_callee (f:=23) rfl ?_);refine goesL_ (some 93) rfl rfl Try.func23 (by kernel_rfl) rfl #[.pointer (some ⟨g,0,none⟩),.agg #[.int .i64 ((rd_T53 l1_4 x81_4).f0.f0),.int .i64 ((rd_T53 l1_4 x81_4).f0.f1),.string ((rd_T53 l1_4 x81_4).f0.f2),.slice A274_3 ((rd_T53 l1_4 x81_4).f0.f3).length c274_3,.slice A274_4 ((rd_T53 l1_4 x81_4).f0.f4).length c274_4],.int .i64 (wrap64 (a2 + 1))] rfl (by (try simp only [List.map_toArray,List.map_cons,List.map_nil]);first|done|rfl|(simp only [List.length_drop,List.length_take];rfl)) ?_;(with_reducible refine (impl_judge_pat.calls k4 g x1000_4 (fun k_=>some k_ = (.slice none 0 0:Value).ownBlock) (.slice none 0 0) ([]:List ByteArray) ((rd_T53 l1_4 x81_4).f0.f0) ((rd_T53 l1_4 x81_4).f0.f1) ((rd_T53 l1_4 x81_4).f0.f2) (fun k_=>(((P0_1_ k_∨P1_3_ k_∨P1_4_ k_)∨w.heap.size≤k_)∧(some k_≠(u1001:Value).ownBlock∧(k_≠gb265∧(k_≠g∧k_≠gb275))))) _ _ ((rd_T53 l1_4 x81_4).f0.f3) _ _ ((rd_T53 l1_4 x81_4).f0.f4) (wrap64 (a2 + 1)) true t277 t280 w0 _ ?side1 ?side2 ?side3 ?side4 ?side5 ?side6 A56.out).mono ?_);(case side1=>repeat (first|(with_reducible first|exact HI0.out|apply IsS42.alloc|apply IsS42.drewN|apply IsS42.drew|apply IsS42.set_0|apply IsS42.set_1|refine IsS42.far ?_ NB0_265.out _|refine IsS42.far ?_ NB0_275.out _)|exact HI0.out));(case side2=>repeat (first|(with_reducible first|exact HB.out|apply below_alloc|apply pw_below_drewN|apply below_drew1|refine below_set ?_ (IsS42.ge HI0.out)|refine below_set ?_ GE265.out|refine below_set ?_ GE275.out)|exact HB.out));(case side3=>exact Kd.R_nil _ _ _ _ _);(case side4=>exact Kd.V_mono (HL274_3.out) (fun k_ hk_=>⟨hk_,(by simp [Value.ownBlock]),hk_.2.2.2.1⟩));(case side5=>exact Kd.C_kept_ownV (HL274_4.out) (fun k_ hk_ hs_=>Or.elim hs_ (fun hs_=>(fun e_=>by simp [Value.ownBlock] at e_) hs_) (fun e_=>(hk_.2.2.2.1) e_)));(case side6=>exact HC274_4.out);rintro e w68 ⟨v278,rfl,ho0,hi,hb,hkp⟩;refine ⟨_,rfl,?_⟩;have n0_:=Aside0.mk (Kd.V_mono (ok':=fun k_=>((P0_1_ k_∨P1_3_ k_∨P1_4_ k_)∨w.heap.size≤k_)∧some k_≠(u1001:Value).ownBlock∧k_≠gb265∧k_≠gb275∧k_≠g∧some k_≠(v278:Value).ownBlock) (Kd.V_keptB (HO_79.out) hkp (fun k_ hk_ hs_=>Or.elim hs_ (fun hs_=>(fun e_=>by simp [Value.ownBlock] at e_) hs_) (fun e_=>(hk_.2.2.2.1) e_))) (fun k_ hk_=>⟨hk_.1.1,hk_.1.2.1,hk_.1.2.2.1,hk_.1.2.2.2.2,hk_.1.2.2.2.1,fun e_=>Or.elim (ho0.1 k_ e_.symm) (fun hs_=>hk_.2.1 (.inl hs_)) (fun hn_=>Nat.not_le.2 hk_.2.2 hn_)⟩));have n1_:=Aside0.mk (Kd.R_mono (ok':=fun k_=>(P0_1_ k_∨w.heap.size≤k_)∧some k_≠(v278:Value).ownBlock) (Kd.R_keptB ((IsS42.apart HI0.out HO_1001.out (by decide))) hkp (fun k_ hk_ hs_=>Or.elim hs_ (fun hs_=>(fun e_=>by simp [Value.ownBlock] at e_) hs_) (fun e_=>(hk_.2) e_))) (fun k_ hk_=>⟨hk_.1.1,fun e_=>Or.elim (ho0.1 k_ e_.symm) (fun hs_=>hk_.2.1 (.inl hs_)) (fun hn_=>Nat.not_le.2 hk_.2.2 hn_)⟩));have n2_:=Aside0.mk (Kd.V_mono (ok':=fun k_=>((P0_1_ k_∨P1_3_ k_∨P1_4_ k_)∨w.heap.size≤k_)∧some k_≠(u1001:Value).ownBlock∧k_≠gb265∧k_≠gb275∧k_≠g∧some k_≠(v278:Value).ownBlock) (Kd.V_keptB (HO_266003.out) hkp (fun k_ hk_ hs_=>Or.elim hs_ (fun hs_=>(fun e_=>by simp [Value.ownBlock] at e_) hs_) (fun e_=>(hk_.2.2.2.1) e_))) (fun k_ hk_=>⟨hk_.1.1,hk_.1.2.1,hk_.1.2.2.1,hk_.1.2.2.2.2,hk_.1.2.2.2.1,fun e_=>Or.elim (ho0.1 k_ e_.symm) (fun hs_=>hk_.2.1 (.inl hs_)) (fun hn_=>Nat.not_le.2 hk_.2.2 hn_)⟩));have n3_:=Aside0.mk (Kd.V_mono (ok':=fun k_=>((P0_1_ k_∨P1_3_ k_∨P1_4_ k_)∨w.heap.size≤k_)∧some k_≠(u1001:Value).ownBlock∧k_≠gb265∧k_≠gb275∧k_≠g∧some k_≠(v278:Value).ownBlock) (Kd.V_keptB (HO_266004.out) hkp (fun k_ hk_ hs_=>Or.elim hs_ (fun hs_=>(fun e_=>by simp [Value.ownBlock] at e_) hs_) (fun e_=>(hk_.2.2.2.1) e_))) (fun k_ hk_=>⟨hk_.1.1,hk_.1.2.1,hk_.1.2.2.1,hk_.1.2.2.2.2,hk_.1.2.2.2.1,fun e_=>Or.elim (ho0.1 k_ e_.symm) (fun hs_=>hk_.2.1 (.inl hs_)) (fun hn_=>Nat.not_le.2 hk_.2.2 hn_)⟩));have n4_:=Aside0.mk (blk_kept (by (with_reducible repeat (first|refine blk_drewN ?_ _|refine blk_drew ?_|refine blk_alloc ?_ _));exact BK265.out) hkp (fun hs_=>Or.elim hs_ (fun hs_=>(fun e_=>by simp [Value.ownBlock] at e_) hs_) (fun e_=>NB265_0.out e_)));have n5_:=Aside0.mk (hi);have n6_:=Aside0.mk (Kd.V_mono (ok':=fun k_=>((P0_1_ k_∨P1_3_ k_∨P1_4_ k_)∨w.heap.size≤k_)∧some k_≠(u1001:Value).ownBlock∧k_≠gb265∧k_≠gb275∧k_≠g∧some k_≠(v278:Value).ownBlock) (Kd.V_keptB (HL274_3.out) hkp (fun k_ hk_ hs_=>Or.elim hs_ (fun hs_=>(fun e_=>by simp [Value.ownBlock] at e_) hs_) (fun e_=>(hk_.2.2.2.1) e_))) (fun k_ hk_=>⟨hk_.1.1,hk_.1.2.1,hk_.1.2.2.1,hk_.1.2.2.2.2,hk_.1.2.2.2.1,fun e_=>Or.elim (ho0.1 k_ e_.symm) (fun hs_=>hk_.2.1 (.inl hs_)) (fun hn_=>Nat.not_le.2 hk_.2.2 hn_)⟩));have n7_:=Aside0.mk (Kd.V_mono (ok':=fun k_=>((P0_1_ k_∨P1_3_ k_∨P1_4_ k_)∨w.heap.size≤k_)∧some k_≠(u1001:Value).ownBlock∧k_≠gb265∧k_≠gb275∧k_≠g∧some k_≠(v278:Value).ownBlock) (Kd.V_keptB (HL274_4.out) hkp (fun k_ hk_ hs_=>Or.elim hs_ (fun hs_=>(fun e_=>by simp [Value.ownBlock] at e_) hs_) (fun e_=>(hk_.2.2.2.1) e_))) (fun k_ hk_=>⟨hk_.1.1,hk_.1.2.1,hk_.1.2.2.1,hk_.1.2.2.2.2,hk_.1.2.2.2.1,fun e_=>Or.elim (ho0.1 k_ e_.symm) (fun hs_=>hk_.2.1 (.inl hs_)) (fun hn_=>Nat.not_le.2 hk_.2.2 hn_)⟩));have n8_:=Aside0.mk (Kd.V_mono (ok':=fun k_=>((P0_1_ k_∨P1_3_ k_∨P1_4_ k_)∨w.heap.size≤k_)∧some k_≠(u1001:Value).ownBlock∧k_≠gb265∧k_≠gb275∧k_≠g∧some k_≠(v278:Value).ownBlock) (Kd.V_keptB (HL274_8.out) hkp (fun k_ hk_ hs_=>Or.elim hs_ (fun hs_=>(fun e_=>by simp [Value.ownBlock] at e_) hs_) (fun e_=>(hk_.2.2.2.1) e_))) (fun k_ hk_=>⟨hk_.1.1,hk_.1.2.1,hk_.1.2.2.1,hk_.1.2.2.2.2,hk_.1.2.2.2.1,fun e_=>Or.elim (ho0.1 k_ e_.symm) (fun hs_=>hk_.2.1 (.inl hs_)) (fun hn_=>Nat.not_le.2 hk_.2.2 hn_)⟩));have n9_:=Aside0.mk (Kd.V_mono (ok':=fun k_=>((P0_1_ k_∨P1_3_ k_∨P1_4_ k_)∨w.heap.size≤k_)∧some k_≠(u1001:Value).ownBlock∧k_≠gb265∧k_≠gb275∧k_≠g∧some k_≠(v278:Value).ownBlock) (Kd.V_keptB (HL274_9.out) hkp (fun k_ hk_ hs_=>Or.elim hs_ (fun hs_=>(fun e_=>by simp [Value.ownBlock] at e_) hs_) (fun e_=>(hk_.2.2.2.1) e_))) (fun k_ hk_=>⟨hk_.1.1,hk_.1.2.1,hk_.1.2.2.1,hk_.1.2.2.2.2,hk_.1.2.2.2.1,fun e_=>Or.elim (ho0.1 k_ e_.symm) (fun hs_=>hk_.2.1 (.inl hs_)) (fun hn_=>Nat.not_le.2 hk_.2.2 hn_)⟩));have n10_:=Aside0.mk (blk_kept (by (with_reducible repeat (first|refine blk_drewN ?_ _|refine blk_drew ?_|refine blk_alloc ?_ _));exact BK275.out) hkp (fun hs_=>Or.elim hs_ (fun hs_=>(fun e_=>by simp [Value.ownBlock] at e_) hs_) (fun e_=>NB275_0.out e_)));have n11_:=Aside0.mk (Kd.R_mono (ok':=fun k_=>(P0_1_ k_∨w.heap.size≤k_)∧some k_≠(u1001:Value).ownBlock) ho0 (fun k_ hk_=>⟨Or.elim hk_ (fun hs_=>absurd hs_ (by simp [Value.ownBlock])) (fun hn_=>(.inr (Nat.le_trans (by first|exact HK.out.1|exact (show Kept w _ (fun k_=>(P0_1_ k_)∨k_ = g) from by repeat (first|(with_reducible first|exact HK.out|apply Kept.alloc|apply Kept.drewN|apply Kept.drew|refine Kept.setCell ?_ (.inl (.inr rfl)) _|refine Kept.setCell ?_ (.inr GW265.out) _|refine Kept.setCell ?_ (.inr GW275.out) _)|exact HK.out)).1) hn_))),Or.elim hk_ (fun hs_=>absurd hs_ (by simp [Value.ownBlock])) (fun hn_=>(Kd.fresh' (Kd.R_lt (by (with_reducible repeat (first|apply Kd.R_alloc|apply Kd.R_drewN|apply Kd.R_drew));exact HO_1001.out)) k_ hn_))⟩));have n12_:=Aside0.mk (Kept.then_ (S:=(fun k_=>(P0_1_ k_)∨k_ = g)) (by repeat (first|(with_reducible first|exact HK.out|apply Kept.alloc|apply Kept.drewN|apply Kept.drew|refine Kept.setCell ?_ (.inl (.inr rfl)) _|refine Kept.setCell ?_ (.inr GW265.out) _|refine Kept.setCell ?_ (.inr GW275.out) _)|exact HK.out)) hkp (fun k_ hs_=>Or.elim hs_ (fun hs_=>(fun e_=>by simp [Value.ownBlock] at e_) hs_) (fun e_=>.inl (.inr e_))));have n13_:=Aside0.mk (hb);clear HO_79;clear HO_1001;clear HO_266003;clear HO_266004;clear BK265;clear HI0;clear HL274_3;clear HL274_4;clear HL274_8;clear HL274_9;clear BK275;clear HK;clear HB;have HO_79:=n0_;have HO_1001:=n1_;have HO_266003:=n2_;have HO_266004:=n3_;have BK265:=n4_;have HI0:=n5_;have HL274_3:=n6_;have HL274_4:=n7_;have HL274_8:=n8_;have HL274_9:=n9_;have BK275:=n10_;have HO279:=n11_;have HK:=n12_;have HB:=n13_;clear n0_ n1_ n2_ n3_ n4_ n5_ n6_ n7_ n8_ n9_ n10_ n11_ n12_ n13_;(try clear hb);(try clear hkp);(try clear ho0);have hcz69_0:w68.cell? ⟨gb275,0,none⟩ = some (.int .i64 ((rd_T53 l1_4 x81_4).f0.f0)):=(blk_cell BK275.out 0).trans rfl;have hcz69_1:w68.cell? ⟨gb275,1,none⟩ = some (.int .i64 ((rd_T53 l1_4 x81_4).f0.f1)):=(blk_cell BK275.out 1).trans rfl;have hcz69_2:w68.cell? ⟨gb275,2,none⟩ = some (.string ((rd_T53 l1_4 x81_4).f0.f2)):=(blk_cell BK275.out 2).trans rfl;have hcz69_3:w68.cell? ⟨gb275,3,none⟩ = some (.slice A274_3 ((rd_T53 l1_4 x81_4).f0.f3).length c274_3):=(blk_cell BK275.out 3).trans rfl;have hcz69_4:w68.cell? ⟨gb275,4,none⟩ = some (.slice A274_4 ((rd_T53 l1_4 x81_4).f0.f4).length c274_4):=(blk_cell BK275.out 4).trans rfl;have hcz69_5:w68.cell? ⟨gb275,5,none⟩ = some (.int .i64 ((rd_T53 l1_4 x81_4).f1.f0)):=(blk_cell BK275.out 5).trans rfl;have hcz69_6:w68.cell? ⟨gb275,6,none⟩ = some (.int .i64 ((rd_T53 l1_4 x81_4).f1.f1)):=(blk_cell BK275.out 6).trans rfl;have hcz69_7:w68.cell? ⟨gb275,7,none⟩ = some (.string ((rd_T53 l1_4 x81_4).f1.f2)):=(blk_cell BK275.out 7).trans rfl;have hcz69_8:w68.cell? ⟨gb275,8,none⟩ = some (.slice A274_8 ((rd_T53 l1_4 x81_4).f1.f3).length c274_8):=(blk_cell BK275.out 8).trans rfl;have hcz69_9:w68.cell? ⟨gb275,9,none⟩ = some (.slice A274_9 ((rd_T53 l1_4 x81_4).f1.f4).length c274_9):=(blk_cell BK275.out 9).trans rfl;have hfz69_0:=blk_frozen BK275.out 0;have hfz69_1:=blk_frozen BK275.out 1;have hfz69_2:=blk_frozen BK275.out 2;have hfz69_3:=blk_frozen BK275.out 3;have hfz69_4:=blk_frozen BK275.out 4;have hfz69_5:=blk_frozen BK275.out 5;have hfz69_6:=blk_frozen BK275.out 6;have hfz69_7:=blk_frozen BK275.out 7;have hfz69_8:=blk_frozen BK275.out 8;have hfz69_9:=blk_frozen BK275.out 9)|(go_at_call 14;(with_reducible refine (ih k4 (by have:=HJ3.out;have:=HJ22.out;have:=HK3.out;have:=HK4.out;omega) g t280 (fun k_=>some k_ = (v278:Value).ownBlock) v278 t277 ((rd_T53 l1_4 x81_4).f1.f0) ((rd_T53 l1_4 x81_4).f1.f1) ((rd_T53 l1_4 x81_4).f1.f2) (fun k_=>(((P0_1_ k_∨P1_3_ k_∨P1_4_ k_)∨w.heap.size≤k_)∧(some k_≠(u1001:Value).ownBlock∧(k_≠gb265∧(k_≠gb275∧(k_≠g∧some k_≠(v278:Value).ownBlock)))))) _ _ ((rd_T53 l1_4 x81_4).f1.f3) (fun k_=>(((P0_1_ k_∨P1_3_ k_∨P1_4_ k_)∨w.heap.size≤k_)∧(some k_≠(u1001:Value).ownBlock∧(k_≠gb265∧(k_≠gb275∧(k_≠g∧some k_≠(v278:Value).ownBlock)))))) _ _ ((rd_T53 l1_4 x81_4).f1.f4) (wrap64 (a2 + 1)) _ t282 t285 w0 _ ?side1 ?side2 ?side3 ?side4 ?side5 A58.out).mono ?_);(case side1=>repeat (first|(with_reducible first|exact HI0.out|apply IsS42.alloc|apply IsS42.drewN|apply IsS42.drew|apply IsS42.set_0|apply IsS42.set_1|refine IsS42.far ?_ NB0_265.out _|refine IsS42.far ?_ NB0_275.out _)|exact HI0.out));(case side2=>repeat (first|(with_reducible first|exact HB.out|apply below_alloc|apply pw_below_drewN|apply below_drew1|refine below_set ?_ (IsS42.ge HI0.out)|refine below_set ?_ GE265.out|refine below_set ?_ GE275.out)|exact HB.out));(case side3=>exact Kd.R_tight rfl HO279.out);(case side4=>exact Kd.V_mono (HL274_8.out) (fun k_ hk_=>⟨hk_,hk_.2.2.2.2.2,hk_.2.2.2.2.1⟩));(case side5=>exact Kd.V_mono (HL274_9.out) (fun k_ hk_=>⟨hk_,hk_.2.2.2.2.2,hk_.2.2.2.2.1⟩));rintro e w70 ⟨v283,rfl,ho0,hi,hb,hkp⟩;have n0_:=Aside0.mk (Kd.V_mono (ok':=fun k_=>((P0_1_ k_∨P1_3_ k_∨P1_4_ k_)∨w.heap.size≤k_)∧some k_≠(u1001:Value).ownBlock∧k_≠gb265∧k_≠gb275∧k_≠g∧some k_≠(v283:Value).ownBlock) (Kd.V_keptB (HO_79.out) hkp (fun k_ hk_ hs_=>Or.elim hs_ (fun hs_=>(hk_.2.2.2.2.2) hs_) (fun e_=>(hk_.2.2.2.2.1) e_))) (fun k_ hk_=>⟨hk_.1.1,hk_.1.2.1,hk_.1.2.2.1,hk_.1.2.2.2.1,hk_.1.2.2.2.2.1,fun e_=>Or.elim (ho0.1 k_ e_.symm) (fun hs_=>hk_.2.1 (.inl hs_)) (fun hn_=>Nat.not_le.2 hk_.2.2 hn_)⟩));have n1_:=Aside0.mk (Kd.R_mono (ok':=fun k_=>(P0_1_ k_∨w.heap.size≤k_)∧some k_≠(v283:Value).ownBlock) (Kd.R_keptB ((IsS42.apart HI0.out HO_1001.out (by decide))) hkp (fun k_ hk_ hs_=>Or.elim hs_ (fun hs_=>(hk_.1.2) hs_) (fun e_=>(hk_.2) e_))) (fun k_ hk_=>⟨hk_.1.1.1,fun e_=>Or.elim (ho0.1 k_ e_.symm) (fun hs_=>hk_.2.1 (.inl hs_)) (fun hn_=>Nat.not_le.2 hk_.2.2 hn_)⟩));have n2_:=Aside0.mk (Kd.V_mono (ok':=fun k_=>((P0_1_ k_∨P1_3_ k_∨P1_4_ k_)∨w.heap.size≤k_)∧some k_≠(u1001:Value).ownBlock∧k_≠gb265∧k_≠gb275∧k_≠g∧some k_≠(v283:Value).ownBlock) (Kd.V_keptB (HO_266003.out) hkp (fun k_ hk_ hs_=>Or.elim hs_ (fun hs_=>(hk_.2.2.2.2.2) hs_) (fun e_=>(hk_.2.2.2.2.1) e_))) (fun k_ hk_=>⟨hk_.1.1,hk_.1.2.1,hk_.1.2.2.1,hk_.1.2.2.2.1,hk_.1.2.2.2.2.1,fun e_=>Or.elim (ho0.1 k_ e_.symm) (fun hs_=>hk_.2.1 (.inl hs_)) (fun hn_=>Nat.not_le.2 hk_.2.2 hn_)⟩));have n3_:=Aside0.mk (Kd.V_mono (ok':=fun k_=>((P0_1_ k_∨P1_3_ k_∨P1_4_ k_)∨w.heap.size≤k_)∧some k_≠(u1001:Value).ownBlock∧k_≠gb265∧k_≠gb275∧k_≠g∧some k_≠(v283:Value).ownBlock) (Kd.V_keptB (HO_266004.out) hkp (fun k_ hk_ hs_=>Or.elim hs_ (fun hs_=>(hk_.2.2.2.2.2) hs_) (fun e_=>(hk_.2.2.2.2.1) e_))) (fun k_ hk_=>⟨hk_.1.1,hk_.1.2.1,hk_.1.2.2.1,hk_.1.2.2.2.1,hk_.1.2.2.2.2.1,fun e_=>Or.elim (ho0.1 k_ e_.symm) (fun hs_=>hk_.2.1 (.inl hs_)) (fun hn_=>Nat.not_le.2 hk_.2.2 hn_)⟩));have n4_:=Aside0.mk (blk_kept (by (with_reducible repeat (first|refine blk_drewN ?_ _|refine blk_drew ?_|refine blk_alloc ?_ _));exact BK265.out) hkp (fun hs_=>Or.elim hs_ (fun hs_=>(fun e_=>(Kd.R_ne HO279.out BK265.out (by decide)) e_) hs_) (fun e_=>NB265_0.out e_)));have n5_:=Aside0.mk (hi);have n6_:=Aside0.mk (Kd.V_mono (ok':=fun k_=>((P0_1_ k_∨P1_3_ k_∨P1_4_ k_)∨w.heap.size≤k_)∧some k_≠(u1001:Value).ownBlock∧k_≠gb265∧k_≠gb275∧k_≠g∧some k_≠(v283:Value).ownBlock) (Kd.V_keptB (HL274_3.out) hkp (fun k_ hk_ hs_=>Or.elim hs_ (fun hs_=>(hk_.2.2.2.2.2) hs_) (fun e_=>(hk_.2.2.2.2.1) e_))) (fun k_ hk_=>⟨hk_.1.1,hk_.1.2.1,hk_.1.2.2.1,hk_.1.2.2.2.1,hk_.1.2.2.2.2.1,fun e_=>Or.elim (ho0.1 k_ e_.symm) (fun hs_=>hk_.2.1 (.inl hs_)) (fun hn_=>Nat.not_le.2 hk_.2.2 hn_)⟩));have n7_:=Aside0.mk (Kd.V_mono (ok':=fun k_=>((P0_1_ k_∨P1_3_ k_∨P1_4_ k_)∨w.heap.size≤k_)∧some k_≠(u1001:Value).ownBlock∧k_≠gb265∧k_≠gb275∧k_≠g∧some k_≠(v283:Value).ownBlock) (Kd.V_keptB (HL274_4.out) hkp (fun k_ hk_ hs_=>Or.elim hs_ (fun hs_=>(hk_.2.2.2.2.2) hs_) (fun e_=>(hk_.2.2.2.2.1) e_))) (fun k_ hk_=>⟨hk_.1.1,hk_.1.2.1,hk_.1.2.2.1,hk_.1.2.2.2.1,hk_.1.2.2.2.2.1,fun e_=>Or.elim (ho0.1 k_ e_.symm) (fun hs_=>hk_.2.1 (.inl hs_)) (fun hn_=>Nat.not_le.2 hk_.2.2 hn_)⟩));have n8_:=Aside0.mk (Kd.V_mono (ok':=fun k_=>((P0_1_ k_∨P1_3_ k_∨P1_4_ k_)∨w.heap.size≤k_)∧some k_≠(u1001:Value).ownBlock∧k_≠gb265∧k_≠gb275∧k_≠g∧some k_≠(v283:Value).ownBlock) (Kd.V_keptB (HL274_8.out) hkp (fun k_ hk_ hs_=>Or.elim hs_ (fun hs_=>(hk_.2.2.2.2.2) hs_) (fun e_=>(hk_.2.2.2.2.1) e_))) (fun k_ hk_=>⟨hk_.1.1,hk_.1.2.1,hk_.1.2.2.1,hk_.1.2.2.2.1,hk_.1.2.2.2.2.1,fun e_=>Or.elim (ho0.1 k_ e_.symm) (fun hs_=>hk_.2.1 (.inl hs_)) (fun hn_=>Nat.not_le.2 hk_.2.2 hn_)⟩));have n9_:=Aside0.mk (Kd.V_mono (ok':=fun k_=>((P0_1_ k_∨P1_3_ k_∨P1_4_ k_)∨w.heap.size≤k_)∧some k_≠(u1001:Value).ownBlock∧k_≠gb265∧k_≠gb275∧k_≠g∧some k_≠(v283:Value).ownBlock) (Kd.V_keptB (HL274_9.out) hkp (fun k_ hk_ hs_=>Or.elim hs_ (fun hs_=>(hk_.2.2.2.2.2) hs_) (fun e_=>(hk_.2.2.2.2.1) e_))) (fun k_ hk_=>⟨hk_.1.1,hk_.1.2.1,hk_.1.2.2.1,hk_.1.2.2.2.1,hk_.1.2.2.2.2.1,fun e_=>Or.elim (ho0.1 k_ e_.symm) (fun hs_=>hk_.2.1 (.inl hs_)) (fun hn_=>Nat.not_le.2 hk_.2.2 hn_)⟩));have n10_:=Aside0.mk (blk_kept (by (with_reducible repeat (first|refine blk_drewN ?_ _|refine blk_drew ?_|refine blk_alloc ?_ _));exact BK275.out) hkp (fun hs_=>Or.elim hs_ (fun hs_=>(fun e_=>(Kd.R_ne HO279.out BK275.out (by decide)) e_) hs_) (fun e_=>NB275_0.out e_)));have n11_:=Aside0.mk (Kd.R_mono (ok':=fun k_=>(P0_1_ k_∨w.heap.size≤k_)∧some k_≠(u1001:Value).ownBlock) ho0 (fun k_ hk_=>⟨Or.elim hk_ (fun hs_=>(HO279.out.1 k_ (hs_).symm).1) (fun hn_=>(.inr (Nat.le_trans (by first|exact HK.out.1|exact (show Kept w _ (fun k_=>(P0_1_ k_)∨k_ = g) from by repeat (first|(with_reducible first|exact HK.out|apply Kept.alloc|apply Kept.drewN|apply Kept.drew|refine Kept.setCell ?_ (.inl (.inr rfl)) _|refine Kept.setCell ?_ (.inr GW265.out) _|refine Kept.setCell ?_ (.inr GW275.out) _)|exact HK.out)).1) hn_))),Or.elim hk_ (fun hs_=>fun e_=>((((IsS42.apart HI0.out HO_1001.out (by decide))).1 k_ e_.symm).1.2) hs_) (fun hn_=>(Kd.fresh' (Kd.R_lt (by (with_reducible repeat (first|apply Kd.R_alloc|apply Kd.R_drewN|apply Kd.R_drew));exact HO_1001.out)) k_ hn_))⟩));have n12_:=Aside0.mk (Kept.then_ (S:=(fun k_=>(P0_1_ k_)∨k_ = g)) (by repeat (first|(with_reducible first|exact HK.out|apply Kept.alloc|apply Kept.drewN|apply Kept.drew|refine Kept.setCell ?_ (.inl (.inr rfl)) _|refine Kept.setCell ?_ (.inr GW265.out) _|refine Kept.setCell ?_ (.inr GW275.out) _)|exact HK.out)) hkp (fun k_ hs_=>Or.elim hs_ (fun hs_=>(fun e_=>Or.imp_left Or.inl ((HO279.out.1 k_ e_.symm).1)) hs_) (fun e_=>.inl (.inr e_))));have n13_:=Aside0.mk (hb);clear HO_79;clear HO_1001;clear HO_266003;clear HO_266004;clear BK265;clear HI0;clear HL274_3;clear HL274_4;clear HL274_8;clear HL274_9;clear BK275;clear HK;clear HB;clear HO279;have HO_79:=n0_;have HO_1001:=n1_;have HO_266003:=n2_;have HO_266004:=n3_;have BK265:=n4_;have HI0:=n5_;have HL274_3:=n6_;have HL274_4:=n7_;have HL274_8:=n8_;have HL274_9:=n9_;have BK275:=n10_;have HO284:=n11_;have HK:=n12_;have HB:=n13_;clear n0_ n1_ n2_ n3_ n4_ n5_ n6_ n7_ n8_ n9_ n10_ n11_ n12_ n13_;(try clear hb);(try clear hkp);(try clear ho0)))
                ·go_roundg k4
                 case measure=>have:=HJ3.out;have:=HJ22.out;have:=HK3.out;have:=HK4.out;omega
                 case rel=>exact ⟨(wrap64 (x81_4 + 1)),(t285),(t282),(v283),(by first|rfl|(simp;done)|(simp [*];done)),H',⟨by have:=HJ3.out;have:=HJ22.out;have:=HK3.out;have:=HK4.out;omega⟩,⟨by (with_reducible repeat (first|apply Kd.V_alloc|apply Kd.V_drewN|apply Kd.V_drew));exact Kd.V_mono HO_79.out (fun _ hk=>⟨hk.1,⟨hk.2.2.2.2.2,⟨hk.2.2.1,hk.2.2.2.2.1⟩⟩⟩)⟩,⟨by (with_reducible repeat (first|apply Kd.R_alloc|apply Kd.R_drewN|apply Kd.R_drew));exact Kd.R_mono HO284.out (fun _ hk=>hk.1)⟩,⟨by (with_reducible repeat (first|apply Kd.V_alloc|apply Kd.V_drewN|apply Kd.V_drew));exact Kd.V_mono HO_266003.out (fun _ hk=>⟨hk.1,⟨hk.2.2.2.2.2,⟨hk.2.2.1,hk.2.2.2.2.1⟩⟩⟩)⟩,⟨by (with_reducible repeat (first|apply Kd.V_alloc|apply Kd.V_drewN|apply Kd.V_drew));exact Kd.V_mono HO_266004.out (fun _ hk=>⟨hk.1,⟨hk.2.2.2.2.2,⟨hk.2.2.1,hk.2.2.2.2.1⟩⟩⟩)⟩,⟨by (with_reducible repeat (first|refine blk_drewN ?_ _|refine blk_drew ?_|refine blk_alloc ?_ _));exact BK265.out⟩,⟨by repeat (first|(with_reducible first|exact HI0.out|apply IsS42.alloc|apply IsS42.drewN|apply IsS42.drew|apply IsS42.set_0|apply IsS42.set_1|refine IsS42.far ?_ NB0_265.out _|refine IsS42.far ?_ NB0_275.out _)|exact HI0.out)⟩,⟨by repeat (first|(with_reducible first|exact HK.out|apply Kept.alloc|apply Kept.drewN|apply Kept.drew|refine Kept.setCell ?_ (.inl (.inr rfl)) _|refine Kept.setCell ?_ (.inr GW265.out) _|refine Kept.setCell ?_ (.inr GW275.out) _)|exact HK.out)⟩,⟨by repeat (first|(with_reducible first|exact HB.out|apply below_alloc|apply pw_below_drewN|apply below_drew1|refine below_set ?_ (IsS42.ge HI0.out)|refine below_set ?_ GE265.out|refine below_set ?_ GE275.out)|exact HB.out)⟩⟩
                ·go_ret
                 exact ⟨_,by first|rfl|(simp [*,errW_none,errW_some] <;> rfl),by (with_reducible repeat (first|apply Kd.R_alloc|apply Kd.R_drewN|apply Kd.R_drew));exact Kd.R_mono HO284.out (fun _ hk=>hk.1),by repeat (first|(with_reducible first|exact HI0.out|apply IsS42.alloc|apply IsS42.drewN|apply IsS42.drew|apply IsS42.set_0|apply IsS42.set_1|refine IsS42.far ?_ NB0_265.out _|refine IsS42.far ?_ NB0_275.out _)|exact HI0.out),by repeat (first|(with_reducible first|exact HB.out|apply below_alloc|apply pw_below_drewN|apply below_drew1|refine below_set ?_ (IsS42.ge HI0.out)|refine below_set ?_ GE265.out|refine below_set ?_ GE275.out)|exact HB.out),by repeat (first|(with_reducible first|exact HK.out|apply Kept.alloc|apply Kept.drewN|apply Kept.drew|refine Kept.setCell ?_ (.inl (.inr rfl)) _|refine Kept.setCell ?_ (.inr GW265.out) _|refine Kept.setCell ?_ (.inr GW275.out) _)|exact HK.out)⟩
               ·replace c57:=Bool.eq_false_iff.mpr c57
                subst c57
                have H1:(some (false,t277,t280)) = some (r1,r2,r3):=by rw [if_neg (show ¬ (false = true) by decide)] at H;exact H
                clear H
                have H:=H1
                clear H1
                simp only [Option.some.injEq,Prod.mk.injEq] at H
                obtain ⟨rfl,rfl,rfl⟩:=H
                have p274:0≤(x81_4:Int):=of_decide_eq_true (by first|(with_reducible assumption)|assumption)
                have q274:x81_4 < (l1_4.length:Int):=of_decide_eq_true (by first|(with_reducible assumption)|assumption)
                obtain ⟨ad274,A274_3,c274_3,A274_4,c274_4,A274_8,c274_8,A274_9,c274_9,e274,hx274_0,hx274_1,hx274_2,hx274_3,hx274_4,hx274_5,hx274_6,hx274_7,hx274_8,hx274_9,hl274_3,hi274_3,hl274_4,hi274_4,hl274_8,hi274_8,hl274_9,hi274_9⟩:=at_T53 (Kd.V_reads' HO_79.out).2.2 x81_4 p274 q274
                cases e274
                obtain ⟨ce274,hce274,hMe274,hcc274⟩:=Kd.V_get HO_79.out z53 x81_4 p274 (by first|exact q274|exact of_decide_eq_true (by first|(with_reducible assumption)|assumption)|(have e_:=(Kd.V_reads' HO_79.out).1;omega))
                obtain ⟨ua274_3,uc274_3,ua274_4,uc274_4,ua274_8,uc274_8,ua274_9,uc274_9,rfl,ul274_3,ge274_3,ul274_4,ge274_4,ul274_8,ge274_8,ul274_9,ge274_9⟩:=k53_openF hMe274
                have hv274_3:=hcc274 3 _ rfl
                rw [add_field _ _ 3 (by omega)] at hv274_3
                replace hv274_3:=Option.some.inj (hv274_3.symm.trans hx274_3)
                injection hv274_3 with hva_ hvn_ hvc_
                rw [hva_] at ge274_3
                rw [hvc_] at ul274_3
                have HL274_3:=Aside0.mk (show Kd.V k31 31 _ w0.heap.size _ _ ((rd_T53 l1_4 x81_4).f0.f3) from Kd.V_mk ul274_3 ge274_3)
                clear hva_ hvn_ hvc_ ge274_3 ul274_3
                have hv274_4:=hcc274 4 _ rfl
                rw [add_field _ _ 4 (by omega)] at hv274_4
                replace hv274_4:=Option.some.inj (hv274_4.symm.trans hx274_4)
                injection hv274_4 with hva_ hvn_ hvc_
                rw [hva_] at ge274_4
                rw [hvc_] at ul274_4
                have HL274_4:=Aside0.mk (show Kd.V k53 53 _ w0.heap.size _ _ ((rd_T53 l1_4 x81_4).f0.f4) from Kd.V_mk ul274_4 ge274_4)
                clear hva_ hvn_ hvc_ ge274_4 ul274_4
                have hv274_8:=hcc274 8 _ rfl
                rw [add_field _ _ 8 (by omega)] at hv274_8
                replace hv274_8:=Option.some.inj (hv274_8.symm.trans hx274_8)
                injection hv274_8 with hva_ hvn_ hvc_
                rw [hva_] at ge274_8
                rw [hvc_] at ul274_8
                have HL274_8:=Aside0.mk (show Kd.V k31 31 _ w0.heap.size _ _ ((rd_T53 l1_4 x81_4).f1.f3) from Kd.V_mk ul274_8 ge274_8)
                clear hva_ hvn_ hvc_ ge274_8 ul274_8
                have hv274_9:=hcc274 9 _ rfl
                rw [add_field _ _ 9 (by omega)] at hv274_9
                replace hv274_9:=Option.some.inj (hv274_9.symm.trans hx274_9)
                injection hv274_9 with hva_ hvn_ hvc_
                rw [hva_] at ge274_9
                rw [hvc_] at ul274_9
                have HL274_9:=Aside0.mk (show Kd.V k53 53 _ w0.heap.size _ _ ((rd_T53 l1_4 x81_4).f1.f4) from Kd.V_mk ul274_9 ge274_9)
                clear hva_ hvn_ hvc_ ge274_9 ul274_9
                clear hcc274 hce274
                have HR274_3:=Aside0.mk hi274_3
                have HC274_3:=Aside0.mk hl274_3
                clear hi274_3 hl274_3
                have HR274_4:=Aside0.mk hi274_4
                have HC274_4:=Aside0.mk hl274_4
                clear hi274_4 hl274_4
                have HR274_8:=Aside0.mk hi274_8
                have HC274_8:=Aside0.mk hl274_8
                clear hi274_8 hl274_8
                have HR274_9:=Aside0.mk hi274_9
                have HC274_9:=Aside0.mk hl274_9
                clear hi274_9 hl274_9
                replace p274:=eq_true p274
                replace q274:=eq_true q274
                go_wp2_with (first|((with_reducible refine gate_dst (N:=10) rfl ?_);(try (refine gate_guard (by rfl) ?_;dsimp only));refine box_event ?hg (N:=10) ?hd (cs:=#[.int .i64 0,.int .i64 0,.string (⟨#[]⟩:ByteArray),.slice none 0 0,.slice none 0 0,.int .i64 0,.int .i64 0,.string (⟨#[]⟩:ByteArray),.slice none 0 0,.slice none 0 0]) (t:=53) ?hr ?_;(case hd=>rfl);(case hg=>rfl);(case hr=>first|(go_simp;done)|(go_simp;rfl));intro gb275 hg w82 hbox hb;have n0_:=Aside0.mk (Kd.V_below (Kd.V_elderB (by (with_reducible repeat (first|apply Kd.V_alloc|apply Kd.V_drewN|apply Kd.V_drew));exact HO_79.out) gb275 (Nat.le_of_eq hg.symm)) hb);have n1_:=Aside0.mk (Kd.R_below (by (with_reducible repeat (first|apply Kd.R_alloc|apply Kd.R_drewN|apply Kd.R_drew));exact HO_1001.out) hb);have n2_:=Aside0.mk (Kd.V_below (Kd.V_elderB (by (with_reducible repeat (first|apply Kd.V_alloc|apply Kd.V_drewN|apply Kd.V_drew));exact HO_266003.out) gb275 (Nat.le_of_eq hg.symm)) hb);have n3_:=Aside0.mk (Kd.V_below (Kd.V_elderB (by (with_reducible repeat (first|apply Kd.V_alloc|apply Kd.V_drewN|apply Kd.V_drew));exact HO_266004.out) gb275 (Nat.le_of_eq hg.symm)) hb);have n4_:=Aside0.mk (Kd.V_below (Kd.V_elderB (by (with_reducible repeat (first|apply Kd.V_alloc|apply Kd.V_drewN|apply Kd.V_drew));exact HL274_3.out) gb275 (Nat.le_of_eq hg.symm)) hb);have n5_:=Aside0.mk (Kd.V_below (Kd.V_elderB (by (with_reducible repeat (first|apply Kd.V_alloc|apply Kd.V_drewN|apply Kd.V_drew));exact HL274_4.out) gb275 (Nat.le_of_eq hg.symm)) hb);have n6_:=Aside0.mk (Kd.V_below (Kd.V_elderB (by (with_reducible repeat (first|apply Kd.V_alloc|apply Kd.V_drewN|apply Kd.V_drew));exact HL274_8.out) gb275 (Nat.le_of_eq hg.symm)) hb);have n7_:=Aside0.mk (Kd.V_below (Kd.V_elderB (by (with_reducible repeat (first|apply Kd.V_alloc|apply Kd.V_drewN|apply Kd.V_drew));exact HL274_9.out) gb275 (Nat.le_of_eq hg.symm)) hb);have n8_:=Aside0.mk (blk_below (g:=gb265) (o:=.cells #[.int .i64 a1_0,.int .i64 a1_1,.string a1_2,.slice A1_3 l1_3.length c1_3,.slice (some ad274) l1_4.length c1_4] 31 (0,0)) (by (with_reducible repeat (first|refine blk_drewN ?_ _|refine blk_drew ?_|refine blk_alloc ?_ _));exact BK265.out) hb);have n9_:=Aside0.mk (IsS42.below (by repeat (first|(with_reducible first|exact HI0.out|apply IsS42.alloc|apply IsS42.drewN|apply IsS42.drew|apply IsS42.set_0|apply IsS42.set_1|refine IsS42.far ?_ NB0_265.out _)|exact HI0.out)) hb);have n10_:=Aside0.mk (Kd.C_below (by repeat (first|(with_reducible exact HR274_3.out)|(with_reducible refine Kd.C_alloc ?_ _)|(with_reducible refine Kd.C_drewN ?_ _)|(with_reducible refine Kd.C_drew ?_)|exact HR274_3.out)) hb);have n11_:=Aside0.mk (Kd.C_below (by repeat (first|(with_reducible exact HR274_4.out)|(with_reducible refine Kd.C_alloc ?_ _)|(with_reducible refine Kd.C_drewN ?_ _)|(with_reducible refine Kd.C_drew ?_)|exact HR274_4.out)) hb);have n12_:=Aside0.mk (Kd.C_below (by repeat (first|(with_reducible exact HR274_8.out)|(with_reducible refine Kd.C_alloc ?_ _)|(with_reducible refine Kd.C_drewN ?_ _)|(with_reducible refine Kd.C_drew ?_)|exact HR274_8.out)) hb);have n13_:=Aside0.mk (Kd.C_below (by repeat (first|(with_reducible exact HR274_9.out)|(with_reducible refine Kd.C_alloc ?_ _)|(with_reducible refine Kd.C_drewN ?_ _)|(with_reducible refine Kd.C_drew ?_)|exact HR274_9.out)) hb);have n14_:=Aside0.mk (Kept.below (S:=(fun k_=>(P0_1_ k_)∨k_ = g)) (by repeat (first|(with_reducible first|exact HK.out|apply Kept.alloc|apply Kept.drewN|apply Kept.drew|refine Kept.setCell ?_ (.inl (.inr rfl)) _|refine Kept.setCell ?_ (.inr GW265.out) _)|exact HK.out)) hb);have n15_:=Aside0.mk (below_step (by repeat (first|(with_reducible first|exact HB.out|apply below_alloc|apply pw_below_drewN|apply below_drew1|refine below_set ?_ (IsS42.ge HI0.out)|refine below_set ?_ GE265.out)|exact HB.out)) hb);have n16_:=Aside0.mk (hbox);have n17_:=Aside0.mk ((by rw [hg];exact (by first|exact HK.out.1|exact (show Kept w _ (fun k_=>(P0_1_ k_)∨k_ = g) from by repeat (first|(with_reducible first|exact HK.out|apply Kept.alloc|apply Kept.drewN|apply Kept.drew|refine Kept.setCell ?_ (.inl (.inr rfl)) _|refine Kept.setCell ?_ (.inr GW265.out) _)|exact HK.out)).1):w.heap.size≤gb275));have n18_:=Aside0.mk ((by rw [hg];exact (below_size (by repeat (first|(with_reducible first|exact HB.out|apply below_alloc|apply pw_below_drewN|apply below_drew1|refine below_set ?_ (IsS42.ge HI0.out)|refine below_set ?_ GE265.out)|exact HB.out))):w0.heap.size≤gb275));have n19_:=Aside0.mk ((by rw [hg];exact Nat.ne_of_lt (blk_lt (g:=gb265) (o:=.cells #[.int .i64 a1_0,.int .i64 a1_1,.string a1_2,.slice A1_3 l1_3.length c1_3,.slice (some ad274) l1_4.length c1_4] 31 (0,0)) (by (with_reducible repeat (first|refine blk_drewN ?_ _|refine blk_drew ?_|refine blk_alloc ?_ _));exact BK265.out)):gb265≠gb275));have n20_:=Aside0.mk ((by rw [hg];exact Nat.ne_of_gt (blk_lt (g:=gb265) (o:=.cells #[.int .i64 a1_0,.int .i64 a1_1,.string a1_2,.slice A1_3 l1_3.length c1_3,.slice (some ad274) l1_4.length c1_4] 31 (0,0)) (by (with_reducible repeat (first|refine blk_drewN ?_ _|refine blk_drew ?_|refine blk_alloc ?_ _));exact BK265.out)):gb275≠gb265));have n21_:=Aside0.mk ((by rw [hg];exact Nat.ne_of_lt (IsS42.lt (show IsS42 w0 _ g x1000_4 u1001 from by repeat (first|(with_reducible first|exact HI0.out|apply IsS42.alloc|apply IsS42.drewN|apply IsS42.drew|apply IsS42.set_0|apply IsS42.set_1|refine IsS42.far ?_ NB0_265.out _)|exact HI0.out))):g≠gb275));have n22_:=Aside0.mk ((by rw [hg];exact Nat.ne_of_gt (IsS42.lt (show IsS42 w0 _ g x1000_4 u1001 from by repeat (first|(with_reducible first|exact HI0.out|apply IsS42.alloc|apply IsS42.drewN|apply IsS42.drew|apply IsS42.set_0|apply IsS42.set_1|refine IsS42.far ?_ NB0_265.out _)|exact HI0.out))):gb275≠g));clear HO_79;clear HO_1001;clear HO_266003;clear HO_266004;clear HL274_3;clear HL274_4;clear HL274_8;clear HL274_9;clear BK265;clear HI0;clear HR274_3;clear HR274_4;clear HR274_8;clear HR274_9;clear HK;clear HB;have HO_79:=n0_;have HO_1001:=n1_;have HO_266003:=n2_;have HO_266004:=n3_;have HL274_3:=n4_;have HL274_4:=n5_;have HL274_8:=n6_;have HL274_9:=n7_;have BK265:=n8_;have HI0:=n9_;have HR274_3:=n10_;have HR274_4:=n11_;have HR274_8:=n12_;have HR274_9:=n13_;have HK:=n14_;have HB:=n15_;have BK275:=n16_;have GW275:=n17_;have GE275:=n18_;have NB265_275:=n19_;have NB275_265:=n20_;have NB0_275:=n21_;have NB275_0:=n22_;clear n0_ n1_ n2_ n3_ n4_ n5_ n6_ n7_ n8_ n9_ n10_ n11_ n12_ n13_ n14_ n15_ n16_ n17_ n18_ n19_ n20_ n21_ n22_;clear hb hbox hg;have hnb83:=NB275_265.out;have hnc83:=NB265_275.out;have hnb84:=NB275_0.out;have hnc84:=NB0_275.out;have hcz85_0:w82.cell? ⟨gb275,0,none⟩ = some (.int .i64 0):=(blk_cell BK275.out 0).trans rfl;have hcz85_1:w82.cell? ⟨gb275,1,none⟩ = some (.int .i64 0):=(blk_cell BK275.out 1).trans rfl;have hcz85_2:w82.cell? ⟨gb275,2,none⟩ = some (.string (⟨#[]⟩:ByteArray)):=(blk_cell BK275.out 2).trans rfl;have hcz85_3:w82.cell? ⟨gb275,3,none⟩ = some (.slice none 0 0):=(blk_cell BK275.out 3).trans rfl;have hcz85_4:w82.cell? ⟨gb275,4,none⟩ = some (.slice none 0 0):=(blk_cell BK275.out 4).trans rfl;have hcz85_5:w82.cell? ⟨gb275,5,none⟩ = some (.int .i64 0):=(blk_cell BK275.out 5).trans rfl;have hcz85_6:w82.cell? ⟨gb275,6,none⟩ = some (.int .i64 0):=(blk_cell BK275.out 6).trans rfl;have hcz85_7:w82.cell? ⟨gb275,7,none⟩ = some (.string (⟨#[]⟩:ByteArray)):=(blk_cell BK275.out 7).trans rfl;have hcz85_8:w82.cell? ⟨gb275,8,none⟩ = some (.slice none 0 0):=(blk_cell BK275.out 8).trans rfl;have hcz85_9:w82.cell? ⟨gb275,9,none⟩ = some (.slice none 0 0):=(blk_cell BK275.out 9).trans rfl;have hfz85_0:=blk_frozen BK275.out 0;have hfz85_1:=blk_frozen BK275.out 1;have hfz85_2:=blk_frozen BK275.out 2;have hfz85_3:=blk_frozen BK275.out 3;have hfz85_4:=blk_frozen BK275.out 4;have hfz85_5:=blk_frozen BK275.out 5;have hfz85_6:=blk_frozen BK275.out 6;have hfz85_7:=blk_frozen BK275.out 7;have hfz85_8:=blk_frozen BK275.out 8;have hfz85_9:=blk_frozen BK275.out 9)|((with_reducible refine gate_store (t:=53) (p:=10) rfl ?_);refine store_event (t:=53) (p:=10) (v:=?vo_w86) (w1:=((((((((((w82.setCell ⟨gb275,0,none⟩ (.int .i64 ((rd_T53 l1_4 x81_4).f0.f0))).setCell ⟨gb275,1,none⟩ (.int .i64 ((rd_T53 l1_4 x81_4).f0.f1))).setCell ⟨gb275,2,none⟩ (.string ((rd_T53 l1_4 x81_4).f0.f2))).setCell ⟨gb275,3,none⟩ (.slice A274_3 ((rd_T53 l1_4 x81_4).f0.f3).length c274_3)).setCell ⟨gb275,4,none⟩ (.slice A274_4 ((rd_T53 l1_4 x81_4).f0.f4).length c274_4)).setCell ⟨gb275,5,none⟩ (.int .i64 ((rd_T53 l1_4 x81_4).f1.f0))).setCell ⟨gb275,6,none⟩ (.int .i64 ((rd_T53 l1_4 x81_4).f1.f1))).setCell ⟨gb275,7,none⟩ (.string ((rd_T53 l1_4 x81_4).f1.f2))).setCell ⟨gb275,8,none⟩ (.slice A274_8 ((rd_T53 l1_4 x81_4).f1.f3).length c274_8)).setCell ⟨gb275,9,none⟩ (.slice A274_9 ((rd_T53 l1_4 x81_4).f1.f4).length c274_9))) ?hg ?ho ?hn ?hr ?_;(case ho=>rfl);(case hg=>rfl);(case hn=>rfl);(case hr=>first|(go_simp;done)|(go_simp;rfl));intro w86 hw;have n0_:Aside0 (Kd.V k53 53 w86 w0.heap.size (fun k_=>((P0_1_ k_∨P1_3_ k_∨P1_4_ k_)∨w.heap.size≤k_)∧some k_≠(u1001:Value).ownBlock∧k_≠gb265∧k_≠g∧k_≠gb275) (.slice (some ad274) l1_4.length c1_4) l1_4):=⟨(by rw [hw];exact (by (with_reducible repeat (first|apply Kd.V_alloc|apply Kd.V_drewN|apply Kd.V_drew));exact Kd.V_mono (Kd.V_far (p:=⟨gb275,9,none⟩) (Kd.V_far (p:=⟨gb275,8,none⟩) (Kd.V_far (p:=⟨gb275,7,none⟩) (Kd.V_far (p:=⟨gb275,6,none⟩) (Kd.V_far (p:=⟨gb275,5,none⟩) (Kd.V_far (p:=⟨gb275,4,none⟩) (Kd.V_far (p:=⟨gb275,3,none⟩) (Kd.V_far (p:=⟨gb275,2,none⟩) (Kd.V_far (p:=⟨gb275,1,none⟩) (Kd.V_far (p:=⟨gb275,0,none⟩) (Kd.V_mono HO_79.out (fun k_ hk=>(⟨hk,hk.2⟩:_∧k_≠gb275))) (fun _ hk=>hk.2) (.int .i64 ((rd_T53 l1_4 x81_4).f0.f0))) (fun _ hk=>hk.2) (.int .i64 ((rd_T53 l1_4 x81_4).f0.f1))) (fun _ hk=>hk.2) (.string ((rd_T53 l1_4 x81_4).f0.f2))) (fun _ hk=>hk.2) (.slice A274_3 ((rd_T53 l1_4 x81_4).f0.f3).length c274_3)) (fun _ hk=>hk.2) (.slice A274_4 ((rd_T53 l1_4 x81_4).f0.f4).length c274_4)) (fun _ hk=>hk.2) (.int .i64 ((rd_T53 l1_4 x81_4).f1.f0))) (fun _ hk=>hk.2) (.int .i64 ((rd_T53 l1_4 x81_4).f1.f1))) (fun _ hk=>hk.2) (.string ((rd_T53 l1_4 x81_4).f1.f2))) (fun _ hk=>hk.2) (.slice A274_8 ((rd_T53 l1_4 x81_4).f1.f3).length c274_8)) (fun _ hk=>hk.2) (.slice A274_9 ((rd_T53 l1_4 x81_4).f1.f4).length c274_9)) (fun _ hk=>⟨hk.1.1.1,⟨hk.1.1.2.1,⟨hk.1.1.2.2.1,⟨hk.1.1.2.2.2,hk.1.2⟩⟩⟩⟩)))⟩;have n1_:Aside0 (Kd.R Kd.string 9 w86 w0.heap.size (fun k_=>(P0_1_ k_∨w.heap.size≤k_)) u1001 x1001_4):=⟨(by rw [hw];exact (by (with_reducible repeat (first|apply Kd.R_alloc|apply Kd.R_drewN|apply Kd.R_drew));exact Kd.R_mono (Kd.R_far (p:=⟨gb275,9,none⟩) (Kd.R_far (p:=⟨gb275,8,none⟩) (Kd.R_far (p:=⟨gb275,7,none⟩) (Kd.R_far (p:=⟨gb275,6,none⟩) (Kd.R_far (p:=⟨gb275,5,none⟩) (Kd.R_far (p:=⟨gb275,4,none⟩) (Kd.R_far (p:=⟨gb275,3,none⟩) (Kd.R_far (p:=⟨gb275,2,none⟩) (Kd.R_far (p:=⟨gb275,1,none⟩) (Kd.R_far (p:=⟨gb275,0,none⟩) (Kd.R_types HO_1001.out BK275.out (by decide)) (fun _ hk=>hk.2) (.int .i64 ((rd_T53 l1_4 x81_4).f0.f0))) (fun _ hk=>hk.2) (.int .i64 ((rd_T53 l1_4 x81_4).f0.f1))) (fun _ hk=>hk.2) (.string ((rd_T53 l1_4 x81_4).f0.f2))) (fun _ hk=>hk.2) (.slice A274_3 ((rd_T53 l1_4 x81_4).f0.f3).length c274_3)) (fun _ hk=>hk.2) (.slice A274_4 ((rd_T53 l1_4 x81_4).f0.f4).length c274_4)) (fun _ hk=>hk.2) (.int .i64 ((rd_T53 l1_4 x81_4).f1.f0))) (fun _ hk=>hk.2) (.int .i64 ((rd_T53 l1_4 x81_4).f1.f1))) (fun _ hk=>hk.2) (.string ((rd_T53 l1_4 x81_4).f1.f2))) (fun _ hk=>hk.2) (.slice A274_8 ((rd_T53 l1_4 x81_4).f1.f3).length c274_8)) (fun _ hk=>hk.2) (.slice A274_9 ((rd_T53 l1_4 x81_4).f1.f4).length c274_9)) (fun _ hk=>hk.1)))⟩;have n2_:Aside0 (Kd.V k31 31 w86 w0.heap.size (fun k_=>((P0_1_ k_∨P1_3_ k_∨P1_4_ k_)∨w.heap.size≤k_)∧some k_≠(u1001:Value).ownBlock∧k_≠gb265∧k_≠g∧k_≠gb275) (.slice A1_3 l1_3.length c1_3) l1_3):=⟨(by rw [hw];exact (by (with_reducible repeat (first|apply Kd.V_alloc|apply Kd.V_drewN|apply Kd.V_drew));exact Kd.V_mono (Kd.V_far (p:=⟨gb275,9,none⟩) (Kd.V_far (p:=⟨gb275,8,none⟩) (Kd.V_far (p:=⟨gb275,7,none⟩) (Kd.V_far (p:=⟨gb275,6,none⟩) (Kd.V_far (p:=⟨gb275,5,none⟩) (Kd.V_far (p:=⟨gb275,4,none⟩) (Kd.V_far (p:=⟨gb275,3,none⟩) (Kd.V_far (p:=⟨gb275,2,none⟩) (Kd.V_far (p:=⟨gb275,1,none⟩) (Kd.V_far (p:=⟨gb275,0,none⟩) (Kd.V_mono HO_266003.out (fun k_ hk=>(⟨hk,hk.2⟩:_∧k_≠gb275))) (fun _ hk=>hk.2) (.int .i64 ((rd_T53 l1_4 x81_4).f0.f0))) (fun _ hk=>hk.2) (.int .i64 ((rd_T53 l1_4 x81_4).f0.f1))) (fun _ hk=>hk.2) (.string ((rd_T53 l1_4 x81_4).f0.f2))) (fun _ hk=>hk.2) (.slice A274_3 ((rd_T53 l1_4 x81_4).f0.f3).length c274_3)) (fun _ hk=>hk.2) (.slice A274_4 ((rd_T53 l1_4 x81_4).f0.f4).length c274_4)) (fun _ hk=>hk.2) (.int .i64 ((rd_T53 l1_4 x81_4).f1.f0))) (fun _ hk=>hk.2) (.int .i64 ((rd_T53 l1_4 x81_4).f1.f1))) (fun _ hk=>hk.2) (.string ((rd_T53 l1_4 x81_4).f1.f2))) (fun _ hk=>hk.2) (.slice A274_8 ((rd_T53 l1_4 x81_4).f1.f3).length c274_8)) (fun _ hk=>hk.2) (.slice A274_9 ((rd_T53 l1_4 x81_4).f1.f4).length c274_9)) (fun _ hk=>⟨hk.1.1.1,⟨hk.1.1.2.1,⟨hk.1.1.2.2.1,⟨hk.1.1.2.2.2,hk.1.2⟩⟩⟩⟩)))⟩;have n3_:Aside0 (Kd.V k53 53 w86 w0.heap.size (fun k_=>((P0_1_ k_∨P1_3_ k_∨P1_4_ k_)∨w.heap.size≤k_)∧some k_≠(u1001:Value).ownBlock∧k_≠gb265∧k_≠g∧k_≠gb275) (.slice (some ad274) l1_4.length c1_4) l1_4):=⟨(by rw [hw];exact (by (with_reducible repeat (first|apply Kd.V_alloc|apply Kd.V_drewN|apply Kd.V_drew));exact Kd.V_mono (Kd.V_far (p:=⟨gb275,9,none⟩) (Kd.V_far (p:=⟨gb275,8,none⟩) (Kd.V_far (p:=⟨gb275,7,none⟩) (Kd.V_far (p:=⟨gb275,6,none⟩) (Kd.V_far (p:=⟨gb275,5,none⟩) (Kd.V_far (p:=⟨gb275,4,none⟩) (Kd.V_far (p:=⟨gb275,3,none⟩) (Kd.V_far (p:=⟨gb275,2,none⟩) (Kd.V_far (p:=⟨gb275,1,none⟩) (Kd.V_far (p:=⟨gb275,0,none⟩) (Kd.V_mono HO_266004.out (fun k_ hk=>(⟨hk,hk.2⟩:_∧k_≠gb275))) (fun _ hk=>hk.2) (.int .i64 ((rd_T53 l1_4 x81_4).f0.f0))) (fun _ hk=>hk.2) (.int .i64 ((rd_T53 l1_4 x81_4).f0.f1))) (fun _ hk=>hk.2) (.string ((rd_T53 l1_4 x81_4).f0.f2))) (fun _ hk=>hk.2) (.slice A274_3 ((rd_T53 l1_4 x81_4).f0.f3).length c274_3)) (fun _ hk=>hk.2) (.slice A274_4 ((rd_T53 l1_4 x81_4).f0.f4).length c274_4)) (fun _ hk=>hk.2) (.int .i64 ((rd_T53 l1_4 x81_4).f1.f0))) (fun _ hk=>hk.2) (.int .i64 ((rd_T53 l1_4 x81_4).f1.f1))) (fun _ hk=>hk.2) (.string ((rd_T53 l1_4 x81_4).f1.f2))) (fun _ hk=>hk.2) (.slice A274_8 ((rd_T53 l1_4 x81_4).f1.f3).length c274_8)) (fun _ hk=>hk.2) (.slice A274_9 ((rd_T53 l1_4 x81_4).f1.f4).length c274_9)) (fun _ hk=>⟨hk.1.1.1,⟨hk.1.1.2.1,⟨hk.1.1.2.2.1,⟨hk.1.1.2.2.2,hk.1.2⟩⟩⟩⟩)))⟩;have n4_:Aside0 (Kd.V k31 31 w86 w0.heap.size (fun k_=>((P0_1_ k_∨P1_3_ k_∨P1_4_ k_)∨w.heap.size≤k_)∧some k_≠(u1001:Value).ownBlock∧k_≠gb265∧k_≠g∧k_≠gb275) (.slice A274_3 ((rd_T53 l1_4 x81_4).f0.f3).length c274_3) ((rd_T53 l1_4 x81_4).f0.f3)):=⟨(by rw [hw];exact (by (with_reducible repeat (first|apply Kd.V_alloc|apply Kd.V_drewN|apply Kd.V_drew));exact Kd.V_mono (Kd.V_far (p:=⟨gb275,9,none⟩) (Kd.V_far (p:=⟨gb275,8,none⟩) (Kd.V_far (p:=⟨gb275,7,none⟩) (Kd.V_far (p:=⟨gb275,6,none⟩) (Kd.V_far (p:=⟨gb275,5,none⟩) (Kd.V_far (p:=⟨gb275,4,none⟩) (Kd.V_far (p:=⟨gb275,3,none⟩) (Kd.V_far (p:=⟨gb275,2,none⟩) (Kd.V_far (p:=⟨gb275,1,none⟩) (Kd.V_far (p:=⟨gb275,0,none⟩) (Kd.V_mono HL274_3.out (fun k_ hk=>(⟨hk,hk.2⟩:_∧k_≠gb275))) (fun _ hk=>hk.2) (.int .i64 ((rd_T53 l1_4 x81_4).f0.f0))) (fun _ hk=>hk.2) (.int .i64 ((rd_T53 l1_4 x81_4).f0.f1))) (fun _ hk=>hk.2) (.string ((rd_T53 l1_4 x81_4).f0.f2))) (fun _ hk=>hk.2) (.slice A274_3 ((rd_T53 l1_4 x81_4).f0.f3).length c274_3)) (fun _ hk=>hk.2) (.slice A274_4 ((rd_T53 l1_4 x81_4).f0.f4).length c274_4)) (fun _ hk=>hk.2) (.int .i64 ((rd_T53 l1_4 x81_4).f1.f0))) (fun _ hk=>hk.2) (.int .i64 ((rd_T53 l1_4 x81_4).f1.f1))) (fun _ hk=>hk.2) (.string ((rd_T53 l1_4 x81_4).f1.f2))) (fun _ hk=>hk.2) (.slice A274_8 ((rd_T53 l1_4 x81_4).f1.f3).length c274_8)) (fun _ hk=>hk.2) (.slice A274_9 ((rd_T53 l1_4 x81_4).f1.f4).length c274_9)) (fun _ hk=>⟨hk.1.1.1,⟨hk.1.1.2.1,⟨hk.1.1.2.2.1,⟨hk.1.1.2.2.2,hk.1.2⟩⟩⟩⟩)))⟩;have n5_:Aside0 (Kd.V k53 53 w86 w0.heap.size (fun k_=>((P0_1_ k_∨P1_3_ k_∨P1_4_ k_)∨w.heap.size≤k_)∧some k_≠(u1001:Value).ownBlock∧k_≠gb265∧k_≠g∧k_≠gb275) (.slice A274_4 ((rd_T53 l1_4 x81_4).f0.f4).length c274_4) ((rd_T53 l1_4 x81_4).f0.f4)):=⟨(by rw [hw];exact (by (with_reducible repeat (first|apply Kd.V_alloc|apply Kd.V_drewN|apply Kd.V_drew));exact Kd.V_mono (Kd.V_far (p:=⟨gb275,9,none⟩) (Kd.V_far (p:=⟨gb275,8,none⟩) (Kd.V_far (p:=⟨gb275,7,none⟩) (Kd.V_far (p:=⟨gb275,6,none⟩) (Kd.V_far (p:=⟨gb275,5,none⟩) (Kd.V_far (p:=⟨gb275,4,none⟩) (Kd.V_far (p:=⟨gb275,3,none⟩) (Kd.V_far (p:=⟨gb275,2,none⟩) (Kd.V_far (p:=⟨gb275,1,none⟩) (Kd.V_far (p:=⟨gb275,0,none⟩) (Kd.V_mono HL274_4.out (fun k_ hk=>(⟨hk,hk.2⟩:_∧k_≠gb275))) (fun _ hk=>hk.2) (.int .i64 ((rd_T53 l1_4 x81_4).f0.f0))) (fun _ hk=>hk.2) (.int .i64 ((rd_T53 l1_4 x81_4).f0.f1))) (fun _ hk=>hk.2) (.string ((rd_T53 l1_4 x81_4).f0.f2))) (fun _ hk=>hk.2) (.slice A274_3 ((rd_T53 l1_4 x81_4).f0.f3).length c274_3)) (fun _ hk=>hk.2) (.slice A274_4 ((rd_T53 l1_4 x81_4).f0.f4).length c274_4)) (fun _ hk=>hk.2) (.int .i64 ((rd_T53 l1_4 x81_4).f1.f0))) (fun _ hk=>hk.2) (.int .i64 ((rd_T53 l1_4 x81_4).f1.f1))) (fun _ hk=>hk.2) (.string ((rd_T53 l1_4 x81_4).f1.f2))) (fun _ hk=>hk.2) (.slice A274_8 ((rd_T53 l1_4 x81_4).f1.f3).length c274_8)) (fun _ hk=>hk.2) (.slice A274_9 ((rd_T53 l1_4 x81_4).f1.f4).length c274_9)) (fun _ hk=>⟨hk.1.1.1,⟨hk.1.1.2.1,⟨hk.1.1.2.2.1,⟨hk.1.1.2.2.2,hk.1.2⟩⟩⟩⟩)))⟩;have n6_:Aside0 (Kd.V k31 31 w86 w0.heap.size (fun k_=>((P0_1_ k_∨P1_3_ k_∨P1_4_ k_)∨w.heap.size≤k_)∧some k_≠(u1001:Value).ownBlock∧k_≠gb265∧k_≠g∧k_≠gb275) (.slice A274_8 ((rd_T53 l1_4 x81_4).f1.f3).length c274_8) ((rd_T53 l1_4 x81_4).f1.f3)):=⟨(by rw [hw];exact (by (with_reducible repeat (first|apply Kd.V_alloc|apply Kd.V_drewN|apply Kd.V_drew));exact Kd.V_mono (Kd.V_far (p:=⟨gb275,9,none⟩) (Kd.V_far (p:=⟨gb275,8,none⟩) (Kd.V_far (p:=⟨gb275,7,none⟩) (Kd.V_far (p:=⟨gb275,6,none⟩) (Kd.V_far (p:=⟨gb275,5,none⟩) (Kd.V_far (p:=⟨gb275,4,none⟩) (Kd.V_far (p:=⟨gb275,3,none⟩) (Kd.V_far (p:=⟨gb275,2,none⟩) (Kd.V_far (p:=⟨gb275,1,none⟩) (Kd.V_far (p:=⟨gb275,0,none⟩) (Kd.V_mono HL274_8.out (fun k_ hk=>(⟨hk,hk.2⟩:_∧k_≠gb275))) (fun _ hk=>hk.2) (.int .i64 ((rd_T53 l1_4 x81_4).f0.f0))) (fun _ hk=>hk.2) (.int .i64 ((rd_T53 l1_4 x81_4).f0.f1))) (fun _ hk=>hk.2) (.string ((rd_T53 l1_4 x81_4).f0.f2))) (fun _ hk=>hk.2) (.slice A274_3 ((rd_T53 l1_4 x81_4).f0.f3).length c274_3)) (fun _ hk=>hk.2) (.slice A274_4 ((rd_T53 l1_4 x81_4).f0.f4).length c274_4)) (fun _ hk=>hk.2) (.int .i64 ((rd_T53 l1_4 x81_4).f1.f0))) (fun _ hk=>hk.2) (.int .i64 ((rd_T53 l1_4 x81_4).f1.f1))) (fun _ hk=>hk.2) (.string ((rd_T53 l1_4 x81_4).f1.f2))) (fun _ hk=>hk.2) (.slice A274_8 ((rd_T53 l1_4 x81_4).f1.f3).length c274_8)) (fun _ hk=>hk.2) (.slice A274_9 ((rd_T53 l1_4 x81_4).f1.f4).length c274_9)) (fun _ hk=>⟨hk.1.1.1,⟨hk.1.1.2.1,⟨hk.1.1.2.2.1,⟨hk.1.1.2.2.2,hk.1.2⟩⟩⟩⟩)))⟩;have n7_:Aside0 (Kd.V k53 53 w86 w0.heap.size (fun k_=>((P0_1_ k_∨P1_3_ k_∨P1_4_ k_)∨w.heap.size≤k_)∧some k_≠(u1001:Value).ownBlock∧k_≠gb265∧k_≠g∧k_≠gb275) (.slice A274_9 ((rd_T53 l1_4 x81_4).f1.f4).length c274_9) ((rd_T53 l1_4 x81_4).f1.f4)):=⟨(by rw [hw];exact (by (with_reducible repeat (first|apply Kd.V_alloc|apply Kd.V_drewN|apply Kd.V_drew));exact Kd.V_mono (Kd.V_far (p:=⟨gb275,9,none⟩) (Kd.V_far (p:=⟨gb275,8,none⟩) (Kd.V_far (p:=⟨gb275,7,none⟩) (Kd.V_far (p:=⟨gb275,6,none⟩) (Kd.V_far (p:=⟨gb275,5,none⟩) (Kd.V_far (p:=⟨gb275,4,none⟩) (Kd.V_far (p:=⟨gb275,3,none⟩) (Kd.V_far (p:=⟨gb275,2,none⟩) (Kd.V_far (p:=⟨gb275,1,none⟩) (Kd.V_far (p:=⟨gb275,0,none⟩) (Kd.V_mono HL274_9.out (fun k_ hk=>(⟨hk,hk.2⟩:_∧k_≠gb275))) (fun _ hk=>hk.2) (.int .i64 ((rd_T53 l1_4 x81_4).f0.f0))) (fun _ hk=>hk.2) (.int .i64 ((rd_T53 l1_4 x81_4).f0.f1))) (fun _ hk=>hk.2) (.string ((rd_T53 l1_4 x81_4).f0.f2))) (fun _ hk=>hk.2) (.slice A274_3 ((rd_T53 l1_4 x81_4).f0.f3).length c274_3)) (fun _ hk=>hk.2) (.slice A274_4 ((rd_T53 l1_4 x81_4).f0.f4).length c274_4)) (fun _ hk=>hk.2) (.int .i64 ((rd_T53 l1_4 x81_4).f1.f0))) (fun _ hk=>hk.2) (.int .i64 ((rd_T53 l1_4 x81_4).f1.f1))) (fun _ hk=>hk.2) (.string ((rd_T53 l1_4 x81_4).f1.f2))) (fun _ hk=>hk.2) (.slice A274_8 ((rd_T53 l1_4 x81_4).f1.f3).length c274_8)) (fun _ hk=>hk.2) (.slice A274_9 ((rd_T53 l1_4 x81_4).f1.f4).length c274_9)) (fun _ hk=>⟨hk.1.1.1,⟨hk.1.1.2.1,⟨hk.1.1.2.2.1,⟨hk.1.1.2.2.2,hk.1.2⟩⟩⟩⟩)))⟩;have n8_:Aside0 (w86.heap[gb265]? = some (.cells #[.int .i64 a1_0,.int .i64 a1_1,.string a1_2,.slice A1_3 l1_3.length c1_3,.slice (some ad274) l1_4.length c1_4] 31 (0,0))):=⟨(by rw [hw];exact (by (with_reducible repeat (first|refine blk_drewN ?_ _|refine blk_drew ?_|refine blk_alloc ?_ _));refine blk_far ?_ NB265_275.out _;(with_reducible repeat (first|refine blk_drewN ?_ _|refine blk_drew ?_|refine blk_alloc ?_ _));refine blk_far ?_ NB265_275.out _;(with_reducible repeat (first|refine blk_drewN ?_ _|refine blk_drew ?_|refine blk_alloc ?_ _));refine blk_far ?_ NB265_275.out _;(with_reducible repeat (first|refine blk_drewN ?_ _|refine blk_drew ?_|refine blk_alloc ?_ _));refine blk_far ?_ NB265_275.out _;(with_reducible repeat (first|refine blk_drewN ?_ _|refine blk_drew ?_|refine blk_alloc ?_ _));refine blk_far ?_ NB265_275.out _;(with_reducible repeat (first|refine blk_drewN ?_ _|refine blk_drew ?_|refine blk_alloc ?_ _));refine blk_far ?_ NB265_275.out _;(with_reducible repeat (first|refine blk_drewN ?_ _|refine blk_drew ?_|refine blk_alloc ?_ _));refine blk_far ?_ NB265_275.out _;(with_reducible repeat (first|refine blk_drewN ?_ _|refine blk_drew ?_|refine blk_alloc ?_ _));refine blk_far ?_ NB265_275.out _;(with_reducible repeat (first|refine blk_drewN ?_ _|refine blk_drew ?_|refine blk_alloc ?_ _));refine blk_far ?_ NB265_275.out _;(with_reducible repeat (first|refine blk_drewN ?_ _|refine blk_drew ?_|refine blk_alloc ?_ _));refine blk_far ?_ NB265_275.out _;(with_reducible repeat (first|refine blk_drewN ?_ _|refine blk_drew ?_|refine blk_alloc ?_ _));exact BK265.out))⟩;have n9_:Aside0 (w86.heap[gb275]? = some (.cells #[.int .i64 ((rd_T53 l1_4 x81_4).f0.f0),.int .i64 ((rd_T53 l1_4 x81_4).f0.f1),.string ((rd_T53 l1_4 x81_4).f0.f2),.slice A274_3 ((rd_T53 l1_4 x81_4).f0.f3).length c274_3,.slice A274_4 ((rd_T53 l1_4 x81_4).f0.f4).length c274_4,.int .i64 ((rd_T53 l1_4 x81_4).f1.f0),.int .i64 ((rd_T53 l1_4 x81_4).f1.f1),.string ((rd_T53 l1_4 x81_4).f1.f2),.slice A274_8 ((rd_T53 l1_4 x81_4).f1.f3).length c274_8,.slice A274_9 ((rd_T53 l1_4 x81_4).f1.f4).length c274_9] 53 (0,0))):=⟨(by rw [hw];exact (by (with_reducible repeat (first|refine blk_drewN ?_ _|refine blk_drew ?_|refine blk_alloc ?_ _));refine blk_put (cs:=#[.int .i64 ((rd_T53 l1_4 x81_4).f0.f0),.int .i64 ((rd_T53 l1_4 x81_4).f0.f1),.string ((rd_T53 l1_4 x81_4).f0.f2),.slice A274_3 ((rd_T53 l1_4 x81_4).f0.f3).length c274_3,.slice A274_4 ((rd_T53 l1_4 x81_4).f0.f4).length c274_4,.int .i64 ((rd_T53 l1_4 x81_4).f1.f0),.int .i64 ((rd_T53 l1_4 x81_4).f1.f1),.string ((rd_T53 l1_4 x81_4).f1.f2),.slice A274_8 ((rd_T53 l1_4 x81_4).f1.f3).length c274_8,.slice none 0 0]) ?_ 9 _ rfl;(with_reducible repeat (first|refine blk_drewN ?_ _|refine blk_drew ?_|refine blk_alloc ?_ _));refine blk_put (cs:=#[.int .i64 ((rd_T53 l1_4 x81_4).f0.f0),.int .i64 ((rd_T53 l1_4 x81_4).f0.f1),.string ((rd_T53 l1_4 x81_4).f0.f2),.slice A274_3 ((rd_T53 l1_4 x81_4).f0.f3).length c274_3,.slice A274_4 ((rd_T53 l1_4 x81_4).f0.f4).length c274_4,.int .i64 ((rd_T53 l1_4 x81_4).f1.f0),.int .i64 ((rd_T53 l1_4 x81_4).f1.f1),.string ((rd_T53 l1_4 x81_4).f1.f2),.slice none 0 0,.slice none 0 0]) ?_ 8 _ rfl;(with_reducible repeat (first|refine blk_drewN ?_ _|refine blk_drew ?_|refine blk_alloc ?_ _));refine blk_put (cs:=#[.int .i64 ((rd_T53 l1_4 x81_4).f0.f0),.int .i64 ((rd_T53 l1_4 x81_4).f0.f1),.string ((rd_T53 l1_4 x81_4).f0.f2),.slice A274_3 ((rd_T53 l1_4 x81_4).f0.f3).length c274_3,.slice A274_4 ((rd_T53 l1_4 x81_4).f0.f4).length c274_4,.int .i64 ((rd_T53 l1_4 x81_4).f1.f0),.int .i64 ((rd_T53 l1_4 x81_4).f1.f1),.string (⟨#[]⟩:ByteArray),.slice none 0 0,.slice none 0 0]) ?_ 7 _ rfl;(with_reducible repeat (first|refine blk_drewN ?_ _|refine blk_drew ?_|refine blk_alloc ?_ _));refine blk_put (cs:=#[.int .i64 ((rd_T53 l1_4 x81_4).f0.f0),.int .i64 ((rd_T53 l1_4 x81_4).f0.f1),.string ((rd_T53 l1_4 x81_4).f0.f2),.slice A274_3 ((rd_T53 l1_4 x81_4).f0.f3).length c274_3,.slice A274_4 ((rd_T53 l1_4 x81_4).f0.f4).length c274_4,.int .i64 ((rd_T53 l1_4 x81_4).f1.f0),.int .i64 0,.string (⟨#[]⟩:ByteArray),.slice none 0 0,.slice none 0 0]) ?_ 6 _ rfl;(with_reducible repeat (first|refine blk_drewN ?_ _|refine blk_drew ?_|refine blk_alloc ?_ _));refine blk_put (cs:=#[.int .i64 ((rd_T53 l1_4 x81_4).f0.f0),.int .i64 ((rd_T53 l1_4 x81_4).f0.f1),.string ((rd_T53 l1_4 x81_4).f0.f2),.slice A274_3 ((rd_T53 l1_4 x81_4).f0.f3).length c274_3,.slice A274_4 ((rd_T53 l1_4 x81_4).f0.f4).length c274_4,.int .i64 0,.int .i64 0,.string (⟨#[]⟩:ByteArray),.slice none 0 0,.slice none 0 0]) ?_ 5 _ rfl;(with_reducible repeat (first|refine blk_drewN ?_ _|refine blk_drew ?_|refine blk_alloc ?_ _));refine blk_put (cs:=#[.int .i64 ((rd_T53 l1_4 x81_4).f0.f0),.int .i64 ((rd_T53 l1_4 x81_4).f0.f1),.string ((rd_T53 l1_4 x81_4).f0.f2),.slice A274_3 ((rd_T53 l1_4 x81_4).f0.f3).length c274_3,.slice none 0 0,.int .i64 0,.int .i64 0,.string (⟨#[]⟩:ByteArray),.slice none 0 0,.slice none 0 0]) ?_ 4 _ rfl;(with_reducible repeat (first|refine blk_drewN ?_ _|refine blk_drew ?_|refine blk_alloc ?_ _));refine blk_put (cs:=#[.int .i64 ((rd_T53 l1_4 x81_4).f0.f0),.int .i64 ((rd_T53 l1_4 x81_4).f0.f1),.string ((rd_T53 l1_4 x81_4).f0.f2),.slice none 0 0,.slice none 0 0,.int .i64 0,.int .i64 0,.string (⟨#[]⟩:ByteArray),.slice none 0 0,.slice none 0 0]) ?_ 3 _ rfl;(with_reducible repeat (first|refine blk_drewN ?_ _|refine blk_drew ?_|refine blk_alloc ?_ _));refine blk_put (cs:=#[.int .i64 ((rd_T53 l1_4 x81_4).f0.f0),.int .i64 ((rd_T53 l1_4 x81_4).f0.f1),.string (⟨#[]⟩:ByteArray),.slice none 0 0,.slice none 0 0,.int .i64 0,.int .i64 0,.string (⟨#[]⟩:ByteArray),.slice none 0 0,.slice none 0 0]) ?_ 2 _ rfl;(with_reducible repeat (first|refine blk_drewN ?_ _|refine blk_drew ?_|refine blk_alloc ?_ _));refine blk_put (cs:=#[.int .i64 ((rd_T53 l1_4 x81_4).f0.f0),.int .i64 0,.string (⟨#[]⟩:ByteArray),.slice none 0 0,.slice none 0 0,.int .i64 0,.int .i64 0,.string (⟨#[]⟩:ByteArray),.slice none 0 0,.slice none 0 0]) ?_ 1 _ rfl;(with_reducible repeat (first|refine blk_drewN ?_ _|refine blk_drew ?_|refine blk_alloc ?_ _));refine blk_put (cs:=#[.int .i64 0,.int .i64 0,.string (⟨#[]⟩:ByteArray),.slice none 0 0,.slice none 0 0,.int .i64 0,.int .i64 0,.string (⟨#[]⟩:ByteArray),.slice none 0 0,.slice none 0 0]) ?_ 0 _ rfl;(with_reducible repeat (first|refine blk_drewN ?_ _|refine blk_drew ?_|refine blk_alloc ?_ _));exact BK275.out))⟩;have n10_:Aside0 (IsS42 w0 w86 g x1000_4 u1001):=⟨(by rw [hw];exact (by repeat (first|(with_reducible first|exact HI0.out|apply IsS42.alloc|apply IsS42.drewN|apply IsS42.drew|apply IsS42.set_0|apply IsS42.set_1|refine IsS42.far ?_ NB0_265.out _|refine IsS42.far ?_ NB0_275.out _)|exact HI0.out)))⟩;have n11_:Aside0 (Kept w w86 (fun k_=>(P0_1_ k_)∨k_ = g)):=⟨(by rw [hw];exact (by repeat (first|(with_reducible first|exact HK.out|apply Kept.alloc|apply Kept.drewN|apply Kept.drew|refine Kept.setCell ?_ (.inl (.inr rfl)) _|refine Kept.setCell ?_ (.inr GW265.out) _|refine Kept.setCell ?_ (.inr GW275.out) _)|exact HK.out)))⟩;have n12_:Aside0 (Below w0.heap.size w0 w86):=⟨(by rw [hw];exact (by repeat (first|(with_reducible first|exact HB.out|apply below_alloc|apply pw_below_drewN|apply below_drew1|refine below_set ?_ (IsS42.ge HI0.out)|refine below_set ?_ GE265.out|refine below_set ?_ GE275.out)|exact HB.out)))⟩;clear hw;clear HO_79;clear HO_1001;clear HO_266003;clear HO_266004;clear HL274_3;clear HL274_4;clear HL274_8;clear HL274_9;clear BK265;clear BK275;clear HI0;clear HK;clear HB;have HO_79:=n0_;have HO_1001:=n1_;have HO_266003:=n2_;have HO_266004:=n3_;have HL274_3:=n4_;have HL274_4:=n5_;have HL274_8:=n6_;have HL274_9:=n7_;have BK265:=n8_;have BK275:=n9_;have HI0:=n10_;have HK:=n11_;have HB:=n12_;clear n0_ n1_ n2_ n3_ n4_ n5_ n6_ n7_ n8_ n9_ n10_ n11_ n12_;obtain ⟨HGz87,hgz87⟩:=HI0.out;have hcz87_0:=cellS42_0 HGz87;have hcz87_1:=cellS42_1 HGz87;have hfz87_0:=blk_frozen HGz87 0;have hfz87_1:=blk_frozen HGz87 1;clear HGz87 hgz87)|((with_reducible refine gate_store (t:=40) (p:=87) rfl ?_);refine store_event (t:=40) (p:=87) (v:=?vo_w88) (w1:=(w86.setCell ⟨g,1,none⟩ (.slice none 0 0))) ?hg ?ho ?hn ?hr ?_;(case ho=>rfl);(case hg=>rfl);(case hn=>rfl);(case hr=>first|(go_simp;done)|(go_simp;rfl));intro w88 hw;have n0_:Aside0 (Kd.V k53 53 w88 w0.heap.size (fun k_=>((P0_1_ k_∨P1_3_ k_∨P1_4_ k_)∨w.heap.size≤k_)∧some k_≠(u1001:Value).ownBlock∧k_≠gb265∧k_≠g∧k_≠gb275) (.slice (some ad274) l1_4.length c1_4) l1_4):=⟨(by rw [hw];exact (by (with_reducible repeat (first|apply Kd.V_alloc|apply Kd.V_drewN|apply Kd.V_drew));exact Kd.V_mono (Kd.V_far (p:=⟨g,1,none⟩) (Kd.V_mono HO_79.out (fun k_ hk=>(⟨hk,hk.2.2.2.1⟩:_∧k_≠g))) (fun _ hk=>hk.2) (.slice none 0 0)) (fun _ hk=>⟨hk.1.1,⟨hk.1.2.1,⟨hk.1.2.2.1,⟨hk.1.2.2.2.1,hk.1.2.2.2.2⟩⟩⟩⟩)))⟩;have n1_:Aside0 (Kd.R Kd.string 9 w88 w0.heap.size (fun k_=>(P0_1_ k_∨w.heap.size≤k_)) u1001 x1001_4):=⟨(by rw [hw];exact (by (with_reducible repeat (first|apply Kd.R_alloc|apply Kd.R_drewN|apply Kd.R_drew));exact Kd.R_mono (Kd.R_far (p:=⟨g,1,none⟩) (IsS42.apart HI0.out HO_1001.out (by decide)) (fun _ hk=>hk.2) (.slice none 0 0)) (fun _ hk=>hk.1)))⟩;have n2_:Aside0 (Kd.V k31 31 w88 w0.heap.size (fun k_=>((P0_1_ k_∨P1_3_ k_∨P1_4_ k_)∨w.heap.size≤k_)∧some k_≠(u1001:Value).ownBlock∧k_≠gb265∧k_≠g∧k_≠gb275) (.slice A1_3 l1_3.length c1_3) l1_3):=⟨(by rw [hw];exact (by (with_reducible repeat (first|apply Kd.V_alloc|apply Kd.V_drewN|apply Kd.V_drew));exact Kd.V_mono (Kd.V_far (p:=⟨g,1,none⟩) (Kd.V_mono HO_266003.out (fun k_ hk=>(⟨hk,hk.2.2.2.1⟩:_∧k_≠g))) (fun _ hk=>hk.2) (.slice none 0 0)) (fun _ hk=>⟨hk.1.1,⟨hk.1.2.1,⟨hk.1.2.2.1,⟨hk.1.2.2.2.1,hk.1.2.2.2.2⟩⟩⟩⟩)))⟩;have n3_:Aside0 (Kd.V k53 53 w88 w0.heap.size (fun k_=>((P0_1_ k_∨P1_3_ k_∨P1_4_ k_)∨w.heap.size≤k_)∧some k_≠(u1001:Value).ownBlock∧k_≠gb265∧k_≠g∧k_≠gb275) (.slice (some ad274) l1_4.length c1_4) l1_4):=⟨(by rw [hw];exact (by (with_reducible repeat (first|apply Kd.V_alloc|apply Kd.V_drewN|apply Kd.V_drew));exact Kd.V_mono (Kd.V_far (p:=⟨g,1,none⟩) (Kd.V_mono HO_266004.out (fun k_ hk=>(⟨hk,hk.2.2.2.1⟩:_∧k_≠g))) (fun _ hk=>hk.2) (.slice none 0 0)) (fun _ hk=>⟨hk.1.1,⟨hk.1.2.1,⟨hk.1.2.2.1,⟨hk.1.2.2.2.1,hk.1.2.2.2.2⟩⟩⟩⟩)))⟩;have n4_:Aside0 (Kd.V k31 31 w88 w0.heap.size (fun k_=>((P0_1_ k_∨P1_3_ k_∨P1_4_ k_)∨w.heap.size≤k_)∧some k_≠(u1001:Value).ownBlock∧k_≠gb265∧k_≠g∧k_≠gb275) (.slice A274_3 ((rd_T53 l1_4 x81_4).f0.f3).length c274_3) ((rd_T53 l1_4 x81_4).f0.f3)):=⟨(by rw [hw];exact (by (with_reducible repeat (first|apply Kd.V_alloc|apply Kd.V_drewN|apply Kd.V_drew));exact Kd.V_mono (Kd.V_far (p:=⟨g,1,none⟩) (Kd.V_mono HL274_3.out (fun k_ hk=>(⟨hk,hk.2.2.2.1⟩:_∧k_≠g))) (fun _ hk=>hk.2) (.slice none 0 0)) (fun _ hk=>⟨hk.1.1,⟨hk.1.2.1,⟨hk.1.2.2.1,⟨hk.1.2.2.2.1,hk.1.2.2.2.2⟩⟩⟩⟩)))⟩;have n5_:Aside0 (Kd.V k53 53 w88 w0.heap.size (fun k_=>((P0_1_ k_∨P1_3_ k_∨P1_4_ k_)∨w.heap.size≤k_)∧some k_≠(u1001:Value).ownBlock∧k_≠gb265∧k_≠g∧k_≠gb275) (.slice A274_4 ((rd_T53 l1_4 x81_4).f0.f4).length c274_4) ((rd_T53 l1_4 x81_4).f0.f4)):=⟨(by rw [hw];exact (by (with_reducible repeat (first|apply Kd.V_alloc|apply Kd.V_drewN|apply Kd.V_drew));exact Kd.V_mono (Kd.V_far (p:=⟨g,1,none⟩) (Kd.V_mono HL274_4.out (fun k_ hk=>(⟨hk,hk.2.2.2.1⟩:_∧k_≠g))) (fun _ hk=>hk.2) (.slice none 0 0)) (fun _ hk=>⟨hk.1.1,⟨hk.1.2.1,⟨hk.1.2.2.1,⟨hk.1.2.2.2.1,hk.1.2.2.2.2⟩⟩⟩⟩)))⟩;have n6_:Aside0 (Kd.V k31 31 w88 w0.heap.size (fun k_=>((P0_1_ k_∨P1_3_ k_∨P1_4_ k_)∨w.heap.size≤k_)∧some k_≠(u1001:Value).ownBlock∧k_≠gb265∧k_≠g∧k_≠gb275) (.slice A274_8 ((rd_T53 l1_4 x81_4).f1.f3).length c274_8) ((rd_T53 l1_4 x81_4).f1.f3)):=⟨(by rw [hw];exact (by (with_reducible repeat (first|apply Kd.V_alloc|apply Kd.V_drewN|apply Kd.V_drew));exact Kd.V_mono (Kd.V_far (p:=⟨g,1,none⟩) (Kd.V_mono HL274_8.out (fun k_ hk=>(⟨hk,hk.2.2.2.1⟩:_∧k_≠g))) (fun _ hk=>hk.2) (.slice none 0 0)) (fun _ hk=>⟨hk.1.1,⟨hk.1.2.1,⟨hk.1.2.2.1,⟨hk.1.2.2.2.1,hk.1.2.2.2.2⟩⟩⟩⟩)))⟩;have n7_:Aside0 (Kd.V k53 53 w88 w0.heap.size (fun k_=>((P0_1_ k_∨P1_3_ k_∨P1_4_ k_)∨w.heap.size≤k_)∧some k_≠(u1001:Value).ownBlock∧k_≠gb265∧k_≠g∧k_≠gb275) (.slice A274_9 ((rd_T53 l1_4 x81_4).f1.f4).length c274_9) ((rd_T53 l1_4 x81_4).f1.f4)):=⟨(by rw [hw];exact (by (with_reducible repeat (first|apply Kd.V_alloc|apply Kd.V_drewN|apply Kd.V_drew));exact Kd.V_mono (Kd.V_far (p:=⟨g,1,none⟩) (Kd.V_mono HL274_9.out (fun k_ hk=>(⟨hk,hk.2.2.2.1⟩:_∧k_≠g))) (fun _ hk=>hk.2) (.slice none 0 0)) (fun _ hk=>⟨hk.1.1,⟨hk.1.2.1,⟨hk.1.2.2.1,⟨hk.1.2.2.2.1,hk.1.2.2.2.2⟩⟩⟩⟩)))⟩;have n8_:Aside0 (w88.heap[gb265]? = some (.cells #[.int .i64 a1_0,.int .i64 a1_1,.string a1_2,.slice A1_3 l1_3.length c1_3,.slice (some ad274) l1_4.length c1_4] 31 (0,0))):=⟨(by rw [hw];exact (by (with_reducible repeat (first|refine blk_drewN ?_ _|refine blk_drew ?_|refine blk_alloc ?_ _));refine blk_far ?_ NB265_0.out _;(with_reducible repeat (first|refine blk_drewN ?_ _|refine blk_drew ?_|refine blk_alloc ?_ _));exact BK265.out))⟩;have n9_:Aside0 (w88.heap[gb275]? = some (.cells #[.int .i64 ((rd_T53 l1_4 x81_4).f0.f0),.int .i64 ((rd_T53 l1_4 x81_4).f0.f1),.string ((rd_T53 l1_4 x81_4).f0.f2),.slice A274_3 ((rd_T53 l1_4 x81_4).f0.f3).length c274_3,.slice A274_4 ((rd_T53 l1_4 x81_4).f0.f4).length c274_4,.int .i64 ((rd_T53 l1_4 x81_4).f1.f0),.int .i64 ((rd_T53 l1_4 x81_4).f1.f1),.string ((rd_T53 l1_4 x81_4).f1.f2),.slice A274_8 ((rd_T53 l1_4 x81_4).f1.f3).length c274_8,.slice A274_9 ((rd_T53 l1_4 x81_4).f1.f4).length c274_9] 53 (0,0))):=⟨(by rw [hw];exact (by (with_reducible repeat (first|refine blk_drewN ?_ _|refine blk_drew ?_|refine blk_alloc ?_ _));refine blk_far ?_ NB275_0.out _;(with_reducible repeat (first|refine blk_drewN ?_ _|refine blk_drew ?_|refine blk_alloc ?_ _));exact BK275.out))⟩;have n10_:Aside0 (IsS42 w0 w88 g x1000_4 (.slice none 0 0)):=⟨(by rw [hw];exact (by repeat (first|(with_reducible first|exact HI0.out|apply IsS42.alloc|apply IsS42.drewN|apply IsS42.drew|apply IsS42.set_0|apply IsS42.set_1|refine IsS42.far ?_ NB0_265.out _|refine IsS42.far ?_ NB0_275.out _)|exact HI0.out)))⟩;have n11_:Aside0 (Kept w w88 (fun k_=>(P0_1_ k_)∨k_ = g)):=⟨(by rw [hw];exact (by repeat (first|(with_reducible first|exact HK.out|apply Kept.alloc|apply Kept.drewN|apply Kept.drew|refine Kept.setCell ?_ (.inl (.inr rfl)) _|refine Kept.setCell ?_ (.inr GW265.out) _|refine Kept.setCell ?_ (.inr GW275.out) _)|exact HK.out)))⟩;have n12_:Aside0 (Below w0.heap.size w0 w88):=⟨(by rw [hw];exact (by repeat (first|(with_reducible first|exact HB.out|apply below_alloc|apply pw_below_drewN|apply below_drew1|refine below_set ?_ (IsS42.ge HI0.out)|refine below_set ?_ GE265.out|refine below_set ?_ GE275.out)|exact HB.out)))⟩;clear hw;clear HO_79;clear HO_1001;clear HO_266003;clear HO_266004;clear HL274_3;clear HL274_4;clear HL274_8;clear HL274_9;clear BK265;clear BK275;clear HI0;clear HK;clear HB;have HO_79:=n0_;have HO_1001:=n1_;have HO_266003:=n2_;have HO_266004:=n3_;have HL274_3:=n4_;have HL274_4:=n5_;have HL274_8:=n6_;have HL274_9:=n7_;have BK265:=n8_;have BK275:=n9_;have HI0:=n10_;have HK:=n11_;have HB:=n12_;clear n0_ n1_ n2_ n3_ n4_ n5_ n6_ n7_ n8_ n9_ n10_ n11_ n12_;have hcz89_0:w88.cell? ⟨gb275,0,none⟩ = some (.int .i64 ((rd_T53 l1_4 x81_4).f0.f0)):=(blk_cell BK275.out 0).trans rfl;have hcz89_1:w88.cell? ⟨gb275,1,none⟩ = some (.int .i64 ((rd_T53 l1_4 x81_4).f0.f1)):=(blk_cell BK275.out 1).trans rfl;have hcz89_2:w88.cell? ⟨gb275,2,none⟩ = some (.string ((rd_T53 l1_4 x81_4).f0.f2)):=(blk_cell BK275.out 2).trans rfl;have hcz89_3:w88.cell? ⟨gb275,3,none⟩ = some (.slice A274_3 ((rd_T53 l1_4 x81_4).f0.f3).length c274_3):=(blk_cell BK275.out 3).trans rfl;have hcz89_4:w88.cell? ⟨gb275,4,none⟩ = some (.slice A274_4 ((rd_T53 l1_4 x81_4).f0.f4).length c274_4):=(blk_cell BK275.out 4).trans rfl;have hcz89_5:w88.cell? ⟨gb275,5,none⟩ = some (.int .i64 ((rd_T53 l1_4 x81_4).f1.f0)):=(blk_cell BK275.out 5).trans rfl;have hcz89_6:w88.cell? ⟨gb275,6,none⟩ = some (.int .i64 ((rd_T53 l1_4 x81_4).f1.f1)):=(blk_cell BK275.out 6).trans rfl;have hcz89_7:w88.cell? ⟨gb275,7,none⟩ = some (.string ((rd_T53 l1_4 x81_4).f1.f2)):=(blk_cell BK275.out 7).trans rfl;have hcz89_8:w88.cell? ⟨gb275,8,none⟩ = some (.slice A274_8 ((rd_T53 l1_4 x81_4).f1.f3).length c274_8):=(blk_cell BK275.out 8).trans rfl;have hcz89_9:w88.cell? ⟨gb275,9,none⟩ = some (.slice A274_9 ((rd_T53 l1_4 x81_4).f1.f4).length c274_9):=(blk_cell BK275.out 9).trans rfl;have hfz89_0:=blk_frozen BK275.out 0;have hfz89_1:=blk_frozen BK275.out 1;have hfz89_2:=blk_frozen BK275.out 2;have hfz89_3:=blk_frozen BK275.out 3;have hfz89_4:=blk_frozen BK275.out 4;have hfz89_5:=blk_frozen BK275.out 5;have hfz89_6:=blk_frozen BK275.out 6;have hfz89_7:=blk_frozen BK275.out 7;have hfz89_8:=blk_frozen BK275.out 8;have hfz89_9:=blk_frozen BK275.out 9)|((with_reducible refine gate_callee (f:=23) rfl ?_);refine goesL_ (some 93) rfl rfl Try.func23 (by kernel_rfl) rfl #[.pointer (some ⟨g,0,none⟩),.agg #[.int .i64 ((rd_T53 l1_4 x81_4).f0.f0),.int .i64 ((rd_T53 l1_4 x81_4).f0.f1),.string ((rd_T53 l1_4 x81_4).f0.f2),.slice A274_3 ((rd_T53 l1_4 x81_4).f0.f3).length c274_3,.slice A274_4 ((rd_T53 l1_4 x81_4).f0.f4).length c274_4],.int .i64 (wrap64 (a2 + 1))] rfl (by (try simp only [List.map_toArray,List.map_cons,List.map_nil]);first|done|rfl|(simp only [List.length_drop,List.length_take];rfl)) ?_;(with_reducible refine (impl_judge_pat.calls k4 g x1000_4 (fun k_=>some k_ = (.slice none 0 0:Value).ownBlock) (.slice none 0 0) ([]:List ByteArray) ((rd_T53 l1_4 x81_4).f0.f0) ((rd_T53 l1_4 x81_4).f0.f1) ((rd_T53 l1_4 x81_4).f0.f2) (fun k_=>(((P0_1_ k_∨P1_3_ k_∨P1_4_ k_)∨w.heap.size≤k_)∧(some k_≠(u1001:Value).ownBlock∧(k_≠gb265∧(k_≠g∧k_≠gb275))))) _ _ ((rd_T53 l1_4 x81_4).f0.f3) _ _ ((rd_T53 l1_4 x81_4).f0.f4) (wrap64 (a2 + 1)) false t277 t280 w0 _ ?side1 ?side2 ?side3 ?side4 ?side5 ?side6 A56.out).mono ?_);(case side1=>repeat (first|(with_reducible first|exact HI0.out|apply IsS42.alloc|apply IsS42.drewN|apply IsS42.drew|apply IsS42.set_0|apply IsS42.set_1|refine IsS42.far ?_ NB0_265.out _|refine IsS42.far ?_ NB0_275.out _)|exact HI0.out));(case side2=>repeat (first|(with_reducible first|exact HB.out|apply below_alloc|apply pw_below_drewN|apply below_drew1|refine below_set ?_ (IsS42.ge HI0.out)|refine below_set ?_ GE265.out|refine below_set ?_ GE275.out)|exact HB.out));(case side3=>exact Kd.R_nil _ _ _ _ _);(case side4=>exact Kd.V_mono (HL274_3.out) (fun k_ hk_=>⟨hk_,(by simp [Value.ownBlock]),hk_.2.2.2.1⟩));(case side5=>exact Kd.C_kept_ownV (HL274_4.out) (fun k_ hk_ hs_=>Or.elim hs_ (fun hs_=>(fun e_=>by simp [Value.ownBlock] at e_) hs_) (fun e_=>(hk_.2.2.2.1) e_)));(case side6=>exact HC274_4.out);rintro e w90 ⟨v278,rfl,ho0,hi,hb,hkp⟩;refine ⟨_,rfl,?_⟩;have n0_:=Aside0.mk (Kd.V_mono (ok':=fun k_=>((P0_1_ k_∨P1_3_ k_∨P1_4_ k_)∨w.heap.size≤k_)∧some k_≠(u1001:Value).ownBlock∧k_≠gb265∧k_≠gb275∧k_≠g∧some k_≠(v278:Value).ownBlock) (Kd.V_keptB (HO_79.out) hkp (fun k_ hk_ hs_=>Or.elim hs_ (fun hs_=>(fun e_=>by simp [Value.ownBlock] at e_) hs_) (fun e_=>(hk_.2.2.2.1) e_))) (fun k_ hk_=>⟨hk_.1.1,hk_.1.2.1,hk_.1.2.2.1,hk_.1.2.2.2.2,hk_.1.2.2.2.1,fun e_=>Or.elim (ho0.1 k_ e_.symm) (fun hs_=>hk_.2.1 (.inl hs_)) (fun hn_=>Nat.not_le.2 hk_.2.2 hn_)⟩));have n1_:=Aside0.mk (Kd.R_mono (ok':=fun k_=>(P0_1_ k_∨w.heap.size≤k_)∧some k_≠(v278:Value).ownBlock) (Kd.R_keptB ((IsS42.apart HI0.out HO_1001.out (by decide))) hkp (fun k_ hk_ hs_=>Or.elim hs_ (fun hs_=>(fun e_=>by simp [Value.ownBlock] at e_) hs_) (fun e_=>(hk_.2) e_))) (fun k_ hk_=>⟨hk_.1.1,fun e_=>Or.elim (ho0.1 k_ e_.symm) (fun hs_=>hk_.2.1 (.inl hs_)) (fun hn_=>Nat.not_le.2 hk_.2.2 hn_)⟩));have n2_:=Aside0.mk (Kd.V_mono (ok':=fun k_=>((P0_1_ k_∨P1_3_ k_∨P1_4_ k_)∨w.heap.size≤k_)∧some k_≠(u1001:Value).ownBlock∧k_≠gb265∧k_≠gb275∧k_≠g∧some k_≠(v278:Value).ownBlock) (Kd.V_keptB (HO_266003.out) hkp (fun k_ hk_ hs_=>Or.elim hs_ (fun hs_=>(fun e_=>by simp [Value.ownBlock] at e_) hs_) (fun e_=>(hk_.2.2.2.1) e_))) (fun k_ hk_=>⟨hk_.1.1,hk_.1.2.1,hk_.1.2.2.1,hk_.1.2.2.2.2,hk_.1.2.2.2.1,fun e_=>Or.elim (ho0.1 k_ e_.symm) (fun hs_=>hk_.2.1 (.inl hs_)) (fun hn_=>Nat.not_le.2 hk_.2.2 hn_)⟩));have n3_:=Aside0.mk (Kd.V_mono (ok':=fun k_=>((P0_1_ k_∨P1_3_ k_∨P1_4_ k_)∨w.heap.size≤k_)∧some k_≠(u1001:Value).ownBlock∧k_≠gb265∧k_≠gb275∧k_≠g∧some k_≠(v278:Value).ownBlock) (Kd.V_keptB (HO_266004.out) hkp (fun k_ hk_ hs_=>Or.elim hs_ (fun hs_=>(fun e_=>by simp [Value.ownBlock] at e_) hs_) (fun e_=>(hk_.2.2.2.1) e_))) (fun k_ hk_=>⟨hk_.1.1,hk_.1.2.1,hk_.1.2.2.1,hk_.1.2.2.2.2,hk_.1.2.2.2.1,fun e_=>Or.elim (ho0.1 k_ e_.symm) (fun hs_=>hk_.2.1 (.inl hs_)) (fun hn_=>Nat.not_le.2 hk_.2.2 hn_)⟩));have n4_:=Aside0.mk (blk_kept (by (with_reducible repeat (first|refine blk_drewN ?_ _|refine blk_drew ?_|refine blk_alloc ?_ _));exact BK265.out) hkp (fun hs_=>Or.elim hs_ (fun hs_=>(fun e_=>by simp [Value.ownBlock] at e_) hs_) (fun e_=>NB265_0.out e_)));have n5_:=Aside0.mk (hi);have n6_:=Aside0.mk (Kd.V_mono (ok':=fun k_=>((P0_1_ k_∨P1_3_ k_∨P1_4_ k_)∨w.heap.size≤k_)∧some k_≠(u1001:Value).ownBlock∧k_≠gb265∧k_≠gb275∧k_≠g∧some k_≠(v278:Value).ownBlock) (Kd.V_keptB (HL274_3.out) hkp (fun k_ hk_ hs_=>Or.elim hs_ (fun hs_=>(fun e_=>by simp [Value.ownBlock] at e_) hs_) (fun e_=>(hk_.2.2.2.1) e_))) (fun k_ hk_=>⟨hk_.1.1,hk_.1.2.1,hk_.1.2.2.1,hk_.1.2.2.2.2,hk_.1.2.2.2.1,fun e_=>Or.elim (ho0.1 k_ e_.symm) (fun hs_=>hk_.2.1 (.inl hs_)) (fun hn_=>Nat.not_le.2 hk_.2.2 hn_)⟩));have n7_:=Aside0.mk (Kd.V_mono (ok':=fun k_=>((P0_1_ k_∨P1_3_ k_∨P1_4_ k_)∨w.heap.size≤k_)∧some k_≠(u1001:Value).ownBlock∧k_≠gb265∧k_≠gb275∧k_≠g∧some k_≠(v278:Value).ownBlock) (Kd.V_keptB (HL274_4.out) hkp (fun k_ hk_ hs_=>Or.elim hs_ (fun hs_=>(fun e_=>by simp [Value.ownBlock] at e_) hs_) (fun e_=>(hk_.2.2.2.1) e_))) (fun k_ hk_=>⟨hk_.1.1,hk_.1.2.1,hk_.1.2.2.1,hk_.1.2.2.2.2,hk_.1.2.2.2.1,fun e_=>Or.elim (ho0.1 k_ e_.symm) (fun hs_=>hk_.2.1 (.inl hs_)) (fun hn_=>Nat.not_le.2 hk_.2.2 hn_)⟩));have n8_:=Aside0.mk (Kd.V_mono (ok':=fun k_=>((P0_1_ k_∨P1_3_ k_∨P1_4_ k_)∨w.heap.size≤k_)∧some k_≠(u1001:Value).ownBlock∧k_≠gb265∧k_≠gb275∧k_≠g∧some k_≠(v278:Value).ownBlock) (Kd.V_keptB (HL274_8.out) hkp (fun k_ hk_ hs_=>Or.elim hs_ (fun hs_=>(fun e_=>by simp [Value.ownBlock] at e_) hs_) (fun e_=>(hk_.2.2.2.1) e_))) (fun k_ hk_=>⟨hk_.1.1,hk_.1.2.1,hk_.1.2.2.1,hk_.1.2.2.2.2,hk_.1.2.2.2.1,fun e_=>Or.elim (ho0.1 k_ e_.symm) (fun hs_=>hk_.2.1 (.inl hs_)) (fun hn_=>Nat.not_le.2 hk_.2.2 hn_)⟩));have n9_:=Aside0.mk (Kd.V_mono (ok':=fun k_=>((P0_1_ k_∨P1_3_ k_∨P1_4_ k_)∨w.heap.size≤k_)∧some k_≠(u1001:Value).ownBlock∧k_≠gb265∧k_≠gb275∧k_≠g∧some k_≠(v278:Value).ownBlock) (Kd.V_keptB (HL274_9.out) hkp (fun k_ hk_ hs_=>Or.elim hs_ (fun hs_=>(fun e_=>by simp [Value.ownBlock] at e_) hs_) (fun e_=>(hk_.2.2.2.1) e_))) (fun k_ hk_=>⟨hk_.1.1,hk_.1.2.1,hk_.1.2.2.1,hk_.1.2.2.2.2,hk_.1.2.2.2.1,fun e_=>Or.elim (ho0.1 k_ e_.symm) (fun hs_=>hk_.2.1 (.inl hs_)) (fun hn_=>Nat.not_le.2 hk_.2.2 hn_)⟩));have n10_:=Aside0.mk (blk_kept (by (with_reducible repeat (first|refine blk_drewN ?_ _|refine blk_drew ?_|refine blk_alloc ?_ _));exact BK275.out) hkp (fun hs_=>Or.elim hs_ (fun hs_=>(fun e_=>by simp [Value.ownBlock] at e_) hs_) (fun e_=>NB275_0.out e_)));have n11_:=Aside0.mk (Kd.R_mono (ok':=fun k_=>(P0_1_ k_∨w.heap.size≤k_)∧some k_≠(u1001:Value).ownBlock) ho0 (fun k_ hk_=>⟨Or.elim hk_ (fun hs_=>absurd hs_ (by simp [Value.ownBlock])) (fun hn_=>(.inr (Nat.le_trans (by first|exact HK.out.1|exact (show Kept w _ (fun k_=>(P0_1_ k_)∨k_ = g) from by repeat (first|(with_reducible first|exact HK.out|apply Kept.alloc|apply Kept.drewN|apply Kept.drew|refine Kept.setCell ?_ (.inl (.inr rfl)) _|refine Kept.setCell ?_ (.inr GW265.out) _|refine Kept.setCell ?_ (.inr GW275.out) _)|exact HK.out)).1) hn_))),Or.elim hk_ (fun hs_=>absurd hs_ (by simp [Value.ownBlock])) (fun hn_=>(Kd.fresh' (Kd.R_lt (by (with_reducible repeat (first|apply Kd.R_alloc|apply Kd.R_drewN|apply Kd.R_drew));exact HO_1001.out)) k_ hn_))⟩));have n12_:=Aside0.mk (Kept.then_ (S:=(fun k_=>(P0_1_ k_)∨k_ = g)) (by repeat (first|(with_reducible first|exact HK.out|apply Kept.alloc|apply Kept.drewN|apply Kept.drew|refine Kept.setCell ?_ (.inl (.inr rfl)) _|refine Kept.setCell ?_ (.inr GW265.out) _|refine Kept.setCell ?_ (.inr GW275.out) _)|exact HK.out)) hkp (fun k_ hs_=>Or.elim hs_ (fun hs_=>(fun e_=>by simp [Value.ownBlock] at e_) hs_) (fun e_=>.inl (.inr e_))));have n13_:=Aside0.mk (hb);clear HO_79;clear HO_1001;clear HO_266003;clear HO_266004;clear BK265;clear HI0;clear HL274_3;clear HL274_4;clear HL274_8;clear HL274_9;clear BK275;clear HK;clear HB;have HO_79:=n0_;have HO_1001:=n1_;have HO_266003:=n2_;have HO_266004:=n3_;have BK265:=n4_;have HI0:=n5_;have HL274_3:=n6_;have HL274_4:=n7_;have HL274_8:=n8_;have HL274_9:=n9_;have BK275:=n10_;have HO279:=n11_;have HK:=n12_;have HB:=n13_;clear n0_ n1_ n2_ n3_ n4_ n5_ n6_ n7_ n8_ n9_ n10_ n11_ n12_ n13_;(try clear hb);(try clear hkp);(try clear ho0)))
                go_ret
                exact ⟨_,by first|rfl|(simp [*,errW_none,errW_some] <;> rfl),by (with_reducible repeat (first|apply Kd.R_alloc|apply Kd.R_drewN|apply Kd.R_drew));exact Kd.R_mono HO279.out (fun _ hk=>hk.1),by repeat (first|(with_reducible first|exact HI0.out|apply IsS42.alloc|apply IsS42.drewN|apply IsS42.drew|apply IsS42.set_0|apply IsS42.set_1|refine IsS42.far ?_ NB0_265.out _|refine IsS42.far ?_ NB0_275.out _)|exact HI0.out),by repeat (first|(with_reducible first|exact HB.out|apply below_alloc|apply pw_below_drewN|apply below_drew1|refine below_set ?_ (IsS42.ge HI0.out)|refine below_set ?_ GE265.out|refine below_set ?_ GE275.out)|exact HB.out),by repeat (first|(with_reducible first|exact HK.out|apply Kept.alloc|apply Kept.drewN|apply Kept.drew|refine Kept.setCell ?_ (.inl (.inr rfl)) _|refine Kept.setCell ?_ (.inr GW265.out) _|refine Kept.setCell ?_ (.inr GW275.out) _)|exact HK.out)⟩
              ·rw [if_neg c55] at H
               exact absurd H (by simp)
             ·rw [if_neg c54] at H
              exact absurd H (by simp)
            ·rw [if_neg c53] at H
             have c53b0:decide (x81_4 < (l1_4.length:Int)) = false:=decide_eq_false c53
             clear c53
             simp only [Option.some.injEq,Prod.mk.injEq] at H
             obtain ⟨rfl,rfl,rfl⟩:=H
             go_wp2
             go_ret
             exact ⟨_,by first|rfl|(simp [*,errW_none,errW_some] <;> rfl),by (with_reducible repeat (first|apply Kd.R_alloc|apply Kd.R_drewN|apply Kd.R_drew));exact HO_1001.out,by repeat (first|(with_reducible first|exact HI0.out|apply IsS42.alloc|apply IsS42.drewN|apply IsS42.drew|apply IsS42.set_0|apply IsS42.set_1|refine IsS42.far ?_ NB0_265.out _)|exact HI0.out),by repeat (first|(with_reducible first|exact HB.out|apply below_alloc|apply pw_below_drewN|apply below_drew1|refine below_set ?_ (IsS42.ge HI0.out)|refine below_set ?_ GE265.out)|exact HB.out),by repeat (first|(with_reducible first|exact HK.out|apply Kept.alloc|apply Kept.drewN|apply Kept.drew|refine Kept.setCell ?_ (.inl (.inr rfl)) _|refine Kept.setCell ?_ (.inr GW265.out) _)|exact HK.out)⟩

end Go.Proofs.Ytjgegnkphkfmoaa.QFnExactExprOk
