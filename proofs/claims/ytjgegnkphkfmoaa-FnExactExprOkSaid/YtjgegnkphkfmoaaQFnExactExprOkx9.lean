-- Written by a program of this workplace (print2.py) for this claim, over the print's words.
import Derived.Test.YtjgegnkphkfmoaaQFnExactExprOkx0
import Derived.Test.YtjgegnkphkfmoaaQFnExactExprOkx7
import Derived.Test.YtjgegnkphkfmoaaQFnExactExprOkx8
namespace Go.Proofs.Ytjgegnkphkfmoaa.QFnExactExprOk
open Go.RowKit Go.Proofs.YtjgegnkphkfmoaaW.PrintWords Go.Proofs.YtjgegnkphkfmoaaW.PrintLast Go.Proofs.YtjgegnkphkfmoaaW.PrintMore
attribute [local go_sem] max2_int min2_int max_two min_two max_three min_three max_four min_four   -- for this text's walks alone
set_option linter.unusedVariables false
set_option linter.unusedSimpArgs false

/-- A state of type 42 at block g of W; what its slices lead to came in by w0. -/
def IsS42 (w0 W:World) (g:Nat) (f0:Int) (f1:Value):Prop:=W.heap[g]? = some (.cells #[.int .i64 f0,f1] 42 (0,0))∧w0.heap.size≤g
theorem IsS42.grown {w0 W:World} {g:Nat} {f0:Int} {f1:Value} {W1:World} {row:Option Nat} (h:IsS42 w0 W g f0 f1) (hw:W.grownBy W1 row) (hne:some g≠row):IsS42 w0 W1 g f0 f1:=by
 obtain ⟨hb,hg⟩:=h
 exact ⟨blk_grown hb hw hne,hg⟩
theorem IsS42.own_neN {w0 W:World} {g:Nat} {f0:Int} {f1:Value} {α:Type} {d:Kd α} {e:Nat} {base:Nat} {ok:Nat → Prop} {v:Value} {xs:List α} (h:IsS42 w0 W g f0 f1) (ho:Kd.N d e W base ok v xs) (ht:e≠42):some g≠v.ownBlock:=by
 obtain ⟨hb,hg⟩:=h
 exact Kd.N_ne ho hb ht
theorem IsS42.fresh {w0 W:World} {g:Nat} {f0:Int} {f1:Value} (h:IsS42 w0 W g f0 f1):∀ k,W.heap.size≤k → k≠g:=by
 obtain ⟨hb,hg⟩:=h
 exact Kd.freshB hb
theorem IsS42.kept {w0 W:World} {g:Nat} {f0:Int} {f1:Value} {W1:World} {S:Nat → Prop} (h:IsS42 w0 W g f0 f1) (hk:Kept W W1 S) (hne : ¬ S g):IsS42 w0 W1 g f0 f1:=by
 obtain ⟨hb,hg⟩:=h
 exact ⟨blk_kept hb hk hne,hg⟩
theorem IsS42.below {w0 W:World} {g:Nat} {f0:Int} {f1:Value} {W1:World} (h:IsS42 w0 W g f0 f1) (hw:Below W.heap.size W W1):IsS42 w0 W1 g f0 f1:=h.grown (grown_of_below hw none) (by simp)
theorem IsS42.alloc {w0 W:World} {g:Nat} {f0:Int} {f1:Value} (h:IsS42 w0 W g f0 f1) (o:Obj):IsS42 w0 (W.alloc o) g f0 f1:=h.below (below_alloc (Below.refl _ _) o)
theorem IsS42.drewN {w0 W:World} {g:Nat} {f0:Int} {f1:Value} (h:IsS42 w0 W g f0 f1) (m:Nat):IsS42 w0 (W.drewN m) g f0 f1:=h
theorem IsS42.drew {w0 W:World} {g:Nat} {f0:Int} {f1:Value} (h:IsS42 w0 W g f0 f1):IsS42 w0 W.drew g f0 f1:=h
theorem IsS42.at_ {w0 W:World} {g:Nat} {f0:Int} {f1:Value} {w':World} {m:Nat} (hq:W.drewN m = w') (h:IsS42 w0 W g f0 f1):IsS42 w0 w' g f0 f1:=by subst hq;exact IsS42.drewN h m
theorem IsS42.apart {w0 W:World} {g:Nat} {f0:Int} {f1:Value} {α:Type} {d:Kd α} {e:Nat} {base:Nat} {ok:Nat → Prop} {v:Value} {xs:List α} (h:IsS42 w0 W g f0 f1) (ho:d.R e W base ok v xs) (ht:∀ q,q ∈ e :: d.E → q≠42):d.R e W base (fun k=>ok k∧k≠g) v xs:=by
 obtain ⟨hb,hg⟩:=h
 exact Kd.R_types ho hb ht
theorem IsS42.own_ne {w0 W:World} {g:Nat} {f0:Int} {f1:Value} {α:Type} {d:Kd α} {e:Nat} {base:Nat} {ok:Nat → Prop} {v:Value} {xs:List α} (h:IsS42 w0 W g f0 f1) (ho:d.R e W base ok v xs) (ht:e≠42):some g≠v.ownBlock:=by
 obtain ⟨hb,hg⟩:=h
 exact Kd.R_ne ho hb ht
theorem IsS42.apartQ {w0 W:World} {g:Nat} {f0:Int} {f1:Value} {α:Type} {d:Kd α} {e:Nat} {base:Nat} {ok:Nat → Prop} {v:Value} {xs:List α} (h:IsS42 w0 W g f0 f1) (ho:d.Q e W base ok v xs) (ht:∀ q,q ∈ e :: d.E → q≠42):d.Q e W base (fun k=>ok k∧k≠g) v xs:=by
 obtain ⟨hb,hg⟩:=h
 exact Kd.Q_types ho hb ht
theorem IsS42.own_neQ {w0 W:World} {g:Nat} {f0:Int} {f1:Value} {α:Type} {d:Kd α} {e:Nat} {base:Nat} {ok:Nat → Prop} {v:Value} {xs:List α} (h:IsS42 w0 W g f0 f1) (ho:d.Q e W base ok v xs) (ht:e≠42):some g≠v.ownBlock:=by
 obtain ⟨hb,hg⟩:=h
 exact Kd.Q_ne ho hb ht
theorem IsS42.apartS {w0 W:World} {g:Nat} {f0:Int} {f1:Value} {α:Type} {d:Kd α} {e:Nat} {base:Nat} {ok:Nat → Prop} {v:Value} {xs:List α} (h:IsS42 w0 W g f0 f1) (ho:d.S e W base ok v xs) (ht:∀ q,q ∈ e :: d.E → q≠42):d.S e W base (fun k=>ok k∧k≠g) v xs:=by
 obtain ⟨hb,hg⟩:=h
 exact Kd.S_types ho hb ht
theorem IsS42.own_neS {w0 W:World} {g:Nat} {f0:Int} {f1:Value} {α:Type} {d:Kd α} {e:Nat} {base:Nat} {ok:Nat → Prop} {v:Value} {xs:List α} (h:IsS42 w0 W g f0 f1) (ho:d.S e W base ok v xs) (ht:e≠42):some g≠v.ownBlock:=by
 obtain ⟨hb,hg⟩:=h
 exact Kd.S_ne ho hb ht
theorem IsS42.cell_0 {w0 W:World} {g:Nat} {f0:Int} {f1:Value} (h:IsS42 w0 W g f0 f1):W.cell? ⟨g,0,none⟩ = some (.int .i64 f0):=by
 obtain ⟨hb,hg⟩:=h
 exact (blk_cell hb 0).trans rfl
theorem IsS42.froz_0 {w0 W:World} {g:Nat} {f0:Int} {f1:Value} (h:IsS42 w0 W g f0 f1):W.frozen? ⟨g,0,none⟩ = false:=by
 obtain ⟨hb,hg⟩:=h
 exact blk_frozen hb 0
theorem IsS42.cell_1 {w0 W:World} {g:Nat} {f0:Int} {f1:Value} (h:IsS42 w0 W g f0 f1):W.cell? ⟨g,1,none⟩ = some (f1):=by
 obtain ⟨hb,hg⟩:=h
 exact (blk_cell hb 1).trans rfl
theorem IsS42.froz_1 {w0 W:World} {g:Nat} {f0:Int} {f1:Value} (h:IsS42 w0 W g f0 f1):W.frozen? ⟨g,1,none⟩ = false:=by
 obtain ⟨hb,hg⟩:=h
 exact blk_frozen hb 1
theorem IsS42.lt {w0 W:World} {g:Nat} {f0:Int} {f1:Value} (h:IsS42 w0 W g f0 f1):g < W.heap.size:=by
 obtain ⟨hb,hg⟩:=h
 exact blk_lt hb
theorem IsS42.ge {w0 W:World} {g:Nat} {f0:Int} {f1:Value} (h:IsS42 w0 W g f0 f1):w0.heap.size≤g:=by
 obtain ⟨hb,hg⟩:=h
 exact hg
theorem IsS42.ne_blk {w0 W:World} {g:Nat} {f0:Int} {f1:Value} {a:Nat} {cs:Array Value} {t:TypeId} {fr:Nat × Nat} (h:IsS42 w0 W g f0 f1) (hb2:W.heap[a]? = some (.cells cs t fr)) (ht:t≠42):g≠a:=by
 obtain ⟨hb,hg⟩:=h
 rintro rfl
 rw [hb] at hb2
 injection hb2 with hb2
 injection hb2 with _ ht2
 exact ht ht2.symm
theorem IsS42.far {w0 W:World} {g:Nat} {f0:Int} {f1:Value} {p:Addr} (h:IsS42 w0 W g f0 f1) (hne:g≠p.block) (u:Value):IsS42 w0 (W.setCell p u) g f0 f1:=by
 obtain ⟨hb,hg⟩:=h
 exact ⟨blk_far hb hne u,hg⟩
theorem cellS42_0 {W:World} {g:Nat} {f0:Int} {f1:Value} (h:W.heap[g]? = some (.cells #[.int .i64 f0,f1] 42 (0,0))):W.cell? ⟨g,0,none⟩ = some (.int .i64 f0):=(blk_cell h 0).trans rfl
theorem IsS42.set_0 {w0 W:World} {g:Nat} {f0:Int} {f1:Value} (h:IsS42 w0 W g f0 f1) (x:Int):IsS42 w0 (W.setCell ⟨g,0,none⟩ (.int .i64 x)) g x f1:=by
 obtain ⟨hb,hg⟩:=h
 exact ⟨by simpa using blk_set hb 0 (.int .i64 x),hg⟩
theorem cellS42_1 {W:World} {g:Nat} {f0:Int} {f1:Value} (h:W.heap[g]? = some (.cells #[.int .i64 f0,f1] 42 (0,0))):W.cell? ⟨g,1,none⟩ = some (f1):=(blk_cell h 1).trans rfl
theorem IsS42.set_1 {w0 W:World} {g:Nat} {f0:Int} {f1:Value} (h:IsS42 w0 W g f0 f1) (x:Value):IsS42 w0 (W.setCell ⟨g,1,none⟩ (x)) g f0 x:=by
 obtain ⟨hb,hg⟩:=h
 exact ⟨by simpa using blk_set hb 1 (x),hg⟩
theorem IsS42.new (w0 W:World) (f0:Int) (f1:Value) (hB:Below w0.heap.size w0 W):IsS42 w0 (W.alloc (.cells #[.int .i64 f0,f1] 42)) W.heap.size f0 f1:=⟨by simpa using heap_alloc_new W _,hB.size⟩
theorem IsS42.of_blk {w0 W:World} {g:Nat} {f0:Int} {f1:Value} (hb:W.heap[g]? = some (.cells #[.int .i64 f0,f1] 42 (0,0))) (hg:w0.heap.size≤g):IsS42 w0 W g f0 f1:=⟨hb,hg⟩

/-! ### impl_judge_pat: function 23 -/
mutual
def impl_judge_pat.j0:Nat → Int → Bool → Int → List ByteArray → Int → Int → ByteArray → List (S31) → List (S53) → Option (Bool × List ByteArray × Int)
 | 0,_,_,_,_,_,_,_,_,_=>none
 | k + 1,x2,x48,x1000,x1001,x253000,x253001,x253002,x253003,x253004=>if x48 = true then (some (false,x1001,x1000)) else (if x253000 = 3 then (impl_judge_pat.j1 k x2 (x253002.toList != ([95]:List UInt8)) x1000 x1001 x253000 x253001 x253002 x253003 x253004) else (impl_judge_pat.j1 k x2 false x1000 x1001 x253000 x253001 x253002 x253003 x253004))
def impl_judge_pat.j1:Nat → Int → Bool → Int → List ByteArray → Int → Int → ByteArray → List (S31) → List (S53) → Option (Bool × List ByteArray × Int)
 | 0,_,_,_,_,_,_,_,_,_=>none
 | k + 1,x2,x56,x1000,x1001,x253000,x253001,x253002,x253003,x253004=>if x56 = true then ((slices_Contains_string_string.f k x1001 x253002).bind fun t254=>(if t254 = true then (some (false,x1001,x1000)) else (if x1001.length < 8796093022208 then (impl_judge_pat.j2 k x2 x1000 (x1001 ++ [x253002]) x253000 x253001 x253002 x253003 x253004) else (none)))) else (impl_judge_pat.j2 k x2 x1000 x1001 x253000 x253001 x253002 x253003 x253004)
def impl_judge_pat.j2:Nat → Int → Int → List ByteArray → Int → Int → ByteArray → List (S31) → List (S53) → Option (Bool × List ByteArray × Int)
 | 0,_,_,_,_,_,_,_,_=>none
 | k + 1,x2,x1000,x1001,x253000,x253001,x253002,x253003,x253004=>impl_judge_pat.l0 k x2 x253003 (x253003.length:Int) 0 x1000 x1001
def impl_judge_pat.l0:Nat → Int → List (S31) → Int → Int → Int → List ByteArray → Option (Bool × List ByteArray × Int)
 | 0,_,_,_,_,_,_=>none
 | k + 1,x2,x76,x77,x78,x1000,x1001=>if x78 < x77 then (if 0≤x78 then (if x78 < (x76.length:Int) then ((impl_judge_pat.f k x1000 x1001 ((rd_T31 x76 x78).f0) ((rd_T31 x76 x78).f1) ((rd_T31 x76 x78).f2) ((rd_T31 x76 x78).f3) ((rd_T31 x76 x78).f4) (wrap64 (x2 + 1))).bind fun bt260=>(if bt260.1 = true then (impl_judge_pat.l0 k x2 x76 x77 (wrap64 (x78 + 1)) bt260.2.2 bt260.2.1) else (some (false,bt260.2.1,bt260.2.2)))) else (none)) else (none)) else (some (true,x1001,x1000))
def impl_judge_pat.f:Nat → Int → List ByteArray → Int → Int → ByteArray → List (S31) → List (S53) → Int → Option (Bool × List ByteArray × Int)
 | 0,_,_,_,_,_,_,_,_=>none
 | k + 1,s0_0,l0_1,a1_0,a1_1,a1_2,l1_3,l1_4,a2=>if a2 > 10 then (impl_judge_pat.j0 k a2 true (wrap64 (s0_0 + 1)) l0_1 a1_0 a1_1 a1_2 l1_3 l1_4) else (if (wrap64 (s0_0 + 1)) > 300 then (impl_judge_pat.j0 k a2 true (wrap64 (s0_0 + 1)) l0_1 a1_0 a1_1 a1_2 l1_3 l1_4) else (if a1_0 > 6 then (impl_judge_pat.j0 k a2 true (wrap64 (s0_0 + 1)) l0_1 a1_0 a1_1 a1_2 l1_3 l1_4) else (if (l1_4.length:Int) > 0 then (impl_judge_pat.j0 k a2 true (wrap64 (s0_0 + 1)) l0_1 a1_0 a1_1 a1_2 l1_3 l1_4) else ((impl_shapeOk.f k a1_0 a1_1 a1_2 (l1_3.length:Int)).bind fun t253=>(impl_judge_pat.j0 k a2 (!t253) (wrap64 (s0_0 + 1)) l0_1 a1_0 a1_1 a1_2 l1_3 l1_4)))))
end
theorem impl_judge_pat.mono_l:∀ k,(∀ y0 y1 y2 y3 y4 y5 y6 y7,LeO (impl_judge_pat.f k y0 y1 y2 y3 y4 y5 y6 y7) (impl_judge_pat.f (k + 1) y0 y1 y2 y3 y4 y5 y6 y7))∧(∀ y0 y1 y2 y3 y4 y5 y6 y7 y8,LeO (impl_judge_pat.j0 k y0 y1 y2 y3 y4 y5 y6 y7 y8) (impl_judge_pat.j0 (k + 1) y0 y1 y2 y3 y4 y5 y6 y7 y8))∧(∀ y0 y1 y2 y3 y4 y5 y6 y7 y8,LeO (impl_judge_pat.j1 k y0 y1 y2 y3 y4 y5 y6 y7 y8) (impl_judge_pat.j1 (k + 1) y0 y1 y2 y3 y4 y5 y6 y7 y8))∧(∀ y0 y1 y2 y3 y4 y5 y6 y7,LeO (impl_judge_pat.j2 k y0 y1 y2 y3 y4 y5 y6 y7) (impl_judge_pat.j2 (k + 1) y0 y1 y2 y3 y4 y5 y6 y7))∧(∀ y0 y1 y2 y3 y4 y5,LeO (impl_judge_pat.l0 k y0 y1 y2 y3 y4 y5) (impl_judge_pat.l0 (k + 1) y0 y1 y2 y3 y4 y5))
 | 0=>⟨fun _ _ _ _ _ _ _ _ r h=>by simp [impl_judge_pat.f] at h,fun _ _ _ _ _ _ _ _ _ r h=>by simp [impl_judge_pat.j0] at h,fun _ _ _ _ _ _ _ _ _ r h=>by simp [impl_judge_pat.j1] at h,fun _ _ _ _ _ _ _ _ r h=>by simp [impl_judge_pat.j2] at h,fun _ _ _ _ _ _ r h=>by simp [impl_judge_pat.l0] at h⟩
 | k + 1=>by
  obtain ⟨ih0,ih1,ih2,ih3,ih4⟩:=impl_judge_pat.mono_l k
  refine ⟨?_,?_,?_,?_,?_⟩
  ·intro y0 y1 y2 y3 y4 y5 y6 y7
   unfold impl_judge_pat.f
   repeat' first
   | (with_reducible exact ih0 _ _ _ _ _ _ _ _)
   | (with_reducible exact ih1 _ _ _ _ _ _ _ _ _)
   | (with_reducible exact ih2 _ _ _ _ _ _ _ _ _)
   | (with_reducible exact ih3 _ _ _ _ _ _ _ _)
   | (with_reducible exact ih4 _ _ _ _ _ _)
   | (with_reducible exact impl_shapeOk.mono _ _ _ _ _)
   | (with_reducible exact slices_Contains_string_string.mono _ _ _)
   | (with_reducible exact LeO.refl _)
   | (with_reducible exact LeO.none _)
   | (with_reducible refine LeO.ite ?_ ?_)
   | (with_reducible refine LeO.bind ?_ (fun _=>?_))
   | exact ih0 _ _ _ _ _ _ _ _
   | exact ih1 _ _ _ _ _ _ _ _ _
   | exact ih2 _ _ _ _ _ _ _ _ _
   | exact ih3 _ _ _ _ _ _ _ _
   | exact ih4 _ _ _ _ _ _
   | exact impl_shapeOk.mono _ _ _ _ _
   | exact slices_Contains_string_string.mono _ _ _
   | exact LeO.none _
   | refine LeO.ite ?_ ?_
   | refine LeO.bind ?_ (fun _=>?_)
  ·intro y0 y1 y2 y3 y4 y5 y6 y7 y8
   unfold impl_judge_pat.j0
   repeat' first
   | (with_reducible exact ih0 _ _ _ _ _ _ _ _)
   | (with_reducible exact ih1 _ _ _ _ _ _ _ _ _)
   | (with_reducible exact ih2 _ _ _ _ _ _ _ _ _)
   | (with_reducible exact ih3 _ _ _ _ _ _ _ _)
   | (with_reducible exact ih4 _ _ _ _ _ _)
   | (with_reducible exact impl_shapeOk.mono _ _ _ _ _)
   | (with_reducible exact slices_Contains_string_string.mono _ _ _)
   | (with_reducible exact LeO.refl _)
   | (with_reducible exact LeO.none _)
   | (with_reducible refine LeO.ite ?_ ?_)
   | (with_reducible refine LeO.bind ?_ (fun _=>?_))
   | exact ih0 _ _ _ _ _ _ _ _
   | exact ih1 _ _ _ _ _ _ _ _ _
   | exact ih2 _ _ _ _ _ _ _ _ _
   | exact ih3 _ _ _ _ _ _ _ _
   | exact ih4 _ _ _ _ _ _
   | exact impl_shapeOk.mono _ _ _ _ _
   | exact slices_Contains_string_string.mono _ _ _
   | exact LeO.none _
   | refine LeO.ite ?_ ?_
   | refine LeO.bind ?_ (fun _=>?_)
  ·intro y0 y1 y2 y3 y4 y5 y6 y7 y8
   unfold impl_judge_pat.j1
   repeat' first
   | (with_reducible exact ih0 _ _ _ _ _ _ _ _)
   | (with_reducible exact ih1 _ _ _ _ _ _ _ _ _)
   | (with_reducible exact ih2 _ _ _ _ _ _ _ _ _)
   | (with_reducible exact ih3 _ _ _ _ _ _ _ _)
   | (with_reducible exact ih4 _ _ _ _ _ _)
   | (with_reducible exact impl_shapeOk.mono _ _ _ _ _)
   | (with_reducible exact slices_Contains_string_string.mono _ _ _)
   | (with_reducible exact LeO.refl _)
   | (with_reducible exact LeO.none _)
   | (with_reducible refine LeO.ite ?_ ?_)
   | (with_reducible refine LeO.bind ?_ (fun _=>?_))
   | exact ih0 _ _ _ _ _ _ _ _
   | exact ih1 _ _ _ _ _ _ _ _ _
   | exact ih2 _ _ _ _ _ _ _ _ _
   | exact ih3 _ _ _ _ _ _ _ _
   | exact ih4 _ _ _ _ _ _
   | exact impl_shapeOk.mono _ _ _ _ _
   | exact slices_Contains_string_string.mono _ _ _
   | exact LeO.none _
   | refine LeO.ite ?_ ?_
   | refine LeO.bind ?_ (fun _=>?_)
  ·intro y0 y1 y2 y3 y4 y5 y6 y7
   unfold impl_judge_pat.j2
   repeat' first
   | (with_reducible exact ih0 _ _ _ _ _ _ _ _)
   | (with_reducible exact ih1 _ _ _ _ _ _ _ _ _)
   | (with_reducible exact ih2 _ _ _ _ _ _ _ _ _)
   | (with_reducible exact ih3 _ _ _ _ _ _ _ _)
   | (with_reducible exact ih4 _ _ _ _ _ _)
   | (with_reducible exact impl_shapeOk.mono _ _ _ _ _)
   | (with_reducible exact slices_Contains_string_string.mono _ _ _)
   | (with_reducible exact LeO.refl _)
   | (with_reducible exact LeO.none _)
   | (with_reducible refine LeO.ite ?_ ?_)
   | (with_reducible refine LeO.bind ?_ (fun _=>?_))
   | exact ih0 _ _ _ _ _ _ _ _
   | exact ih1 _ _ _ _ _ _ _ _ _
   | exact ih2 _ _ _ _ _ _ _ _ _
   | exact ih3 _ _ _ _ _ _ _ _
   | exact ih4 _ _ _ _ _ _
   | exact impl_shapeOk.mono _ _ _ _ _
   | exact slices_Contains_string_string.mono _ _ _
   | exact LeO.none _
   | refine LeO.ite ?_ ?_
   | refine LeO.bind ?_ (fun _=>?_)
  ·intro y0 y1 y2 y3 y4 y5
   unfold impl_judge_pat.l0
   repeat' first
   | (with_reducible exact ih0 _ _ _ _ _ _ _ _)
   | (with_reducible exact ih1 _ _ _ _ _ _ _ _ _)
   | (with_reducible exact ih2 _ _ _ _ _ _ _ _ _)
   | (with_reducible exact ih3 _ _ _ _ _ _ _ _)
   | (with_reducible exact ih4 _ _ _ _ _ _)
   | (with_reducible exact impl_shapeOk.mono _ _ _ _ _)
   | (with_reducible exact slices_Contains_string_string.mono _ _ _)
   | (with_reducible exact LeO.refl _)
   | (with_reducible exact LeO.none _)
   | (with_reducible refine LeO.ite ?_ ?_)
   | (with_reducible refine LeO.bind ?_ (fun _=>?_))
   | exact ih0 _ _ _ _ _ _ _ _
   | exact ih1 _ _ _ _ _ _ _ _ _
   | exact ih2 _ _ _ _ _ _ _ _ _
   | exact ih3 _ _ _ _ _ _ _ _
   | exact ih4 _ _ _ _ _ _
   | exact impl_shapeOk.mono _ _ _ _ _
   | exact slices_Contains_string_string.mono _ _ _
   | exact LeO.none _
   | refine LeO.ite ?_ ?_
   | refine LeO.bind ?_ (fun _=>?_)
theorem impl_judge_pat.mono:∀ a0 a1 a2 a3 a4 a5 a6 a7 k,LeO (impl_judge_pat.f k a0 a1 a2 a3 a4 a5 a6 a7) (impl_judge_pat.f (k + 1) a0 a1 a2 a3 a4 a5 a6 a7):=by
 intro a0 a1 a2 a3 a4 a5 a6 a7 k
 obtain ⟨ih0,ih1,ih2,ih3,ih4⟩:=impl_judge_pat.mono_l k
 exact ih0 a0 a1 a2 a3 a4 a5 a6 a7
def impl_judge_pat.T7:Bool × List (List Nat × List Nat):=(true,[([],[]),([],[]),([1],[1]),([2],[2]),([3],[3]),([],[]),([5],[5]),([6],[6]),([4,7],[4,7]),([0,0,1,2,3,4,5,6,7,8],[0]),([9,0,1,2,3,4,5,6,7,8],[9]),([10,8,8,0,1,2,3,4,5,6,7,8],[8,10])])
def impl_judge_pat.B7:List Nat:=[0,0,2,6,14,0,32,96,254,511,1023,2047]
theorem impl_judge_pat.tab7:rtab .any (opsOf Try.f23 7) = impl_judge_pat.T7:=by kernel_rfl
theorem impl_judge_pat.bits7:waitsOk impl_judge_pat.T7.2 impl_judge_pat.B7 = true:=by kernel_rfl
set_option maxHeartbeats 8000000 in
set_option maxRecDepth 100000 in
theorem impl_judge_pat.calls (k:Nat):∀ (g:Nat) (s0_0:Int) (P0_1_:Nat → Prop) (u9000_:Value) (l0_1:List ByteArray) (a1_0:Int) (a1_1:Int) (a1_2:ByteArray) (P1_3_:Nat → Prop) (A1_3:Option Addr) (c1_3:Nat) (l1_3:List (S31)) (A1_4:Option Addr) (c1_4:Nat) (l1_4:List (S53)) (a2:Int) (r1:Bool) (r2:List ByteArray) (r3:Int) (w0 w:World) (hI:IsS42 w0 w g s0_0 u9000_) (hB:Below w0.heap.size w0 w) (ho0_1:Kd.R Kd.string 9 w w0.heap.size P0_1_ u9000_ l0_1) (hs1_3:Kd.V k31 31 w w0.heap.size (fun k_=>P1_3_ k_∧some k_≠(u9000_:Value).ownBlock∧k_≠g) (.slice A1_3 l1_3.length c1_3) l1_3) (hr1_4:∀ W_,Kept w W_ (fun k_=>(P0_1_ k_)∨k_ = g) → Kd.C k53 W_ A1_4 l1_4.length l1_4) (hc1_4:l1_4.length≤c1_4) (h:impl_judge_pat.f k s0_0 l0_1 a1_0 a1_1 a1_2 l1_3 l1_4 a2 = some (r1,r2,r3)),
  Calls Try.prog 23 #[.pointer (some ⟨g,0,none⟩),.agg #[.int .i64 a1_0,.int .i64 a1_1,.string a1_2,.slice A1_3 l1_3.length c1_3,.slice A1_4 l1_4.length c1_4],.int .i64 a2] w fun e w'=>∃ v1_:Value,e = .returned (.bool r1)∧Kd.R Kd.string 9 w' w0.heap.size (fun k_=>(P0_1_ k_∨w.heap.size≤k_)) v1_ r2∧IsS42 w0 w' g r3 v1_∧Below w0.heap.size w0 w'∧Kept w w' (fun k_=>(P0_1_ k_)∨k_ = g):=by
 induction k using Nat.strongRecOn with
 | _ k ih =>
 intro g s0_0 P0_1_ u9000_ l0_1 a1_0 a1_1 a1_2 P1_3_ A1_3 c1_3 l1_3 A1_4 c1_4 l1_4 a2 r1 r2 r3 w0 w hI hB ho0_1 hs1_3 hr1_4 hc1_4 h
 cases k with
 | zero=>exact absurd h (by simp [impl_judge_pat.f])
 | succ k =>
 simp only [impl_judge_pat.f] at h
 have hu31:=Try.underlying31
 have HO0_1:=Aside0.mk (show Kd.R Kd.string 9 w w0.heap.size (fun k_=>(P0_1_ k_∨w.heap.size≤k_)) u9000_ l0_1 from Kd.R_mono ho0_1 (fun k_ hk=>(.inl hk)))
 have HO1_3:=Aside0.mk (show Kd.V k31 31 w w0.heap.size (fun k_=>((P0_1_ k_∨P1_3_ k_)∨w.heap.size≤k_)∧some k_≠(u9000_:Value).ownBlock∧k_≠g) (.slice A1_3 l1_3.length c1_3) l1_3 from Kd.V_mono hs1_3 (fun k_ hk=>⟨.inl (.inr hk.1),hk.2⟩))
 have HR1_4:=Aside0.mk hr1_4
 have HC1_4:=Aside0.mk hc1_4
 clear hr1_4 hc1_4
 have HI0:=Aside0.mk hI
 have HL:=Aside0.mk hB.size
 clear hI
 have HK:=Aside0.mk (Kept.refl w (fun k_=>(P0_1_ k_)∨k_ = g))
 have HW0:=Aside0.mk hB.size
 have HB:=Aside0.mk hB
 clear hB
 have H:(if a2 > 10 then (impl_judge_pat.j0 k a2 true (wrap64 (s0_0 + 1)) l0_1 a1_0 a1_1 a1_2 l1_3 l1_4) else (if (wrap64 (s0_0 + 1)) > 300 then (impl_judge_pat.j0 k a2 true (wrap64 (s0_0 + 1)) l0_1 a1_0 a1_1 a1_2 l1_3 l1_4) else (if a1_0 > 6 then (impl_judge_pat.j0 k a2 true (wrap64 (s0_0 + 1)) l0_1 a1_0 a1_1 a1_2 l1_3 l1_4) else (if (l1_4.length:Int) > 0 then (impl_judge_pat.j0 k a2 true (wrap64 (s0_0 + 1)) l0_1 a1_0 a1_1 a1_2 l1_3 l1_4) else ((impl_shapeOk.f k a1_0 a1_1 a1_2 (l1_3.length:Int)).bind fun t253=>(impl_judge_pat.j0 k a2 (!t253) (wrap64 (s0_0 + 1)) l0_1 a1_0 a1_1 a1_2 l1_3 l1_4)))))) = some (r1,r2,r3):=h
 clear h
 have HC4:=Aside0.mk H
 clear H
 go_enter Try.func23,Try.ntmps23
 go_upto_region 2 with (first|((with_reducible refine gate_dst (N:=4) rfl ?_);(try (refine gate_guard (by rfl) ?_;dsimp only));refine box_event ?hg (N:=4) ?hd (cs:=#[.int .i64 a1_0,.int .i64 a1_1,.string a1_2,.slice A1_3 l1_3.length c1_3,.slice A1_4 l1_4.length c1_4]) (t:=31) ?hr ?_;(case hd=>rfl);(case hg=>rfl);(case hr=>first|(go_simp;done)|(go_simp;rfl));intro gb252 hg w5 hbox hb;have n0_:=Aside0.mk (Kd.R_below (by (with_reducible repeat (first|apply Kd.R_alloc|apply Kd.R_drewN|apply Kd.R_drew));exact HO0_1.out) hb);have n1_:=Aside0.mk (Kd.V_below (Kd.V_elderB (by (with_reducible repeat (first|apply Kd.V_alloc|apply Kd.V_drewN|apply Kd.V_drew));exact HO1_3.out) gb252 (Nat.le_of_eq hg.symm)) hb);have n2_:=Aside0.mk (IsS42.below (by repeat (first|(with_reducible first|exact HI0.out|apply IsS42.alloc|apply IsS42.drewN|apply IsS42.drew|apply IsS42.set_0|apply IsS42.set_1)|exact HI0.out)) hb);have n3_:=Aside0.mk (Kept.below (S:=(fun k_=>(P0_1_ k_)∨k_ = g)) (by repeat (first|(with_reducible first|exact HK.out|apply Kept.alloc|apply Kept.drewN|apply Kept.drew|refine Kept.setCell ?_ (.inl (.inr rfl)) _)|exact HK.out)) hb);have n4_:=Aside0.mk (below_step (by repeat (first|(with_reducible first|exact HB.out|apply below_alloc|apply pw_below_drewN|apply below_drew1|refine below_set ?_ (IsS42.ge HI0.out))|exact HB.out)) hb);have n5_:=Aside0.mk (hbox);have n6_:=Aside0.mk ((by rw [hg];exact (by first|exact HK.out.1|exact (show Kept w _ (fun k_=>(P0_1_ k_)∨k_ = g) from by repeat (first|(with_reducible first|exact HK.out|apply Kept.alloc|apply Kept.drewN|apply Kept.drew|refine Kept.setCell ?_ (.inl (.inr rfl)) _)|exact HK.out)).1):w.heap.size≤gb252));have n7_:=Aside0.mk ((by rw [hg];exact (below_size (by repeat (first|(with_reducible first|exact HB.out|apply below_alloc|apply pw_below_drewN|apply below_drew1|refine below_set ?_ (IsS42.ge HI0.out))|exact HB.out))):w0.heap.size≤gb252));have n8_:=Aside0.mk ((by rw [hg];exact Nat.ne_of_lt (IsS42.lt (show IsS42 w0 _ g s0_0 u9000_ from by repeat (first|(with_reducible first|exact HI0.out|apply IsS42.alloc|apply IsS42.drewN|apply IsS42.drew|apply IsS42.set_0|apply IsS42.set_1)|exact HI0.out))):g≠gb252));have n9_:=Aside0.mk ((by rw [hg];exact Nat.ne_of_gt (IsS42.lt (show IsS42 w0 _ g s0_0 u9000_ from by repeat (first|(with_reducible first|exact HI0.out|apply IsS42.alloc|apply IsS42.drewN|apply IsS42.drew|apply IsS42.set_0|apply IsS42.set_1)|exact HI0.out))):gb252≠g));clear HO0_1;clear HO1_3;clear HI0;clear HK;clear HB;have HO0_1:=n0_;have HO1_3:=n1_;have HI0:=n2_;have HK:=n3_;have HB:=n4_;have BK252:=n5_;have GW252:=n6_;have GE252:=n7_;have NB0_252:=n8_;have NB252_0:=n9_;clear n0_ n1_ n2_ n3_ n4_ n5_ n6_ n7_ n8_ n9_;clear hb hbox hg;obtain ⟨HGz6,hgz6⟩:=HI0.out;have hcz6_0:=cellS42_0 HGz6;have hcz6_1:=cellS42_1 HGz6;have hfz6_0:=blk_frozen HGz6 0;have hfz6_1:=blk_frozen HGz6 1;clear HGz6 hgz6))
 (try simp only [Act.put,List.setIfInBounds_toArray,List.set_cons_zero,List.set_cons_succ])
 go_cut [48] (fun v48 wc=>∃ (kq:Nat) (x48_3:Bool),v48 = .bool x48_3∧Aside0 (impl_judge_pat.j0 kq a2 x48_3 (wrap64 (s0_0 + 1)) l0_1 a1_0 a1_1 a1_2 l1_3 l1_4 = some (r1,r2,r3))∧Aside0 (kq≤k)∧Aside0 (Kd.R Kd.string 9 wc w0.heap.size (fun k_=>(P0_1_ k_∨w.heap.size≤k_)) u9000_ l0_1)∧Aside0 (Kd.V k31 31 wc w0.heap.size (fun k_=>((P0_1_ k_∨P1_3_ k_)∨w.heap.size≤k_)∧some k_≠(u9000_:Value).ownBlock∧k_≠gb252∧k_≠g) (.slice A1_3 l1_3.length c1_3) l1_3)∧Aside0 (wc.heap[gb252]? = some (.cells #[.int .i64 a1_0,.int .i64 a1_1,.string a1_2,(.slice A1_3 l1_3.length c1_3),(.slice A1_4 l1_4.length c1_4)] 31 (0,0)))∧Aside0 (IsS42 w0 wc g (wrap64 (s0_0 + 1)) u9000_)∧Aside0 (Kept w wc (fun k_=>(P0_1_ k_)∨k_ = g))∧Aside0 (Below w0.heap.size w0 wc))
 case first =>
  have H:=HC4.out
  clear HC4
  by_cases c7:a2 > 10
  ·rw [if_pos c7] at H
   have c7b0:decide (10 < a2) = true:=decide_eq_true c7
   clear c7
   (first|rw [c7b0]|(simp only [i64_w,i32_w];rw [c7b0])|(simp only [c7b2,Bool.not_true,Bool.not_false])|skip)
   have H':=Aside0.mk H
   clear H
   go_wp2
   go_meet
   case rel=>exact ⟨_,(true),(by first|rfl|(simp;done)|(simp [*];done)),H',⟨by first|omega|exact Nat.le_refl _⟩,⟨by (with_reducible repeat (first|apply Kd.R_alloc|apply Kd.R_drewN|apply Kd.R_drew));exact Kd.R_mono (Kd.R_far (p:=⟨g,0,none⟩) (IsS42.apart HI0.out HO0_1.out (by decide)) (fun _ hk=>hk.2) (.int .i64 (wrap64 (s0_0 + 1)))) (fun _ hk=>hk.1)⟩,⟨by (with_reducible repeat (first|apply Kd.V_alloc|apply Kd.V_drewN|apply Kd.V_drew));exact Kd.V_mono (Kd.V_far (p:=⟨g,0,none⟩) (Kd.V_mono HO1_3.out (fun k_ hk=>(⟨hk,hk.1.2.2⟩:_∧k_≠g))) (fun _ hk=>hk.2) (.int .i64 (wrap64 (s0_0 + 1)))) (fun _ hk=>⟨hk.1.1.1,⟨hk.1.1.2.1,⟨hk.1.2,hk.1.1.2.2⟩⟩⟩)⟩,⟨by (with_reducible repeat (first|refine blk_drewN ?_ _|refine blk_drew ?_|refine blk_alloc ?_ _));refine blk_far ?_ NB252_0.out _;(with_reducible repeat (first|refine blk_drewN ?_ _|refine blk_drew ?_|refine blk_alloc ?_ _));exact BK252.out⟩,⟨by repeat (first|(with_reducible first|exact HI0.out|apply IsS42.alloc|apply IsS42.drewN|apply IsS42.drew|apply IsS42.set_0|apply IsS42.set_1|refine IsS42.far ?_ NB0_252.out _)|exact HI0.out)⟩,⟨by repeat (first|(with_reducible first|exact HK.out|apply Kept.alloc|apply Kept.drewN|apply Kept.drew|refine Kept.setCell ?_ (.inl (.inr rfl)) _|refine Kept.setCell ?_ (.inr GW252.out) _)|exact HK.out)⟩,⟨by repeat (first|(with_reducible first|exact HB.out|apply below_alloc|apply pw_below_drewN|apply below_drew1|refine below_set ?_ (IsS42.ge HI0.out)|refine below_set ?_ GE252.out)|exact HB.out)⟩⟩
  ·rw [if_neg c7] at H
   have c7b0:decide (10 < a2) = false:=decide_eq_false c7
   clear c7
   (first|rw [c7b0]|(simp only [i64_w,i32_w];rw [c7b0])|(simp only [c7b2,Bool.not_true,Bool.not_false])|skip)
   by_cases c8:(wrap64 (s0_0 + 1)) > 300
   ·rw [if_pos c8] at H
    have c8b0:decide (300 < (wrap64 (s0_0 + 1))) = true:=decide_eq_true c8
    clear c8
    have H':=Aside0.mk H
    clear H
    obtain ⟨HGz9,hgz9⟩:=HI0.out
    have hcz9_0:=cellS42_0 HGz9
    have hcz9_1:=cellS42_1 HGz9
    have hfz9_0:=blk_frozen HGz9 0
    have hfz9_1:=blk_frozen HGz9 1
    clear HGz9 hgz9
    go_wp2
    go_meet
    case rel=>exact ⟨_,(true),(by first|rfl|(simp;done)|(simp [*];done)),H',⟨by first|omega|exact Nat.le_refl _⟩,⟨by (with_reducible repeat (first|apply Kd.R_alloc|apply Kd.R_drewN|apply Kd.R_drew));exact Kd.R_mono (Kd.R_far (p:=⟨g,0,none⟩) (IsS42.apart HI0.out HO0_1.out (by decide)) (fun _ hk=>hk.2) (.int .i64 (wrap64 (s0_0 + 1)))) (fun _ hk=>hk.1)⟩,⟨by (with_reducible repeat (first|apply Kd.V_alloc|apply Kd.V_drewN|apply Kd.V_drew));exact Kd.V_mono (Kd.V_far (p:=⟨g,0,none⟩) (Kd.V_mono HO1_3.out (fun k_ hk=>(⟨hk,hk.1.2.2⟩:_∧k_≠g))) (fun _ hk=>hk.2) (.int .i64 (wrap64 (s0_0 + 1)))) (fun _ hk=>⟨hk.1.1.1,⟨hk.1.1.2.1,⟨hk.1.2,hk.1.1.2.2⟩⟩⟩)⟩,⟨by (with_reducible repeat (first|refine blk_drewN ?_ _|refine blk_drew ?_|refine blk_alloc ?_ _));refine blk_far ?_ NB252_0.out _;(with_reducible repeat (first|refine blk_drewN ?_ _|refine blk_drew ?_|refine blk_alloc ?_ _));exact BK252.out⟩,⟨by repeat (first|(with_reducible first|exact HI0.out|apply IsS42.alloc|apply IsS42.drewN|apply IsS42.drew|apply IsS42.set_0|apply IsS42.set_1|refine IsS42.far ?_ NB0_252.out _)|exact HI0.out)⟩,⟨by repeat (first|(with_reducible first|exact HK.out|apply Kept.alloc|apply Kept.drewN|apply Kept.drew|refine Kept.setCell ?_ (.inl (.inr rfl)) _|refine Kept.setCell ?_ (.inr GW252.out) _)|exact HK.out)⟩,⟨by repeat (first|(with_reducible first|exact HB.out|apply below_alloc|apply pw_below_drewN|apply below_drew1|refine below_set ?_ (IsS42.ge HI0.out)|refine below_set ?_ GE252.out)|exact HB.out)⟩⟩
   ·rw [if_neg c8] at H
    have c8b0:decide (300 < (wrap64 (s0_0 + 1))) = false:=decide_eq_false c8
    clear c8
    by_cases c10:a1_0 > 6
    ·rw [if_pos c10] at H
     have c10b0:decide (6 < a1_0) = true:=decide_eq_true c10
     clear c10
     have H':=Aside0.mk H
     clear H
     obtain ⟨HGz11,hgz11⟩:=HI0.out
     have hcz11_0:=cellS42_0 HGz11
     have hcz11_1:=cellS42_1 HGz11
     have hfz11_0:=blk_frozen HGz11 0
     have hfz11_1:=blk_frozen HGz11 1
     clear HGz11 hgz11
     have hnb12:=NB252_0.out
     have hnc12:=NB0_252.out
     have hcz13_0:w5.cell? ⟨gb252,0,none⟩ = some (.int .i64 a1_0):=(blk_cell BK252.out 0).trans rfl
     have hcz13_1:w5.cell? ⟨gb252,1,none⟩ = some (.int .i64 a1_1):=(blk_cell BK252.out 1).trans rfl
     have hcz13_2:w5.cell? ⟨gb252,2,none⟩ = some (.string a1_2):=(blk_cell BK252.out 2).trans rfl
     have hcz13_3:w5.cell? ⟨gb252,3,none⟩ = some (.slice A1_3 l1_3.length c1_3):=(blk_cell BK252.out 3).trans rfl
     have hcz13_4:w5.cell? ⟨gb252,4,none⟩ = some (.slice A1_4 l1_4.length c1_4):=(blk_cell BK252.out 4).trans rfl
     have hfz13_0:=blk_frozen BK252.out 0
     have hfz13_1:=blk_frozen BK252.out 1
     have hfz13_2:=blk_frozen BK252.out 2
     have hfz13_3:=blk_frozen BK252.out 3
     have hfz13_4:=blk_frozen BK252.out 4
     go_wp2
     go_meet
     case rel=>exact ⟨_,(true),(by first|rfl|(simp;done)|(simp [*];done)),H',⟨by first|omega|exact Nat.le_refl _⟩,⟨by (with_reducible repeat (first|apply Kd.R_alloc|apply Kd.R_drewN|apply Kd.R_drew));exact Kd.R_mono (Kd.R_far (p:=⟨g,0,none⟩) (IsS42.apart HI0.out HO0_1.out (by decide)) (fun _ hk=>hk.2) (.int .i64 (wrap64 (s0_0 + 1)))) (fun _ hk=>hk.1)⟩,⟨by (with_reducible repeat (first|apply Kd.V_alloc|apply Kd.V_drewN|apply Kd.V_drew));exact Kd.V_mono (Kd.V_far (p:=⟨g,0,none⟩) (Kd.V_mono HO1_3.out (fun k_ hk=>(⟨hk,hk.1.2.2⟩:_∧k_≠g))) (fun _ hk=>hk.2) (.int .i64 (wrap64 (s0_0 + 1)))) (fun _ hk=>⟨hk.1.1.1,⟨hk.1.1.2.1,⟨hk.1.2,hk.1.1.2.2⟩⟩⟩)⟩,⟨by (with_reducible repeat (first|refine blk_drewN ?_ _|refine blk_drew ?_|refine blk_alloc ?_ _));refine blk_far ?_ NB252_0.out _;(with_reducible repeat (first|refine blk_drewN ?_ _|refine blk_drew ?_|refine blk_alloc ?_ _));exact BK252.out⟩,⟨by repeat (first|(with_reducible first|exact HI0.out|apply IsS42.alloc|apply IsS42.drewN|apply IsS42.drew|apply IsS42.set_0|apply IsS42.set_1|refine IsS42.far ?_ NB0_252.out _)|exact HI0.out)⟩,⟨by repeat (first|(with_reducible first|exact HK.out|apply Kept.alloc|apply Kept.drewN|apply Kept.drew|refine Kept.setCell ?_ (.inl (.inr rfl)) _|refine Kept.setCell ?_ (.inr GW252.out) _)|exact HK.out)⟩,⟨by repeat (first|(with_reducible first|exact HB.out|apply below_alloc|apply pw_below_drewN|apply below_drew1|refine below_set ?_ (IsS42.ge HI0.out)|refine below_set ?_ GE252.out)|exact HB.out)⟩⟩
    ·rw [if_neg c10] at H
     have c10b0:decide (6 < a1_0) = false:=decide_eq_false c10
     clear c10
     by_cases c14:(l1_4.length:Int) > 0
     ·rw [if_pos c14] at H
      have c14b0:decide (0 < (l1_4.length:Int)) = true:=decide_eq_true c14
      have c14b1:decide (0 < l1_4.length) = true:=decide_eq_true (by omega)
      clear c14
      have H':=Aside0.mk H
      clear H
      obtain ⟨HGz15,hgz15⟩:=HI0.out
      have hcz15_0:=cellS42_0 HGz15
      have hcz15_1:=cellS42_1 HGz15
      have hfz15_0:=blk_frozen HGz15 0
      have hfz15_1:=blk_frozen HGz15 1
      clear HGz15 hgz15
      have hnb16:=NB252_0.out
      have hnc16:=NB0_252.out
      have hcz17_0:w5.cell? ⟨gb252,0,none⟩ = some (.int .i64 a1_0):=(blk_cell BK252.out 0).trans rfl
      have hcz17_1:w5.cell? ⟨gb252,1,none⟩ = some (.int .i64 a1_1):=(blk_cell BK252.out 1).trans rfl
      have hcz17_2:w5.cell? ⟨gb252,2,none⟩ = some (.string a1_2):=(blk_cell BK252.out 2).trans rfl
      have hcz17_3:w5.cell? ⟨gb252,3,none⟩ = some (.slice A1_3 l1_3.length c1_3):=(blk_cell BK252.out 3).trans rfl
      have hcz17_4:w5.cell? ⟨gb252,4,none⟩ = some (.slice A1_4 l1_4.length c1_4):=(blk_cell BK252.out 4).trans rfl
      have hfz17_0:=blk_frozen BK252.out 0
      have hfz17_1:=blk_frozen BK252.out 1
      have hfz17_2:=blk_frozen BK252.out 2
      have hfz17_3:=blk_frozen BK252.out 3
      have hfz17_4:=blk_frozen BK252.out 4
      go_wp2
      go_meet
      case rel=>exact ⟨_,(true),(by first|rfl|(simp;done)|(simp [*];done)),H',⟨by first|omega|exact Nat.le_refl _⟩,⟨by (with_reducible repeat (first|apply Kd.R_alloc|apply Kd.R_drewN|apply Kd.R_drew));exact Kd.R_mono (Kd.R_far (p:=⟨g,0,none⟩) (IsS42.apart HI0.out HO0_1.out (by decide)) (fun _ hk=>hk.2) (.int .i64 (wrap64 (s0_0 + 1)))) (fun _ hk=>hk.1)⟩,⟨by (with_reducible repeat (first|apply Kd.V_alloc|apply Kd.V_drewN|apply Kd.V_drew));exact Kd.V_mono (Kd.V_far (p:=⟨g,0,none⟩) (Kd.V_mono HO1_3.out (fun k_ hk=>(⟨hk,hk.1.2.2⟩:_∧k_≠g))) (fun _ hk=>hk.2) (.int .i64 (wrap64 (s0_0 + 1)))) (fun _ hk=>⟨hk.1.1.1,⟨hk.1.1.2.1,⟨hk.1.2,hk.1.1.2.2⟩⟩⟩)⟩,⟨by (with_reducible repeat (first|refine blk_drewN ?_ _|refine blk_drew ?_|refine blk_alloc ?_ _));refine blk_far ?_ NB252_0.out _;(with_reducible repeat (first|refine blk_drewN ?_ _|refine blk_drew ?_|refine blk_alloc ?_ _));exact BK252.out⟩,⟨by repeat (first|(with_reducible first|exact HI0.out|apply IsS42.alloc|apply IsS42.drewN|apply IsS42.drew|apply IsS42.set_0|apply IsS42.set_1|refine IsS42.far ?_ NB0_252.out _)|exact HI0.out)⟩,⟨by repeat (first|(with_reducible first|exact HK.out|apply Kept.alloc|apply Kept.drewN|apply Kept.drew|refine Kept.setCell ?_ (.inl (.inr rfl)) _|refine Kept.setCell ?_ (.inr GW252.out) _)|exact HK.out)⟩,⟨by repeat (first|(with_reducible first|exact HB.out|apply below_alloc|apply pw_below_drewN|apply below_drew1|refine below_set ?_ (IsS42.ge HI0.out)|refine below_set ?_ GE252.out)|exact HB.out)⟩⟩
     ·rw [if_neg c14] at H
      have c14b0:decide (0 < (l1_4.length:Int)) = false:=decide_eq_false c14
      have c14b1:decide (0 < l1_4.length) = false:=decide_eq_false (by omega)
      clear c14
      replace H:=Option.bind_eq_some_iff.mp H
      obtain ⟨t253,A180,H⟩:=H
      replace H:(impl_judge_pat.j0 k a2 (!t253) (wrap64 (s0_0 + 1)) l0_1 a1_0 a1_1 a1_2 l1_3 l1_4) = some (r1,r2,r3):=H
      have A18:=Aside0.mk A180
      clear A180
      have H':=Aside0.mk H
      clear H
      obtain ⟨HGz19,hgz19⟩:=HI0.out
      have hcz19_0:=cellS42_0 HGz19
      have hcz19_1:=cellS42_1 HGz19
      have hfz19_0:=blk_frozen HGz19 0
      have hfz19_1:=blk_frozen HGz19 1
      clear HGz19 hgz19
      have hnb20:=NB252_0.out
      have hnc20:=NB0_252.out
      have hcz21_0:w5.cell? ⟨gb252,0,none⟩ = some (.int .i64 a1_0):=(blk_cell BK252.out 0).trans rfl
      have hcz21_1:w5.cell? ⟨gb252,1,none⟩ = some (.int .i64 a1_1):=(blk_cell BK252.out 1).trans rfl
      have hcz21_2:w5.cell? ⟨gb252,2,none⟩ = some (.string a1_2):=(blk_cell BK252.out 2).trans rfl
      have hcz21_3:w5.cell? ⟨gb252,3,none⟩ = some (.slice A1_3 l1_3.length c1_3):=(blk_cell BK252.out 3).trans rfl
      have hcz21_4:w5.cell? ⟨gb252,4,none⟩ = some (.slice A1_4 l1_4.length c1_4):=(blk_cell BK252.out 4).trans rfl
      have hfz21_0:=blk_frozen BK252.out 0
      have hfz21_1:=blk_frozen BK252.out 1
      have hfz21_2:=blk_frozen BK252.out 2
      have hfz21_3:=blk_frozen BK252.out 3
      have hfz21_4:=blk_frozen BK252.out 4
      go_wp2_with (first|(go_at_call 22;(with_reducible refine (impl_shapeOk.calls k a1_0 a1_1 a1_2 (l1_3.length:Int) t253 _ A18.out).mono ?_);rintro e w' ⟨rfl,⟨nd,rfl⟩⟩))
      go_meet
      case rel=>exact ⟨_,(!t253),(by first|rfl|(simp;done)|(simp [*];done)),H',⟨by first|omega|exact Nat.le_refl _⟩,⟨by (with_reducible repeat (first|apply Kd.R_alloc|apply Kd.R_drewN|apply Kd.R_drew));exact Kd.R_mono (Kd.R_far (p:=⟨g,0,none⟩) (IsS42.apart HI0.out HO0_1.out (by decide)) (fun _ hk=>hk.2) (.int .i64 (wrap64 (s0_0 + 1)))) (fun _ hk=>hk.1)⟩,⟨by (with_reducible repeat (first|apply Kd.V_alloc|apply Kd.V_drewN|apply Kd.V_drew));exact Kd.V_mono (Kd.V_far (p:=⟨g,0,none⟩) (Kd.V_mono HO1_3.out (fun k_ hk=>(⟨hk,hk.1.2.2⟩:_∧k_≠g))) (fun _ hk=>hk.2) (.int .i64 (wrap64 (s0_0 + 1)))) (fun _ hk=>⟨hk.1.1.1,⟨hk.1.1.2.1,⟨hk.1.2,hk.1.1.2.2⟩⟩⟩)⟩,⟨by (with_reducible repeat (first|refine blk_drewN ?_ _|refine blk_drew ?_|refine blk_alloc ?_ _));refine blk_far ?_ NB252_0.out _;(with_reducible repeat (first|refine blk_drewN ?_ _|refine blk_drew ?_|refine blk_alloc ?_ _));exact BK252.out⟩,⟨by repeat (first|(with_reducible first|exact HI0.out|apply IsS42.alloc|apply IsS42.drewN|apply IsS42.drew|apply IsS42.set_0|apply IsS42.set_1|refine IsS42.far ?_ NB0_252.out _)|exact HI0.out)⟩,⟨by repeat (first|(with_reducible first|exact HK.out|apply Kept.alloc|apply Kept.drewN|apply Kept.drew|refine Kept.setCell ?_ (.inl (.inr rfl)) _|refine Kept.setCell ?_ (.inr GW252.out) _)|exact HK.out)⟩,⟨by repeat (first|(with_reducible first|exact HB.out|apply below_alloc|apply pw_below_drewN|apply below_drew1|refine below_set ?_ (IsS42.ge HI0.out)|refine below_set ?_ GE252.out)|exact HB.out)⟩⟩
 case rest =>
  clear HC4
  try clear c1
  try clear c2
  try clear p2
  try clear p6
  try clear c7
  try clear c7b0
  try clear c7b2
  try clear c8
  try clear c8b0
  try clear c10
  try clear c10b0
  try clear c12
  try clear c14
  try clear c14b0
  try clear c14b1
  try clear c16
  try clear c20
  try clear hcz11_0
  try clear hcz11_1
  try clear hcz13_0
  try clear hcz13_1
  try clear hcz13_2
  try clear hcz13_3
  try clear hcz13_4
  try clear hcz15_0
  try clear hcz15_1
  try clear hcz17_0
  try clear hcz17_1
  try clear hcz17_2
  try clear hcz17_3
  try clear hcz17_4
  try clear hcz19_0
  try clear hcz19_1
  try clear hcz21_0
  try clear hcz21_1
  try clear hcz21_2
  try clear hcz21_3
  try clear hcz21_4
  try clear hcz6_0
  try clear hcz6_1
  try clear hcz9_0
  try clear hcz9_1
  try clear hfz11_0
  try clear hfz11_1
  try clear hfz13_0
  try clear hfz13_1
  try clear hfz13_2
  try clear hfz13_3
  try clear hfz13_4
  try clear hfz15_0
  try clear hfz15_1
  try clear hfz17_0
  try clear hfz17_1
  try clear hfz17_2
  try clear hfz17_3
  try clear hfz17_4
  try clear hfz19_0
  try clear hfz19_1
  try clear hfz21_0
  try clear hfz21_1
  try clear hfz21_2
  try clear hfz21_3
  try clear hfz21_4
  try clear hfz6_0
  try clear hfz6_1
  try clear hfz9_0
  try clear hfz9_1
  try clear HO_1001
  try clear HO_253003
  try clear BK252
  try clear HI0
  try clear HK
  try clear HB
  obtain ⟨kq,x48_3,rfl,HA,HJ3,HO_1001,HO_253003,BK252,HI0,HK,HB⟩:=hcut
  cases kq with
  | zero=>exact absurd HA.out (by simp [impl_judge_pat.j0])
  | succ kj3 =>
   have H:=HA.out
   clear HA
   simp only [impl_judge_pat.j0] at H
   by_cases c22:x48_3 = true
   ·subst c22
    have H1:(some (false,l0_1,(wrap64 (s0_0 + 1)))) = some (r1,r2,r3):=by rw [if_pos rfl] at H;exact H
    clear H
    have H:=H1
    clear H1
    simp only [Option.some.injEq,Prod.mk.injEq] at H
    obtain ⟨rfl,rfl,rfl⟩:=H
    go_wp2
    go_ret
    exact ⟨_,by first|rfl|(simp [*,errW_none,errW_some] <;> rfl),by (with_reducible repeat (first|apply Kd.R_alloc|apply Kd.R_drewN|apply Kd.R_drew));exact HO_1001.out,by repeat (first|(with_reducible first|exact HI0.out|apply IsS42.alloc|apply IsS42.drewN|apply IsS42.drew|apply IsS42.set_0|apply IsS42.set_1|refine IsS42.far ?_ NB0_252.out _)|exact HI0.out),by repeat (first|(with_reducible first|exact HB.out|apply below_alloc|apply pw_below_drewN|apply below_drew1|refine below_set ?_ (IsS42.ge HI0.out)|refine below_set ?_ GE252.out)|exact HB.out),by repeat (first|(with_reducible first|exact HK.out|apply Kept.alloc|apply Kept.drewN|apply Kept.drew|refine Kept.setCell ?_ (.inl (.inr rfl)) _|refine Kept.setCell ?_ (.inr GW252.out) _)|exact HK.out)⟩
   ·replace c22:=Bool.eq_false_iff.mpr c22
    subst c22
    have H1:(if a1_0 = 3 then (impl_judge_pat.j1 kj3 a2 (a1_2.toList != ([95]:List UInt8)) (wrap64 (s0_0 + 1)) l0_1 a1_0 a1_1 a1_2 l1_3 l1_4) else (impl_judge_pat.j1 kj3 a2 false (wrap64 (s0_0 + 1)) l0_1 a1_0 a1_1 a1_2 l1_3 l1_4)) = some (r1,r2,r3):=by rw [if_neg (show ¬ (false = true) by decide)] at H;exact H
    clear H
    have H:=H1
    clear H1
    have HC23:=Aside0.mk H
    clear H
    go_upto_region 4 with (fail)
    go_cut [56] (fun v56 wc=>∃ (kq:Nat) (x56_22:Bool),v56 = .bool x56_22∧Aside0 (impl_judge_pat.j1 kq a2 x56_22 (wrap64 (s0_0 + 1)) l0_1 a1_0 a1_1 a1_2 l1_3 l1_4 = some (r1,r2,r3))∧Aside0 (kq≤kj3)∧Aside0 (Kd.R Kd.string 9 wc w0.heap.size (fun k_=>(P0_1_ k_∨w.heap.size≤k_)) u9000_ l0_1)∧Aside0 (Kd.V k31 31 wc w0.heap.size (fun k_=>((P0_1_ k_∨P1_3_ k_)∨w.heap.size≤k_)∧some k_≠(u9000_:Value).ownBlock∧k_≠gb252∧k_≠g) (.slice A1_3 l1_3.length c1_3) l1_3)∧Aside0 (wc.heap[gb252]? = some (.cells #[.int .i64 a1_0,.int .i64 a1_1,.string a1_2,(.slice A1_3 l1_3.length c1_3),(.slice A1_4 l1_4.length c1_4)] 31 (0,0)))∧Aside0 (IsS42 w0 wc g (wrap64 (s0_0 + 1)) u9000_)∧Aside0 (Kept w wc (fun k_=>(P0_1_ k_)∨k_ = g))∧Aside0 (Below w0.heap.size w0 wc))
    case first =>
     have H:=HC23.out
     clear HC23
     by_cases c24:a1_0 = 3
     ·rw [if_pos c24] at H
      have c24b0:(a1_0 == 3) = true:=beq_iff_eq.mpr c24
      have c24b1:(a1_0 != 3) = false:=bne_eq_false_iff_eq.mpr c24
      clear c24
      (first|rw [c24b0]|(simp only [i64_w,i32_w];rw [c24b0])|(simp only [c24b2,Bool.not_true,Bool.not_false])|skip)
      have H':=Aside0.mk H
      clear H
      have hnb25:=NB252_0.out
      have hnc25:=NB0_252.out
      have hcz26_0:wc.cell? ⟨gb252,0,none⟩ = some (.int .i64 a1_0):=(blk_cell BK252.out 0).trans rfl
      have hcz26_1:wc.cell? ⟨gb252,1,none⟩ = some (.int .i64 a1_1):=(blk_cell BK252.out 1).trans rfl
      have hcz26_2:wc.cell? ⟨gb252,2,none⟩ = some (.string a1_2):=(blk_cell BK252.out 2).trans rfl
      have hcz26_3:wc.cell? ⟨gb252,3,none⟩ = some (.slice A1_3 l1_3.length c1_3):=(blk_cell BK252.out 3).trans rfl
      have hcz26_4:wc.cell? ⟨gb252,4,none⟩ = some (.slice A1_4 l1_4.length c1_4):=(blk_cell BK252.out 4).trans rfl
      have hfz26_0:=blk_frozen BK252.out 0
      have hfz26_1:=blk_frozen BK252.out 1
      have hfz26_2:=blk_frozen BK252.out 2
      have hfz26_3:=blk_frozen BK252.out 3
      have hfz26_4:=blk_frozen BK252.out 4
      go_wp2
      go_meet
      case rel=>exact ⟨_,((a1_2.toList != ([95]:List UInt8))),(by first|rfl|(simp;done)|(simp [*];done)),H',⟨by have:=HJ3.out;first|omega|exact Nat.le_refl _⟩,⟨by (with_reducible repeat (first|apply Kd.R_alloc|apply Kd.R_drewN|apply Kd.R_drew));exact HO_1001.out⟩,⟨by (with_reducible repeat (first|apply Kd.V_alloc|apply Kd.V_drewN|apply Kd.V_drew));exact HO_253003.out⟩,⟨by (with_reducible repeat (first|refine blk_drewN ?_ _|refine blk_drew ?_|refine blk_alloc ?_ _));exact BK252.out⟩,⟨by repeat (first|(with_reducible first|exact HI0.out|apply IsS42.alloc|apply IsS42.drewN|apply IsS42.drew|apply IsS42.set_0|apply IsS42.set_1|refine IsS42.far ?_ NB0_252.out _)|exact HI0.out)⟩,⟨by repeat (first|(with_reducible first|exact HK.out|apply Kept.alloc|apply Kept.drewN|apply Kept.drew|refine Kept.setCell ?_ (.inl (.inr rfl)) _|refine Kept.setCell ?_ (.inr GW252.out) _)|exact HK.out)⟩,⟨by repeat (first|(with_reducible first|exact HB.out|apply below_alloc|apply pw_below_drewN|apply below_drew1|refine below_set ?_ (IsS42.ge HI0.out)|refine below_set ?_ GE252.out)|exact HB.out)⟩⟩
     ·rw [if_neg c24] at H
      have c24b0:(a1_0 == 3) = false:=beq_eq_false_iff_ne.mpr c24
      have c24b1:(a1_0 != 3) = true:=bne_iff_ne.mpr c24
      (first|rw [c24b0]|(simp only [i64_w,i32_w];rw [c24b0])|(simp only [c24b2,Bool.not_true,Bool.not_false])|skip)
      have H':=Aside0.mk H
      clear H
      have hnb27:=NB252_0.out
      have hnc27:=NB0_252.out
      have hcz28_0:wc.cell? ⟨gb252,0,none⟩ = some (.int .i64 a1_0):=(blk_cell BK252.out 0).trans rfl
      have hcz28_1:wc.cell? ⟨gb252,1,none⟩ = some (.int .i64 a1_1):=(blk_cell BK252.out 1).trans rfl
      have hcz28_2:wc.cell? ⟨gb252,2,none⟩ = some (.string a1_2):=(blk_cell BK252.out 2).trans rfl
      have hcz28_3:wc.cell? ⟨gb252,3,none⟩ = some (.slice A1_3 l1_3.length c1_3):=(blk_cell BK252.out 3).trans rfl
      have hcz28_4:wc.cell? ⟨gb252,4,none⟩ = some (.slice A1_4 l1_4.length c1_4):=(blk_cell BK252.out 4).trans rfl
      have hfz28_0:=blk_frozen BK252.out 0
      have hfz28_1:=blk_frozen BK252.out 1
      have hfz28_2:=blk_frozen BK252.out 2
      have hfz28_3:=blk_frozen BK252.out 3
      have hfz28_4:=blk_frozen BK252.out 4
      go_wp2
      go_meet
      case rel=>exact ⟨_,(false),(by first|rfl|(simp;done)|(simp [*];done)),H',⟨by have:=HJ3.out;first|omega|exact Nat.le_refl _⟩,⟨by (with_reducible repeat (first|apply Kd.R_alloc|apply Kd.R_drewN|apply Kd.R_drew));exact HO_1001.out⟩,⟨by (with_reducible repeat (first|apply Kd.V_alloc|apply Kd.V_drewN|apply Kd.V_drew));exact HO_253003.out⟩,⟨by (with_reducible repeat (first|refine blk_drewN ?_ _|refine blk_drew ?_|refine blk_alloc ?_ _));exact BK252.out⟩,⟨by repeat (first|(with_reducible first|exact HI0.out|apply IsS42.alloc|apply IsS42.drewN|apply IsS42.drew|apply IsS42.set_0|apply IsS42.set_1|refine IsS42.far ?_ NB0_252.out _)|exact HI0.out)⟩,⟨by repeat (first|(with_reducible first|exact HK.out|apply Kept.alloc|apply Kept.drewN|apply Kept.drew|refine Kept.setCell ?_ (.inl (.inr rfl)) _|refine Kept.setCell ?_ (.inr GW252.out) _)|exact HK.out)⟩,⟨by repeat (first|(with_reducible first|exact HB.out|apply below_alloc|apply pw_below_drewN|apply below_drew1|refine below_set ?_ (IsS42.ge HI0.out)|refine below_set ?_ GE252.out)|exact HB.out)⟩⟩
    case rest =>
     clear HC23
     try clear c1
     try clear c2
     try clear p2
     try clear p6
     try clear c7
     try clear c7b0
     try clear c7b2
     try clear c8
     try clear c8b0
     try clear c10
     try clear c10b0
     try clear c12
     try clear c14
     try clear c14b0
     try clear c14b1
     try clear c16
     try clear c20
     try clear c22
     try clear c23
     try clear c24
     try clear c24b0
     try clear c24b1
     try clear c24b2
     try clear c25
     try clear c27
     try clear hcz11_0
     try clear hcz11_1
     try clear hcz13_0
     try clear hcz13_1
     try clear hcz13_2
     try clear hcz13_3
     try clear hcz13_4
     try clear hcz15_0
     try clear hcz15_1
     try clear hcz17_0
     try clear hcz17_1
     try clear hcz17_2
     try clear hcz17_3
     try clear hcz17_4
     try clear hcz19_0
     try clear hcz19_1
     try clear hcz21_0
     try clear hcz21_1
     try clear hcz21_2
     try clear hcz21_3
     try clear hcz21_4
     try clear hcz26_0
     try clear hcz26_1
     try clear hcz26_2
     try clear hcz26_3
     try clear hcz26_4
     try clear hcz28_0
     try clear hcz28_1
     try clear hcz28_2
     try clear hcz28_3
     try clear hcz28_4
     try clear hcz6_0
     try clear hcz6_1
     try clear hcz9_0
     try clear hcz9_1
     try clear hfz11_0
     try clear hfz11_1
     try clear hfz13_0
     try clear hfz13_1
     try clear hfz13_2
     try clear hfz13_3
     try clear hfz13_4
     try clear hfz15_0
     try clear hfz15_1
     try clear hfz17_0
     try clear hfz17_1
     try clear hfz17_2
     try clear hfz17_3
     try clear hfz17_4
     try clear hfz19_0
     try clear hfz19_1
     try clear hfz21_0
     try clear hfz21_1
     try clear hfz21_2
     try clear hfz21_3
     try clear hfz21_4
     try clear hfz26_0
     try clear hfz26_1
     try clear hfz26_2
     try clear hfz26_3
     try clear hfz26_4
     try clear hfz28_0
     try clear hfz28_1
     try clear hfz28_2
     try clear hfz28_3
     try clear hfz28_4
     try clear hfz6_0
     try clear hfz6_1
     try clear hfz9_0
     try clear hfz9_1
     try clear p2
     try clear p6
     try clear HO_1001
     try clear HO_253003
     try clear BK252
     try clear HI0
     try clear HK
     try clear HB
     obtain ⟨kq,x56_22,rfl,HA,HJ22,HO_1001,HO_253003,BK252,HI0,HK,HB⟩:=hcut
     cases kq with
     | zero=>exact absurd HA.out (by simp [impl_judge_pat.j1])
     | succ kj22 =>
      have H:=HA.out
      clear HA
      simp only [impl_judge_pat.j1] at H
      have HC29:=Aside0.mk H
      clear H
      go_upto_if 56 with (fail)
      go_cut [] (fun wc=>∃ (kq:Nat) (x1001_28:List ByteArray) (u1001:Value),Aside0 (impl_judge_pat.j2 kq a2 (wrap64 (s0_0 + 1)) x1001_28 a1_0 a1_1 a1_2 l1_3 l1_4 = some (r1,r2,r3))∧Aside0 (kq≤kj22)∧Aside0 (Kd.R Kd.string 9 wc w0.heap.size (fun k_=>(P0_1_ k_∨w.heap.size≤k_)) u1001 x1001_28)∧Aside0 (Kd.V k31 31 wc w0.heap.size (fun k_=>((P0_1_ k_∨P1_3_ k_)∨w.heap.size≤k_)∧some k_≠(u1001:Value).ownBlock∧k_≠gb252∧k_≠g) (.slice A1_3 l1_3.length c1_3) l1_3)∧Aside0 (wc.heap[gb252]? = some (.cells #[.int .i64 a1_0,.int .i64 a1_1,.string a1_2,(.slice A1_3 l1_3.length c1_3),(.slice A1_4 l1_4.length c1_4)] 31 (0,0)))∧Aside0 (IsS42 w0 wc g (wrap64 (s0_0 + 1)) u1001)∧Aside0 (Kept w wc (fun k_=>(P0_1_ k_)∨k_ = g))∧Aside0 (Below w0.heap.size w0 wc))
      case first =>
       have H:=HC29.out
       clear HC29
       by_cases c30:x56_22 = true
       ·subst c30
        have H1:((slices_Contains_string_string.f kj22 l0_1 a1_2).bind fun t254=>(if t254 = true then (some (false,l0_1,(wrap64 (s0_0 + 1)))) else (if l0_1.length < 8796093022208 then (impl_judge_pat.j2 kj22 a2 (wrap64 (s0_0 + 1)) (l0_1 ++ [a1_2]) a1_0 a1_1 a1_2 l1_3 l1_4) else (none)))) = some (r1,r2,r3):=by rw [if_pos rfl] at H;exact H
        clear H
        have H:=H1
        clear H1
        replace H:=Option.bind_eq_some_iff.mp H
        obtain ⟨t254,A310,H⟩:=H
        replace H:(if t254 = true then (some (false,l0_1,(wrap64 (s0_0 + 1)))) else (if l0_1.length < 8796093022208 then (impl_judge_pat.j2 kj22 a2 (wrap64 (s0_0 + 1)) (l0_1 ++ [a1_2]) a1_0 a1_1 a1_2 l1_3 l1_4) else (none))) = some (r1,r2,r3):=H
        have A31:=Aside0.mk A310
        clear A310
        by_cases c32:t254 = true
        ·subst c32
         have H1:(some (false,l0_1,(wrap64 (s0_0 + 1)))) = some (r1,r2,r3):=by rw [if_pos rfl] at H;exact H
         clear H
         have H:=H1
         clear H1
         simp only [Option.some.injEq,Prod.mk.injEq] at H
         obtain ⟨rfl,rfl,rfl⟩:=H
         try go_wp2
         have n0_:=Aside0.mk (Kd.R_drew HO_1001.out)
         have n1_:=Aside0.mk (Kd.V_drew HO_253003.out)
         have n2_:=Aside0.mk (blk_drew BK252.out)
         have n3_:=Aside0.mk (IsS42.drew HI0.out)
         have n4_:=Aside0.mk (Kept.drew HK.out)
         have n5_:=Aside0.mk (below_drew1 HB.out)
         clear HO_1001
         clear HO_253003
         clear BK252
         clear HI0
         clear HK
         clear HB
         have HO_1001:=n0_
         have HO_253003:=n1_
         have BK252:=n2_
         have HI0:=n3_
         have HK:=n4_
         have HB:=n5_
         clear n0_ n1_ n2_ n3_ n4_ n5_
         obtain ⟨Ao34,co34,eo34⟩:=Kd.R_slice HO_1001.out
         (first|subst eo34|(injection eo34 with f1_ f2_ f3_;have f4_:=f1_.symm;have f5_:=f3_.symm;clear f1_ f2_ f3_;subst f4_;subst f5_))
         refine start_ (n:=7) (S:=fun w'=>w'.cell? ⟨g,0,none⟩ = some (.int .i64 (wrap64 (s0_0 + 1)))∧w'.cell? ⟨g,1,none⟩ = some (.slice Ao34 l0_1.length co34)∧w'.cell? ⟨gb252,0,none⟩ = some (.int .i64 a1_0)∧w'.cell? ⟨gb252,1,none⟩ = some (.int .i64 a1_1)∧w'.cell? ⟨gb252,2,none⟩ = some (.string a1_2)∧w'.cell? ⟨gb252,3,none⟩ = some (.slice A1_3 l1_3.length c1_3)∧w'.cell? ⟨gb252,4,none⟩ = some (.slice A1_4 l1_4.length c1_4)) (ds:=[]) #[false,false,false,false,false,false,false] (by kernel_rfl) rfl rfl ⟨(IsS42.cell_0 HI0.out),(IsS42.cell_1 HI0.out),(blk_cell BK252.out 0).trans rfl,(blk_cell BK252.out 1).trans rfl,(blk_cell BK252.out 2).trans rfl,(blk_cell BK252.out 3).trans rfl,(blk_cell BK252.out 4).trans rfl⟩ (fun hHeld=>?_)
         generalize wc.drew = w33 at HO_1001 HO_253003 BK252 HI0 HK HB hHeld ⊢
         refine pure_ (i:=0) (N:=some 57) (v:=?_) (a':=?_) #[true,false,false,false,false,false,false] rfl rfl (by kernel_rfl) (fun _ _ _ h=>h) (Or.inl ⟨by rfl,?_⟩) ?_ ?_
         rotate_left
         ·intro w'
          go_simp
          with_reducible rfl
         rotate_left
         ·simp only [Act.put,List.setIfInBounds_toArray,List.set_cons_zero,List.set_cons_succ,i64_w,i32_w]
          rfl
         refine pure_ (i:=1) (N:=some 58) (v:=?_) (a':=?_) #[true,true,false,false,false,false,false] rfl rfl (by kernel_rfl) (fun _ _ _ h=>h) (Or.inl ⟨by rfl,?_⟩) ?_ ?_
         rotate_left
         ·intro w'
          go_simp
          with_reducible rfl
         rotate_left
         ·simp only [Act.put,List.setIfInBounds_toArray,List.set_cons_zero,List.set_cons_succ,i64_w,i32_w]
          rfl
         refine pure_ (i:=2) (N:=some 59) (v:=?_) (a':=?_) #[true,true,true,false,false,false,false] rfl rfl (by kernel_rfl) (fun _ _ _ h=>h) (Or.inl ⟨by rfl,?_⟩) ?_ ?_
         rotate_left
         ·intro w'
          go_simp
          with_reducible rfl
         rotate_left
         ·simp only [Act.put,List.setIfInBounds_toArray,List.set_cons_zero,List.set_cons_succ,i64_w,i32_w]
          rfl
         refine pure_ (i:=4) (N:=some 61) (v:=?_) (a':=?_) #[true,true,true,false,true,false,false] rfl rfl (by kernel_rfl) (fun _ _ _ h=>h) (Or.inl ⟨by rfl,?_⟩) ?_ ?_
         rotate_left
         ·intro w'
          go_simp
          with_reducible rfl
         rotate_left
         ·simp only [Act.put,List.setIfInBounds_toArray,List.set_cons_zero,List.set_cons_succ,i64_w,i32_w]
          rfl
         refine take_ (i:=3) (N:=some 60) (v:=?_) (a':=?_) #[true,true,true,true,true,false,false] rfl rfl (by kernel_rfl) (fun _ _ _ h=>h) (Or.inl ⟨by rfl,?_⟩) hHeld ?_ ?_
         rotate_left
         ·rintro w' ⟨s0,s1,s2,s3,s4,s5,s6⟩
          go_simp
          with_reducible rfl
         rotate_left
         ·simp only [Act.put,List.setIfInBounds_toArray,List.set_cons_zero,List.set_cons_succ,i64_w,i32_w]
          rfl
         refine take_ (i:=5) (N:=some 62) (v:=?_) (a':=?_) #[true,true,true,true,true,true,false] rfl rfl (by kernel_rfl) (fun _ _ _ h=>h) (Or.inl ⟨by rfl,?_⟩) hHeld ?_ ?_
         rotate_left
         ·rintro w' ⟨s0,s1,s2,s3,s4,s5,s6⟩
          go_simp
          with_reducible rfl
         rotate_left
         ·simp only [Act.put,List.setIfInBounds_toArray,List.set_cons_zero,List.set_cons_succ,i64_w,i32_w]
          rfl
         refine one_ (i:=6) (N:=some 63) #[true,true,true,true,true,true,true] rfl rfl (by kernel_rfl) (by decide) (fun K hK=>?_)
         refine goes_ Try.func34 (by kernel_rfl) rfl #[.slice Ao34 l0_1.length co34,.string a1_2] (by rfl) rfl rfl (by (try simp only [List.map_toArray,List.map_cons,List.map_nil]);first|done|rfl|(simp only [List.length_drop,List.length_take];rfl)) ?_
         with_reducible refine (slices_Contains_string_string.calls kj22 _ _ l0_1 a1_2 true _ ?side1 ?side2 A31.out).mono ?_
         (case side1=>repeat (first|exact (Kd.R_reads' HO_1001.out).2.2|(with_reducible refine Kd.C_alloc ?_ _)|(with_reducible refine Kd.C_drewN ?_ _)|(with_reducible refine Kd.C_drew ?_)))
         (case side2=>exact (Kd.R_reads' HO_1001.out).2.1)
         rintro e w' ⟨rfl,⟨nd,rfl⟩⟩
         refine ⟨_,rfl,?_⟩
         refine hK.out _ _ ⟨(IsS42.cell_0 HI0.out),(IsS42.cell_1 HI0.out),(blk_cell BK252.out 0).trans rfl,(blk_cell BK252.out 1).trans rfl,(blk_cell BK252.out 2).trans rfl,(blk_cell BK252.out 3).trans rfl,(blk_cell BK252.out 4).trans rfl⟩ (fun hHeld=>?_)
         clear hK K
         refine norm_ (a':=?_) ?_ ?_
         rotate_left
         ·show Act.put _ (some 63) _ = _
          simp only [Act.put,List.setIfInBounds_toArray,List.set_cons_zero,List.set_cons_succ,i64_w,i32_w]
          rfl
         refine done_ (by kernel_rfl) ?_
         try go_wp2
         go_ret
         exact ⟨_,by first|rfl|(simp [*,errW_none,errW_some] <;> rfl),by (with_reducible repeat (first|apply Kd.R_alloc|apply Kd.R_drewN|apply Kd.R_drew));exact HO_1001.out,by repeat (first|(with_reducible first|exact HI0.out|apply IsS42.alloc|apply IsS42.drewN|apply IsS42.drew|apply IsS42.set_0|apply IsS42.set_1|refine IsS42.far ?_ NB0_252.out _)|exact HI0.out),by repeat (first|(with_reducible first|exact HB.out|apply below_alloc|apply pw_below_drewN|apply below_drew1|refine below_set ?_ (IsS42.ge HI0.out)|refine below_set ?_ GE252.out)|exact HB.out),by repeat (first|(with_reducible first|exact HK.out|apply Kept.alloc|apply Kept.drewN|apply Kept.drew|refine Kept.setCell ?_ (.inl (.inr rfl)) _|refine Kept.setCell ?_ (.inr GW252.out) _)|exact HK.out)⟩
        ·replace c32:=Bool.eq_false_iff.mpr c32
         subst c32
         have H1:(if l0_1.length < 8796093022208 then (impl_judge_pat.j2 kj22 a2 (wrap64 (s0_0 + 1)) (l0_1 ++ [a1_2]) a1_0 a1_1 a1_2 l1_3 l1_4) else (none)) = some (r1,r2,r3):=by rw [if_neg (show ¬ (false = true) by decide)] at H;exact H
         clear H
         have H:=H1
         clear H1
         by_cases c35:l0_1.length < 8796093022208
         ·rw [if_pos c35] at H
          have LMc35:=Aside0.mk c35
          clear c35
          obtain ⟨y255,hy255⟩:∃ y_:List ByteArray,y_ = (l0_1 ++ [a1_2]):=⟨_,rfl⟩
          replace H:(impl_judge_pat.j2 kj22 a2 (wrap64 (s0_0 + 1)) y255 a1_0 a1_1 a1_2 l1_3 l1_4) = some (r1,r2,r3):=by first|(rw [hy255];with_reducible exact H)|(have H2_:=(Option.bind_some _ _).symm.trans H;rw [hy255];with_reducible exact H2_)|(have H2_:=(Option.bind_some _ _).symm.trans H;with_reducible exact H2_)|with_reducible exact H|(rw [hy255];exact H)|exact H
          have Ny255:=Aside0.mk hy255
          clear hy255
          have H':=Aside0.mk H
          clear H
          try go_wp2
          have n0_:=Aside0.mk (Kd.R_drew HO_1001.out)
          have n1_:=Aside0.mk (Kd.V_drew HO_253003.out)
          have n2_:=Aside0.mk (blk_drew BK252.out)
          have n3_:=Aside0.mk (IsS42.drew HI0.out)
          have n4_:=Aside0.mk (Kept.drew HK.out)
          have n5_:=Aside0.mk (below_drew1 HB.out)
          clear HO_1001
          clear HO_253003
          clear BK252
          clear HI0
          clear HK
          clear HB
          have HO_1001:=n0_
          have HO_253003:=n1_
          have BK252:=n2_
          have HI0:=n3_
          have HK:=n4_
          have HB:=n5_
          clear n0_ n1_ n2_ n3_ n4_ n5_
          obtain ⟨Ao37,co37,eo37⟩:=Kd.R_slice HO_1001.out
          (first|subst eo37|(injection eo37 with f1_ f2_ f3_;have f4_:=f1_.symm;have f5_:=f3_.symm;clear f1_ f2_ f3_;subst f4_;subst f5_))
          refine start_ (n:=7) (S:=fun w'=>w'.cell? ⟨g,0,none⟩ = some (.int .i64 (wrap64 (s0_0 + 1)))∧w'.cell? ⟨g,1,none⟩ = some (.slice Ao37 l0_1.length co37)∧w'.cell? ⟨gb252,0,none⟩ = some (.int .i64 a1_0)∧w'.cell? ⟨gb252,1,none⟩ = some (.int .i64 a1_1)∧w'.cell? ⟨gb252,2,none⟩ = some (.string a1_2)∧w'.cell? ⟨gb252,3,none⟩ = some (.slice A1_3 l1_3.length c1_3)∧w'.cell? ⟨gb252,4,none⟩ = some (.slice A1_4 l1_4.length c1_4)) (ds:=[]) #[false,false,false,false,false,false,false] (by kernel_rfl) rfl rfl ⟨(IsS42.cell_0 HI0.out),(IsS42.cell_1 HI0.out),(blk_cell BK252.out 0).trans rfl,(blk_cell BK252.out 1).trans rfl,(blk_cell BK252.out 2).trans rfl,(blk_cell BK252.out 3).trans rfl,(blk_cell BK252.out 4).trans rfl⟩ (fun hHeld=>?_)
          generalize wc.drew = w36 at HO_1001 HO_253003 BK252 HI0 HK HB hHeld ⊢
          refine pure_ (i:=0) (N:=some 57) (v:=?_) (a':=?_) #[true,false,false,false,false,false,false] rfl rfl (by kernel_rfl) (fun _ _ _ h=>h) (Or.inl ⟨by rfl,?_⟩) ?_ ?_
          rotate_left
          ·intro w'
           go_simp
           with_reducible rfl
          rotate_left
          ·simp only [Act.put,List.setIfInBounds_toArray,List.set_cons_zero,List.set_cons_succ,i64_w,i32_w]
           rfl
          refine pure_ (i:=1) (N:=some 58) (v:=?_) (a':=?_) #[true,true,false,false,false,false,false] rfl rfl (by kernel_rfl) (fun _ _ _ h=>h) (Or.inl ⟨by rfl,?_⟩) ?_ ?_
          rotate_left
          ·intro w'
           go_simp
           with_reducible rfl
          rotate_left
          ·simp only [Act.put,List.setIfInBounds_toArray,List.set_cons_zero,List.set_cons_succ,i64_w,i32_w]
           rfl
          refine pure_ (i:=2) (N:=some 59) (v:=?_) (a':=?_) #[true,true,true,false,false,false,false] rfl rfl (by kernel_rfl) (fun _ _ _ h=>h) (Or.inl ⟨by rfl,?_⟩) ?_ ?_
          rotate_left
          ·intro w'
           go_simp
           with_reducible rfl
          rotate_left
          ·simp only [Act.put,List.setIfInBounds_toArray,List.set_cons_zero,List.set_cons_succ,i64_w,i32_w]
           rfl
          refine pure_ (i:=4) (N:=some 61) (v:=?_) (a':=?_) #[true,true,true,false,true,false,false] rfl rfl (by kernel_rfl) (fun _ _ _ h=>h) (Or.inl ⟨by rfl,?_⟩) ?_ ?_
          rotate_left
          ·intro w'
           go_simp
           with_reducible rfl
          rotate_left
          ·simp only [Act.put,List.setIfInBounds_toArray,List.set_cons_zero,List.set_cons_succ,i64_w,i32_w]
           rfl
          refine take_ (i:=3) (N:=some 60) (v:=?_) (a':=?_) #[true,true,true,true,true,false,false] rfl rfl (by kernel_rfl) (fun _ _ _ h=>h) (Or.inl ⟨by rfl,?_⟩) hHeld ?_ ?_
          rotate_left
          ·rintro w' ⟨s0,s1,s2,s3,s4,s5,s6⟩
           go_simp
           with_reducible rfl
          rotate_left
          ·simp only [Act.put,List.setIfInBounds_toArray,List.set_cons_zero,List.set_cons_succ,i64_w,i32_w]
           rfl
          refine take_ (i:=5) (N:=some 62) (v:=?_) (a':=?_) #[true,true,true,true,true,true,false] rfl rfl (by kernel_rfl) (fun _ _ _ h=>h) (Or.inl ⟨by rfl,?_⟩) hHeld ?_ ?_
          rotate_left
          ·rintro w' ⟨s0,s1,s2,s3,s4,s5,s6⟩
           go_simp
           with_reducible rfl
          rotate_left
          ·simp only [Act.put,List.setIfInBounds_toArray,List.set_cons_zero,List.set_cons_succ,i64_w,i32_w]
           rfl
          refine one_ (i:=6) (N:=some 63) #[true,true,true,true,true,true,true] rfl rfl (by kernel_rfl) (by decide) (fun K hK=>?_)
          refine goes_ Try.func34 (by kernel_rfl) rfl #[.slice Ao37 l0_1.length co37,.string a1_2] (by rfl) rfl rfl (by (try simp only [List.map_toArray,List.map_cons,List.map_nil]);first|done|rfl|(simp only [List.length_drop,List.length_take];rfl)) ?_
          with_reducible refine (slices_Contains_string_string.calls kj22 _ _ l0_1 a1_2 false _ ?side1 ?side2 A31.out).mono ?_
          (case side1=>repeat (first|exact (Kd.R_reads' HO_1001.out).2.2|(with_reducible refine Kd.C_alloc ?_ _)|(with_reducible refine Kd.C_drewN ?_ _)|(with_reducible refine Kd.C_drew ?_)))
          (case side2=>exact (Kd.R_reads' HO_1001.out).2.1)
          rintro e w' ⟨rfl,⟨nd,rfl⟩⟩
          refine ⟨_,rfl,?_⟩
          refine hK.out _ _ ⟨(IsS42.cell_0 HI0.out),(IsS42.cell_1 HI0.out),(blk_cell BK252.out 0).trans rfl,(blk_cell BK252.out 1).trans rfl,(blk_cell BK252.out 2).trans rfl,(blk_cell BK252.out 3).trans rfl,(blk_cell BK252.out 4).trans rfl⟩ (fun hHeld=>?_)
          clear hK K
          refine norm_ (a':=?_) ?_ ?_
          rotate_left
          ·show Act.put _ (some 63) _ = _
           simp only [Act.put,List.setIfInBounds_toArray,List.set_cons_zero,List.set_cons_succ,i64_w,i32_w]
           rfl
          refine done_ (by kernel_rfl) ?_
          try go_wp2
          (try ((try simp only [World.drewN_drewN]);rw [drewN_self w36];generalize hq_:World.drewN w36 _ = w36;have n0_:Aside0 (Kd.R Kd.string 9 w36 w0.heap.size (fun k_=>((P0_1_ k_∨w.heap.size≤k_))) (.slice Ao37 l0_1.length co37) l0_1):=⟨by rw [← hq_];exact (by (with_reducible repeat (first|apply Kd.R_alloc|apply Kd.R_drewN|apply Kd.R_drew));exact HO_1001.out)⟩;have n1_:Aside0 (Kd.V k31 31 w36 w0.heap.size (fun k_=>((((P0_1_ k_∨P1_3_ k_)∨w.heap.size≤k_))∧(some k_≠(.slice Ao37 l0_1.length co37:Value).ownBlock∧(k_≠gb252∧k_≠g)))) (.slice A1_3 l1_3.length c1_3) l1_3):=⟨by rw [← hq_];exact (by (with_reducible repeat (first|apply Kd.V_alloc|apply Kd.V_drewN|apply Kd.V_drew));exact HO_253003.out)⟩;have n2_:Aside0 (w36.heap[gb252]? = some (.cells #[.int .i64 a1_0,.int .i64 a1_1,.string a1_2,.slice A1_3 l1_3.length c1_3,.slice A1_4 l1_4.length c1_4] 31 (0,0))):=⟨by rw [← hq_];exact (by (with_reducible repeat (first|refine blk_drewN ?_ _|refine blk_drew ?_|refine blk_alloc ?_ _));exact BK252.out)⟩;have n3_:Aside0 (IsS42 w0 w36 g (wrap64 (s0_0 + 1)) (.slice Ao37 l0_1.length co37)):=⟨by rw [← hq_];exact (by repeat (first|(with_reducible first|exact HI0.out|apply IsS42.alloc|apply IsS42.drewN|apply IsS42.drew|apply IsS42.set_0|apply IsS42.set_1|refine IsS42.far ?_ NB0_252.out _)|exact HI0.out))⟩;have n4_:Aside0 (Kept w w36 (fun k_=>(P0_1_ k_)∨k_ = g)):=⟨by rw [← hq_];exact (by repeat (first|(with_reducible first|exact HK.out|apply Kept.alloc|apply Kept.drewN|apply Kept.drew|refine Kept.setCell ?_ (.inl (.inr rfl)) _|refine Kept.setCell ?_ (.inr GW252.out) _)|exact HK.out))⟩;have n5_:Aside0 (Below w0.heap.size w0 w36):=⟨by rw [← hq_];exact (by repeat (first|(with_reducible first|exact HB.out|apply below_alloc|apply pw_below_drewN|apply below_drew1|refine below_set ?_ (IsS42.ge HI0.out)|refine below_set ?_ GE252.out)|exact HB.out))⟩;clear HO_1001 HO_253003 BK252 HI0 HK HB hq_;have HO_1001:=n0_;have HO_253003:=n1_;have BK252:=n2_;have HI0:=n3_;have HK:=n4_;have HB:=n5_;clear n0_ n1_ n2_ n3_ n4_ n5_))
          have n0_:=Aside0.mk (Kd.R_drew HO_1001.out)
          have n1_:=Aside0.mk (Kd.V_drew HO_253003.out)
          have n2_:=Aside0.mk (blk_drew BK252.out)
          have n3_:=Aside0.mk (IsS42.drew HI0.out)
          have n4_:=Aside0.mk (Kept.drew HK.out)
          have n5_:=Aside0.mk (below_drew1 HB.out)
          clear HO_1001
          clear HO_253003
          clear BK252
          clear HI0
          clear HK
          clear HB
          have HO_1001:=n0_
          have HO_253003:=n1_
          have BK252:=n2_
          have HI0:=n3_
          have HK:=n4_
          have HB:=n5_
          clear n0_ n1_ n2_ n3_ n4_ n5_
          refine start_ (n:=12) (S:=fun w'=>w'.cell? ⟨g,0,none⟩ = some (.int .i64 (wrap64 (s0_0 + 1)))∧w'.cell? ⟨g,1,none⟩ = some (.slice Ao37 l0_1.length co37)∧w'.cell? ⟨gb252,0,none⟩ = some (.int .i64 a1_0)∧w'.cell? ⟨gb252,1,none⟩ = some (.int .i64 a1_1)∧w'.cell? ⟨gb252,2,none⟩ = some (.string a1_2)∧w'.cell? ⟨gb252,3,none⟩ = some (.slice A1_3 l1_3.length c1_3)∧w'.cell? ⟨gb252,4,none⟩ = some (.slice A1_4 l1_4.length c1_4)) (ds:=[11]) #[false,false,false,false,false,false,false,false,false,false,false,false] (by kernel_rfl) rfl rfl ⟨(IsS42.cell_0 HI0.out),(IsS42.cell_1 HI0.out),(blk_cell BK252.out 0).trans rfl,(blk_cell BK252.out 1).trans rfl,(blk_cell BK252.out 2).trans rfl,(blk_cell BK252.out 3).trans rfl,(blk_cell BK252.out 4).trans rfl⟩ (fun hHeld=>?_);refine with_tabW impl_judge_pat.tab7 impl_judge_pat.bits7 (fun HT_ HW_=>?_)
          generalize w36.drew = w38 at HO_1001 HO_253003 BK252 HI0 HK HB hHeld ⊢
          refine pure_ (i:=0) (N:=some 64) (v:=?_) (a':=?_) #[true,false,false,false,false,false,false,false,false,false,false,false] rfl rfl (any_of HT_.out (by kernel_rfl)) (fun _ _ _ h=>h) (Or.inl ⟨by rfl,?_⟩) ?_ ?_
          rotate_left
          ·intro w'
           go_simp
           with_reducible rfl
          rotate_left
          ·simp only [Act.put,List.setIfInBounds_toArray,List.set_cons_zero,List.set_cons_succ,i64_w,i32_w]
           rfl
          refine pure_ (i:=1) (N:=some 65) (v:=?_) (a':=?_) #[true,true,false,false,false,false,false,false,false,false,false,false] rfl rfl (any_of HT_.out (by kernel_rfl)) (fun _ _ _ h=>h) (Or.inl ⟨by rfl,?_⟩) ?_ ?_
          rotate_left
          ·intro w'
           go_simp
           with_reducible rfl
          rotate_left
          ·simp only [Act.put,List.setIfInBounds_toArray,List.set_cons_zero,List.set_cons_succ,i64_w,i32_w]
           rfl
          refine pure_ (i:=2) (N:=some 66) (v:=?_) (a':=?_) #[true,true,true,false,false,false,false,false,false,false,false,false] rfl rfl (any_of HT_.out (by kernel_rfl)) (fun _ _ _ h=>h) (Or.inl ⟨by rfl,?_⟩) ?_ ?_
          rotate_left
          ·intro w'
           go_simp
           with_reducible rfl
          rotate_left
          ·simp only [Act.put,List.setIfInBounds_toArray,List.set_cons_zero,List.set_cons_succ,i64_w,i32_w]
           rfl
          refine pure_ (i:=3) (N:=some 67) (v:=?_) (a':=?_) #[true,true,true,true,false,false,false,false,false,false,false,false] rfl rfl (any_of HT_.out (by kernel_rfl)) (fun _ _ _ h=>h) (Or.inl ⟨by rfl,?_⟩) ?_ ?_
          rotate_left
          ·intro w'
           go_simp
           with_reducible rfl
          rotate_left
          ·simp only [Act.put,List.setIfInBounds_toArray,List.set_cons_zero,List.set_cons_succ,i64_w,i32_w]
           rfl
          refine pure_ (i:=5) (N:=some 69) (v:=?_) (a':=?_) #[true,true,true,true,false,true,false,false,false,false,false,false] rfl rfl (any_of HT_.out (by kernel_rfl)) (fun _ _ _ h=>h) (Or.inl ⟨by rfl,?_⟩) ?_ ?_
          rotate_left
          ·intro w'
           go_simp
           with_reducible rfl
          rotate_left
          ·simp only [Act.put,List.setIfInBounds_toArray,List.set_cons_zero,List.set_cons_succ,i64_w,i32_w]
           rfl
          refine take_ (i:=4) (N:=some 68) (v:=?_) (a':=?_) #[true,true,true,true,true,true,false,false,false,false,false,false] rfl rfl (take_ofW HT_.out HW_.out (by kernel_rfl)) (fun _ _ _ h=>h) (Or.inl ⟨by rfl,?_⟩) hHeld ?_ ?_
          rotate_left
          ·rintro w' ⟨s0,s1,s2,s3,s4,s5,s6⟩
           go_simp
           with_reducible rfl
          rotate_left
          ·simp only [Act.put,List.setIfInBounds_toArray,List.set_cons_zero,List.set_cons_succ,i64_w,i32_w]
           rfl
          refine take_ (i:=6) (N:=some 70) (v:=?_) (a':=?_) #[true,true,true,true,true,true,true,false,false,false,false,false] rfl rfl (take_ofW HT_.out HW_.out (by kernel_rfl)) (fun _ _ _ h=>h) (Or.inl ⟨by rfl,?_⟩) hHeld ?_ ?_
          rotate_left
          ·rintro w' ⟨s0,s1,s2,s3,s4,s5,s6⟩
           go_simp
           with_reducible rfl
          rotate_left
          ·simp only [Act.put,List.setIfInBounds_toArray,List.set_cons_zero,List.set_cons_succ,i64_w,i32_w]
           rfl
          refine one_ (i:=7) (N:=some 71) #[true,true,true,true,true,true,true,true,false,false,false,false] rfl rfl (one_of HT_.out (by kernel_rfl)) (by decide) (fun K hK=>?_)
          refine value_ (w1:=?_) (v:=?_) (by rfl) rfl ?_ ?_
          rotate_left 2
          ·go_simp
           constructor
           ·rfl
           ·rfl
          refine hK.out _ _ ⟨(IsS42.cell_0 (IsS42.alloc HI0.out _)),(IsS42.cell_1 (IsS42.alloc HI0.out _)),(blk_cell (blk_alloc BK252.out _) 0).trans rfl,(blk_cell (blk_alloc BK252.out _) 1).trans rfl,(blk_cell (blk_alloc BK252.out _) 2).trans rfl,(blk_cell (blk_alloc BK252.out _) 3).trans rfl,(blk_cell (blk_alloc BK252.out _) 4).trans rfl⟩ (fun hHeld=>?_)
          clear hK K
          refine norm_ (a':=?_) ?_ ?_
          rotate_left
          ·show Act.put _ (some 71) _ = _
           simp only [Act.put,List.setIfInBounds_toArray,List.set_cons_zero,List.set_cons_succ,i64_w,i32_w]
           rfl
          refine one_ (i:=8) (N:=some 72) #[true,true,true,true,true,true,true,true,true,false,false,false] rfl rfl (one_of HT_.out (by kernel_rfl)) (by decide) (fun K hK=>?_)
          refine Kd.R_append_step Kd.string (w0:=w0) w0.heap.size (by rfl) (.tmp 68) (.tmp 71) 40 9 (.string ⟨#[]⟩) 16 rfl Try.underlying40 info9 rfl (by decide) (by omega) (.slice Ao37 l0_1.length co37) l0_1 a1_2 [.string a1_2] (fun k_=>(P0_1_ k_∨w.heap.size≤k_)) (fun _=>False) rfl rfl ?aP (fun _ hk=>hk.elim) ?aF ?aO ?aB ?aS ?aL ?_
          (case aP=>exact rfl)
          (case aB=>exact (by repeat (first|(with_reducible first|exact HB.out|apply below_alloc|apply pw_below_drewN|apply below_drew1|refine below_set ?_ (IsS42.ge HI0.out)|refine below_set ?_ GE252.out)|exact HB.out)))
          (case aF=>exact (fun k_ hk=>(.inr (Nat.le_trans (by first|exact HK.out.1|exact (show Kept w _ (fun k_=>(P0_1_ k_)∨k_ = g) from by repeat (first|(with_reducible first|exact HK.out|apply Kept.alloc|apply Kept.drewN|apply Kept.drew|refine Kept.setCell ?_ (.inl (.inr rfl)) _|refine Kept.setCell ?_ (.inr GW252.out) _)|exact HK.out)).1) hk))))
          (case aO=>exact (by (with_reducible repeat (first|apply Kd.R_alloc|apply Kd.R_drewN|apply Kd.R_drew));exact HO_1001.out))
          (case aS=>exact (below_size (by repeat (first|(with_reducible first|exact HB.out|apply below_alloc|apply pw_below_drewN|apply below_drew1|refine below_set ?_ (IsS42.ge HI0.out)|refine below_set ?_ GE252.out)|exact HB.out))))
          (case aL=>have:=LMc35.out;omega)
          intro v256 w39 ho hb hg hat
          rw [← Ny255.out] at ho
          have n0_:=Aside0.mk (Kd.V_afterv (ok:=(fun k_=>((P0_1_ k_∨P1_3_ k_)∨w.heap.size≤k_)∧k_≠gb252∧k_≠g)) (by (with_reducible repeat (first|apply Kd.V_alloc|apply Kd.V_drewN|apply Kd.V_drew));exact Kd.V_mono HO_253003.out (fun _ hk=>⟨⟨hk.1,⟨hk.2.2.1,hk.2.2.2⟩⟩,hk.2.1⟩)) hg hat)
          have n1_:=Aside0.mk (blk_grown (g:=gb252) (o:=.cells #[.int .i64 a1_0,.int .i64 a1_1,.string a1_2,.slice A1_3 l1_3.length c1_3,.slice A1_4 l1_4.length c1_4] 31 (0,0)) (by (with_reducible repeat (first|refine blk_drewN ?_ _|refine blk_drew ?_|refine blk_alloc ?_ _));exact BK252.out) hg (Kd.R_ne HO_1001.out BK252.out (by decide)))
          have n2_:=Aside0.mk (IsS42.grown (by repeat (first|(with_reducible first|exact HI0.out|apply IsS42.alloc|apply IsS42.drewN|apply IsS42.drew|apply IsS42.set_0|apply IsS42.set_1|refine IsS42.far ?_ NB0_252.out _)|exact HI0.out)) hg (IsS42.own_ne HI0.out HO_1001.out (by decide)))
          have n3_:=Aside0.mk (hb)
          have n4_:=Aside0.mk (Kept.of_grown (S:=(fun k_=>(P0_1_ k_)∨k_ = g)) hg (by repeat (first|(with_reducible first|exact HK.out|apply Kept.alloc|apply Kept.drewN|apply Kept.drew|refine Kept.setCell ?_ (.inl (.inr rfl)) _|refine Kept.setCell ?_ (.inr GW252.out) _)|exact HK.out)) (fun k_ e_=>Or.imp_left Or.inl ((HO_1001.out.1 k_ e_))))
          have n5_:=Aside0.mk (ho)
          clear HO_253003
          clear BK252
          clear HI0
          clear HB
          clear HK
          clear HO_1001
          have HO_253003:=n0_
          have BK252:=n1_
          have HI0:=n2_
          have HB:=n3_
          have HK:=n4_
          have HO257:=n5_
          clear n0_ n1_ n2_ n3_ n4_ n5_
          clear ho hb hg hat
          obtain ⟨Ao40,co40,eo40⟩:=Kd.R_slice HO257.out
          (first|subst eo40|(injection eo40 with f1_ f2_ f3_;have f4_:=f1_.symm;have f5_:=f3_.symm;clear f1_ f2_ f3_;subst f4_;subst f5_))
          refine hK.out _ _ ⟨(IsS42.cell_0 HI0.out),(IsS42.cell_1 HI0.out),(blk_cell BK252.out 0).trans rfl,(blk_cell BK252.out 1).trans rfl,(blk_cell BK252.out 2).trans rfl,(blk_cell BK252.out 3).trans rfl,(blk_cell BK252.out 4).trans rfl⟩ (fun hHeld=>?_)
          clear hK K
          refine norm_ (a':=?_) ?_ ?_
          rotate_left
          ·show Act.put _ (some 72) _ = _
           simp only [Act.put,List.setIfInBounds_toArray,List.set_cons_zero,List.set_cons_succ,i64_w,i32_w]
           rfl
          refine pure_ (i:=9) (N:=some 73) (v:=?_) (a':=?_) #[true,true,true,true,true,true,true,true,true,true,false,false] rfl rfl (any_of HT_.out (by kernel_rfl)) (fun _ _ _ h=>h) (Or.inl ⟨by rfl,?_⟩) ?_ ?_
          rotate_left
          ·intro w'
           go_simp
           with_reducible rfl
          rotate_left
          ·simp only [Act.put,List.setIfInBounds_toArray,List.set_cons_zero,List.set_cons_succ,i64_w,i32_w]
           rfl
          refine pure_ (i:=10) (N:=some 74) (v:=?_) (a':=?_) #[true,true,true,true,true,true,true,true,true,true,true,false] rfl rfl (any_of HT_.out (by kernel_rfl)) (fun _ _ _ h=>h) (Or.inl ⟨by rfl,?_⟩) ?_ ?_
          rotate_left
          ·intro w'
           go_simp
           with_reducible rfl
          rotate_left
          ·simp only [Act.put,List.setIfInBounds_toArray,List.set_cons_zero,List.set_cons_succ,i64_w,i32_w]
           rfl
          refine last_ (i:=11) (N:=none) #[true,true,true,true,true,true,true,true,true,true,true,true] rfl rfl (one_of HT_.out (by kernel_rfl)) (by decide) (fun K hK=>?_)
          have hs41:=IsS42.cell_1 HI0.out
          have hfs41:=IsS42.froz_1 HI0.out
          have hns41_0:=NB252_0.out
          have hms41_0:=NB0_252.out
          refine skip_ (w1:=?_) (by rfl) rfl ?_ ?_
          rotate_left
          ·go_simp
           rfl
          refine hK.out _ _ ?_
          clear hK K
          refine done_ (done_of HT_.out (by kernel_rfl)) ?_
          try go_wp2
          go_meet
          case rel=>exact ⟨_,(y255),(.slice Ao40 y255.length co40),H',⟨by have:=HJ3.out;have:=HJ22.out;first|omega|exact Nat.le_refl _⟩,⟨by (with_reducible repeat (first|apply Kd.R_alloc|apply Kd.R_drewN|apply Kd.R_drew));exact Kd.R_mono (Kd.R_far (p:=⟨g,1,none⟩) (IsS42.apart HI0.out HO257.out (by decide)) (fun _ hk=>hk.2) (.slice Ao40 y255.length co40)) (fun _ hk=>hk.1)⟩,⟨by (with_reducible repeat (first|apply Kd.V_alloc|apply Kd.V_drewN|apply Kd.V_drew));exact Kd.V_mono (Kd.V_far (p:=⟨g,1,none⟩) (Kd.V_mono HO_253003.out (fun k_ hk=>(⟨hk,hk.1.2.2⟩:_∧k_≠g))) (fun _ hk=>hk.2) (.slice Ao40 y255.length co40)) (fun _ hk=>⟨hk.1.1.1,⟨hk.1.2,⟨hk.1.1.2.1,hk.1.1.2.2⟩⟩⟩)⟩,⟨by (with_reducible repeat (first|refine blk_drewN ?_ _|refine blk_drew ?_|refine blk_alloc ?_ _));refine blk_far ?_ NB252_0.out _;(with_reducible repeat (first|refine blk_drewN ?_ _|refine blk_drew ?_|refine blk_alloc ?_ _));exact BK252.out⟩,⟨by repeat (first|(with_reducible first|exact HI0.out|apply IsS42.alloc|apply IsS42.drewN|apply IsS42.drew|apply IsS42.set_0|apply IsS42.set_1|refine IsS42.far ?_ NB0_252.out _)|exact HI0.out)⟩,⟨by repeat (first|(with_reducible first|exact HK.out|apply Kept.alloc|apply Kept.drewN|apply Kept.drew|refine Kept.setCell ?_ (.inl (.inr rfl)) _|refine Kept.setCell ?_ (.inr GW252.out) _)|exact HK.out)⟩,⟨by repeat (first|(with_reducible first|exact HB.out|apply below_alloc|apply pw_below_drewN|apply below_drew1|refine below_set ?_ (IsS42.ge HI0.out)|refine below_set ?_ GE252.out)|exact HB.out)⟩⟩
         ·rw [if_neg c35] at H
          exact absurd H (by simp)
       ·replace c30:=Bool.eq_false_iff.mpr c30
        subst c30
        have H1:(impl_judge_pat.j2 kj22 a2 (wrap64 (s0_0 + 1)) l0_1 a1_0 a1_1 a1_2 l1_3 l1_4) = some (r1,r2,r3):=by rw [if_neg (show ¬ (false = true) by decide)] at H;exact H
        clear H
        have H:=H1
        clear H1
        have H':=Aside0.mk H
        clear H
        go_wp2
        go_meet
        case rel=>exact ⟨_,(l0_1),(u9000_),H',⟨by have:=HJ3.out;have:=HJ22.out;first|omega|exact Nat.le_refl _⟩,⟨by (with_reducible repeat (first|apply Kd.R_alloc|apply Kd.R_drewN|apply Kd.R_drew));exact HO_1001.out⟩,⟨by (with_reducible repeat (first|apply Kd.V_alloc|apply Kd.V_drewN|apply Kd.V_drew));exact HO_253003.out⟩,⟨by (with_reducible repeat (first|refine blk_drewN ?_ _|refine blk_drew ?_|refine blk_alloc ?_ _));exact BK252.out⟩,⟨by repeat (first|(with_reducible first|exact HI0.out|apply IsS42.alloc|apply IsS42.drewN|apply IsS42.drew|apply IsS42.set_0|apply IsS42.set_1|refine IsS42.far ?_ NB0_252.out _)|exact HI0.out)⟩,⟨by repeat (first|(with_reducible first|exact HK.out|apply Kept.alloc|apply Kept.drewN|apply Kept.drew|refine Kept.setCell ?_ (.inl (.inr rfl)) _|refine Kept.setCell ?_ (.inr GW252.out) _)|exact HK.out)⟩,⟨by repeat (first|(with_reducible first|exact HB.out|apply below_alloc|apply pw_below_drewN|apply below_drew1|refine below_set ?_ (IsS42.ge HI0.out)|refine below_set ?_ GE252.out)|exact HB.out)⟩⟩
      case rest =>
       clear HC29
       try clear c1
       try clear c2
       try clear p2
       try clear c3
       try clear p6
       try clear c7
       try clear c7b0
       try clear c7b2
       try clear c8
       try clear c8b0
       try clear c10
       try clear c10b0
       try clear c12
       try clear c14
       try clear c14b0
       try clear c14b1
       try clear c16
       try clear c20
       try clear c22
       try clear c23
       try clear c24
       try clear c24b0
       try clear c24b1
       try clear c24b2
       try clear c25
       try clear c27
       try clear c30
       try clear c32
       try clear c34
       try clear c35
       try clear hcz11_0
       try clear hcz11_1
       try clear hcz13_0
       try clear hcz13_1
       try clear hcz13_2
       try clear hcz13_3
       try clear hcz13_4
       try clear hcz15_0
       try clear hcz15_1
       try clear hcz17_0
       try clear hcz17_1
       try clear hcz17_2
       try clear hcz17_3
       try clear hcz17_4
       try clear hcz19_0
       try clear hcz19_1
       try clear hcz21_0
       try clear hcz21_1
       try clear hcz21_2
       try clear hcz21_3
       try clear hcz21_4
       try clear hcz26_0
       try clear hcz26_1
       try clear hcz26_2
       try clear hcz26_3
       try clear hcz26_4
       try clear hcz28_0
       try clear hcz28_1
       try clear hcz28_2
       try clear hcz28_3
       try clear hcz28_4
       try clear hcz6_0
       try clear hcz6_1
       try clear hcz9_0
       try clear hcz9_1
       try clear hfz11_0
       try clear hfz11_1
       try clear hfz13_0
       try clear hfz13_1
       try clear hfz13_2
       try clear hfz13_3
       try clear hfz13_4
       try clear hfz15_0
       try clear hfz15_1
       try clear hfz17_0
       try clear hfz17_1
       try clear hfz17_2
       try clear hfz17_3
       try clear hfz17_4
       try clear hfz19_0
       try clear hfz19_1
       try clear hfz21_0
       try clear hfz21_1
       try clear hfz21_2
       try clear hfz21_3
       try clear hfz21_4
       try clear hfz26_0
       try clear hfz26_1
       try clear hfz26_2
       try clear hfz26_3
       try clear hfz26_4
       try clear hfz28_0
       try clear hfz28_1
       try clear hfz28_2
       try clear hfz28_3
       try clear hfz28_4
       try clear hfz6_0
       try clear hfz6_1
       try clear hfz9_0
       try clear hfz9_1
       try clear p2
       try clear p6
       try clear HO_1001
       try clear HO_253003
       try clear BK252
       try clear HI0
       try clear HK
       try clear HB
       obtain ⟨kq,x1001_28,u1001,HA,HJ28,HO_1001,HO_253003,BK252,HI0,HK,HB⟩:=hcut
       cases kq with
       | zero=>exact absurd HA.out (by simp [impl_judge_pat.j2])
       | succ kj28 =>
        have H:=HA.out
        clear HA
        simp only [impl_judge_pat.j2] at H
        have H':=Aside0.mk H
        clear H
        have hnb42:=NB252_0.out
        have hnc42:=NB0_252.out
        have hcz43_0:wc.cell? ⟨gb252,0,none⟩ = some (.int .i64 a1_0):=(blk_cell BK252.out 0).trans rfl
        have hcz43_1:wc.cell? ⟨gb252,1,none⟩ = some (.int .i64 a1_1):=(blk_cell BK252.out 1).trans rfl
        have hcz43_2:wc.cell? ⟨gb252,2,none⟩ = some (.string a1_2):=(blk_cell BK252.out 2).trans rfl
        have hcz43_3:wc.cell? ⟨gb252,3,none⟩ = some (.slice A1_3 l1_3.length c1_3):=(blk_cell BK252.out 3).trans rfl
        have hcz43_4:wc.cell? ⟨gb252,4,none⟩ = some (.slice A1_4 l1_4.length c1_4):=(blk_cell BK252.out 4).trans rfl
        have hfz43_0:=blk_frozen BK252.out 0
        have hfz43_1:=blk_frozen BK252.out 1
        have hfz43_2:=blk_frozen BK252.out 2
        have hfz43_3:=blk_frozen BK252.out 3
        have hfz43_4:=blk_frozen BK252.out 4
        go_wp2
        go_loopg [78] kj28 (fun kq v78 w'=>∃ (x78_4:Int) (x1000_4:Int) (x1001_4:List ByteArray) (u1001:Value),v78 = .int .i64 x78_4∧Aside0 (impl_judge_pat.l0 kq a2 l1_3 (l1_3.length:Int) x78_4 x1000_4 x1001_4 = some (r1,r2,r3))∧Aside0 (kq≤kj28)∧Aside0 (Kd.V k31 31 w' w0.heap.size (fun k_=>((P0_1_ k_∨P1_3_ k_)∨w.heap.size≤k_)∧some k_≠(u1001:Value).ownBlock∧k_≠gb252∧k_≠g) (.slice A1_3 l1_3.length c1_3) l1_3)∧Aside0 (Kd.R Kd.string 9 w' w0.heap.size (fun k_=>(P0_1_ k_∨w.heap.size≤k_)) u1001 x1001_4)∧Aside0 (Kd.V k31 31 w' w0.heap.size (fun k_=>((P0_1_ k_∨P1_3_ k_)∨w.heap.size≤k_)∧some k_≠(u1001:Value).ownBlock∧k_≠gb252∧k_≠g) (.slice A1_3 l1_3.length c1_3) l1_3)∧Aside0 (w'.heap[gb252]? = some (.cells #[.int .i64 a1_0,.int .i64 a1_1,.string a1_2,(.slice A1_3 l1_3.length c1_3),(.slice A1_4 l1_4.length c1_4)] 31 (0,0)))∧Aside0 (IsS42 w0 w' g x1000_4 u1001)∧Aside0 (Kept w w' (fun k_=>(P0_1_ k_)∨k_ = g))∧Aside0 (Below w0.heap.size w0 w'))
        case atStart=>exact ⟨(0),((wrap64 (s0_0 + 1))),(x1001_28),(u1001),(by first|rfl|(simp;done)|(simp [*];done)),H',⟨Nat.le_refl _⟩,⟨by (with_reducible repeat (first|apply Kd.V_alloc|apply Kd.V_drewN|apply Kd.V_drew));exact HO_253003.out⟩,⟨by (with_reducible repeat (first|apply Kd.R_alloc|apply Kd.R_drewN|apply Kd.R_drew));exact HO_1001.out⟩,⟨by (with_reducible repeat (first|apply Kd.V_alloc|apply Kd.V_drewN|apply Kd.V_drew));exact HO_253003.out⟩,⟨by (with_reducible repeat (first|refine blk_drewN ?_ _|refine blk_drew ?_|refine blk_alloc ?_ _));exact BK252.out⟩,⟨by repeat (first|(with_reducible first|exact HI0.out|apply IsS42.alloc|apply IsS42.drewN|apply IsS42.drew|apply IsS42.set_0|apply IsS42.set_1|refine IsS42.far ?_ NB0_252.out _)|exact HI0.out)⟩,⟨by repeat (first|(with_reducible first|exact HK.out|apply Kept.alloc|apply Kept.drewN|apply Kept.drew|refine Kept.setCell ?_ (.inl (.inr rfl)) _|refine Kept.setCell ?_ (.inr GW252.out) _)|exact HK.out)⟩,⟨by repeat (first|(with_reducible first|exact HB.out|apply below_alloc|apply pw_below_drewN|apply below_drew1|refine below_set ?_ (IsS42.ge HI0.out)|refine below_set ?_ GE252.out)|exact HB.out)⟩⟩
        case round =>
         clear H'
         try clear c1
         try clear c2
         try clear p2
         try clear c3
         try clear c4
         try clear p6
         try clear c7
         try clear c7b0
         try clear c7b2
         try clear c8
         try clear c8b0
         try clear c10
         try clear c10b0
         try clear c12
         try clear c14
         try clear c14b0
         try clear c14b1
         try clear c16
         try clear c20
         try clear c22
         try clear c23
         try clear c24
         try clear c24b0
         try clear c24b1
         try clear c24b2
         try clear c25
         try clear c27
         try clear c30
         try clear c32
         try clear c34
         try clear c35
         try clear c42
         try clear hcz11_0
         try clear hcz11_1
         try clear hcz13_0
         try clear hcz13_1
         try clear hcz13_2
         try clear hcz13_3
         try clear hcz13_4
         try clear hcz15_0
         try clear hcz15_1
         try clear hcz17_0
         try clear hcz17_1
         try clear hcz17_2
         try clear hcz17_3
         try clear hcz17_4
         try clear hcz19_0
         try clear hcz19_1
         try clear hcz21_0
         try clear hcz21_1
         try clear hcz21_2
         try clear hcz21_3
         try clear hcz21_4
         try clear hcz26_0
         try clear hcz26_1
         try clear hcz26_2
         try clear hcz26_3
         try clear hcz26_4
         try clear hcz28_0
         try clear hcz28_1
         try clear hcz28_2
         try clear hcz28_3
         try clear hcz28_4
         try clear hcz43_0
         try clear hcz43_1
         try clear hcz43_2
         try clear hcz43_3
         try clear hcz43_4
         try clear hcz6_0
         try clear hcz6_1
         try clear hcz9_0
         try clear hcz9_1
         try clear hfz11_0
         try clear hfz11_1
         try clear hfz13_0
         try clear hfz13_1
         try clear hfz13_2
         try clear hfz13_3
         try clear hfz13_4
         try clear hfz15_0
         try clear hfz15_1
         try clear hfz17_0
         try clear hfz17_1
         try clear hfz17_2
         try clear hfz17_3
         try clear hfz17_4
         try clear hfz19_0
         try clear hfz19_1
         try clear hfz21_0
         try clear hfz21_1
         try clear hfz21_2
         try clear hfz21_3
         try clear hfz21_4
         try clear hfz26_0
         try clear hfz26_1
         try clear hfz26_2
         try clear hfz26_3
         try clear hfz26_4
         try clear hfz28_0
         try clear hfz28_1
         try clear hfz28_2
         try clear hfz28_3
         try clear hfz28_4
         try clear hfz43_0
         try clear hfz43_1
         try clear hfz43_2
         try clear hfz43_3
         try clear hfz43_4
         try clear hfz6_0
         try clear hfz6_1
         try clear hfz9_0
         try clear hfz9_1
         try clear p2
         try clear p6
         try clear HO_76
         try clear HO_1001
         try clear HO_253003
         try clear BK252
         try clear HI0
         try clear HK
         try clear HB
         obtain ⟨x78_4,x1000_4,x1001_4,u1001,rfl,HA,HK4,HO_76,HO_1001,HO_253003,BK252,HI0,HK,HB⟩:=hrel
         cases gk with
         | zero=>exact absurd HA.out (by simp [impl_judge_pat.l0])
         | succ k4 =>
          have H:=HA.out
          clear HA
          simp only [impl_judge_pat.l0] at H
          by_cases c44:x78_4 < (l1_3.length:Int)
          ·rw [if_pos c44] at H
           have c44b0:decide (x78_4 < (l1_3.length:Int)) = true:=decide_eq_true c44
           clear c44
           by_cases c45:0≤x78_4
           ·rw [if_pos c45] at H
            have c45b0:decide (0≤x78_4) = true:=decide_eq_true c45
            clear c45
            by_cases c46:x78_4 < (l1_3.length:Int)
            ·rw [if_pos c46] at H
             have c46b0:decide (x78_4 < (l1_3.length:Int)) = true:=decide_eq_true c46
             clear c46
             replace H:=Option.bind_eq_some_iff.mp H
             obtain ⟨⟨t260,t261,t264⟩,A470,H⟩:=H
             replace H:(if t260 = true then (impl_judge_pat.l0 k4 a2 l1_3 (l1_3.length:Int) (wrap64 (x78_4 + 1)) t264 t261) else (some (false,t261,t264))) = some (r1,r2,r3):=H
             have A47:=Aside0.mk A470
             clear A470
             by_cases c48:t260 = true
             focus
              subst c48
              have H1:(impl_judge_pat.l0 k4 a2 l1_3 (l1_3.length:Int) (wrap64 (x78_4 + 1)) t264 t261) = some (r1,r2,r3):=by rw [if_pos rfl] at H;exact H
              clear H
              have H:=H1
              clear H1
              have H':=Aside0.mk H
              clear H
             rotate_left
             focus
              replace c48:=Bool.eq_false_iff.mpr c48
              subst c48
              have H1:(some (false,t261,t264)) = some (r1,r2,r3):=by rw [if_neg (show ¬ (false = true) by decide)] at H;exact H
              clear H
              have H:=H1
              clear H1
              simp only [Option.some.injEq,Prod.mk.injEq] at H
              obtain ⟨rfl,rfl,rfl⟩:=H
             rotate_left
             all_goals
              have p258:0≤(x78_4:Int):=of_decide_eq_true (by first|(with_reducible assumption)|assumption)
              have q258:x78_4 < (l1_3.length:Int):=of_decide_eq_true (by first|(with_reducible assumption)|assumption)
              obtain ⟨ad258,A258_3,c258_3,A258_4,c258_4,e258,hx258_0,hx258_1,hx258_2,hx258_3,hx258_4,hl258_3,hi258_3,hl258_4,hi258_4⟩:=at_T31 (Kd.V_reads' HO_76.out).2.2 x78_4 p258 q258
              cases e258
              obtain ⟨ce258,hce258,hMe258,hcc258⟩:=Kd.V_get HO_76.out z31 x78_4 p258 (by first|exact q258|exact of_decide_eq_true (by first|(with_reducible assumption)|assumption)|(have e_:=(Kd.V_reads' HO_76.out).1;omega))
              obtain ⟨ua258_3,uc258_3,ua258_4,uc258_4,rfl,ul258_3,ge258_3,ul258_4,ge258_4⟩:=k31_openF hMe258
              have hv258_3:=hcc258 3 _ rfl
              rw [add_field _ _ 3 (by omega)] at hv258_3
              replace hv258_3:=Option.some.inj (hv258_3.symm.trans hx258_3)
              injection hv258_3 with hva_ hvn_ hvc_
              rw [hva_] at ge258_3
              rw [hvc_] at ul258_3
              have HL258_3:=Aside0.mk (show Kd.V k31 31 _ w0.heap.size _ _ ((rd_T31 l1_3 x78_4).f3) from Kd.V_mk ul258_3 ge258_3)
              clear hva_ hvn_ hvc_ ge258_3 ul258_3
              have hv258_4:=hcc258 4 _ rfl
              rw [add_field _ _ 4 (by omega)] at hv258_4
              replace hv258_4:=Option.some.inj (hv258_4.symm.trans hx258_4)
              injection hv258_4 with hva_ hvn_ hvc_
              rw [hva_] at ge258_4
              rw [hvc_] at ul258_4
              have HL258_4:=Aside0.mk (show Kd.V k53 53 _ w0.heap.size _ _ ((rd_T31 l1_3 x78_4).f4) from Kd.V_mk ul258_4 ge258_4)
              clear hva_ hvn_ hvc_ ge258_4 ul258_4
              clear hcc258 hce258
              have HR258_3:=Aside0.mk hi258_3
              have HC258_3:=Aside0.mk hl258_3
              clear hi258_3 hl258_3
              have HR258_4:=Aside0.mk hi258_4
              have HC258_4:=Aside0.mk hl258_4
              clear hi258_4 hl258_4
              replace p258:=eq_true p258
              replace q258:=eq_true q258
              go_wp2_with (first|((with_reducible refine gate_dst (N:=8) rfl ?_);(try (refine gate_guard (by rfl) ?_;dsimp only));refine box_event ?hg (N:=8) ?hd (cs:=#[.int .i64 0,.int .i64 0,.string (⟨#[]⟩:ByteArray),.slice none 0 0,.slice none 0 0]) (t:=31) ?hr ?_;(case hd=>rfl);(case hg=>rfl);(case hr=>first|(go_simp;done)|(go_simp;rfl));intro gb259 hg w49 hbox hb;have n0_:=Aside0.mk (Kd.V_below (Kd.V_elderB (by (with_reducible repeat (first|apply Kd.V_alloc|apply Kd.V_drewN|apply Kd.V_drew));exact HO_76.out) gb259 (Nat.le_of_eq hg.symm)) hb);have n1_:=Aside0.mk (Kd.R_below (by (with_reducible repeat (first|apply Kd.R_alloc|apply Kd.R_drewN|apply Kd.R_drew));exact HO_1001.out) hb);have n2_:=Aside0.mk (Kd.V_below (Kd.V_elderB (by (with_reducible repeat (first|apply Kd.V_alloc|apply Kd.V_drewN|apply Kd.V_drew));exact HO_253003.out) gb259 (Nat.le_of_eq hg.symm)) hb);have n3_:=Aside0.mk (Kd.V_below (Kd.V_elderB (by (with_reducible repeat (first|apply Kd.V_alloc|apply Kd.V_drewN|apply Kd.V_drew));exact HL258_3.out) gb259 (Nat.le_of_eq hg.symm)) hb);have n4_:=Aside0.mk (Kd.V_below (Kd.V_elderB (by (with_reducible repeat (first|apply Kd.V_alloc|apply Kd.V_drewN|apply Kd.V_drew));exact HL258_4.out) gb259 (Nat.le_of_eq hg.symm)) hb);have n5_:=Aside0.mk (blk_below (g:=gb252) (o:=.cells #[.int .i64 a1_0,.int .i64 a1_1,.string a1_2,.slice (some ad258) l1_3.length c1_3,.slice A1_4 l1_4.length c1_4] 31 (0,0)) (by (with_reducible repeat (first|refine blk_drewN ?_ _|refine blk_drew ?_|refine blk_alloc ?_ _));exact BK252.out) hb);have n6_:=Aside0.mk (IsS42.below (by repeat (first|(with_reducible first|exact HI0.out|apply IsS42.alloc|apply IsS42.drewN|apply IsS42.drew|apply IsS42.set_0|apply IsS42.set_1|refine IsS42.far ?_ NB0_252.out _)|exact HI0.out)) hb);have n7_:=Aside0.mk (Kd.C_below (by repeat (first|(with_reducible exact HR258_3.out)|(with_reducible refine Kd.C_alloc ?_ _)|(with_reducible refine Kd.C_drewN ?_ _)|(with_reducible refine Kd.C_drew ?_)|exact HR258_3.out)) hb);have n8_:=Aside0.mk (Kd.C_below (by repeat (first|(with_reducible exact HR258_4.out)|(with_reducible refine Kd.C_alloc ?_ _)|(with_reducible refine Kd.C_drewN ?_ _)|(with_reducible refine Kd.C_drew ?_)|exact HR258_4.out)) hb);have n9_:=Aside0.mk (Kept.below (S:=(fun k_=>(P0_1_ k_)∨k_ = g)) (by repeat (first|(with_reducible first|exact HK.out|apply Kept.alloc|apply Kept.drewN|apply Kept.drew|refine Kept.setCell ?_ (.inl (.inr rfl)) _|refine Kept.setCell ?_ (.inr GW252.out) _)|exact HK.out)) hb);have n10_:=Aside0.mk (below_step (by repeat (first|(with_reducible first|exact HB.out|apply below_alloc|apply pw_below_drewN|apply below_drew1|refine below_set ?_ (IsS42.ge HI0.out)|refine below_set ?_ GE252.out)|exact HB.out)) hb);have n11_:=Aside0.mk (hbox);have n12_:=Aside0.mk ((by rw [hg];exact (by first|exact HK.out.1|exact (show Kept w _ (fun k_=>(P0_1_ k_)∨k_ = g) from by repeat (first|(with_reducible first|exact HK.out|apply Kept.alloc|apply Kept.drewN|apply Kept.drew|refine Kept.setCell ?_ (.inl (.inr rfl)) _|refine Kept.setCell ?_ (.inr GW252.out) _)|exact HK.out)).1):w.heap.size≤gb259));have n13_:=Aside0.mk ((by rw [hg];exact (below_size (by repeat (first|(with_reducible first|exact HB.out|apply below_alloc|apply pw_below_drewN|apply below_drew1|refine below_set ?_ (IsS42.ge HI0.out)|refine below_set ?_ GE252.out)|exact HB.out))):w0.heap.size≤gb259));have n14_:=Aside0.mk ((by rw [hg];exact Nat.ne_of_lt (blk_lt (g:=gb252) (o:=.cells #[.int .i64 a1_0,.int .i64 a1_1,.string a1_2,.slice (some ad258) l1_3.length c1_3,.slice A1_4 l1_4.length c1_4] 31 (0,0)) (by (with_reducible repeat (first|refine blk_drewN ?_ _|refine blk_drew ?_|refine blk_alloc ?_ _));exact BK252.out)):gb252≠gb259));have n15_:=Aside0.mk ((by rw [hg];exact Nat.ne_of_gt (blk_lt (g:=gb252) (o:=.cells #[.int .i64 a1_0,.int .i64 a1_1,.string a1_2,.slice (some ad258) l1_3.length c1_3,.slice A1_4 l1_4.length c1_4] 31 (0,0)) (by (with_reducible repeat (first|refine blk_drewN ?_ _|refine blk_drew ?_|refine blk_alloc ?_ _));exact BK252.out)):gb259≠gb252));have n16_:=Aside0.mk ((by rw [hg];exact Nat.ne_of_lt (IsS42.lt (show IsS42 w0 _ g x1000_4 u1001 from by repeat (first|(with_reducible first|exact HI0.out|apply IsS42.alloc|apply IsS42.drewN|apply IsS42.drew|apply IsS42.set_0|apply IsS42.set_1|refine IsS42.far ?_ NB0_252.out _)|exact HI0.out))):g≠gb259));have n17_:=Aside0.mk ((by rw [hg];exact Nat.ne_of_gt (IsS42.lt (show IsS42 w0 _ g x1000_4 u1001 from by repeat (first|(with_reducible first|exact HI0.out|apply IsS42.alloc|apply IsS42.drewN|apply IsS42.drew|apply IsS42.set_0|apply IsS42.set_1|refine IsS42.far ?_ NB0_252.out _)|exact HI0.out))):gb259≠g));clear HO_76;clear HO_1001;clear HO_253003;clear HL258_3;clear HL258_4;clear BK252;clear HI0;clear HR258_3;clear HR258_4;clear HK;clear HB;have HO_76:=n0_;have HO_1001:=n1_;have HO_253003:=n2_;have HL258_3:=n3_;have HL258_4:=n4_;have BK252:=n5_;have HI0:=n6_;have HR258_3:=n7_;have HR258_4:=n8_;have HK:=n9_;have HB:=n10_;have BK259:=n11_;have GW259:=n12_;have GE259:=n13_;have NB252_259:=n14_;have NB259_252:=n15_;have NB0_259:=n16_;have NB259_0:=n17_;clear n0_ n1_ n2_ n3_ n4_ n5_ n6_ n7_ n8_ n9_ n10_ n11_ n12_ n13_ n14_ n15_ n16_ n17_;clear hb hbox hg;have hnb50:=NB259_252.out;have hnc50:=NB252_259.out;have hnb51:=NB259_0.out;have hnc51:=NB0_259.out;have hcz52_0:w49.cell? ⟨gb259,0,none⟩ = some (.int .i64 0):=(blk_cell BK259.out 0).trans rfl;have hcz52_1:w49.cell? ⟨gb259,1,none⟩ = some (.int .i64 0):=(blk_cell BK259.out 1).trans rfl;have hcz52_2:w49.cell? ⟨gb259,2,none⟩ = some (.string (⟨#[]⟩:ByteArray)):=(blk_cell BK259.out 2).trans rfl;have hcz52_3:w49.cell? ⟨gb259,3,none⟩ = some (.slice none 0 0):=(blk_cell BK259.out 3).trans rfl;have hcz52_4:w49.cell? ⟨gb259,4,none⟩ = some (.slice none 0 0):=(blk_cell BK259.out 4).trans rfl;have hfz52_0:=blk_frozen BK259.out 0;have hfz52_1:=blk_frozen BK259.out 1;have hfz52_2:=blk_frozen BK259.out 2;have hfz52_3:=blk_frozen BK259.out 3;have hfz52_4:=blk_frozen BK259.out 4)|((with_reducible refine gate_store (t:=31) (p:=8) rfl ?_);refine store_event (t:=31) (p:=8) (v:=?vo_w53) (w1:=(((((w49.setCell ⟨gb259,0,none⟩ (.int .i64 ((rd_T31 l1_3 x78_4).f0))).setCell ⟨gb259,1,none⟩ (.int .i64 ((rd_T31 l1_3 x78_4).f1))).setCell ⟨gb259,2,none⟩ (.string ((rd_T31 l1_3 x78_4).f2))).setCell ⟨gb259,3,none⟩ (.slice A258_3 ((rd_T31 l1_3 x78_4).f3).length c258_3)).setCell ⟨gb259,4,none⟩ (.slice A258_4 ((rd_T31 l1_3 x78_4).f4).length c258_4))) ?hg ?ho ?hn ?hr ?_;(case ho=>rfl);(case hg=>rfl);(case hn=>rfl);(case hr=>first|(go_simp;done)|(go_simp;rfl));intro w53 hw;have n0_:Aside0 (Kd.V k31 31 w53 w0.heap.size (fun k_=>((P0_1_ k_∨P1_3_ k_)∨w.heap.size≤k_)∧some k_≠(u1001:Value).ownBlock∧k_≠gb252∧k_≠g∧k_≠gb259) (.slice (some ad258) l1_3.length c1_3) l1_3):=⟨(by rw [hw];exact (by (with_reducible repeat (first|apply Kd.V_alloc|apply Kd.V_drewN|apply Kd.V_drew));exact Kd.V_mono (Kd.V_far (p:=⟨gb259,4,none⟩) (Kd.V_far (p:=⟨gb259,3,none⟩) (Kd.V_far (p:=⟨gb259,2,none⟩) (Kd.V_far (p:=⟨gb259,1,none⟩) (Kd.V_far (p:=⟨gb259,0,none⟩) (Kd.V_mono HO_76.out (fun k_ hk=>(⟨hk,hk.2⟩:_∧k_≠gb259))) (fun _ hk=>hk.2) (.int .i64 ((rd_T31 l1_3 x78_4).f0))) (fun _ hk=>hk.2) (.int .i64 ((rd_T31 l1_3 x78_4).f1))) (fun _ hk=>hk.2) (.string ((rd_T31 l1_3 x78_4).f2))) (fun _ hk=>hk.2) (.slice A258_3 ((rd_T31 l1_3 x78_4).f3).length c258_3)) (fun _ hk=>hk.2) (.slice A258_4 ((rd_T31 l1_3 x78_4).f4).length c258_4)) (fun _ hk=>⟨hk.1.1.1,⟨hk.1.1.2.1,⟨hk.1.1.2.2.1,⟨hk.1.1.2.2.2,hk.1.2⟩⟩⟩⟩)))⟩;have n1_:Aside0 (Kd.R Kd.string 9 w53 w0.heap.size (fun k_=>(P0_1_ k_∨w.heap.size≤k_)) u1001 x1001_4):=⟨(by rw [hw];exact (by (with_reducible repeat (first|apply Kd.R_alloc|apply Kd.R_drewN|apply Kd.R_drew));exact Kd.R_mono (Kd.R_far (p:=⟨gb259,4,none⟩) (Kd.R_far (p:=⟨gb259,3,none⟩) (Kd.R_far (p:=⟨gb259,2,none⟩) (Kd.R_far (p:=⟨gb259,1,none⟩) (Kd.R_far (p:=⟨gb259,0,none⟩) (Kd.R_types HO_1001.out BK259.out (by decide)) (fun _ hk=>hk.2) (.int .i64 ((rd_T31 l1_3 x78_4).f0))) (fun _ hk=>hk.2) (.int .i64 ((rd_T31 l1_3 x78_4).f1))) (fun _ hk=>hk.2) (.string ((rd_T31 l1_3 x78_4).f2))) (fun _ hk=>hk.2) (.slice A258_3 ((rd_T31 l1_3 x78_4).f3).length c258_3)) (fun _ hk=>hk.2) (.slice A258_4 ((rd_T31 l1_3 x78_4).f4).length c258_4)) (fun _ hk=>hk.1)))⟩;have n2_:Aside0 (Kd.V k31 31 w53 w0.heap.size (fun k_=>((P0_1_ k_∨P1_3_ k_)∨w.heap.size≤k_)∧some k_≠(u1001:Value).ownBlock∧k_≠gb252∧k_≠g∧k_≠gb259) (.slice (some ad258) l1_3.length c1_3) l1_3):=⟨(by rw [hw];exact (by (with_reducible repeat (first|apply Kd.V_alloc|apply Kd.V_drewN|apply Kd.V_drew));exact Kd.V_mono (Kd.V_far (p:=⟨gb259,4,none⟩) (Kd.V_far (p:=⟨gb259,3,none⟩) (Kd.V_far (p:=⟨gb259,2,none⟩) (Kd.V_far (p:=⟨gb259,1,none⟩) (Kd.V_far (p:=⟨gb259,0,none⟩) (Kd.V_mono HO_253003.out (fun k_ hk=>(⟨hk,hk.2⟩:_∧k_≠gb259))) (fun _ hk=>hk.2) (.int .i64 ((rd_T31 l1_3 x78_4).f0))) (fun _ hk=>hk.2) (.int .i64 ((rd_T31 l1_3 x78_4).f1))) (fun _ hk=>hk.2) (.string ((rd_T31 l1_3 x78_4).f2))) (fun _ hk=>hk.2) (.slice A258_3 ((rd_T31 l1_3 x78_4).f3).length c258_3)) (fun _ hk=>hk.2) (.slice A258_4 ((rd_T31 l1_3 x78_4).f4).length c258_4)) (fun _ hk=>⟨hk.1.1.1,⟨hk.1.1.2.1,⟨hk.1.1.2.2.1,⟨hk.1.1.2.2.2,hk.1.2⟩⟩⟩⟩)))⟩;have n3_:Aside0 (Kd.V k31 31 w53 w0.heap.size (fun k_=>((P0_1_ k_∨P1_3_ k_)∨w.heap.size≤k_)∧some k_≠(u1001:Value).ownBlock∧k_≠gb252∧k_≠g∧k_≠gb259) (.slice A258_3 ((rd_T31 l1_3 x78_4).f3).length c258_3) ((rd_T31 l1_3 x78_4).f3)):=⟨(by rw [hw];exact (by (with_reducible repeat (first|apply Kd.V_alloc|apply Kd.V_drewN|apply Kd.V_drew));exact Kd.V_mono (Kd.V_far (p:=⟨gb259,4,none⟩) (Kd.V_far (p:=⟨gb259,3,none⟩) (Kd.V_far (p:=⟨gb259,2,none⟩) (Kd.V_far (p:=⟨gb259,1,none⟩) (Kd.V_far (p:=⟨gb259,0,none⟩) (Kd.V_mono HL258_3.out (fun k_ hk=>(⟨hk,hk.2⟩:_∧k_≠gb259))) (fun _ hk=>hk.2) (.int .i64 ((rd_T31 l1_3 x78_4).f0))) (fun _ hk=>hk.2) (.int .i64 ((rd_T31 l1_3 x78_4).f1))) (fun _ hk=>hk.2) (.string ((rd_T31 l1_3 x78_4).f2))) (fun _ hk=>hk.2) (.slice A258_3 ((rd_T31 l1_3 x78_4).f3).length c258_3)) (fun _ hk=>hk.2) (.slice A258_4 ((rd_T31 l1_3 x78_4).f4).length c258_4)) (fun _ hk=>⟨hk.1.1.1,⟨hk.1.1.2.1,⟨hk.1.1.2.2.1,⟨hk.1.1.2.2.2,hk.1.2⟩⟩⟩⟩)))⟩;have n4_:Aside0 (Kd.V k53 53 w53 w0.heap.size (fun k_=>((P0_1_ k_∨P1_3_ k_)∨w.heap.size≤k_)∧some k_≠(u1001:Value).ownBlock∧k_≠gb252∧k_≠g∧k_≠gb259) (.slice A258_4 ((rd_T31 l1_3 x78_4).f4).length c258_4) ((rd_T31 l1_3 x78_4).f4)):=⟨(by rw [hw];exact (by (with_reducible repeat (first|apply Kd.V_alloc|apply Kd.V_drewN|apply Kd.V_drew));exact Kd.V_mono (Kd.V_far (p:=⟨gb259,4,none⟩) (Kd.V_far (p:=⟨gb259,3,none⟩) (Kd.V_far (p:=⟨gb259,2,none⟩) (Kd.V_far (p:=⟨gb259,1,none⟩) (Kd.V_far (p:=⟨gb259,0,none⟩) (Kd.V_mono HL258_4.out (fun k_ hk=>(⟨hk,hk.2⟩:_∧k_≠gb259))) (fun _ hk=>hk.2) (.int .i64 ((rd_T31 l1_3 x78_4).f0))) (fun _ hk=>hk.2) (.int .i64 ((rd_T31 l1_3 x78_4).f1))) (fun _ hk=>hk.2) (.string ((rd_T31 l1_3 x78_4).f2))) (fun _ hk=>hk.2) (.slice A258_3 ((rd_T31 l1_3 x78_4).f3).length c258_3)) (fun _ hk=>hk.2) (.slice A258_4 ((rd_T31 l1_3 x78_4).f4).length c258_4)) (fun _ hk=>⟨hk.1.1.1,⟨hk.1.1.2.1,⟨hk.1.1.2.2.1,⟨hk.1.1.2.2.2,hk.1.2⟩⟩⟩⟩)))⟩;have n5_:Aside0 (w53.heap[gb252]? = some (.cells #[.int .i64 a1_0,.int .i64 a1_1,.string a1_2,.slice (some ad258) l1_3.length c1_3,.slice A1_4 l1_4.length c1_4] 31 (0,0))):=⟨(by rw [hw];exact (by (with_reducible repeat (first|refine blk_drewN ?_ _|refine blk_drew ?_|refine blk_alloc ?_ _));refine blk_far ?_ NB252_259.out _;(with_reducible repeat (first|refine blk_drewN ?_ _|refine blk_drew ?_|refine blk_alloc ?_ _));refine blk_far ?_ NB252_259.out _;(with_reducible repeat (first|refine blk_drewN ?_ _|refine blk_drew ?_|refine blk_alloc ?_ _));refine blk_far ?_ NB252_259.out _;(with_reducible repeat (first|refine blk_drewN ?_ _|refine blk_drew ?_|refine blk_alloc ?_ _));refine blk_far ?_ NB252_259.out _;(with_reducible repeat (first|refine blk_drewN ?_ _|refine blk_drew ?_|refine blk_alloc ?_ _));refine blk_far ?_ NB252_259.out _;(with_reducible repeat (first|refine blk_drewN ?_ _|refine blk_drew ?_|refine blk_alloc ?_ _));exact BK252.out))⟩;have n6_:Aside0 (w53.heap[gb259]? = some (.cells #[.int .i64 ((rd_T31 l1_3 x78_4).f0),.int .i64 ((rd_T31 l1_3 x78_4).f1),.string ((rd_T31 l1_3 x78_4).f2),.slice A258_3 ((rd_T31 l1_3 x78_4).f3).length c258_3,.slice A258_4 ((rd_T31 l1_3 x78_4).f4).length c258_4] 31 (0,0))):=⟨(by rw [hw];exact (by (with_reducible repeat (first|refine blk_drewN ?_ _|refine blk_drew ?_|refine blk_alloc ?_ _));refine blk_put (cs:=#[.int .i64 ((rd_T31 l1_3 x78_4).f0),.int .i64 ((rd_T31 l1_3 x78_4).f1),.string ((rd_T31 l1_3 x78_4).f2),.slice A258_3 ((rd_T31 l1_3 x78_4).f3).length c258_3,.slice none 0 0]) ?_ 4 _ rfl;(with_reducible repeat (first|refine blk_drewN ?_ _|refine blk_drew ?_|refine blk_alloc ?_ _));refine blk_put (cs:=#[.int .i64 ((rd_T31 l1_3 x78_4).f0),.int .i64 ((rd_T31 l1_3 x78_4).f1),.string ((rd_T31 l1_3 x78_4).f2),.slice none 0 0,.slice none 0 0]) ?_ 3 _ rfl;(with_reducible repeat (first|refine blk_drewN ?_ _|refine blk_drew ?_|refine blk_alloc ?_ _));refine blk_put (cs:=#[.int .i64 ((rd_T31 l1_3 x78_4).f0),.int .i64 ((rd_T31 l1_3 x78_4).f1),.string (⟨#[]⟩:ByteArray),.slice none 0 0,.slice none 0 0]) ?_ 2 _ rfl;(with_reducible repeat (first|refine blk_drewN ?_ _|refine blk_drew ?_|refine blk_alloc ?_ _));refine blk_put (cs:=#[.int .i64 ((rd_T31 l1_3 x78_4).f0),.int .i64 0,.string (⟨#[]⟩:ByteArray),.slice none 0 0,.slice none 0 0]) ?_ 1 _ rfl;(with_reducible repeat (first|refine blk_drewN ?_ _|refine blk_drew ?_|refine blk_alloc ?_ _));refine blk_put (cs:=#[.int .i64 0,.int .i64 0,.string (⟨#[]⟩:ByteArray),.slice none 0 0,.slice none 0 0]) ?_ 0 _ rfl;(with_reducible repeat (first|refine blk_drewN ?_ _|refine blk_drew ?_|refine blk_alloc ?_ _));exact BK259.out))⟩;have n7_:Aside0 (IsS42 w0 w53 g x1000_4 u1001):=⟨(by rw [hw];exact (by repeat (first|(with_reducible first|exact HI0.out|apply IsS42.alloc|apply IsS42.drewN|apply IsS42.drew|apply IsS42.set_0|apply IsS42.set_1|refine IsS42.far ?_ NB0_252.out _|refine IsS42.far ?_ NB0_259.out _)|exact HI0.out)))⟩;have n8_:Aside0 (Kept w w53 (fun k_=>(P0_1_ k_)∨k_ = g)):=⟨(by rw [hw];exact (by repeat (first|(with_reducible first|exact HK.out|apply Kept.alloc|apply Kept.drewN|apply Kept.drew|refine Kept.setCell ?_ (.inl (.inr rfl)) _|refine Kept.setCell ?_ (.inr GW252.out) _|refine Kept.setCell ?_ (.inr GW259.out) _)|exact HK.out)))⟩;have n9_:Aside0 (Below w0.heap.size w0 w53):=⟨(by rw [hw];exact (by repeat (first|(with_reducible first|exact HB.out|apply below_alloc|apply pw_below_drewN|apply below_drew1|refine below_set ?_ (IsS42.ge HI0.out)|refine below_set ?_ GE252.out|refine below_set ?_ GE259.out)|exact HB.out)))⟩;clear hw;clear HO_76;clear HO_1001;clear HO_253003;clear HL258_3;clear HL258_4;clear BK252;clear BK259;clear HI0;clear HK;clear HB;have HO_76:=n0_;have HO_1001:=n1_;have HO_253003:=n2_;have HL258_3:=n3_;have HL258_4:=n4_;have BK252:=n5_;have BK259:=n6_;have HI0:=n7_;have HK:=n8_;have HB:=n9_;clear n0_ n1_ n2_ n3_ n4_ n5_ n6_ n7_ n8_ n9_;have hcz54_0:w53.cell? ⟨gb259,0,none⟩ = some (.int .i64 ((rd_T31 l1_3 x78_4).f0)):=(blk_cell BK259.out 0).trans rfl;have hcz54_1:w53.cell? ⟨gb259,1,none⟩ = some (.int .i64 ((rd_T31 l1_3 x78_4).f1)):=(blk_cell BK259.out 1).trans rfl;have hcz54_2:w53.cell? ⟨gb259,2,none⟩ = some (.string ((rd_T31 l1_3 x78_4).f2)):=(blk_cell BK259.out 2).trans rfl;have hcz54_3:w53.cell? ⟨gb259,3,none⟩ = some (.slice A258_3 ((rd_T31 l1_3 x78_4).f3).length c258_3):=(blk_cell BK259.out 3).trans rfl;have hcz54_4:w53.cell? ⟨gb259,4,none⟩ = some (.slice A258_4 ((rd_T31 l1_3 x78_4).f4).length c258_4):=(blk_cell BK259.out 4).trans rfl;have hfz54_0:=blk_frozen BK259.out 0;have hfz54_1:=blk_frozen BK259.out 1;have hfz54_2:=blk_frozen BK259.out 2;have hfz54_3:=blk_frozen BK259.out 3;have hfz54_4:=blk_frozen BK259.out 4)|((with_reducible refine gate_callee (f:=23) rfl ?_);refine goesL_ (some 86) rfl rfl Try.func23 (by kernel_rfl) rfl #[.pointer (some ⟨g,0,none⟩),.agg #[.int .i64 ((rd_T31 l1_3 x78_4).f0),.int .i64 ((rd_T31 l1_3 x78_4).f1),.string ((rd_T31 l1_3 x78_4).f2),.slice A258_3 ((rd_T31 l1_3 x78_4).f3).length c258_3,.slice A258_4 ((rd_T31 l1_3 x78_4).f4).length c258_4],.int .i64 (wrap64 (a2 + 1))] rfl (by (try simp only [List.map_toArray,List.map_cons,List.map_nil]);first|done|rfl|(simp only [List.length_drop,List.length_take];rfl)) ?_;(with_reducible refine (ih k4 (by have:=HJ3.out;have:=HJ22.out;have:=HJ28.out;have:=HK4.out;omega) g x1000_4 (fun k_=>some k_ = (u1001:Value).ownBlock) u1001 x1001_4 ((rd_T31 l1_3 x78_4).f0) ((rd_T31 l1_3 x78_4).f1) ((rd_T31 l1_3 x78_4).f2) (fun k_=>(((P0_1_ k_∨P1_3_ k_)∨w.heap.size≤k_)∧(some k_≠(u1001:Value).ownBlock∧(k_≠gb252∧(k_≠g∧k_≠gb259))))) _ _ ((rd_T31 l1_3 x78_4).f3) _ _ ((rd_T31 l1_3 x78_4).f4) (wrap64 (a2 + 1)) _ t261 t264 w0 _ ?side1 ?side2 ?side3 ?side4 ?side5 ?side6 A47.out).mono ?_);(case side1=>repeat (first|(with_reducible first|exact HI0.out|apply IsS42.alloc|apply IsS42.drewN|apply IsS42.drew|apply IsS42.set_0|apply IsS42.set_1|refine IsS42.far ?_ NB0_252.out _|refine IsS42.far ?_ NB0_259.out _)|exact HI0.out));(case side2=>repeat (first|(with_reducible first|exact HB.out|apply below_alloc|apply pw_below_drewN|apply below_drew1|refine below_set ?_ (IsS42.ge HI0.out)|refine below_set ?_ GE252.out|refine below_set ?_ GE259.out)|exact HB.out));(case side3=>exact Kd.R_tight rfl HO_1001.out);(case side4=>exact Kd.V_mono (HL258_3.out) (fun k_ hk_=>⟨hk_,hk_.2.1,hk_.2.2.2.1⟩));(case side5=>exact Kd.C_kept_ownV (HL258_4.out) (fun k_ hk_ hs_=>Or.elim hs_ (fun hs_=>(hk_.2.1) hs_) (fun e_=>(hk_.2.2.2.1) e_)));(case side6=>exact HC258_4.out);rintro e w55 ⟨v262,rfl,ho0,hi,hb,hkp⟩;refine ⟨_,rfl,?_⟩;have n0_:=Aside0.mk (Kd.V_mono (ok':=fun k_=>((P0_1_ k_∨P1_3_ k_)∨w.heap.size≤k_)∧k_≠gb252∧k_≠gb259∧k_≠g∧some k_≠(v262:Value).ownBlock) (Kd.V_keptB (HO_76.out) hkp (fun k_ hk_ hs_=>Or.elim hs_ (fun hs_=>(hk_.2.1) hs_) (fun e_=>(hk_.2.2.2.1) e_))) (fun k_ hk_=>⟨hk_.1.1,hk_.1.2.2.1,hk_.1.2.2.2.2,hk_.1.2.2.2.1,fun e_=>Or.elim (ho0.1 k_ e_.symm) (fun hs_=>hk_.2.1 (.inl hs_)) (fun hn_=>Nat.not_le.2 hk_.2.2 hn_)⟩));have n1_:=Aside0.mk (Kd.V_mono (ok':=fun k_=>((P0_1_ k_∨P1_3_ k_)∨w.heap.size≤k_)∧k_≠gb252∧k_≠gb259∧k_≠g∧some k_≠(v262:Value).ownBlock) (Kd.V_keptB (HO_253003.out) hkp (fun k_ hk_ hs_=>Or.elim hs_ (fun hs_=>(hk_.2.1) hs_) (fun e_=>(hk_.2.2.2.1) e_))) (fun k_ hk_=>⟨hk_.1.1,hk_.1.2.2.1,hk_.1.2.2.2.2,hk_.1.2.2.2.1,fun e_=>Or.elim (ho0.1 k_ e_.symm) (fun hs_=>hk_.2.1 (.inl hs_)) (fun hn_=>Nat.not_le.2 hk_.2.2 hn_)⟩));have n2_:=Aside0.mk (blk_kept (by (with_reducible repeat (first|refine blk_drewN ?_ _|refine blk_drew ?_|refine blk_alloc ?_ _));exact BK252.out) hkp (fun hs_=>Or.elim hs_ (fun hs_=>(fun e_=>(Kd.R_ne HO_1001.out BK252.out (by decide)) e_) hs_) (fun e_=>NB252_0.out e_)));have n3_:=Aside0.mk (hi);have n4_:=Aside0.mk (Kd.V_mono (ok':=fun k_=>((P0_1_ k_∨P1_3_ k_)∨w.heap.size≤k_)∧k_≠gb252∧k_≠gb259∧k_≠g∧some k_≠(v262:Value).ownBlock) (Kd.V_keptB (HL258_3.out) hkp (fun k_ hk_ hs_=>Or.elim hs_ (fun hs_=>(hk_.2.1) hs_) (fun e_=>(hk_.2.2.2.1) e_))) (fun k_ hk_=>⟨hk_.1.1,hk_.1.2.2.1,hk_.1.2.2.2.2,hk_.1.2.2.2.1,fun e_=>Or.elim (ho0.1 k_ e_.symm) (fun hs_=>hk_.2.1 (.inl hs_)) (fun hn_=>Nat.not_le.2 hk_.2.2 hn_)⟩));have n5_:=Aside0.mk (Kd.V_mono (ok':=fun k_=>((P0_1_ k_∨P1_3_ k_)∨w.heap.size≤k_)∧k_≠gb252∧k_≠gb259∧k_≠g∧some k_≠(v262:Value).ownBlock) (Kd.V_keptB (HL258_4.out) hkp (fun k_ hk_ hs_=>Or.elim hs_ (fun hs_=>(hk_.2.1) hs_) (fun e_=>(hk_.2.2.2.1) e_))) (fun k_ hk_=>⟨hk_.1.1,hk_.1.2.2.1,hk_.1.2.2.2.2,hk_.1.2.2.2.1,fun e_=>Or.elim (ho0.1 k_ e_.symm) (fun hs_=>hk_.2.1 (.inl hs_)) (fun hn_=>Nat.not_le.2 hk_.2.2 hn_)⟩));have n6_:=Aside0.mk (blk_kept (by (with_reducible repeat (first|refine blk_drewN ?_ _|refine blk_drew ?_|refine blk_alloc ?_ _));exact BK259.out) hkp (fun hs_=>Or.elim hs_ (fun hs_=>(fun e_=>(Kd.R_ne HO_1001.out BK259.out (by decide)) e_) hs_) (fun e_=>NB259_0.out e_)));have n7_:=Aside0.mk (Kd.R_mono (ok':=fun k_=>(P0_1_ k_∨w.heap.size≤k_)) ho0 (fun k_ hk_=>Or.elim hk_ (fun hs_=>(HO_1001.out.1 k_ (hs_).symm)) (fun hn_=>(.inr (Nat.le_trans (by first|exact HK.out.1|exact (show Kept w _ (fun k_=>(P0_1_ k_)∨k_ = g) from by repeat (first|(with_reducible first|exact HK.out|apply Kept.alloc|apply Kept.drewN|apply Kept.drew|refine Kept.setCell ?_ (.inl (.inr rfl)) _|refine Kept.setCell ?_ (.inr GW252.out) _|refine Kept.setCell ?_ (.inr GW259.out) _)|exact HK.out)).1) hn_)))));have n8_:=Aside0.mk (Kept.then_ (S:=(fun k_=>(P0_1_ k_)∨k_ = g)) (by repeat (first|(with_reducible first|exact HK.out|apply Kept.alloc|apply Kept.drewN|apply Kept.drew|refine Kept.setCell ?_ (.inl (.inr rfl)) _|refine Kept.setCell ?_ (.inr GW252.out) _|refine Kept.setCell ?_ (.inr GW259.out) _)|exact HK.out)) hkp (fun k_ hs_=>Or.elim hs_ (fun hs_=>(fun e_=>Or.imp_left Or.inl ((HO_1001.out.1 k_ e_.symm))) hs_) (fun e_=>.inl (.inr e_))));have n9_:=Aside0.mk (hb);clear HO_76;clear HO_253003;clear BK252;clear HI0;clear HL258_3;clear HL258_4;clear BK259;clear HK;clear HB;clear HO_1001;have HO_76:=n0_;have HO_253003:=n1_;have BK252:=n2_;have HI0:=n3_;have HL258_3:=n4_;have HL258_4:=n5_;have BK259:=n6_;have HO263:=n7_;have HK:=n8_;have HB:=n9_;clear n0_ n1_ n2_ n3_ n4_ n5_ n6_ n7_ n8_ n9_;(try clear hb);(try clear hkp);(try clear ho0)))
             ·go_roundg k4
              case measure=>have:=HJ3.out;have:=HJ22.out;have:=HJ28.out;have:=HK4.out;omega
              case rel=>exact ⟨(wrap64 (x78_4 + 1)),(t264),(t261),(v262),(by first|rfl|(simp;done)|(simp [*];done)),H',⟨by have:=HJ3.out;have:=HJ22.out;have:=HJ28.out;have:=HK4.out;omega⟩,⟨by (with_reducible repeat (first|apply Kd.V_alloc|apply Kd.V_drewN|apply Kd.V_drew));exact Kd.V_mono HO_76.out (fun _ hk=>⟨hk.1,⟨hk.2.2.2.2,⟨hk.2.1,hk.2.2.2.1⟩⟩⟩)⟩,⟨by (with_reducible repeat (first|apply Kd.R_alloc|apply Kd.R_drewN|apply Kd.R_drew));exact HO263.out⟩,⟨by (with_reducible repeat (first|apply Kd.V_alloc|apply Kd.V_drewN|apply Kd.V_drew));exact Kd.V_mono HO_253003.out (fun _ hk=>⟨hk.1,⟨hk.2.2.2.2,⟨hk.2.1,hk.2.2.2.1⟩⟩⟩)⟩,⟨by (with_reducible repeat (first|refine blk_drewN ?_ _|refine blk_drew ?_|refine blk_alloc ?_ _));exact BK252.out⟩,⟨by repeat (first|(with_reducible first|exact HI0.out|apply IsS42.alloc|apply IsS42.drewN|apply IsS42.drew|apply IsS42.set_0|apply IsS42.set_1|refine IsS42.far ?_ NB0_252.out _|refine IsS42.far ?_ NB0_259.out _)|exact HI0.out)⟩,⟨by repeat (first|(with_reducible first|exact HK.out|apply Kept.alloc|apply Kept.drewN|apply Kept.drew|refine Kept.setCell ?_ (.inl (.inr rfl)) _|refine Kept.setCell ?_ (.inr GW252.out) _|refine Kept.setCell ?_ (.inr GW259.out) _)|exact HK.out)⟩,⟨by repeat (first|(with_reducible first|exact HB.out|apply below_alloc|apply pw_below_drewN|apply below_drew1|refine below_set ?_ (IsS42.ge HI0.out)|refine below_set ?_ GE252.out|refine below_set ?_ GE259.out)|exact HB.out)⟩⟩
             ·go_ret
              exact ⟨_,by first|rfl|(simp [*,errW_none,errW_some] <;> rfl),by (with_reducible repeat (first|apply Kd.R_alloc|apply Kd.R_drewN|apply Kd.R_drew));exact HO263.out,by repeat (first|(with_reducible first|exact HI0.out|apply IsS42.alloc|apply IsS42.drewN|apply IsS42.drew|apply IsS42.set_0|apply IsS42.set_1|refine IsS42.far ?_ NB0_252.out _|refine IsS42.far ?_ NB0_259.out _)|exact HI0.out),by repeat (first|(with_reducible first|exact HB.out|apply below_alloc|apply pw_below_drewN|apply below_drew1|refine below_set ?_ (IsS42.ge HI0.out)|refine below_set ?_ GE252.out|refine below_set ?_ GE259.out)|exact HB.out),by repeat (first|(with_reducible first|exact HK.out|apply Kept.alloc|apply Kept.drewN|apply Kept.drew|refine Kept.setCell ?_ (.inl (.inr rfl)) _|refine Kept.setCell ?_ (.inr GW252.out) _|refine Kept.setCell ?_ (.inr GW259.out) _)|exact HK.out)⟩
            ·rw [if_neg c46] at H
             exact absurd H (by simp)
           ·rw [if_neg c45] at H
            exact absurd H (by simp)
          ·rw [if_neg c44] at H
           have c44b0:decide (x78_4 < (l1_3.length:Int)) = false:=decide_eq_false c44
           clear c44
           simp only [Option.some.injEq,Prod.mk.injEq] at H
           obtain ⟨rfl,rfl,rfl⟩:=H
           go_wp2
           go_ret
           exact ⟨_,by first|rfl|(simp [*,errW_none,errW_some] <;> rfl),by (with_reducible repeat (first|apply Kd.R_alloc|apply Kd.R_drewN|apply Kd.R_drew));exact HO_1001.out,by repeat (first|(with_reducible first|exact HI0.out|apply IsS42.alloc|apply IsS42.drewN|apply IsS42.drew|apply IsS42.set_0|apply IsS42.set_1|refine IsS42.far ?_ NB0_252.out _)|exact HI0.out),by repeat (first|(with_reducible first|exact HB.out|apply below_alloc|apply pw_below_drewN|apply below_drew1|refine below_set ?_ (IsS42.ge HI0.out)|refine below_set ?_ GE252.out)|exact HB.out),by repeat (first|(with_reducible first|exact HK.out|apply Kept.alloc|apply Kept.drewN|apply Kept.drew|refine Kept.setCell ?_ (.inl (.inr rfl)) _|refine Kept.setCell ?_ (.inr GW252.out) _)|exact HK.out)⟩

end Go.Proofs.Ytjgegnkphkfmoaa.QFnExactExprOk
