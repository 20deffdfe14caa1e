-- Written by a program of this workplace (print2.py) for this claim, over the print's words.
import Derived.Test.YtaobcdpadpkngaaQFnPatternsx0
import Derived.Test.YtaobcdpadpkngaaQFnPatternsx14
import Derived.Test.YtaobcdpadpkngaaQFnPatternsx15
namespace Go.Proofs.Ytaobcdpadpkngaa.QFnPatterns
open Go.RowKit Go.Proofs.YtaobcdpadpkngaaW.PrintWords Go.Proofs.YtaobcdpadpkngaaW.PrintLast Go.Proofs.YtaobcdpadpkngaaW.PrintMore
attribute [local go_sem] max2_int min2_int max_two min_two max_three min_three max_four min_four   -- for this text's walks alone
set_option linter.unusedVariables false
set_option linter.unusedSimpArgs false

/-- A state of type 37 at block g of W; what its slices lead to came in by w0. -/
def IsS37 (w0 W:World) (g:Nat) (f0:Int) (f1:Value):Prop:=W.heap[g]? = some (.cells #[.int .i64 f0,f1] 37 (0,0))∧w0.heap.size≤g
theorem IsS37.grown {w0 W:World} {g:Nat} {f0:Int} {f1:Value} {W1:World} {row:Option Nat} (h:IsS37 w0 W g f0 f1) (hw:W.grownBy W1 row) (hne:some g≠row):IsS37 w0 W1 g f0 f1:=by
 obtain ⟨hb,hg⟩:=h
 exact ⟨blk_grown hb hw hne,hg⟩
theorem IsS37.own_neN {w0 W:World} {g:Nat} {f0:Int} {f1:Value} {α:Type} {d:Kd α} {e:Nat} {base:Nat} {ok:Nat → Prop} {v:Value} {xs:List α} (h:IsS37 w0 W g f0 f1) (ho:Kd.N d e W base ok v xs) (ht:e≠37):some g≠v.ownBlock:=by
 obtain ⟨hb,hg⟩:=h
 exact Kd.N_ne ho hb ht
theorem IsS37.fresh {w0 W:World} {g:Nat} {f0:Int} {f1:Value} (h:IsS37 w0 W g f0 f1):∀ k,W.heap.size≤k → k≠g:=by
 obtain ⟨hb,hg⟩:=h
 exact Kd.freshB hb
theorem IsS37.kept {w0 W:World} {g:Nat} {f0:Int} {f1:Value} {W1:World} {S:Nat → Prop} (h:IsS37 w0 W g f0 f1) (hk:Kept W W1 S) (hne : ¬ S g):IsS37 w0 W1 g f0 f1:=by
 obtain ⟨hb,hg⟩:=h
 exact ⟨blk_kept hb hk hne,hg⟩
theorem IsS37.below {w0 W:World} {g:Nat} {f0:Int} {f1:Value} {W1:World} (h:IsS37 w0 W g f0 f1) (hw:Below W.heap.size W W1):IsS37 w0 W1 g f0 f1:=h.grown (grown_of_below hw none) (by simp)
theorem IsS37.alloc {w0 W:World} {g:Nat} {f0:Int} {f1:Value} (h:IsS37 w0 W g f0 f1) (o:Obj):IsS37 w0 (W.alloc o) g f0 f1:=h.below (below_alloc (Below.refl _ _) o)
theorem IsS37.drewN {w0 W:World} {g:Nat} {f0:Int} {f1:Value} (h:IsS37 w0 W g f0 f1) (m:Nat):IsS37 w0 (W.drewN m) g f0 f1:=h
theorem IsS37.drew {w0 W:World} {g:Nat} {f0:Int} {f1:Value} (h:IsS37 w0 W g f0 f1):IsS37 w0 W.drew g f0 f1:=h
theorem IsS37.at_ {w0 W:World} {g:Nat} {f0:Int} {f1:Value} {w':World} {m:Nat} (hq:W.drewN m = w') (h:IsS37 w0 W g f0 f1):IsS37 w0 w' g f0 f1:=by subst hq;exact IsS37.drewN h m
theorem IsS37.apart {w0 W:World} {g:Nat} {f0:Int} {f1:Value} {α:Type} {d:Kd α} {e:Nat} {base:Nat} {ok:Nat → Prop} {v:Value} {xs:List α} (h:IsS37 w0 W g f0 f1) (ho:d.R e W base ok v xs) (ht:∀ q,q ∈ e :: d.E → q≠37):d.R e W base (fun k=>ok k∧k≠g) v xs:=by
 obtain ⟨hb,hg⟩:=h
 exact Kd.R_types ho hb ht
theorem IsS37.own_ne {w0 W:World} {g:Nat} {f0:Int} {f1:Value} {α:Type} {d:Kd α} {e:Nat} {base:Nat} {ok:Nat → Prop} {v:Value} {xs:List α} (h:IsS37 w0 W g f0 f1) (ho:d.R e W base ok v xs) (ht:e≠37):some g≠v.ownBlock:=by
 obtain ⟨hb,hg⟩:=h
 exact Kd.R_ne ho hb ht
theorem IsS37.apartQ {w0 W:World} {g:Nat} {f0:Int} {f1:Value} {α:Type} {d:Kd α} {e:Nat} {base:Nat} {ok:Nat → Prop} {v:Value} {xs:List α} (h:IsS37 w0 W g f0 f1) (ho:d.Q e W base ok v xs) (ht:∀ q,q ∈ e :: d.E → q≠37):d.Q e W base (fun k=>ok k∧k≠g) v xs:=by
 obtain ⟨hb,hg⟩:=h
 exact Kd.Q_types ho hb ht
theorem IsS37.own_neQ {w0 W:World} {g:Nat} {f0:Int} {f1:Value} {α:Type} {d:Kd α} {e:Nat} {base:Nat} {ok:Nat → Prop} {v:Value} {xs:List α} (h:IsS37 w0 W g f0 f1) (ho:d.Q e W base ok v xs) (ht:e≠37):some g≠v.ownBlock:=by
 obtain ⟨hb,hg⟩:=h
 exact Kd.Q_ne ho hb ht
theorem IsS37.apartS {w0 W:World} {g:Nat} {f0:Int} {f1:Value} {α:Type} {d:Kd α} {e:Nat} {base:Nat} {ok:Nat → Prop} {v:Value} {xs:List α} (h:IsS37 w0 W g f0 f1) (ho:d.S e W base ok v xs) (ht:∀ q,q ∈ e :: d.E → q≠37):d.S e W base (fun k=>ok k∧k≠g) v xs:=by
 obtain ⟨hb,hg⟩:=h
 exact Kd.S_types ho hb ht
theorem IsS37.own_neS {w0 W:World} {g:Nat} {f0:Int} {f1:Value} {α:Type} {d:Kd α} {e:Nat} {base:Nat} {ok:Nat → Prop} {v:Value} {xs:List α} (h:IsS37 w0 W g f0 f1) (ho:d.S e W base ok v xs) (ht:e≠37):some g≠v.ownBlock:=by
 obtain ⟨hb,hg⟩:=h
 exact Kd.S_ne ho hb ht
theorem IsS37.cell_0 {w0 W:World} {g:Nat} {f0:Int} {f1:Value} (h:IsS37 w0 W g f0 f1):W.cell? ⟨g,0,none⟩ = some (.int .i64 f0):=by
 obtain ⟨hb,hg⟩:=h
 exact (blk_cell hb 0).trans rfl
theorem IsS37.froz_0 {w0 W:World} {g:Nat} {f0:Int} {f1:Value} (h:IsS37 w0 W g f0 f1):W.frozen? ⟨g,0,none⟩ = false:=by
 obtain ⟨hb,hg⟩:=h
 exact blk_frozen hb 0
theorem IsS37.cell_1 {w0 W:World} {g:Nat} {f0:Int} {f1:Value} (h:IsS37 w0 W g f0 f1):W.cell? ⟨g,1,none⟩ = some (f1):=by
 obtain ⟨hb,hg⟩:=h
 exact (blk_cell hb 1).trans rfl
theorem IsS37.froz_1 {w0 W:World} {g:Nat} {f0:Int} {f1:Value} (h:IsS37 w0 W g f0 f1):W.frozen? ⟨g,1,none⟩ = false:=by
 obtain ⟨hb,hg⟩:=h
 exact blk_frozen hb 1
theorem IsS37.lt {w0 W:World} {g:Nat} {f0:Int} {f1:Value} (h:IsS37 w0 W g f0 f1):g < W.heap.size:=by
 obtain ⟨hb,hg⟩:=h
 exact blk_lt hb
theorem IsS37.ge {w0 W:World} {g:Nat} {f0:Int} {f1:Value} (h:IsS37 w0 W g f0 f1):w0.heap.size≤g:=by
 obtain ⟨hb,hg⟩:=h
 exact hg
theorem IsS37.ne_blk {w0 W:World} {g:Nat} {f0:Int} {f1:Value} {a:Nat} {cs:Array Value} {t:TypeId} {fr:Nat × Nat} (h:IsS37 w0 W g f0 f1) (hb2:W.heap[a]? = some (.cells cs t fr)) (ht:t≠37):g≠a:=by
 obtain ⟨hb,hg⟩:=h;rintro rfl;rw [hb] at hb2
 injection hb2 with hb2
 injection hb2 with _ ht2
 exact ht ht2.symm
theorem IsS37.far {w0 W:World} {g:Nat} {f0:Int} {f1:Value} {p:Addr} (h:IsS37 w0 W g f0 f1) (hne:g≠p.block) (u:Value):IsS37 w0 (W.setCell p u) g f0 f1:=by
 obtain ⟨hb,hg⟩:=h
 exact ⟨blk_far hb hne u,hg⟩
theorem cellS37_0 {W:World} {g:Nat} {f0:Int} {f1:Value} (h:W.heap[g]? = some (.cells #[.int .i64 f0,f1] 37 (0,0))):W.cell? ⟨g,0,none⟩ = some (.int .i64 f0):=(blk_cell h 0).trans rfl
theorem IsS37.set_0 {w0 W:World} {g:Nat} {f0:Int} {f1:Value} (h:IsS37 w0 W g f0 f1) (x:Int):IsS37 w0 (W.setCell ⟨g,0,none⟩ (.int .i64 x)) g x f1:=by
 obtain ⟨hb,hg⟩:=h
 exact ⟨by simpa using blk_set hb 0 (.int .i64 x),hg⟩
theorem cellS37_1 {W:World} {g:Nat} {f0:Int} {f1:Value} (h:W.heap[g]? = some (.cells #[.int .i64 f0,f1] 37 (0,0))):W.cell? ⟨g,1,none⟩ = some (f1):=(blk_cell h 1).trans rfl
theorem IsS37.set_1 {w0 W:World} {g:Nat} {f0:Int} {f1:Value} (h:IsS37 w0 W g f0 f1) (x:Value):IsS37 w0 (W.setCell ⟨g,1,none⟩ (x)) g f0 x:=by
 obtain ⟨hb,hg⟩:=h
 exact ⟨by simpa using blk_set hb 1 (x),hg⟩
theorem IsS37.new (w0 W:World) (f0:Int) (f1:Value) (hB:Below w0.heap.size w0 W):IsS37 w0 (W.alloc (.cells #[.int .i64 f0,f1] 37)) W.heap.size f0 f1:=⟨by simpa using heap_alloc_new W _,hB.size⟩
theorem IsS37.of_blk {w0 W:World} {g:Nat} {f0:Int} {f1:Value} (hb:W.heap[g]? = some (.cells #[.int .i64 f0,f1] 37 (0,0))) (hg:w0.heap.size≤g):IsS37 w0 W g f0 f1:=⟨hb,hg⟩

theorem i37 {w0 W W':World} {g:Nat} {f0:Int} {f1:Value} {f0':Int} {f1':Value} (h:IsS37 w0 W g f0 f1) (k:IsS37 w0 W g f0 f1 → IsS37 w0 W' g f0' f1':=by intro h_;repeat (first|(with_reducible first|exact h_|apply IsS37.alloc|apply IsS37.drew|apply IsS37.drewN|apply IsS37.set_0|apply IsS37.set_1|refine IsS37.far ?_ (Aside0.out (by assumption)) _)|exact h_)):IsS37 w0 W' g f0' f1':=k h
theorem b37 {n:Nat} {w0 W W':World} (h:Below n w0 W) (k:Below n w0 W → Below n w0 W':=by intro h_;repeat (first|(with_reducible first|exact h_|apply below_alloc|apply pw_below_drewN|apply below_drew1|refine below_set ?_ (IsS37.ge (Aside0.out (by assumption)))|refine below_set ?_ (Aside0.out (by assumption)))|exact h_)):Below n w0 W':=k h
/-! ### impl_judge_pat: function 13 -/
mutual
def impl_judge_pat.j0:Nat → Int → Bool → Int → List ByteArray → Int → Int → ByteArray → List (S27) → List (S52) → Option (Bool × List ByteArray × Int)
 | 0,_,_,_,_,_,_,_,_,_=>none
 | k + 1,x2,x48,x1000,x1001,x752000,x752001,x752002,x752003,x752004=>if x48 = true then (some (false,x1001,x1000)) else (if x752000 = 3 then (impl_judge_pat.j1 k x2 (x752002.toList != ([95]:List UInt8)) x1000 x1001 x752000 x752001 x752002 x752003 x752004) else (impl_judge_pat.j1 k x2 false x1000 x1001 x752000 x752001 x752002 x752003 x752004))
def impl_judge_pat.j1:Nat → Int → Bool → Int → List ByteArray → Int → Int → ByteArray → List (S27) → List (S52) → Option (Bool × List ByteArray × Int)
 | 0,_,_,_,_,_,_,_,_,_=>none
 | k + 1,x2,x56,x1000,x1001,x752000,x752001,x752002,x752003,x752004=>if x56 = true then ((slices_Contains_string_string.f k x1001 x752002).bind fun t753=>(if t753 = true then (some (false,x1001,x1000)) else (if x1001.length < 8796093022208 then (impl_judge_pat.j2 k x2 x1000 (x1001 ++ [x752002]) x752000 x752001 x752002 x752003 x752004) else (none)))) else (impl_judge_pat.j2 k x2 x1000 x1001 x752000 x752001 x752002 x752003 x752004)
def impl_judge_pat.j2:Nat → Int → Int → List ByteArray → Int → Int → ByteArray → List (S27) → List (S52) → Option (Bool × List ByteArray × Int)
 | 0,_,_,_,_,_,_,_,_=>none
 | k + 1,x2,x1000,x1001,x752000,x752001,x752002,x752003,x752004=>impl_judge_pat.l0 k x2 x752003 (x752003.length:Int) 0 x1000 x1001
def impl_judge_pat.l0:Nat → Int → List (S27) → Int → Int → Int → List ByteArray → Option (Bool × List ByteArray × Int)
 | 0,_,_,_,_,_,_=>none
 | k + 1,x2,x76,x77,x78,x1000,x1001=>if x78 < x77 then (if 0≤x78 then (if x78 < (x76.length:Int) then ((impl_judge_pat.f k x1000 x1001 ((rd_T27 x76 x78).f0) ((rd_T27 x76 x78).f1) ((rd_T27 x76 x78).f2) ((rd_T27 x76 x78).f3) ((rd_T27 x76 x78).f4) (wrap64 (x2 + 1))).bind fun bt759=>(if bt759.1 = true then (impl_judge_pat.l0 k x2 x76 x77 (wrap64 (x78 + 1)) bt759.2.2 bt759.2.1) else (some (false,bt759.2.1,bt759.2.2)))) else (none)) else (none)) else (some (true,x1001,x1000))
def impl_judge_pat.f:Nat → Int → List ByteArray → Int → Int → ByteArray → List (S27) → List (S52) → Int → Option (Bool × List ByteArray × Int)
 | 0,_,_,_,_,_,_,_,_=>none
 | k + 1,s0_0,l0_1,a1_0,a1_1,a1_2,l1_3,l1_4,a2=>if a2 > 10 then (impl_judge_pat.j0 k a2 true (wrap64 (s0_0 + 1)) l0_1 a1_0 a1_1 a1_2 l1_3 l1_4) else (if (wrap64 (s0_0 + 1)) > 300 then (impl_judge_pat.j0 k a2 true (wrap64 (s0_0 + 1)) l0_1 a1_0 a1_1 a1_2 l1_3 l1_4) else (if a1_0 > 6 then (impl_judge_pat.j0 k a2 true (wrap64 (s0_0 + 1)) l0_1 a1_0 a1_1 a1_2 l1_3 l1_4) else (if (l1_4.length:Int) > 0 then (impl_judge_pat.j0 k a2 true (wrap64 (s0_0 + 1)) l0_1 a1_0 a1_1 a1_2 l1_3 l1_4) else ((impl_shapeOk.f k a1_0 a1_1 a1_2 (l1_3.length:Int)).bind fun t752=>(impl_judge_pat.j0 k a2 (!t752) (wrap64 (s0_0 + 1)) l0_1 a1_0 a1_1 a1_2 l1_3 l1_4)))))
end
theorem impl_judge_pat.mono_l:∀ k,(∀ y0 y1 y2 y3 y4 y5 y6 y7,LeO (impl_judge_pat.f k y0 y1 y2 y3 y4 y5 y6 y7) (impl_judge_pat.f (k + 1) y0 y1 y2 y3 y4 y5 y6 y7))∧(∀ y0 y1 y2 y3 y4 y5 y6 y7 y8,LeO (impl_judge_pat.j0 k y0 y1 y2 y3 y4 y5 y6 y7 y8) (impl_judge_pat.j0 (k + 1) y0 y1 y2 y3 y4 y5 y6 y7 y8))∧(∀ y0 y1 y2 y3 y4 y5 y6 y7 y8,LeO (impl_judge_pat.j1 k y0 y1 y2 y3 y4 y5 y6 y7 y8) (impl_judge_pat.j1 (k + 1) y0 y1 y2 y3 y4 y5 y6 y7 y8))∧(∀ y0 y1 y2 y3 y4 y5 y6 y7,LeO (impl_judge_pat.j2 k y0 y1 y2 y3 y4 y5 y6 y7) (impl_judge_pat.j2 (k + 1) y0 y1 y2 y3 y4 y5 y6 y7))∧(∀ y0 y1 y2 y3 y4 y5,LeO (impl_judge_pat.l0 k y0 y1 y2 y3 y4 y5) (impl_judge_pat.l0 (k + 1) y0 y1 y2 y3 y4 y5))
 | 0=>⟨fun _ _ _ _ _ _ _ _ r h=>by simp [impl_judge_pat.f] at h,fun _ _ _ _ _ _ _ _ _ r h=>by simp [impl_judge_pat.j0] at h,fun _ _ _ _ _ _ _ _ _ r h=>by simp [impl_judge_pat.j1] at h,fun _ _ _ _ _ _ _ _ r h=>by simp [impl_judge_pat.j2] at h,fun _ _ _ _ _ _ r h=>by simp [impl_judge_pat.l0] at h⟩
 | k + 1=>by
  obtain ⟨ih0,ih1,ih2,ih3,ih4⟩:=impl_judge_pat.mono_l k
  refine ⟨?_,?_,?_,?_,?_⟩
  ·intro y0 y1 y2 y3 y4 y5 y6 y7
   unfold impl_judge_pat.f
   with_reducible repeat' first|apply ih0|apply ih1|apply ih2|apply ih3|apply ih4|apply impl_shapeOk.mono|apply slices_Contains_string_string.mono|apply LeO.refl|apply LeO.none|apply LeO.ite|refine LeO.bind ?_ (fun _=>?_)
  ·intro y0 y1 y2 y3 y4 y5 y6 y7 y8
   unfold impl_judge_pat.j0
   with_reducible repeat' first|apply ih0|apply ih1|apply ih2|apply ih3|apply ih4|apply impl_shapeOk.mono|apply slices_Contains_string_string.mono|apply LeO.refl|apply LeO.none|apply LeO.ite|refine LeO.bind ?_ (fun _=>?_)
  ·intro y0 y1 y2 y3 y4 y5 y6 y7 y8
   unfold impl_judge_pat.j1
   with_reducible repeat' first|apply ih0|apply ih1|apply ih2|apply ih3|apply ih4|apply impl_shapeOk.mono|apply slices_Contains_string_string.mono|apply LeO.refl|apply LeO.none|apply LeO.ite|refine LeO.bind ?_ (fun _=>?_)
  ·intro y0 y1 y2 y3 y4 y5 y6 y7
   unfold impl_judge_pat.j2
   with_reducible repeat' first|apply ih0|apply ih1|apply ih2|apply ih3|apply ih4|apply impl_shapeOk.mono|apply slices_Contains_string_string.mono|apply LeO.refl|apply LeO.none|apply LeO.ite|refine LeO.bind ?_ (fun _=>?_)
  ·intro y0 y1 y2 y3 y4 y5
   unfold impl_judge_pat.l0
   with_reducible repeat' first|apply ih0|apply ih1|apply ih2|apply ih3|apply ih4|apply impl_shapeOk.mono|apply slices_Contains_string_string.mono|apply LeO.refl|apply LeO.none|apply LeO.ite|refine LeO.bind ?_ (fun _=>?_)
theorem impl_judge_pat.mono:∀ a0 a1 a2 a3 a4 a5 a6 a7 k,LeO (impl_judge_pat.f k a0 a1 a2 a3 a4 a5 a6 a7) (impl_judge_pat.f (k + 1) a0 a1 a2 a3 a4 a5 a6 a7):=by
 intro a0 a1 a2 a3 a4 a5 a6 a7 k;obtain ⟨ih0,ih1,ih2,ih3,ih4⟩:=impl_judge_pat.mono_l k
 exact ih0 a0 a1 a2 a3 a4 a5 a6 a7
def impl_judge_pat.T7:Bool × List (List Nat × List Nat):=(true,[([],[]),([],[]),([1],[1]),([2],[2]),([3],[3]),([],[]),([5],[5]),([6],[6]),([4,7],[4,7]),([0,0,1,2,3,4,5,6,7,8],[0]),([9,0,1,2,3,4,5,6,7,8],[9]),([10,8,8,0,1,2,3,4,5,6,7,8],[8,10])])
def impl_judge_pat.B7:List Nat:=[0,0,2,6,14,0,32,96,254,511,1023,2047]
theorem impl_judge_pat.tab7:rtab .any (opsOf Try.f13 7) = impl_judge_pat.T7:=by kernel_rfl
theorem impl_judge_pat.bits7:waitsOk impl_judge_pat.T7.2 impl_judge_pat.B7 = true:=by kernel_rfl
set_option maxHeartbeats 8000000 in
set_option maxRecDepth 100000 in
theorem impl_judge_pat.calls (k:Nat):∀ (g:Nat) (s0_0:Int) (P0_1_:Nat → Prop) (u9000_:Value) (l0_1:List ByteArray) (a1_0:Int) (a1_1:Int) (a1_2:ByteArray) (P1_3_:Nat → Prop) (A1_3:Option Addr) (c1_3:Nat) (l1_3:List (S27)) (A1_4:Option Addr) (c1_4:Nat) (l1_4:List (S52)) (a2:Int) (r1:Bool) (r2:List ByteArray) (r3:Int) (w0 w:World) (hI:IsS37 w0 w g s0_0 u9000_) (hB:Below w0.heap.size w0 w) (ho0_1:Kd.R Kd.string 9 w w0.heap.size P0_1_ u9000_ l0_1) (hs1_3:Kd.V k27 27 w w0.heap.size (fun k_=>P1_3_ k_∧some k_≠(u9000_:Value).ownBlock∧k_≠g) (.slice A1_3 l1_3.length c1_3) l1_3) (hr1_4:∀ W_,Kept w W_ (fun k_=>(P0_1_ k_)∨k_ = g) → Kd.C k52 W_ A1_4 l1_4.length l1_4) (hc1_4:l1_4.length≤c1_4) (h:impl_judge_pat.f k s0_0 l0_1 a1_0 a1_1 a1_2 l1_3 l1_4 a2 = some (r1,r2,r3)),
  Calls Try.prog 13 #[.pointer (some ⟨g,0,none⟩),.agg #[.int .i64 a1_0,.int .i64 a1_1,.string a1_2,.slice A1_3 l1_3.length c1_3,.slice A1_4 l1_4.length c1_4],.int .i64 a2] w fun e w'=>∃ v1_:Value,e = .returned (.bool r1)∧Kd.R Kd.string 9 w' w0.heap.size (fun k_=>(P0_1_ k_∨w.heap.size≤k_)) v1_ r2∧IsS37 w0 w' g r3 v1_∧Below w0.heap.size w0 w'∧Kept w w' (fun k_=>(P0_1_ k_)∨k_ = g):=by
 induction k using Nat.strongRecOn with
 | _ k ih =>
 intro g s0_0 P0_1_ u9000_ l0_1 a1_0 a1_1 a1_2 P1_3_ A1_3 c1_3 l1_3 A1_4 c1_4 l1_4 a2 r1 r2 r3 w0 w hI hB ho0_1 hs1_3 hr1_4 hc1_4 h
 cases k with
 | zero=>exact absurd h (by simp [impl_judge_pat.f])
 | succ k =>
 simp only [impl_judge_pat.f] at h;have hu27:=Try.underlying27;have HO0_1:=Aside0.mk (show Kd.R Kd.string 9 w w0.heap.size (fun k_=>(P0_1_ k_∨w.heap.size≤k_)) u9000_ l0_1 from Kd.R_mono ho0_1 (fun k_ hk=>(.inl hk)));have HO1_3:=Aside0.mk (show Kd.V k27 27 w w0.heap.size (fun k_=>((P0_1_ k_∨P1_3_ k_)∨w.heap.size≤k_)∧some k_≠(u9000_:Value).ownBlock∧k_≠g) (.slice A1_3 l1_3.length c1_3) l1_3 from Kd.V_mono hs1_3 (fun k_ hk=>⟨.inl (.inr hk.1),hk.2⟩));have HR1_4:=Aside0.mk hr1_4;have HC1_4:=Aside0.mk hc1_4;clear hr1_4 hc1_4;have HI0:=Aside0.mk hI;have HL:=Aside0.mk hB.size;clear hI;have HK:=Aside0.mk (Kept.refl w (fun k_=>(P0_1_ k_)∨k_ = g));have HW0:=Aside0.mk hB.size;have HB:=Aside0.mk hB;clear hB;have H:(if a2 > 10 then (impl_judge_pat.j0 k a2 true (wrap64 (s0_0 + 1)) l0_1 a1_0 a1_1 a1_2 l1_3 l1_4) else (if (wrap64 (s0_0 + 1)) > 300 then (impl_judge_pat.j0 k a2 true (wrap64 (s0_0 + 1)) l0_1 a1_0 a1_1 a1_2 l1_3 l1_4) else (if a1_0 > 6 then (impl_judge_pat.j0 k a2 true (wrap64 (s0_0 + 1)) l0_1 a1_0 a1_1 a1_2 l1_3 l1_4) else (if (l1_4.length:Int) > 0 then (impl_judge_pat.j0 k a2 true (wrap64 (s0_0 + 1)) l0_1 a1_0 a1_1 a1_2 l1_3 l1_4) else ((impl_shapeOk.f k a1_0 a1_1 a1_2 (l1_3.length:Int)).bind fun t752=>(impl_judge_pat.j0 k a2 (!t752) (wrap64 (s0_0 + 1)) l0_1 a1_0 a1_1 a1_2 l1_3 l1_4)))))) = some (r1,r2,r3):=h;clear h;have HC4:=Aside0.mk H;clear H
 go_enter Try.func13,Try.ntmps13
 go_upto_region 2 with (first|((with_reducible refine gate_dst (N:=4) rfl ?_);(try (refine gate_guard (by rfl) ?_;dsimp only));refine box_event ?hg (N:=4) ?hd (cs:=#[.int .i64 a1_0,.int .i64 a1_1,.string a1_2,.slice A1_3 l1_3.length c1_3,.slice A1_4 l1_4.length c1_4]) (t:=27) ?hr ?_;(case hd=>rfl);(case hg=>rfl);(case hr=>first|(go_simp;done)|(go_simp;rfl));intro gb751 hg w5 hbox hb;have n_:=ai (rwm HO0_1 hb) <| ai (vbm HO1_3 hg hb) <| aj (IsS37.below (i37 HI0.out) hb) <| aj (Kept.below (S:=(fun k_=>(P0_1_ k_)∨k_ = g)) (kp HK.out) hb) <| ai (bqs (IsS37.ge HI0.out) HB hb) <| aj (hbox) <| aj ((by rw [hg];exact (by first|exact HK.out.1|exact (show Kept w _ (fun k_=>(P0_1_ k_)∨k_ = g) from kp HK.out).1):w.heap.size≤gb751)) <| ai (bzs hg (IsS37.ge HI0.out) HB) <| aj ((by rw [hg];exact Nat.ne_of_lt (IsS37.lt (show IsS37 w0 _ g s0_0 u9000_ from i37 HI0.out)):g≠gb751)) <| Aside0.mk ((by rw [hg];exact Nat.ne_of_gt (IsS37.lt (show IsS37 w0 _ g s0_0 u9000_ from i37 HI0.out)):gb751≠g));clear HO0_1 HO1_3 HI0 HK HB;obtain ⟨HO0_1,HO1_3,HI0,HK,HB,BK751,GW751,GE751,NB0_751,NB751_0⟩:=n_;clear hb hbox hg;obtain ⟨HGz6,hgz6⟩:=HI0.out;have h6_0:=cellS37_0 HGz6;have h6_1:=cellS37_1 HGz6;have z6_0:=blk_frozen HGz6 0;have z6_1:=blk_frozen HGz6 1;clear HGz6 hgz6))
 (try simp only [Act.put,List.setIfInBounds_toArray,List.set_cons_zero,List.set_cons_succ])
 go_cut [48] (fun v48 wc=>∃ (kq:Nat) (x48_3:Bool),v48 = .bool x48_3∧Aside0 (impl_judge_pat.j0 kq a2 x48_3 (wrap64 (s0_0 + 1)) l0_1 a1_0 a1_1 a1_2 l1_3 l1_4 = some (r1,r2,r3))∧Aside0 (kq≤k)∧Aside0 (Kd.R Kd.string 9 wc w0.heap.size (fun k_=>(P0_1_ k_∨w.heap.size≤k_)) u9000_ l0_1)∧Aside0 (Kd.V k27 27 wc w0.heap.size (fun k_=>((P0_1_ k_∨P1_3_ k_)∨w.heap.size≤k_)∧some k_≠(u9000_:Value).ownBlock∧k_≠gb751∧k_≠g) (.slice A1_3 l1_3.length c1_3) l1_3)∧Aside0 (wc.heap[gb751]? = some (.cells #[.int .i64 a1_0,.int .i64 a1_1,.string a1_2,(.slice A1_3 l1_3.length c1_3),(.slice A1_4 l1_4.length c1_4)] 27 (0,0)))∧Aside0 (IsS37 w0 wc g (wrap64 (s0_0 + 1)) u9000_)∧Aside0 (Kept w wc (fun k_=>(P0_1_ k_)∨k_ = g))∧Aside0 (Below w0.heap.size w0 wc))
 case first =>
  have H:=HC4.out;clear HC4
  by_cases c7:a2 > 10
  ·rw [if_pos c7] at H
   have c7b0:decide (10 < a2) = true:=decide_eq_true c7;clear c7
   (first|rw [c7b0]|(simp only [i64_w,i32_w];rw [c7b0])|(simp only [c7b2,Bool.not_true,Bool.not_false])|skip)
   have H':=Aside0.mk H;clear H
   go_wp2
   go_meet
   case rel=>exact ⟨_,(true),(cl2),H',⟨by first|omega|exact Nat.le_refl _⟩,⟨by (with_reducible repeat (first|apply Kd.R_alloc|apply Kd.R_drewN|apply Kd.R_drew));exact Kd.R_mono (Kd.R_far (p:=⟨g,0,none⟩) (IsS37.apart HI0.out HO0_1.out (by decide)) (fun _ hk=>hk.2) (.int .i64 (wrap64 (s0_0 + 1)))) (fun _ hk=>hk.1)⟩,⟨by (with_reducible repeat (first|apply Kd.V_alloc|apply Kd.V_drewN|apply Kd.V_drew));exact Kd.V_mono (Kd.V_far (p:=⟨g,0,none⟩) (Kd.V_mono HO1_3.out (fun k_ hk=>(⟨hk,hk.1.2.2⟩:_∧k_≠g))) (fun _ hk=>hk.2) (.int .i64 (wrap64 (s0_0 + 1)))) (fun _ hk=>⟨hk.1.1.1,⟨hk.1.1.2.1,⟨hk.1.2,hk.1.1.2.2⟩⟩⟩)⟩,⟨bm BK751.out⟩,⟨i37 HI0.out⟩,⟨kp HK.out⟩,⟨b37 HB.out⟩⟩
  ·rw [if_neg c7] at H
   have c7b0:decide (10 < a2) = false:=decide_eq_false c7;clear c7
   (first|rw [c7b0]|(simp only [i64_w,i32_w];rw [c7b0])|(simp only [c7b2,Bool.not_true,Bool.not_false])|skip)
   by_cases c8:(wrap64 (s0_0 + 1)) > 300
   ·rw [if_pos c8] at H
    have c8b0:decide (300 < (wrap64 (s0_0 + 1))) = true:=decide_eq_true c8;clear c8;have H':=Aside0.mk H;clear H;obtain ⟨HGz9,hgz9⟩:=HI0.out;have h9_0:=cellS37_0 HGz9;have h9_1:=cellS37_1 HGz9;have z9_0:=blk_frozen HGz9 0;have z9_1:=blk_frozen HGz9 1;clear HGz9 hgz9
    go_wp2
    go_meet
    case rel=>exact ⟨_,(true),(cl2),H',⟨by first|omega|exact Nat.le_refl _⟩,⟨by (with_reducible repeat (first|apply Kd.R_alloc|apply Kd.R_drewN|apply Kd.R_drew));exact Kd.R_mono (Kd.R_far (p:=⟨g,0,none⟩) (IsS37.apart HI0.out HO0_1.out (by decide)) (fun _ hk=>hk.2) (.int .i64 (wrap64 (s0_0 + 1)))) (fun _ hk=>hk.1)⟩,⟨by (with_reducible repeat (first|apply Kd.V_alloc|apply Kd.V_drewN|apply Kd.V_drew));exact Kd.V_mono (Kd.V_far (p:=⟨g,0,none⟩) (Kd.V_mono HO1_3.out (fun k_ hk=>(⟨hk,hk.1.2.2⟩:_∧k_≠g))) (fun _ hk=>hk.2) (.int .i64 (wrap64 (s0_0 + 1)))) (fun _ hk=>⟨hk.1.1.1,⟨hk.1.1.2.1,⟨hk.1.2,hk.1.1.2.2⟩⟩⟩)⟩,⟨bm BK751.out⟩,⟨i37 HI0.out⟩,⟨kp HK.out⟩,⟨b37 HB.out⟩⟩
   ·rw [if_neg c8] at H
    have c8b0:decide (300 < (wrap64 (s0_0 + 1))) = false:=decide_eq_false c8;clear c8
    by_cases c10:a1_0 > 6
    ·rw [if_pos c10] at H
     have c10b0:decide (6 < a1_0) = true:=decide_eq_true c10;clear c10;have H':=Aside0.mk H;clear H;obtain ⟨HGz11,hgz11⟩:=HI0.out;have h11_0:=cellS37_0 HGz11;have h11_1:=cellS37_1 HGz11;have z11_0:=blk_frozen HGz11 0;have z11_1:=blk_frozen HGz11 1;clear HGz11 hgz11;have:=NB751_0.out;have:=NB0_751.out;obtain ⟨h13_0,h13_1,h13_2,h13_3,h13_4⟩:=kb5 BK751.out
     go_wp2
     go_meet
     case rel=>exact ⟨_,(true),(cl2),H',⟨by first|omega|exact Nat.le_refl _⟩,⟨by (with_reducible repeat (first|apply Kd.R_alloc|apply Kd.R_drewN|apply Kd.R_drew));exact Kd.R_mono (Kd.R_far (p:=⟨g,0,none⟩) (IsS37.apart HI0.out HO0_1.out (by decide)) (fun _ hk=>hk.2) (.int .i64 (wrap64 (s0_0 + 1)))) (fun _ hk=>hk.1)⟩,⟨by (with_reducible repeat (first|apply Kd.V_alloc|apply Kd.V_drewN|apply Kd.V_drew));exact Kd.V_mono (Kd.V_far (p:=⟨g,0,none⟩) (Kd.V_mono HO1_3.out (fun k_ hk=>(⟨hk,hk.1.2.2⟩:_∧k_≠g))) (fun _ hk=>hk.2) (.int .i64 (wrap64 (s0_0 + 1)))) (fun _ hk=>⟨hk.1.1.1,⟨hk.1.1.2.1,⟨hk.1.2,hk.1.1.2.2⟩⟩⟩)⟩,⟨bm BK751.out⟩,⟨i37 HI0.out⟩,⟨kp HK.out⟩,⟨b37 HB.out⟩⟩
    ·rw [if_neg c10] at H
     have c10b0:decide (6 < a1_0) = false:=decide_eq_false c10;clear c10
     by_cases c14:(l1_4.length:Int) > 0
     ·rw [if_pos c14] at H
      have c14b0:decide (0 < (l1_4.length:Int)) = true:=decide_eq_true c14;have c14b1:decide (0 < l1_4.length) = true:=decide_eq_true (by omega);clear c14;have H':=Aside0.mk H;clear H;obtain ⟨HGz15,hgz15⟩:=HI0.out;have h15_0:=cellS37_0 HGz15;have h15_1:=cellS37_1 HGz15;have z15_0:=blk_frozen HGz15 0;have z15_1:=blk_frozen HGz15 1;clear HGz15 hgz15;have:=NB751_0.out;have:=NB0_751.out;obtain ⟨h17_0,h17_1,h17_2,h17_3,h17_4⟩:=kb5 BK751.out
      go_wp2
      go_meet
      case rel=>exact ⟨_,(true),(cl2),H',⟨by first|omega|exact Nat.le_refl _⟩,⟨by (with_reducible repeat (first|apply Kd.R_alloc|apply Kd.R_drewN|apply Kd.R_drew));exact Kd.R_mono (Kd.R_far (p:=⟨g,0,none⟩) (IsS37.apart HI0.out HO0_1.out (by decide)) (fun _ hk=>hk.2) (.int .i64 (wrap64 (s0_0 + 1)))) (fun _ hk=>hk.1)⟩,⟨by (with_reducible repeat (first|apply Kd.V_alloc|apply Kd.V_drewN|apply Kd.V_drew));exact Kd.V_mono (Kd.V_far (p:=⟨g,0,none⟩) (Kd.V_mono HO1_3.out (fun k_ hk=>(⟨hk,hk.1.2.2⟩:_∧k_≠g))) (fun _ hk=>hk.2) (.int .i64 (wrap64 (s0_0 + 1)))) (fun _ hk=>⟨hk.1.1.1,⟨hk.1.1.2.1,⟨hk.1.2,hk.1.1.2.2⟩⟩⟩)⟩,⟨bm BK751.out⟩,⟨i37 HI0.out⟩,⟨kp HK.out⟩,⟨b37 HB.out⟩⟩
     ·rw [if_neg c14] at H
      have c14b0:decide (0 < (l1_4.length:Int)) = false:=decide_eq_false c14;have c14b1:decide (0 < l1_4.length) = false:=decide_eq_false (by omega);clear c14;replace H:=Option.bind_eq_some_iff.mp H;obtain ⟨t752,A180,H⟩:=H;replace H:(impl_judge_pat.j0 k a2 (!t752) (wrap64 (s0_0 + 1)) l0_1 a1_0 a1_1 a1_2 l1_3 l1_4) = some (r1,r2,r3):=H;have A18:=Aside0.mk A180;clear A180;have H':=Aside0.mk H;clear H;obtain ⟨HGz19,hgz19⟩:=HI0.out;have h19_0:=cellS37_0 HGz19;have h19_1:=cellS37_1 HGz19;have z19_0:=blk_frozen HGz19 0;have z19_1:=blk_frozen HGz19 1;clear HGz19 hgz19;have:=NB751_0.out;have:=NB0_751.out;obtain ⟨h21_0,h21_1,h21_2,h21_3,h21_4⟩:=kb5 BK751.out
      go_wp2_with (first|(go_at_call 21;(with_reducible refine (impl_shapeOk.calls k a1_0 a1_1 a1_2 (l1_3.length:Int) t752 _ A18.out).mono ?_);rintro e w' ⟨rfl,⟨nd,rfl⟩⟩))
      go_meet
      case rel=>exact ⟨_,(!t752),(cl2),H',⟨by first|omega|exact Nat.le_refl _⟩,⟨by (with_reducible repeat (first|apply Kd.R_alloc|apply Kd.R_drewN|apply Kd.R_drew));exact Kd.R_mono (Kd.R_far (p:=⟨g,0,none⟩) (IsS37.apart HI0.out HO0_1.out (by decide)) (fun _ hk=>hk.2) (.int .i64 (wrap64 (s0_0 + 1)))) (fun _ hk=>hk.1)⟩,⟨by (with_reducible repeat (first|apply Kd.V_alloc|apply Kd.V_drewN|apply Kd.V_drew));exact Kd.V_mono (Kd.V_far (p:=⟨g,0,none⟩) (Kd.V_mono HO1_3.out (fun k_ hk=>(⟨hk,hk.1.2.2⟩:_∧k_≠g))) (fun _ hk=>hk.2) (.int .i64 (wrap64 (s0_0 + 1)))) (fun _ hk=>⟨hk.1.1.1,⟨hk.1.1.2.1,⟨hk.1.2,hk.1.1.2.2⟩⟩⟩)⟩,⟨bm BK751.out⟩,⟨i37 HI0.out⟩,⟨kp HK.out⟩,⟨b37 HB.out⟩⟩
 case rest =>
  clear HC4;(try clear h6_0);(try clear h6_1);(try clear z6_0);(try clear z6_1);(try clear BK751);(try clear HI0);(try clear HK);(try clear HB);obtain ⟨kq,x48_3,rfl,HA,HJ3,HO_1001,HO_752003,BK751,HI0,HK,HB⟩:=hcut
  cases kq with
  | zero=>exact absurd HA.out (by simp [impl_judge_pat.j0])
  | succ kj3 =>
   have H:=HA.out;clear HA;simp only [impl_judge_pat.j0] at H
   by_cases c22:x48_3 = true
   ·subst c22
    have H1:(some (false,l0_1,(wrap64 (s0_0 + 1)))) = some (r1,r2,r3):=by rw [if_pos rfl] at H;exact H
    clear H;have H:=H1;clear H1;simp only [Option.some.injEq,Prod.mk.injEq] at H;obtain ⟨rfl,rfl,rfl⟩:=H
    go_wp2
    go_ret
    exact ⟨_,cl,rk HO_1001.out,i37 HI0.out,b37 HB.out,kp HK.out⟩
   ·replace c22:=Bool.eq_false_iff.mpr c22
    subst c22;have H1:(if a1_0 = 3 then (impl_judge_pat.j1 kj3 a2 (a1_2.toList != ([95]:List UInt8)) (wrap64 (s0_0 + 1)) l0_1 a1_0 a1_1 a1_2 l1_3 l1_4) else (impl_judge_pat.j1 kj3 a2 false (wrap64 (s0_0 + 1)) l0_1 a1_0 a1_1 a1_2 l1_3 l1_4)) = some (r1,r2,r3):=nt H
    clear H;have H:=H1;clear H1;have HC23:=Aside0.mk H;clear H
    go_upto_region 4 with (fail)
    go_cut [56] (fun v56 wc=>∃ (kq:Nat) (x56_22:Bool),v56 = .bool x56_22∧Aside0 (impl_judge_pat.j1 kq a2 x56_22 (wrap64 (s0_0 + 1)) l0_1 a1_0 a1_1 a1_2 l1_3 l1_4 = some (r1,r2,r3))∧Aside0 (kq≤kj3)∧Aside0 (Kd.R Kd.string 9 wc w0.heap.size (fun k_=>(P0_1_ k_∨w.heap.size≤k_)) u9000_ l0_1)∧Aside0 (Kd.V k27 27 wc w0.heap.size (fun k_=>((P0_1_ k_∨P1_3_ k_)∨w.heap.size≤k_)∧some k_≠(u9000_:Value).ownBlock∧k_≠gb751∧k_≠g) (.slice A1_3 l1_3.length c1_3) l1_3)∧Aside0 (wc.heap[gb751]? = some (.cells #[.int .i64 a1_0,.int .i64 a1_1,.string a1_2,(.slice A1_3 l1_3.length c1_3),(.slice A1_4 l1_4.length c1_4)] 27 (0,0)))∧Aside0 (IsS37 w0 wc g (wrap64 (s0_0 + 1)) u9000_)∧Aside0 (Kept w wc (fun k_=>(P0_1_ k_)∨k_ = g))∧Aside0 (Below w0.heap.size w0 wc))
    case first =>
     have H:=HC23.out;clear HC23
     by_cases c24:a1_0 = 3
     ·rw [if_pos c24] at H
      have c24b0:(a1_0 == 3) = true:=beq_iff_eq.mpr c24;have c24b1:(a1_0 != 3) = false:=bne_eq_false_iff_eq.mpr c24;clear c24
      (first|rw [c24b0]|(simp only [i64_w,i32_w];rw [c24b0])|(simp only [c24b2,Bool.not_true,Bool.not_false])|skip)
      have H':=Aside0.mk H;clear H;have:=NB751_0.out;have:=NB0_751.out;obtain ⟨h26_0,h26_1,h26_2,h26_3,h26_4⟩:=kb5 BK751.out
      go_wp2
      go_meet
      case rel=>exact ⟨_,((a1_2.toList != ([95]:List UInt8))),(cl2),H',⟨by have:=HJ3.out;first|omega|exact Nat.le_refl _⟩,⟨rk HO_1001.out⟩,⟨vdm HO_752003.out⟩,⟨bk BK751.out⟩,⟨i37 HI0.out⟩,⟨kp HK.out⟩,⟨b37 HB.out⟩⟩
     ·rw [if_neg c24] at H
      have c24b0:(a1_0 == 3) = false:=beq_eq_false_iff_ne.mpr c24;have c24b1:(a1_0 != 3) = true:=bne_iff_ne.mpr c24
      (first|rw [c24b0]|(simp only [i64_w,i32_w];rw [c24b0])|(simp only [c24b2,Bool.not_true,Bool.not_false])|skip)
      have H':=Aside0.mk H;clear H;have:=NB751_0.out;have:=NB0_751.out;obtain ⟨h28_0,h28_1,h28_2,h28_3,h28_4⟩:=kb5 BK751.out
      go_wp2
      go_meet
      case rel=>exact ⟨_,(false),(cl2),H',⟨by have:=HJ3.out;first|omega|exact Nat.le_refl _⟩,⟨rk HO_1001.out⟩,⟨vdm HO_752003.out⟩,⟨bk BK751.out⟩,⟨i37 HI0.out⟩,⟨kp HK.out⟩,⟨b37 HB.out⟩⟩
    case rest =>
     clear HC23;(try clear c22);(try clear h6_0);(try clear h6_1);(try clear z6_0);(try clear z6_1);(try clear p2);(try clear p6);(try clear HO_1001);(try clear HO_752003);(try clear BK751);(try clear HI0);(try clear HK);(try clear HB);obtain ⟨kq,x56_22,rfl,HA,HJ22,HO_1001,HO_752003,BK751,HI0,HK,HB⟩:=hcut
     cases kq with
     | zero=>exact absurd HA.out (by simp [impl_judge_pat.j1])
     | succ kj22 =>
      have H:=HA.out;clear HA;simp only [impl_judge_pat.j1] at H;have HC29:=Aside0.mk H;clear H
      go_upto_if 56 with (fail)
      go_cut [] (fun wc=>∃ (kq:Nat) (x1001_28:List ByteArray) (u1001:Value),Aside0 (impl_judge_pat.j2 kq a2 (wrap64 (s0_0 + 1)) x1001_28 a1_0 a1_1 a1_2 l1_3 l1_4 = some (r1,r2,r3))∧Aside0 (kq≤kj22)∧Aside0 (Kd.R Kd.string 9 wc w0.heap.size (fun k_=>(P0_1_ k_∨w.heap.size≤k_)) u1001 x1001_28)∧Aside0 (Kd.V k27 27 wc w0.heap.size (fun k_=>((P0_1_ k_∨P1_3_ k_)∨w.heap.size≤k_)∧some k_≠(u1001:Value).ownBlock∧k_≠gb751∧k_≠g) (.slice A1_3 l1_3.length c1_3) l1_3)∧Aside0 (wc.heap[gb751]? = some (.cells #[.int .i64 a1_0,.int .i64 a1_1,.string a1_2,(.slice A1_3 l1_3.length c1_3),(.slice A1_4 l1_4.length c1_4)] 27 (0,0)))∧Aside0 (IsS37 w0 wc g (wrap64 (s0_0 + 1)) u1001)∧Aside0 (Kept w wc (fun k_=>(P0_1_ k_)∨k_ = g))∧Aside0 (Below w0.heap.size w0 wc))
      case first =>
       have H:=HC29.out;clear HC29
       by_cases c30:x56_22 = true
       ·subst c30
        have H1:((slices_Contains_string_string.f kj22 l0_1 a1_2).bind fun t753=>(if t753 = true then (some (false,l0_1,(wrap64 (s0_0 + 1)))) else (if l0_1.length < 8796093022208 then (impl_judge_pat.j2 kj22 a2 (wrap64 (s0_0 + 1)) (l0_1 ++ [a1_2]) a1_0 a1_1 a1_2 l1_3 l1_4) else (none)))) = some (r1,r2,r3):=by rw [if_pos rfl] at H;exact H
        clear H;have H:=H1;clear H1;replace H:=Option.bind_eq_some_iff.mp H;obtain ⟨t753,A310,H⟩:=H;replace H:(if t753 = true then (some (false,l0_1,(wrap64 (s0_0 + 1)))) else (if l0_1.length < 8796093022208 then (impl_judge_pat.j2 kj22 a2 (wrap64 (s0_0 + 1)) (l0_1 ++ [a1_2]) a1_0 a1_1 a1_2 l1_3 l1_4) else (none))) = some (r1,r2,r3):=H;have A31:=Aside0.mk A310;clear A310
        by_cases c32:t753 = true
        ·subst c32
         have H1:(some (false,l0_1,(wrap64 (s0_0 + 1)))) = some (r1,r2,r3):=by rw [if_pos rfl] at H;exact H
         clear H;have H:=H1;clear H1;simp only [Option.some.injEq,Prod.mk.injEq] at H;obtain ⟨rfl,rfl,rfl⟩:=H
         try go_wp2
         have n_:=aj (Kd.R_drew HO_1001.out) <| aj (Kd.V_drew HO_752003.out) <| ai (dk BK751) <| aj (IsS37.drew HI0.out) <| aj (Kept.drew HK.out) <| dh HB;clear HO_1001 HO_752003 BK751 HI0 HK HB;obtain ⟨HO_1001,HO_752003,BK751,HI0,HK,HB⟩:=n_;obtain ⟨Ao34,co34,eo34⟩:=Kd.R_slice HO_1001.out
         (first|subst eo34|(injection eo34 with f1_ f2_ f3_;have f4_:=f1_.symm;have f5_:=f3_.symm;clear f1_ f2_ f3_;subst f4_;subst f5_))
         refine start_ (n:=7) (S:=fun w'=>w'.cell? ⟨g,0,none⟩ = some (.int .i64 (wrap64 (s0_0 + 1)))∧w'.cell? ⟨g,1,none⟩ = some (.slice Ao34 l0_1.length co34)∧(w'.cell? ⟨gb751,0,none⟩ = some (.int .i64 a1_0)∧w'.cell? ⟨gb751,1,none⟩ = some (.int .i64 a1_1)∧w'.cell? ⟨gb751,2,none⟩ = some (.string a1_2)∧w'.cell? ⟨gb751,3,none⟩ = some (.slice A1_3 l1_3.length c1_3)∧w'.cell? ⟨gb751,4,none⟩ = some (.slice A1_4 l1_4.length c1_4))) (ds:=[]) #[false,false,false,false,false,false,false] (by kernel_rfl) rfl rfl ⟨(IsS37.cell_0 HI0.out),(IsS37.cell_1 HI0.out),kb5 BK751.out⟩ (fun hHeld=>?_)
         generalize wc.drew = w33 at HO_1001 HO_752003 BK751 HI0 HK HB hHeld ⊢
         refine pure_ (i:=0) (N:=some 57) (v:=?_) (a':=?_) #[true,false,false,false,false,false,false] rfl rfl (by kernel_rfl) (fun _ _ _ h=>h) (Or.inl ⟨by rfl,?_⟩) ?_ ?_
         rotate_left
         ·intro w'
          go_simp
          with_reducible rfl
         rotate_left
         ·simp only [Act.put,List.setIfInBounds_toArray,List.set_cons_zero,List.set_cons_succ,i64_w,i32_w]
          rfl
         refine pure_ (i:=1) (N:=some 58) (v:=?_) (a':=?_) #[true,true,false,false,false,false,false] rfl rfl (by kernel_rfl) (fun _ _ _ h=>h) (Or.inl ⟨by rfl,?_⟩) ?_ ?_
         rotate_left
         ·intro w'
          go_simp
          with_reducible rfl
         rotate_left
         ·simp only [Act.put,List.setIfInBounds_toArray,List.set_cons_zero,List.set_cons_succ,i64_w,i32_w]
          rfl
         refine pure_ (i:=2) (N:=some 59) (v:=?_) (a':=?_) #[true,true,true,false,false,false,false] rfl rfl (by kernel_rfl) (fun _ _ _ h=>h) (Or.inl ⟨by rfl,?_⟩) ?_ ?_
         rotate_left
         ·intro w'
          go_simp
          with_reducible rfl
         rotate_left
         ·simp only [Act.put,List.setIfInBounds_toArray,List.set_cons_zero,List.set_cons_succ,i64_w,i32_w]
          rfl
         refine pure_ (i:=4) (N:=some 61) (v:=?_) (a':=?_) #[true,true,true,false,true,false,false] rfl rfl (by kernel_rfl) (fun _ _ _ h=>h) (Or.inl ⟨by rfl,?_⟩) ?_ ?_
         rotate_left
         ·intro w'
          go_simp
          with_reducible rfl
         rotate_left
         ·simp only [Act.put,List.setIfInBounds_toArray,List.set_cons_zero,List.set_cons_succ,i64_w,i32_w]
          rfl
         refine take_ (i:=3) (N:=some 60) (v:=?_) (a':=?_) #[true,true,true,true,true,false,false] rfl rfl (by kernel_rfl) (fun _ _ _ h=>h) (Or.inl ⟨by rfl,?_⟩) hHeld ?_ ?_
         rotate_left
         ·rintro w' ⟨s0,s1,⟨s2,s3,s4,s5,s6⟩⟩
          go_simp
          with_reducible rfl
         rotate_left
         ·simp only [Act.put,List.setIfInBounds_toArray,List.set_cons_zero,List.set_cons_succ,i64_w,i32_w]
          rfl
         refine take_ (i:=5) (N:=some 62) (v:=?_) (a':=?_) #[true,true,true,true,true,true,false] rfl rfl (by kernel_rfl) (fun _ _ _ h=>h) (Or.inl ⟨by rfl,?_⟩) hHeld ?_ ?_
         rotate_left
         ·rintro w' ⟨s0,s1,⟨s2,s3,s4,s5,s6⟩⟩
          go_simp
          with_reducible rfl
         rotate_left
         ·simp only [Act.put,List.setIfInBounds_toArray,List.set_cons_zero,List.set_cons_succ,i64_w,i32_w]
          rfl
         refine one_ (i:=6) (N:=some 63) #[true,true,true,true,true,true,true] rfl rfl (by kernel_rfl) (by decide) (fun K hK=>?_)
         refine goes_ Try.func22 (by kernel_rfl) rfl #[.slice Ao34 l0_1.length co34,.string a1_2] (by rfl) rfl rfl gs ?_
         with_reducible refine (slices_Contains_string_string.calls kj22 _ _ l0_1 a1_2 true _ ?side1 ?side2 A31.out).mono ?_
         (case side1=>repeat (first|exact (Kd.R_reads' HO_1001.out).2.2|(with_reducible refine Kd.C_alloc ?_ _)|(with_reducible refine Kd.C_drewN ?_ _)|(with_reducible refine Kd.C_drew ?_)))
         (case side2=>exact (Kd.R_reads' HO_1001.out).2.1)
         rintro e w' ⟨rfl,⟨nd,rfl⟩⟩
         refine ⟨_,rfl,?_⟩
         refine hK.out _ _ ⟨(IsS37.cell_0 HI0.out),(IsS37.cell_1 HI0.out),kb5 BK751.out⟩ (fun hHeld=>?_)
         clear hK K
         refine norm_ (a':=?_) ?_ ?_
         rotate_left
         ·show Act.put _ (some 63) _ = _
          simp only [Act.put,List.setIfInBounds_toArray,List.set_cons_zero,List.set_cons_succ,i64_w,i32_w]
          rfl
         refine done_ (by kernel_rfl) ?_
         try go_wp2
         go_ret
         exact ⟨_,cl,rk HO_1001.out,i37 HI0.out,b37 HB.out,kp HK.out⟩
        ·replace c32:=Bool.eq_false_iff.mpr c32
         subst c32;have H1:(if l0_1.length < 8796093022208 then (impl_judge_pat.j2 kj22 a2 (wrap64 (s0_0 + 1)) (l0_1 ++ [a1_2]) a1_0 a1_1 a1_2 l1_3 l1_4) else (none)) = some (r1,r2,r3):=nt H
         clear H;have H:=H1;clear H1
         by_cases c35:l0_1.length < 8796093022208
         ·rw [if_pos c35] at H
          have LMc35:=Aside0.mk c35;clear c35;obtain ⟨y754,hy754⟩:∃ y_:List ByteArray,y_ = (l0_1 ++ [a1_2]):=⟨_,rfl⟩;replace H:(impl_judge_pat.j2 kj22 a2 (wrap64 (s0_0 + 1)) y754 a1_0 a1_1 a1_2 l1_3 l1_4) = some (r1,r2,r3):=hw hy754 H
          have Ny754:=Aside0.mk hy754;clear hy754;have H':=Aside0.mk H;clear H
          try go_wp2
          have n_:=aj (Kd.R_drew HO_1001.out) <| aj (Kd.V_drew HO_752003.out) <| ai (dk BK751) <| aj (IsS37.drew HI0.out) <| aj (Kept.drew HK.out) <| dh HB;clear HO_1001 HO_752003 BK751 HI0 HK HB;obtain ⟨HO_1001,HO_752003,BK751,HI0,HK,HB⟩:=n_;obtain ⟨Ao37,co37,eo37⟩:=Kd.R_slice HO_1001.out
          (first|subst eo37|(injection eo37 with f1_ f2_ f3_;have f4_:=f1_.symm;have f5_:=f3_.symm;clear f1_ f2_ f3_;subst f4_;subst f5_))
          refine start_ (n:=7) (S:=fun w'=>w'.cell? ⟨g,0,none⟩ = some (.int .i64 (wrap64 (s0_0 + 1)))∧w'.cell? ⟨g,1,none⟩ = some (.slice Ao37 l0_1.length co37)∧(w'.cell? ⟨gb751,0,none⟩ = some (.int .i64 a1_0)∧w'.cell? ⟨gb751,1,none⟩ = some (.int .i64 a1_1)∧w'.cell? ⟨gb751,2,none⟩ = some (.string a1_2)∧w'.cell? ⟨gb751,3,none⟩ = some (.slice A1_3 l1_3.length c1_3)∧w'.cell? ⟨gb751,4,none⟩ = some (.slice A1_4 l1_4.length c1_4))) (ds:=[]) #[false,false,false,false,false,false,false] (by kernel_rfl) rfl rfl ⟨(IsS37.cell_0 HI0.out),(IsS37.cell_1 HI0.out),kb5 BK751.out⟩ (fun hHeld=>?_)
          generalize wc.drew = w36 at HO_1001 HO_752003 BK751 HI0 HK HB hHeld ⊢
          refine pure_ (i:=0) (N:=some 57) (v:=?_) (a':=?_) #[true,false,false,false,false,false,false] rfl rfl (by kernel_rfl) (fun _ _ _ h=>h) (Or.inl ⟨by rfl,?_⟩) ?_ ?_
          rotate_left
          ·intro w'
           go_simp
           with_reducible rfl
          rotate_left
          ·simp only [Act.put,List.setIfInBounds_toArray,List.set_cons_zero,List.set_cons_succ,i64_w,i32_w]
           rfl
          refine pure_ (i:=1) (N:=some 58) (v:=?_) (a':=?_) #[true,true,false,false,false,false,false] rfl rfl (by kernel_rfl) (fun _ _ _ h=>h) (Or.inl ⟨by rfl,?_⟩) ?_ ?_
          rotate_left
          ·intro w'
           go_simp
           with_reducible rfl
          rotate_left
          ·simp only [Act.put,List.setIfInBounds_toArray,List.set_cons_zero,List.set_cons_succ,i64_w,i32_w]
           rfl
          refine pure_ (i:=2) (N:=some 59) (v:=?_) (a':=?_) #[true,true,true,false,false,false,false] rfl rfl (by kernel_rfl) (fun _ _ _ h=>h) (Or.inl ⟨by rfl,?_⟩) ?_ ?_
          rotate_left
          ·intro w'
           go_simp
           with_reducible rfl
          rotate_left
          ·simp only [Act.put,List.setIfInBounds_toArray,List.set_cons_zero,List.set_cons_succ,i64_w,i32_w]
           rfl
          refine pure_ (i:=4) (N:=some 61) (v:=?_) (a':=?_) #[true,true,true,false,true,false,false] rfl rfl (by kernel_rfl) (fun _ _ _ h=>h) (Or.inl ⟨by rfl,?_⟩) ?_ ?_
          rotate_left
          ·intro w'
           go_simp
           with_reducible rfl
          rotate_left
          ·simp only [Act.put,List.setIfInBounds_toArray,List.set_cons_zero,List.set_cons_succ,i64_w,i32_w]
           rfl
          refine take_ (i:=3) (N:=some 60) (v:=?_) (a':=?_) #[true,true,true,true,true,false,false] rfl rfl (by kernel_rfl) (fun _ _ _ h=>h) (Or.inl ⟨by rfl,?_⟩) hHeld ?_ ?_
          rotate_left
          ·rintro w' ⟨s0,s1,⟨s2,s3,s4,s5,s6⟩⟩
           go_simp
           with_reducible rfl
          rotate_left
          ·simp only [Act.put,List.setIfInBounds_toArray,List.set_cons_zero,List.set_cons_succ,i64_w,i32_w]
           rfl
          refine take_ (i:=5) (N:=some 62) (v:=?_) (a':=?_) #[true,true,true,true,true,true,false] rfl rfl (by kernel_rfl) (fun _ _ _ h=>h) (Or.inl ⟨by rfl,?_⟩) hHeld ?_ ?_
          rotate_left
          ·rintro w' ⟨s0,s1,⟨s2,s3,s4,s5,s6⟩⟩
           go_simp
           with_reducible rfl
          rotate_left
          ·simp only [Act.put,List.setIfInBounds_toArray,List.set_cons_zero,List.set_cons_succ,i64_w,i32_w]
           rfl
          refine one_ (i:=6) (N:=some 63) #[true,true,true,true,true,true,true] rfl rfl (by kernel_rfl) (by decide) (fun K hK=>?_)
          refine goes_ Try.func22 (by kernel_rfl) rfl #[.slice Ao37 l0_1.length co37,.string a1_2] (by rfl) rfl rfl gs ?_
          with_reducible refine (slices_Contains_string_string.calls kj22 _ _ l0_1 a1_2 false _ ?side1 ?side2 A31.out).mono ?_
          (case side1=>repeat (first|exact (Kd.R_reads' HO_1001.out).2.2|(with_reducible refine Kd.C_alloc ?_ _)|(with_reducible refine Kd.C_drewN ?_ _)|(with_reducible refine Kd.C_drew ?_)))
          (case side2=>exact (Kd.R_reads' HO_1001.out).2.1)
          rintro e w' ⟨rfl,⟨nd,rfl⟩⟩
          refine ⟨_,rfl,?_⟩
          refine hK.out _ _ ⟨(IsS37.cell_0 HI0.out),(IsS37.cell_1 HI0.out),kb5 BK751.out⟩ (fun hHeld=>?_)
          clear hK K
          refine norm_ (a':=?_) ?_ ?_
          rotate_left
          ·show Act.put _ (some 63) _ = _
           simp only [Act.put,List.setIfInBounds_toArray,List.set_cons_zero,List.set_cons_succ,i64_w,i32_w]
           rfl
          refine done_ (by kernel_rfl) ?_
          try go_wp2
          (try ((try simp only [World.drewN_drewN]);rw [drewN_self w36];generalize hq_:World.drewN w36 _ = w36;have n_:=ai ((⟨by rw [← hq_];exact (rk HO_1001.out)⟩:Aside0 (Kd.R Kd.string 9 w36 w0.heap.size (fun k_=>((P0_1_ k_∨w.heap.size≤k_))) (.slice Ao37 l0_1.length co37) l0_1))) <| ai ((⟨by rw [← hq_];exact (vdm HO_752003.out)⟩:Aside0 (Kd.V k27 27 w36 w0.heap.size (fun k_=>((((P0_1_ k_∨P1_3_ k_)∨w.heap.size≤k_))∧(some k_≠(.slice Ao37 l0_1.length co37:Value).ownBlock∧(k_≠gb751∧k_≠g)))) (.slice A1_3 l1_3.length c1_3) l1_3))) <| ai ((⟨by rw [← hq_];exact (bk BK751.out)⟩:Aside0 (w36.heap[gb751]? = some (.cells #[.int .i64 a1_0,.int .i64 a1_1,.string a1_2,.slice A1_3 l1_3.length c1_3,.slice A1_4 l1_4.length c1_4] 27 (0,0))))) <| ai ((⟨by rw [← hq_];exact (i37 HI0.out)⟩:Aside0 (IsS37 w0 w36 g (wrap64 (s0_0 + 1)) (.slice Ao37 l0_1.length co37)))) <| ai ((⟨by rw [← hq_];exact (kp HK.out)⟩:Aside0 (Kept w w36 (fun k_=>(P0_1_ k_)∨k_ = g)))) <| (⟨by rw [← hq_];exact (b37 HB.out)⟩:Aside0 (Below w0.heap.size w0 w36));clear HO_1001 HO_752003 BK751 HI0 HK HB hq_;obtain ⟨HO_1001,HO_752003,BK751,HI0,HK,HB⟩:=n_));have n_:=aj (Kd.R_drew HO_1001.out) <| aj (Kd.V_drew HO_752003.out) <| ai (dk BK751) <| aj (IsS37.drew HI0.out) <| aj (Kept.drew HK.out) <| dh HB;clear HO_1001 HO_752003 BK751 HI0 HK HB;obtain ⟨HO_1001,HO_752003,BK751,HI0,HK,HB⟩:=n_
          refine start_ (n:=12) (S:=fun w'=>w'.cell? ⟨g,0,none⟩ = some (.int .i64 (wrap64 (s0_0 + 1)))∧w'.cell? ⟨g,1,none⟩ = some (.slice Ao37 l0_1.length co37)∧(w'.cell? ⟨gb751,0,none⟩ = some (.int .i64 a1_0)∧w'.cell? ⟨gb751,1,none⟩ = some (.int .i64 a1_1)∧w'.cell? ⟨gb751,2,none⟩ = some (.string a1_2)∧w'.cell? ⟨gb751,3,none⟩ = some (.slice A1_3 l1_3.length c1_3)∧w'.cell? ⟨gb751,4,none⟩ = some (.slice A1_4 l1_4.length c1_4))) (ds:=[11]) #[false,false,false,false,false,false,false,false,false,false,false,false] (by kernel_rfl) rfl rfl ⟨(IsS37.cell_0 HI0.out),(IsS37.cell_1 HI0.out),kb5 BK751.out⟩ (fun hHeld=>?_);refine with_tabW impl_judge_pat.tab7 impl_judge_pat.bits7 (fun HT_ HW_=>?_)
          generalize w36.drew = w38 at HO_1001 HO_752003 BK751 HI0 HK HB hHeld ⊢;refine pu 0 64 ?_;refine pu 1 65 ?_;refine pu 2 66 ?_;refine pu 3 67 ?_;refine pu 5 69 ?_;refine ta 4 68 hHeld ?_;refine ta 6 70 hHeld ?_
          refine one_ (i:=7) (N:=some 71) #[true,true,true,true,true,true,true,true,false,false,false,false] rfl rfl (one_of HT_.out (by kernel_rfl)) (by decide) (fun K hK=>?_)
          refine value_ (w1:=?_) (v:=?_) (by rfl) rfl ?_ ?_
          rotate_left 2
          ·go_simp
           constructor
           ·rfl
           ·rfl
          refine hK.out _ _ ⟨(IsS37.cell_0 (IsS37.alloc HI0.out _)),(IsS37.cell_1 (IsS37.alloc HI0.out _)),kb5 (blk_alloc BK751.out _)⟩ (fun hHeld=>?_)
          clear hK K
          refine norm_ (a':=?_) ?_ ?_
          rotate_left
          ·show Act.put _ (some 71) _ = _
           simp only [Act.put,List.setIfInBounds_toArray,List.set_cons_zero,List.set_cons_succ,i64_w,i32_w]
           rfl
          refine one_ (i:=8) (N:=some 72) #[true,true,true,true,true,true,true,true,true,false,false,false] rfl rfl (one_of HT_.out (by kernel_rfl)) (by decide) (fun K hK=>?_)
          refine Kd.R_append_step Kd.string (w0:=w0) w0.heap.size (by rfl) (.tmp 68) (.tmp 71) 30 9 (.string ⟨#[]⟩) 16 rfl Try.underlying30 info9 rfl (by decide) (by omega) (.slice Ao37 l0_1.length co37) l0_1 a1_2 [.string a1_2] (fun k_=>(P0_1_ k_∨w.heap.size≤k_)) (fun _=>False) rfl rfl ?aP (fun _ hk=>hk.elim) ?aF ?aO ?aB ?aS ?aL ?_
          (case aP=>exact rfl)
          (case aB=>exact (b37 HB.out))
          (case aF=>exact (fun k_ hk=>(.inr (Nat.le_trans (by first|exact HK.out.1|exact (show Kept w _ (fun k_=>(P0_1_ k_)∨k_ = g) from kp HK.out).1) hk))))
          (case aO=>exact (rk HO_1001.out))
          (case aS=>exact (below_size (b37 HB.out)))
          (case aL=>have:=LMc35.out;omega)
          intro v755 w39 ho hb hg hat;rw [← Ny754.out] at ho;have n_:=aj (Kd.V_afterv (ok:=(fun k_=>((P0_1_ k_∨P1_3_ k_)∨w.heap.size≤k_)∧k_≠gb751∧k_≠g)) (by (with_reducible repeat (first|apply Kd.V_alloc|apply Kd.V_drewN|apply Kd.V_drew));exact Kd.V_mono HO_752003.out (fun _ hk=>⟨⟨hk.1,⟨hk.2.2.1,hk.2.2.2⟩⟩,hk.2.1⟩)) hg hat) <| aj (blk_grown (g:=gb751) (o:=.cells #[.int .i64 a1_0,.int .i64 a1_1,.string a1_2,.slice A1_3 l1_3.length c1_3,.slice A1_4 l1_4.length c1_4] 27 (0,0)) (bk BK751.out) hg (Kd.R_ne HO_1001.out BK751.out (by decide))) <| aj (IsS37.grown (i37 HI0.out) hg (IsS37.own_ne HI0.out HO_1001.out (by decide))) <| aj (hb) <| aj (Kept.of_grown (S:=(fun k_=>(P0_1_ k_)∨k_ = g)) hg (kp HK.out) (fun k_ e_=>Or.imp_left Or.inl ((HO_1001.out.1 k_ e_)))) <| Aside0.mk (ho);clear HO_752003 BK751 HI0 HB HK HO_1001;obtain ⟨HO_752003,BK751,HI0,HB,HK,HO756⟩:=n_;clear ho hb hg hat;obtain ⟨Ao40,co40,eo40⟩:=Kd.R_slice HO756.out
          (first|subst eo40|(injection eo40 with f1_ f2_ f3_;have f4_:=f1_.symm;have f5_:=f3_.symm;clear f1_ f2_ f3_;subst f4_;subst f5_))
          refine hK.out _ _ ⟨(IsS37.cell_0 HI0.out),(IsS37.cell_1 HI0.out),kb5 BK751.out⟩ (fun hHeld=>?_)
          clear hK K
          refine norm_ (a':=?_) ?_ ?_
          rotate_left
          ·show Act.put _ (some 72) _ = _
           simp only [Act.put,List.setIfInBounds_toArray,List.set_cons_zero,List.set_cons_succ,i64_w,i32_w]
           rfl
          refine pu 9 73 ?_;refine pu 10 74 ?_
          refine last_ (i:=11) (N:=none) #[true,true,true,true,true,true,true,true,true,true,true,true] rfl rfl (one_of HT_.out (by kernel_rfl)) (by decide) (fun K hK=>?_)
          have hs41:=IsS37.cell_1 HI0.out;have hfs41:=IsS37.froz_1 HI0.out;have hns41_0:=NB751_0.out;have hms41_0:=NB0_751.out
          refine skip_ (w1:=?_) (by rfl) rfl ?_ ?_
          rotate_left
          ·go_simp
           rfl
          refine hK.out _ _ ?_
          clear hK K
          refine done_ (done_of HT_.out (by kernel_rfl)) ?_
          try go_wp2
          go_meet
          case rel=>exact ⟨_,(y754),(.slice Ao40 y754.length co40),H',⟨by have:=HJ3.out;have:=HJ22.out;first|omega|exact Nat.le_refl _⟩,⟨by (with_reducible repeat (first|apply Kd.R_alloc|apply Kd.R_drewN|apply Kd.R_drew));exact Kd.R_mono (Kd.R_far (p:=⟨g,1,none⟩) (IsS37.apart HI0.out HO756.out (by decide)) (fun _ hk=>hk.2) (.slice Ao40 y754.length co40)) (fun _ hk=>hk.1)⟩,⟨by (with_reducible repeat (first|apply Kd.V_alloc|apply Kd.V_drewN|apply Kd.V_drew));exact Kd.V_mono (Kd.V_far (p:=⟨g,1,none⟩) (Kd.V_mono HO_752003.out (fun k_ hk=>(⟨hk,hk.1.2.2⟩:_∧k_≠g))) (fun _ hk=>hk.2) (.slice Ao40 y754.length co40)) (fun _ hk=>⟨hk.1.1.1,⟨hk.1.2,⟨hk.1.1.2.1,hk.1.1.2.2⟩⟩⟩)⟩,⟨bm BK751.out⟩,⟨i37 HI0.out⟩,⟨kp HK.out⟩,⟨b37 HB.out⟩⟩
         ·rw [if_neg c35] at H
          exact absurd H (by simp)
       ·replace c30:=Bool.eq_false_iff.mpr c30
        subst c30;have H1:(impl_judge_pat.j2 kj22 a2 (wrap64 (s0_0 + 1)) l0_1 a1_0 a1_1 a1_2 l1_3 l1_4) = some (r1,r2,r3):=nt H
        clear H;have H:=H1;clear H1;have H':=Aside0.mk H;clear H
        go_wp2
        go_meet
        case rel=>exact ⟨_,(l0_1),(u9000_),H',⟨by have:=HJ3.out;have:=HJ22.out;first|omega|exact Nat.le_refl _⟩,⟨rk HO_1001.out⟩,⟨vdm HO_752003.out⟩,⟨bk BK751.out⟩,⟨i37 HI0.out⟩,⟨kp HK.out⟩,⟨b37 HB.out⟩⟩
      case rest =>
       clear HC29;(try clear c22);(try clear h6_0);(try clear h6_1);(try clear z6_0);(try clear z6_1);(try clear p2);(try clear p6);(try clear HO_1001);(try clear HO_752003);(try clear BK751);(try clear HI0);(try clear HK);(try clear HB);obtain ⟨kq,x1001_28,u1001,HA,HJ28,HO_1001,HO_752003,BK751,HI0,HK,HB⟩:=hcut
       cases kq with
       | zero=>exact absurd HA.out (by simp [impl_judge_pat.j2])
       | succ kj28 =>
        have H:=HA.out;clear HA;simp only [impl_judge_pat.j2] at H;have H':=Aside0.mk H;clear H;have:=NB751_0.out;have:=NB0_751.out;obtain ⟨h43_0,h43_1,h43_2,h43_3,h43_4⟩:=kb5 BK751.out
        go_wp2
        go_loopg [78] kj28 (fun kq v78 w'=>∃ (x78_4:Int) (x1000_4:Int) (x1001_4:List ByteArray) (u1001:Value),v78 = .int .i64 x78_4∧Aside0 (impl_judge_pat.l0 kq a2 l1_3 (l1_3.length:Int) x78_4 x1000_4 x1001_4 = some (r1,r2,r3))∧Aside0 (kq≤kj28)∧Aside0 (Kd.V k27 27 w' w0.heap.size (fun k_=>((P0_1_ k_∨P1_3_ k_)∨w.heap.size≤k_)∧some k_≠(u1001:Value).ownBlock∧k_≠gb751∧k_≠g) (.slice A1_3 l1_3.length c1_3) l1_3)∧Aside0 (Kd.R Kd.string 9 w' w0.heap.size (fun k_=>(P0_1_ k_∨w.heap.size≤k_)) u1001 x1001_4)∧Aside0 (Kd.V k27 27 w' w0.heap.size (fun k_=>((P0_1_ k_∨P1_3_ k_)∨w.heap.size≤k_)∧some k_≠(u1001:Value).ownBlock∧k_≠gb751∧k_≠g) (.slice A1_3 l1_3.length c1_3) l1_3)∧Aside0 (w'.heap[gb751]? = some (.cells #[.int .i64 a1_0,.int .i64 a1_1,.string a1_2,(.slice A1_3 l1_3.length c1_3),(.slice A1_4 l1_4.length c1_4)] 27 (0,0)))∧Aside0 (IsS37 w0 w' g x1000_4 u1001)∧Aside0 (Kept w w' (fun k_=>(P0_1_ k_)∨k_ = g))∧Aside0 (Below w0.heap.size w0 w'))
        case atStart=>exact ⟨(0),((wrap64 (s0_0 + 1))),(x1001_28),(u1001),(cl2),H',⟨Nat.le_refl _⟩,⟨vdm HO_752003.out⟩,⟨rk HO_1001.out⟩,⟨vdm HO_752003.out⟩,⟨bk BK751.out⟩,⟨i37 HI0.out⟩,⟨kp HK.out⟩,⟨b37 HB.out⟩⟩
        case round =>
         clear H';(try clear c22);(try clear h43_0 h43_1 h43_2 h43_3 h43_4);(try clear h6_0);(try clear h6_1);(try clear z6_0);(try clear z6_1);(try clear p2);(try clear p6);(try clear HO_1001);(try clear HO_752003);(try clear BK751);(try clear HI0);(try clear HK);(try clear HB);obtain ⟨x78_4,x1000_4,x1001_4,u1001,rfl,HA,HK4,HO_76,HO_1001,HO_752003,BK751,HI0,HK,HB⟩:=hrel
         cases gk with
         | zero=>exact absurd HA.out (by simp [impl_judge_pat.l0])
         | succ k4 =>
          have H:=HA.out;clear HA;simp only [impl_judge_pat.l0] at H
          by_cases c44:x78_4 < (l1_3.length:Int)
          ·rw [if_pos c44] at H
           have c44b0:decide (x78_4 < (l1_3.length:Int)) = true:=decide_eq_true c44;clear c44
           by_cases c45:0≤x78_4
           ·rw [if_pos c45] at H
            have c45b0:decide (0≤x78_4) = true:=decide_eq_true c45;clear c45
            by_cases c46:x78_4 < (l1_3.length:Int)
            ·rw [if_pos c46] at H
             have c46b0:decide (x78_4 < (l1_3.length:Int)) = true:=decide_eq_true c46;clear c46;replace H:=Option.bind_eq_some_iff.mp H;obtain ⟨⟨t759,t760,t763⟩,A470,H⟩:=H;replace H:(if t759 = true then (impl_judge_pat.l0 k4 a2 l1_3 (l1_3.length:Int) (wrap64 (x78_4 + 1)) t763 t760) else (some (false,t760,t763))) = some (r1,r2,r3):=H;have A47:=Aside0.mk A470;clear A470
             by_cases c48:t759 = true
             ·subst c48
              have H1:(impl_judge_pat.l0 k4 a2 l1_3 (l1_3.length:Int) (wrap64 (x78_4 + 1)) t763 t760) = some (r1,r2,r3):=by rw [if_pos rfl] at H;exact H
              clear H;have H:=H1;clear H1;have H':=Aside0.mk H;clear H;have p757:0≤(x78_4:Int):=od;have q757:x78_4 < (l1_3.length:Int):=od;obtain ⟨ad757,A757_3,c757_3,A757_4,c757_4,e757,hx757_0,hx757_1,hx757_2,hx757_3,hx757_4,hl757_3,hi757_3,hl757_4,hi757_4⟩:=at_T27 (Kd.V_reads' HO_76.out).2.2 x78_4 p757 q757;cases e757;obtain ⟨ce757,hce757,hMe757,hcc757⟩:=Kd.V_get HO_76.out z27 x78_4 p757 (by first|exact q757|exact od|(have e_:=(Kd.V_reads' HO_76.out).1;omega));obtain ⟨ua757_3,uc757_3,ua757_4,uc757_4,rfl,ul757_3,ge757_3,ul757_4,ge757_4⟩:=k27_openF hMe757;have hv757_3:=hcc757 3 _ rfl;rw [add_field _ _ 3 (by omega)] at hv757_3;replace hv757_3:=Option.some.inj (hv757_3.symm.trans hx757_3)
              injection hv757_3 with hva_ hvn_ hvc_
              rw [hva_] at ge757_3;rw [hvc_] at ul757_3;have HL757_3:=Aside0.mk (show Kd.V k27 27 _ w0.heap.size _ _ ((rd_T27 l1_3 x78_4).f3) from Kd.V_mk ul757_3 ge757_3);clear hva_ hvn_ hvc_ ge757_3 ul757_3;have hv757_4:=hcc757 4 _ rfl;rw [add_field _ _ 4 (by omega)] at hv757_4;replace hv757_4:=Option.some.inj (hv757_4.symm.trans hx757_4)
              injection hv757_4 with hva_ hvn_ hvc_
              rw [hva_] at ge757_4;rw [hvc_] at ul757_4;have HL757_4:=Aside0.mk (show Kd.V k52 52 _ w0.heap.size _ _ ((rd_T27 l1_3 x78_4).f4) from Kd.V_mk ul757_4 ge757_4);clear hva_ hvn_ hvc_ ge757_4 ul757_4;clear hcc757 hce757;have HR757_3:=Aside0.mk hi757_3;have HC757_3:=Aside0.mk hl757_3;clear hi757_3 hl757_3;have HR757_4:=Aside0.mk hi757_4;have HC757_4:=Aside0.mk hl757_4;clear hi757_4 hl757_4;replace p757:=eq_true p757;replace q757:=eq_true q757
              go_wp2_with (first|((with_reducible refine gate_dst (N:=8) rfl ?_);(try (refine gate_guard (by rfl) ?_;dsimp only));refine box_event ?hg (N:=8) ?hd (cs:=#[.int .i64 0,.int .i64 0,.string (⟨#[]⟩:ByteArray),.slice none 0 0,.slice none 0 0]) (t:=27) ?hr ?_;(case hd=>rfl);(case hg=>rfl);(case hr=>first|(go_simp;done)|(go_simp;rfl));intro gb758 hg w49 hbox hb;have n_:=ai (vbm HO_76 hg hb) <| ai (rwm HO_1001 hb) <| ai (vbm HO_752003 hg hb) <| ai (vbm HL757_3 hg hb) <| ai (vbm HL757_4 hg hb) <| ai (bw BK751 hb) <| aj (IsS37.below (i37 HI0.out) hb) <| aj (Kd.C_below (by repeat (first|(with_reducible exact HR757_3.out)|(with_reducible refine Kd.C_alloc ?_ _)|(with_reducible refine Kd.C_drewN ?_ _)|(with_reducible refine Kd.C_drew ?_)|exact HR757_3.out)) hb) <| aj (Kd.C_below (by repeat (first|(with_reducible exact HR757_4.out)|(with_reducible refine Kd.C_alloc ?_ _)|(with_reducible refine Kd.C_drewN ?_ _)|(with_reducible refine Kd.C_drew ?_)|exact HR757_4.out)) hb) <| aj (Kept.below (S:=(fun k_=>(P0_1_ k_)∨k_ = g)) (kp HK.out) hb) <| ai (bqs (IsS37.ge HI0.out) HB hb) <| aj (hbox) <| aj ((by rw [hg];exact (by first|exact HK.out.1|exact (show Kept w _ (fun k_=>(P0_1_ k_)∨k_ = g) from kp HK.out).1):w.heap.size≤gb758)) <| ai (bzs hg (IsS37.ge HI0.out) HB) <| ai (nl hg BK751) <| ai (ng hg BK751) <| aj ((by rw [hg];exact Nat.ne_of_lt (IsS37.lt (show IsS37 w0 _ g x1000_4 u1001 from i37 HI0.out)):g≠gb758)) <| Aside0.mk ((by rw [hg];exact Nat.ne_of_gt (IsS37.lt (show IsS37 w0 _ g x1000_4 u1001 from i37 HI0.out)):gb758≠g));clear HO_76 HO_1001 HO_752003 HL757_3 HL757_4 BK751 HI0 HR757_3 HR757_4 HK HB;obtain ⟨HO_76,HO_1001,HO_752003,HL757_3,HL757_4,BK751,HI0,HR757_3,HR757_4,HK,HB,BK758,GW758,GE758,NB751_758,NB758_751,NB0_758,NB758_0⟩:=n_;clear hb hbox hg;have:=NB758_751.out;have:=NB751_758.out;have:=NB758_0.out;have:=NB0_758.out;obtain ⟨h52_0,h52_1,h52_2,h52_3,h52_4⟩:=kb5 BK758.out;obtain ⟨z52_0,z52_1,z52_2,z52_3,z52_4⟩:=kz5 BK758.out)|((with_reducible refine gate_store (t:=27) (p:=8) rfl ?_);refine store_event (t:=27) (p:=8) (v:=?vo_w53) (w1:=(((((w49.setCell ⟨gb758,0,none⟩ (.int .i64 ((rd_T27 l1_3 x78_4).f0))).setCell ⟨gb758,1,none⟩ (.int .i64 ((rd_T27 l1_3 x78_4).f1))).setCell ⟨gb758,2,none⟩ (.string ((rd_T27 l1_3 x78_4).f2))).setCell ⟨gb758,3,none⟩ (.slice A757_3 ((rd_T27 l1_3 x78_4).f3).length c757_3)).setCell ⟨gb758,4,none⟩ (.slice A757_4 ((rd_T27 l1_3 x78_4).f4).length c757_4))) ?hg ?ho ?hn ?hr ?_;(case ho=>rfl);(case hg=>rfl);(case hn=>rfl);(case hr=>first|(go_simp;done)|(go_simp;rfl));intro w53 hw;have n_:=ai ((⟨(by rw [hw];exact (by (with_reducible repeat (first|apply Kd.V_alloc|apply Kd.V_drewN|apply Kd.V_drew));exact Kd.V_mono (vfm (Kd.V_mono HO_76.out (fun k_ hk=>(⟨hk,hk.2⟩:_∧k_≠gb758)))) (fun _ hk=>⟨hk.1.1.1,⟨hk.1.1.2.1,⟨hk.1.1.2.2.1,⟨hk.1.1.2.2.2,hk.1.2⟩⟩⟩⟩)))⟩:Aside0 (Kd.V k27 27 w53 w0.heap.size (fun k_=>((P0_1_ k_∨P1_3_ k_)∨w.heap.size≤k_)∧some k_≠(u1001:Value).ownBlock∧k_≠gb751∧k_≠g∧k_≠gb758) (.slice (some ad757) l1_3.length c1_3) l1_3))) <| ai ((⟨(by rw [hw];exact (by (with_reducible repeat (first|apply Kd.R_alloc|apply Kd.R_drewN|apply Kd.R_drew));exact Kd.R_mono (rfm (Kd.R_types HO_1001.out BK758.out (by decide))) (fun _ hk=>hk.1)))⟩:Aside0 (Kd.R Kd.string 9 w53 w0.heap.size (fun k_=>(P0_1_ k_∨w.heap.size≤k_)) u1001 x1001_4))) <| ai ((⟨(by rw [hw];exact (by (with_reducible repeat (first|apply Kd.V_alloc|apply Kd.V_drewN|apply Kd.V_drew));exact Kd.V_mono (vfm (Kd.V_mono HO_752003.out (fun k_ hk=>(⟨hk,hk.2⟩:_∧k_≠gb758)))) (fun _ hk=>⟨hk.1.1.1,⟨hk.1.1.2.1,⟨hk.1.1.2.2.1,⟨hk.1.1.2.2.2,hk.1.2⟩⟩⟩⟩)))⟩:Aside0 (Kd.V k27 27 w53 w0.heap.size (fun k_=>((P0_1_ k_∨P1_3_ k_)∨w.heap.size≤k_)∧some k_≠(u1001:Value).ownBlock∧k_≠gb751∧k_≠g∧k_≠gb758) (.slice (some ad757) l1_3.length c1_3) l1_3))) <| ai ((⟨(by rw [hw];exact (by (with_reducible repeat (first|apply Kd.V_alloc|apply Kd.V_drewN|apply Kd.V_drew));exact Kd.V_mono (vfm (Kd.V_mono HL757_3.out (fun k_ hk=>(⟨hk,hk.2⟩:_∧k_≠gb758)))) (fun _ hk=>⟨hk.1.1.1,⟨hk.1.1.2.1,⟨hk.1.1.2.2.1,⟨hk.1.1.2.2.2,hk.1.2⟩⟩⟩⟩)))⟩:Aside0 (Kd.V k27 27 w53 w0.heap.size (fun k_=>((P0_1_ k_∨P1_3_ k_)∨w.heap.size≤k_)∧some k_≠(u1001:Value).ownBlock∧k_≠gb751∧k_≠g∧k_≠gb758) (.slice A757_3 ((rd_T27 l1_3 x78_4).f3).length c757_3) ((rd_T27 l1_3 x78_4).f3)))) <| ai ((⟨(by rw [hw];exact (by (with_reducible repeat (first|apply Kd.V_alloc|apply Kd.V_drewN|apply Kd.V_drew));exact Kd.V_mono (vfm (Kd.V_mono HL757_4.out (fun k_ hk=>(⟨hk,hk.2⟩:_∧k_≠gb758)))) (fun _ hk=>⟨hk.1.1.1,⟨hk.1.1.2.1,⟨hk.1.1.2.2.1,⟨hk.1.1.2.2.2,hk.1.2⟩⟩⟩⟩)))⟩:Aside0 (Kd.V k52 52 w53 w0.heap.size (fun k_=>((P0_1_ k_∨P1_3_ k_)∨w.heap.size≤k_)∧some k_≠(u1001:Value).ownBlock∧k_≠gb751∧k_≠g∧k_≠gb758) (.slice A757_4 ((rd_T27 l1_3 x78_4).f4).length c757_4) ((rd_T27 l1_3 x78_4).f4)))) <| ai ((⟨(by rw [hw];exact (bm BK751.out))⟩:Aside0 (w53.heap[gb751]? = some (.cells #[.int .i64 a1_0,.int .i64 a1_1,.string a1_2,.slice (some ad757) l1_3.length c1_3,.slice A1_4 l1_4.length c1_4] 27 (0,0))))) <| ai ((⟨(by rw [hw];exact (bmp BK758.out))⟩:Aside0 (w53.heap[gb758]? = some (.cells #[.int .i64 ((rd_T27 l1_3 x78_4).f0),.int .i64 ((rd_T27 l1_3 x78_4).f1),.string ((rd_T27 l1_3 x78_4).f2),.slice A757_3 ((rd_T27 l1_3 x78_4).f3).length c757_3,.slice A757_4 ((rd_T27 l1_3 x78_4).f4).length c757_4] 27 (0,0))))) <| ai ((⟨(by rw [hw];exact (i37 HI0.out))⟩:Aside0 (IsS37 w0 w53 g x1000_4 u1001))) <| ai ((⟨(by rw [hw];exact (kp HK.out))⟩:Aside0 (Kept w w53 (fun k_=>(P0_1_ k_)∨k_ = g)))) <| (⟨(by rw [hw];exact (b37 HB.out))⟩:Aside0 (Below w0.heap.size w0 w53));clear hw HO_76 HO_1001 HO_752003 HL757_3 HL757_4 BK751 BK758 HI0 HK HB;obtain ⟨HO_76,HO_1001,HO_752003,HL757_3,HL757_4,BK751,BK758,HI0,HK,HB⟩:=n_;obtain ⟨h54_0,h54_1,h54_2,h54_3,h54_4⟩:=kb5 BK758.out;obtain ⟨z54_0,z54_1,z54_2,z54_3,z54_4⟩:=kz5 BK758.out)|((with_reducible refine gate_callee (f:=13) rfl ?_);refine goesL_ (some 86) rfl rfl Try.func13 (by kernel_rfl) rfl #[.pointer (some ⟨g,0,none⟩),.agg #[.int .i64 ((rd_T27 l1_3 x78_4).f0),.int .i64 ((rd_T27 l1_3 x78_4).f1),.string ((rd_T27 l1_3 x78_4).f2),.slice A757_3 ((rd_T27 l1_3 x78_4).f3).length c757_3,.slice A757_4 ((rd_T27 l1_3 x78_4).f4).length c757_4],.int .i64 (wrap64 (a2 + 1))] rfl gs ?_;(with_reducible refine (ih k4 (by have:=HJ3.out;have:=HJ22.out;have:=HJ28.out;have:=HK4.out;omega) g x1000_4 (fun k_=>some k_ = (u1001:Value).ownBlock) u1001 x1001_4 ((rd_T27 l1_3 x78_4).f0) ((rd_T27 l1_3 x78_4).f1) ((rd_T27 l1_3 x78_4).f2) (fun k_=>(((P0_1_ k_∨P1_3_ k_)∨w.heap.size≤k_)∧(some k_≠(u1001:Value).ownBlock∧(k_≠gb751∧(k_≠g∧k_≠gb758))))) _ _ ((rd_T27 l1_3 x78_4).f3) _ _ ((rd_T27 l1_3 x78_4).f4) (wrap64 (a2 + 1)) true t760 t763 w0 _ ?side1 ?side2 ?side3 ?side4 ?side5 ?side6 A47.out).mono ?_);(case side1=>exact i37 HI0.out);(case side2=>exact b37 HB.out);(case side3=>exact Kd.R_tight rfl HO_1001.out);(case side4=>exact Kd.V_mono (HL757_3.out) (fun k_ hk_=>⟨hk_,hk_.2.1,hk_.2.2.2.1⟩));(case side5=>exact Kd.C_kept_ownV (HL757_4.out) (fun k_ hk_ hs_=>Or.elim hs_ (fun hs_=>(hk_.2.1) hs_) (fun e_=>(hk_.2.2.2.1) e_)));(case side6=>exact HC757_4.out);rintro e w55 ⟨v761,rfl,ho0,hi,hb,hkp⟩;refine ⟨_,rfl,?_⟩;have n_:=aj (Kd.V_mono (ok':=fun k_=>((P0_1_ k_∨P1_3_ k_)∨w.heap.size≤k_)∧k_≠gb751∧k_≠gb758∧k_≠g∧some k_≠(v761:Value).ownBlock) (Kd.V_keptB (HO_76.out) hkp (fun k_ hk_ hs_=>Or.elim hs_ (fun hs_=>(hk_.2.1) hs_) (fun e_=>(hk_.2.2.2.1) e_))) (fun k_ hk_=>⟨hk_.1.1,hk_.1.2.2.1,hk_.1.2.2.2.2,hk_.1.2.2.2.1,fun e_=>Or.elim (ho0.1 k_ e_.symm) (fun hs_=>hk_.2.1 (.inl hs_)) (fun hn_=>Nat.not_le.2 hk_.2.2 hn_)⟩)) <| aj (Kd.V_mono (ok':=fun k_=>((P0_1_ k_∨P1_3_ k_)∨w.heap.size≤k_)∧k_≠gb751∧k_≠gb758∧k_≠g∧some k_≠(v761:Value).ownBlock) (Kd.V_keptB (HO_752003.out) hkp (fun k_ hk_ hs_=>Or.elim hs_ (fun hs_=>(hk_.2.1) hs_) (fun e_=>(hk_.2.2.2.1) e_))) (fun k_ hk_=>⟨hk_.1.1,hk_.1.2.2.1,hk_.1.2.2.2.2,hk_.1.2.2.2.1,fun e_=>Or.elim (ho0.1 k_ e_.symm) (fun hs_=>hk_.2.1 (.inl hs_)) (fun hn_=>Nat.not_le.2 hk_.2.2 hn_)⟩)) <| aj (blk_kept (bk BK751.out) hkp (fun hs_=>Or.elim hs_ (fun hs_=>(fun e_=>(Kd.R_ne HO_1001.out BK751.out (by decide)) e_) hs_) (fun e_=>NB751_0.out e_))) <| aj (hi) <| aj (Kd.V_mono (ok':=fun k_=>((P0_1_ k_∨P1_3_ k_)∨w.heap.size≤k_)∧k_≠gb751∧k_≠gb758∧k_≠g∧some k_≠(v761:Value).ownBlock) (Kd.V_keptB (HL757_3.out) hkp (fun k_ hk_ hs_=>Or.elim hs_ (fun hs_=>(hk_.2.1) hs_) (fun e_=>(hk_.2.2.2.1) e_))) (fun k_ hk_=>⟨hk_.1.1,hk_.1.2.2.1,hk_.1.2.2.2.2,hk_.1.2.2.2.1,fun e_=>Or.elim (ho0.1 k_ e_.symm) (fun hs_=>hk_.2.1 (.inl hs_)) (fun hn_=>Nat.not_le.2 hk_.2.2 hn_)⟩)) <| aj (Kd.V_mono (ok':=fun k_=>((P0_1_ k_∨P1_3_ k_)∨w.heap.size≤k_)∧k_≠gb751∧k_≠gb758∧k_≠g∧some k_≠(v761:Value).ownBlock) (Kd.V_keptB (HL757_4.out) hkp (fun k_ hk_ hs_=>Or.elim hs_ (fun hs_=>(hk_.2.1) hs_) (fun e_=>(hk_.2.2.2.1) e_))) (fun k_ hk_=>⟨hk_.1.1,hk_.1.2.2.1,hk_.1.2.2.2.2,hk_.1.2.2.2.1,fun e_=>Or.elim (ho0.1 k_ e_.symm) (fun hs_=>hk_.2.1 (.inl hs_)) (fun hn_=>Nat.not_le.2 hk_.2.2 hn_)⟩)) <| aj (blk_kept (bk BK758.out) hkp (fun hs_=>Or.elim hs_ (fun hs_=>(fun e_=>(Kd.R_ne HO_1001.out BK758.out (by decide)) e_) hs_) (fun e_=>NB758_0.out e_))) <| aj (Kd.R_mono (ok':=fun k_=>(P0_1_ k_∨w.heap.size≤k_)) ho0 (fun k_ hk_=>Or.elim hk_ (fun hs_=>(HO_1001.out.1 k_ (hs_).symm)) (fun hn_=>(.inr (Nat.le_trans (by first|exact HK.out.1|exact (show Kept w _ (fun k_=>(P0_1_ k_)∨k_ = g) from kp HK.out).1) hn_))))) <| aj (Kept.then_ (S:=(fun k_=>(P0_1_ k_)∨k_ = g)) (kp HK.out) hkp (fun k_ hs_=>Or.elim hs_ (fun hs_=>(fun e_=>Or.imp_left Or.inl ((HO_1001.out.1 k_ e_.symm))) hs_) (fun e_=>.inl (.inr e_)))) <| Aside0.mk (hb);clear HO_76 HO_752003 BK751 HI0 HL757_3 HL757_4 BK758 HK HB HO_1001;obtain ⟨HO_76,HO_752003,BK751,HI0,HL757_3,HL757_4,BK758,HO762,HK,HB⟩:=n_;(try clear hb);(try clear hkp);(try clear ho0)))
              go_roundg k4
              case measure=>have:=HJ3.out;have:=HJ22.out;have:=HJ28.out;have:=HK4.out;omega
              case rel=>exact ⟨(wrap64 (x78_4 + 1)),(t763),(t760),(v761),(cl2),H',⟨by have:=HJ3.out;have:=HJ22.out;have:=HJ28.out;have:=HK4.out;omega⟩,⟨by (with_reducible repeat (first|apply Kd.V_alloc|apply Kd.V_drewN|apply Kd.V_drew));exact Kd.V_mono HO_76.out (fun _ hk=>⟨hk.1,⟨hk.2.2.2.2,⟨hk.2.1,hk.2.2.2.1⟩⟩⟩)⟩,⟨rk HO762.out⟩,⟨by (with_reducible repeat (first|apply Kd.V_alloc|apply Kd.V_drewN|apply Kd.V_drew));exact Kd.V_mono HO_752003.out (fun _ hk=>⟨hk.1,⟨hk.2.2.2.2,⟨hk.2.1,hk.2.2.2.1⟩⟩⟩)⟩,⟨bk BK751.out⟩,⟨i37 HI0.out⟩,⟨kp HK.out⟩,⟨b37 HB.out⟩⟩
             ·replace c48:=Bool.eq_false_iff.mpr c48
              subst c48;have H1:(some (false,t760,t763)) = some (r1,r2,r3):=nt H
              clear H;have H:=H1;clear H1;simp only [Option.some.injEq,Prod.mk.injEq] at H;obtain ⟨rfl,rfl,rfl⟩:=H;have p757:0≤(x78_4:Int):=od;have q757:x78_4 < (l1_3.length:Int):=od;obtain ⟨ad757,A757_3,c757_3,A757_4,c757_4,e757,hx757_0,hx757_1,hx757_2,hx757_3,hx757_4,hl757_3,hi757_3,hl757_4,hi757_4⟩:=at_T27 (Kd.V_reads' HO_76.out).2.2 x78_4 p757 q757;cases e757;obtain ⟨ce757,hce757,hMe757,hcc757⟩:=Kd.V_get HO_76.out z27 x78_4 p757 (by first|exact q757|exact od|(have e_:=(Kd.V_reads' HO_76.out).1;omega));obtain ⟨ua757_3,uc757_3,ua757_4,uc757_4,rfl,ul757_3,ge757_3,ul757_4,ge757_4⟩:=k27_openF hMe757;have hv757_3:=hcc757 3 _ rfl;rw [add_field _ _ 3 (by omega)] at hv757_3;replace hv757_3:=Option.some.inj (hv757_3.symm.trans hx757_3)
              injection hv757_3 with hva_ hvn_ hvc_
              rw [hva_] at ge757_3;rw [hvc_] at ul757_3;have HL757_3:=Aside0.mk (show Kd.V k27 27 _ w0.heap.size _ _ ((rd_T27 l1_3 x78_4).f3) from Kd.V_mk ul757_3 ge757_3);clear hva_ hvn_ hvc_ ge757_3 ul757_3;have hv757_4:=hcc757 4 _ rfl;rw [add_field _ _ 4 (by omega)] at hv757_4;replace hv757_4:=Option.some.inj (hv757_4.symm.trans hx757_4)
              injection hv757_4 with hva_ hvn_ hvc_
              rw [hva_] at ge757_4;rw [hvc_] at ul757_4;have HL757_4:=Aside0.mk (show Kd.V k52 52 _ w0.heap.size _ _ ((rd_T27 l1_3 x78_4).f4) from Kd.V_mk ul757_4 ge757_4);clear hva_ hvn_ hvc_ ge757_4 ul757_4;clear hcc757 hce757;have HR757_3:=Aside0.mk hi757_3;have HC757_3:=Aside0.mk hl757_3;clear hi757_3 hl757_3;have HR757_4:=Aside0.mk hi757_4;have HC757_4:=Aside0.mk hl757_4;clear hi757_4 hl757_4;replace p757:=eq_true p757;replace q757:=eq_true q757
              go_wp2_with (first|((with_reducible refine gate_dst (N:=8) rfl ?_);(try (refine gate_guard (by rfl) ?_;dsimp only));refine box_event ?hg (N:=8) ?hd (cs:=#[.int .i64 0,.int .i64 0,.string (⟨#[]⟩:ByteArray),.slice none 0 0,.slice none 0 0]) (t:=27) ?hr ?_;(case hd=>rfl);(case hg=>rfl);(case hr=>first|(go_simp;done)|(go_simp;rfl));intro gb758 hg w56 hbox hb;have n_:=ai (vbm HO_76 hg hb) <| ai (rwm HO_1001 hb) <| ai (vbm HO_752003 hg hb) <| ai (vbm HL757_3 hg hb) <| ai (vbm HL757_4 hg hb) <| ai (bw BK751 hb) <| aj (IsS37.below (i37 HI0.out) hb) <| aj (Kd.C_below (by repeat (first|(with_reducible exact HR757_3.out)|(with_reducible refine Kd.C_alloc ?_ _)|(with_reducible refine Kd.C_drewN ?_ _)|(with_reducible refine Kd.C_drew ?_)|exact HR757_3.out)) hb) <| aj (Kd.C_below (by repeat (first|(with_reducible exact HR757_4.out)|(with_reducible refine Kd.C_alloc ?_ _)|(with_reducible refine Kd.C_drewN ?_ _)|(with_reducible refine Kd.C_drew ?_)|exact HR757_4.out)) hb) <| aj (Kept.below (S:=(fun k_=>(P0_1_ k_)∨k_ = g)) (kp HK.out) hb) <| ai (bqs (IsS37.ge HI0.out) HB hb) <| aj (hbox) <| aj ((by rw [hg];exact (by first|exact HK.out.1|exact (show Kept w _ (fun k_=>(P0_1_ k_)∨k_ = g) from kp HK.out).1):w.heap.size≤gb758)) <| ai (bzs hg (IsS37.ge HI0.out) HB) <| ai (nl hg BK751) <| ai (ng hg BK751) <| aj ((by rw [hg];exact Nat.ne_of_lt (IsS37.lt (show IsS37 w0 _ g x1000_4 u1001 from i37 HI0.out)):g≠gb758)) <| Aside0.mk ((by rw [hg];exact Nat.ne_of_gt (IsS37.lt (show IsS37 w0 _ g x1000_4 u1001 from i37 HI0.out)):gb758≠g));clear HO_76 HO_1001 HO_752003 HL757_3 HL757_4 BK751 HI0 HR757_3 HR757_4 HK HB;obtain ⟨HO_76,HO_1001,HO_752003,HL757_3,HL757_4,BK751,HI0,HR757_3,HR757_4,HK,HB,BK758,GW758,GE758,NB751_758,NB758_751,NB0_758,NB758_0⟩:=n_;clear hb hbox hg;have:=NB758_751.out;have:=NB751_758.out;have:=NB758_0.out;have:=NB0_758.out;obtain ⟨h59_0,h59_1,h59_2,h59_3,h59_4⟩:=kb5 BK758.out;obtain ⟨z59_0,z59_1,z59_2,z59_3,z59_4⟩:=kz5 BK758.out)|((with_reducible refine gate_store (t:=27) (p:=8) rfl ?_);refine store_event (t:=27) (p:=8) (v:=?vo_w60) (w1:=(((((w56.setCell ⟨gb758,0,none⟩ (.int .i64 ((rd_T27 l1_3 x78_4).f0))).setCell ⟨gb758,1,none⟩ (.int .i64 ((rd_T27 l1_3 x78_4).f1))).setCell ⟨gb758,2,none⟩ (.string ((rd_T27 l1_3 x78_4).f2))).setCell ⟨gb758,3,none⟩ (.slice A757_3 ((rd_T27 l1_3 x78_4).f3).length c757_3)).setCell ⟨gb758,4,none⟩ (.slice A757_4 ((rd_T27 l1_3 x78_4).f4).length c757_4))) ?hg ?ho ?hn ?hr ?_;(case ho=>rfl);(case hg=>rfl);(case hn=>rfl);(case hr=>first|(go_simp;done)|(go_simp;rfl));intro w60 hw;have n_:=ai ((⟨(by rw [hw];exact (by (with_reducible repeat (first|apply Kd.V_alloc|apply Kd.V_drewN|apply Kd.V_drew));exact Kd.V_mono (vfm (Kd.V_mono HO_76.out (fun k_ hk=>(⟨hk,hk.2⟩:_∧k_≠gb758)))) (fun _ hk=>⟨hk.1.1.1,⟨hk.1.1.2.1,⟨hk.1.1.2.2.1,⟨hk.1.1.2.2.2,hk.1.2⟩⟩⟩⟩)))⟩:Aside0 (Kd.V k27 27 w60 w0.heap.size (fun k_=>((P0_1_ k_∨P1_3_ k_)∨w.heap.size≤k_)∧some k_≠(u1001:Value).ownBlock∧k_≠gb751∧k_≠g∧k_≠gb758) (.slice (some ad757) l1_3.length c1_3) l1_3))) <| ai ((⟨(by rw [hw];exact (by (with_reducible repeat (first|apply Kd.R_alloc|apply Kd.R_drewN|apply Kd.R_drew));exact Kd.R_mono (rfm (Kd.R_types HO_1001.out BK758.out (by decide))) (fun _ hk=>hk.1)))⟩:Aside0 (Kd.R Kd.string 9 w60 w0.heap.size (fun k_=>(P0_1_ k_∨w.heap.size≤k_)) u1001 x1001_4))) <| ai ((⟨(by rw [hw];exact (by (with_reducible repeat (first|apply Kd.V_alloc|apply Kd.V_drewN|apply Kd.V_drew));exact Kd.V_mono (vfm (Kd.V_mono HO_752003.out (fun k_ hk=>(⟨hk,hk.2⟩:_∧k_≠gb758)))) (fun _ hk=>⟨hk.1.1.1,⟨hk.1.1.2.1,⟨hk.1.1.2.2.1,⟨hk.1.1.2.2.2,hk.1.2⟩⟩⟩⟩)))⟩:Aside0 (Kd.V k27 27 w60 w0.heap.size (fun k_=>((P0_1_ k_∨P1_3_ k_)∨w.heap.size≤k_)∧some k_≠(u1001:Value).ownBlock∧k_≠gb751∧k_≠g∧k_≠gb758) (.slice (some ad757) l1_3.length c1_3) l1_3))) <| ai ((⟨(by rw [hw];exact (by (with_reducible repeat (first|apply Kd.V_alloc|apply Kd.V_drewN|apply Kd.V_drew));exact Kd.V_mono (vfm (Kd.V_mono HL757_3.out (fun k_ hk=>(⟨hk,hk.2⟩:_∧k_≠gb758)))) (fun _ hk=>⟨hk.1.1.1,⟨hk.1.1.2.1,⟨hk.1.1.2.2.1,⟨hk.1.1.2.2.2,hk.1.2⟩⟩⟩⟩)))⟩:Aside0 (Kd.V k27 27 w60 w0.heap.size (fun k_=>((P0_1_ k_∨P1_3_ k_)∨w.heap.size≤k_)∧some k_≠(u1001:Value).ownBlock∧k_≠gb751∧k_≠g∧k_≠gb758) (.slice A757_3 ((rd_T27 l1_3 x78_4).f3).length c757_3) ((rd_T27 l1_3 x78_4).f3)))) <| ai ((⟨(by rw [hw];exact (by (with_reducible repeat (first|apply Kd.V_alloc|apply Kd.V_drewN|apply Kd.V_drew));exact Kd.V_mono (vfm (Kd.V_mono HL757_4.out (fun k_ hk=>(⟨hk,hk.2⟩:_∧k_≠gb758)))) (fun _ hk=>⟨hk.1.1.1,⟨hk.1.1.2.1,⟨hk.1.1.2.2.1,⟨hk.1.1.2.2.2,hk.1.2⟩⟩⟩⟩)))⟩:Aside0 (Kd.V k52 52 w60 w0.heap.size (fun k_=>((P0_1_ k_∨P1_3_ k_)∨w.heap.size≤k_)∧some k_≠(u1001:Value).ownBlock∧k_≠gb751∧k_≠g∧k_≠gb758) (.slice A757_4 ((rd_T27 l1_3 x78_4).f4).length c757_4) ((rd_T27 l1_3 x78_4).f4)))) <| ai ((⟨(by rw [hw];exact (bm BK751.out))⟩:Aside0 (w60.heap[gb751]? = some (.cells #[.int .i64 a1_0,.int .i64 a1_1,.string a1_2,.slice (some ad757) l1_3.length c1_3,.slice A1_4 l1_4.length c1_4] 27 (0,0))))) <| ai ((⟨(by rw [hw];exact (bmp BK758.out))⟩:Aside0 (w60.heap[gb758]? = some (.cells #[.int .i64 ((rd_T27 l1_3 x78_4).f0),.int .i64 ((rd_T27 l1_3 x78_4).f1),.string ((rd_T27 l1_3 x78_4).f2),.slice A757_3 ((rd_T27 l1_3 x78_4).f3).length c757_3,.slice A757_4 ((rd_T27 l1_3 x78_4).f4).length c757_4] 27 (0,0))))) <| ai ((⟨(by rw [hw];exact (i37 HI0.out))⟩:Aside0 (IsS37 w0 w60 g x1000_4 u1001))) <| ai ((⟨(by rw [hw];exact (kp HK.out))⟩:Aside0 (Kept w w60 (fun k_=>(P0_1_ k_)∨k_ = g)))) <| (⟨(by rw [hw];exact (b37 HB.out))⟩:Aside0 (Below w0.heap.size w0 w60));clear hw HO_76 HO_1001 HO_752003 HL757_3 HL757_4 BK751 BK758 HI0 HK HB;obtain ⟨HO_76,HO_1001,HO_752003,HL757_3,HL757_4,BK751,BK758,HI0,HK,HB⟩:=n_;obtain ⟨h61_0,h61_1,h61_2,h61_3,h61_4⟩:=kb5 BK758.out;obtain ⟨z61_0,z61_1,z61_2,z61_3,z61_4⟩:=kz5 BK758.out)|((with_reducible refine gate_callee (f:=13) rfl ?_);refine goesL_ (some 86) rfl rfl Try.func13 (by kernel_rfl) rfl #[.pointer (some ⟨g,0,none⟩),.agg #[.int .i64 ((rd_T27 l1_3 x78_4).f0),.int .i64 ((rd_T27 l1_3 x78_4).f1),.string ((rd_T27 l1_3 x78_4).f2),.slice A757_3 ((rd_T27 l1_3 x78_4).f3).length c757_3,.slice A757_4 ((rd_T27 l1_3 x78_4).f4).length c757_4],.int .i64 (wrap64 (a2 + 1))] rfl gs ?_;(with_reducible refine (ih k4 (by have:=HJ3.out;have:=HJ22.out;have:=HJ28.out;have:=HK4.out;omega) g x1000_4 (fun k_=>some k_ = (u1001:Value).ownBlock) u1001 x1001_4 ((rd_T27 l1_3 x78_4).f0) ((rd_T27 l1_3 x78_4).f1) ((rd_T27 l1_3 x78_4).f2) (fun k_=>(((P0_1_ k_∨P1_3_ k_)∨w.heap.size≤k_)∧(some k_≠(u1001:Value).ownBlock∧(k_≠gb751∧(k_≠g∧k_≠gb758))))) _ _ ((rd_T27 l1_3 x78_4).f3) _ _ ((rd_T27 l1_3 x78_4).f4) (wrap64 (a2 + 1)) false t760 t763 w0 _ ?side1 ?side2 ?side3 ?side4 ?side5 ?side6 A47.out).mono ?_);(case side1=>exact i37 HI0.out);(case side2=>exact b37 HB.out);(case side3=>exact Kd.R_tight rfl HO_1001.out);(case side4=>exact Kd.V_mono (HL757_3.out) (fun k_ hk_=>⟨hk_,hk_.2.1,hk_.2.2.2.1⟩));(case side5=>exact Kd.C_kept_ownV (HL757_4.out) (fun k_ hk_ hs_=>Or.elim hs_ (fun hs_=>(hk_.2.1) hs_) (fun e_=>(hk_.2.2.2.1) e_)));(case side6=>exact HC757_4.out);rintro e w62 ⟨v761,rfl,ho0,hi,hb,hkp⟩;refine ⟨_,rfl,?_⟩;have n_:=aj (Kd.V_mono (ok':=fun k_=>((P0_1_ k_∨P1_3_ k_)∨w.heap.size≤k_)∧k_≠gb751∧k_≠gb758∧k_≠g∧some k_≠(v761:Value).ownBlock) (Kd.V_keptB (HO_76.out) hkp (fun k_ hk_ hs_=>Or.elim hs_ (fun hs_=>(hk_.2.1) hs_) (fun e_=>(hk_.2.2.2.1) e_))) (fun k_ hk_=>⟨hk_.1.1,hk_.1.2.2.1,hk_.1.2.2.2.2,hk_.1.2.2.2.1,fun e_=>Or.elim (ho0.1 k_ e_.symm) (fun hs_=>hk_.2.1 (.inl hs_)) (fun hn_=>Nat.not_le.2 hk_.2.2 hn_)⟩)) <| aj (Kd.V_mono (ok':=fun k_=>((P0_1_ k_∨P1_3_ k_)∨w.heap.size≤k_)∧k_≠gb751∧k_≠gb758∧k_≠g∧some k_≠(v761:Value).ownBlock) (Kd.V_keptB (HO_752003.out) hkp (fun k_ hk_ hs_=>Or.elim hs_ (fun hs_=>(hk_.2.1) hs_) (fun e_=>(hk_.2.2.2.1) e_))) (fun k_ hk_=>⟨hk_.1.1,hk_.1.2.2.1,hk_.1.2.2.2.2,hk_.1.2.2.2.1,fun e_=>Or.elim (ho0.1 k_ e_.symm) (fun hs_=>hk_.2.1 (.inl hs_)) (fun hn_=>Nat.not_le.2 hk_.2.2 hn_)⟩)) <| aj (blk_kept (bk BK751.out) hkp (fun hs_=>Or.elim hs_ (fun hs_=>(fun e_=>(Kd.R_ne HO_1001.out BK751.out (by decide)) e_) hs_) (fun e_=>NB751_0.out e_))) <| aj (hi) <| aj (Kd.V_mono (ok':=fun k_=>((P0_1_ k_∨P1_3_ k_)∨w.heap.size≤k_)∧k_≠gb751∧k_≠gb758∧k_≠g∧some k_≠(v761:Value).ownBlock) (Kd.V_keptB (HL757_3.out) hkp (fun k_ hk_ hs_=>Or.elim hs_ (fun hs_=>(hk_.2.1) hs_) (fun e_=>(hk_.2.2.2.1) e_))) (fun k_ hk_=>⟨hk_.1.1,hk_.1.2.2.1,hk_.1.2.2.2.2,hk_.1.2.2.2.1,fun e_=>Or.elim (ho0.1 k_ e_.symm) (fun hs_=>hk_.2.1 (.inl hs_)) (fun hn_=>Nat.not_le.2 hk_.2.2 hn_)⟩)) <| aj (Kd.V_mono (ok':=fun k_=>((P0_1_ k_∨P1_3_ k_)∨w.heap.size≤k_)∧k_≠gb751∧k_≠gb758∧k_≠g∧some k_≠(v761:Value).ownBlock) (Kd.V_keptB (HL757_4.out) hkp (fun k_ hk_ hs_=>Or.elim hs_ (fun hs_=>(hk_.2.1) hs_) (fun e_=>(hk_.2.2.2.1) e_))) (fun k_ hk_=>⟨hk_.1.1,hk_.1.2.2.1,hk_.1.2.2.2.2,hk_.1.2.2.2.1,fun e_=>Or.elim (ho0.1 k_ e_.symm) (fun hs_=>hk_.2.1 (.inl hs_)) (fun hn_=>Nat.not_le.2 hk_.2.2 hn_)⟩)) <| aj (blk_kept (bk BK758.out) hkp (fun hs_=>Or.elim hs_ (fun hs_=>(fun e_=>(Kd.R_ne HO_1001.out BK758.out (by decide)) e_) hs_) (fun e_=>NB758_0.out e_))) <| aj (Kd.R_mono (ok':=fun k_=>(P0_1_ k_∨w.heap.size≤k_)) ho0 (fun k_ hk_=>Or.elim hk_ (fun hs_=>(HO_1001.out.1 k_ (hs_).symm)) (fun hn_=>(.inr (Nat.le_trans (by first|exact HK.out.1|exact (show Kept w _ (fun k_=>(P0_1_ k_)∨k_ = g) from kp HK.out).1) hn_))))) <| aj (Kept.then_ (S:=(fun k_=>(P0_1_ k_)∨k_ = g)) (kp HK.out) hkp (fun k_ hs_=>Or.elim hs_ (fun hs_=>(fun e_=>Or.imp_left Or.inl ((HO_1001.out.1 k_ e_.symm))) hs_) (fun e_=>.inl (.inr e_)))) <| Aside0.mk (hb);clear HO_76 HO_752003 BK751 HI0 HL757_3 HL757_4 BK758 HK HB HO_1001;obtain ⟨HO_76,HO_752003,BK751,HI0,HL757_3,HL757_4,BK758,HO762,HK,HB⟩:=n_;(try clear hb);(try clear hkp);(try clear ho0)))
              go_ret
              exact ⟨_,cl,rk HO762.out,i37 HI0.out,b37 HB.out,kp HK.out⟩
            ·rw [if_neg c46] at H
             exact absurd H (by simp)
           ·rw [if_neg c45] at H
            exact absurd H (by simp)
          ·rw [if_neg c44] at H
           have c44b0:decide (x78_4 < (l1_3.length:Int)) = false:=decide_eq_false c44;clear c44;simp only [Option.some.injEq,Prod.mk.injEq] at H;obtain ⟨rfl,rfl,rfl⟩:=H
           go_wp2
           go_ret
           exact ⟨_,cl,rk HO_1001.out,i37 HI0.out,b37 HB.out,kp HK.out⟩

end Go.Proofs.Ytaobcdpadpkngaa.QFnPatterns
