-- Written by a program of this workplace (print2.py) for this claim, over the print's words.
import Derived.Test.YtghhbdmjafedbaaQFnExactCodeOkx0
namespace Go.Proofs.Ytghhbdmjafedbaa.QFnExactCodeOk
open Go.RowKit Go.Proofs.YtghhbdmjafedbaaW.PrintWords Go.Proofs.YtghhbdmjafedbaaW.PrintLast Go.Proofs.YtghhbdmjafedbaaW.PrintMore
attribute [local go_sem] max2_int min2_int max_two min_two max_three min_three max_four min_four   -- for this text's walks alone
set_option linter.unusedVariables false
set_option linter.unusedSimpArgs false

/-- A state of type 82 at block g of W; what its slices lead to came in by w0. -/
def IsS82 (w0 W:World) (g:Nat) (f0:Value) (f1:Bool):Prop:=W.heap[g]? = some (.cells #[f0,.bool f1] 82 (0,0))∧w0.heap.size≤g
theorem IsS82.grown {w0 W:World} {g:Nat} {f0:Value} {f1:Bool} {W1:World} {row:Option Nat} (h:IsS82 w0 W g f0 f1) (hw:W.grownBy W1 row) (hne:some g≠row):IsS82 w0 W1 g f0 f1:=by
 obtain ⟨hb,hg⟩:=h
 exact ⟨blk_grown hb hw hne,hg⟩
theorem IsS82.own_neN {w0 W:World} {g:Nat} {f0:Value} {f1:Bool} {α:Type} {d:Kd α} {e:Nat} {base:Nat} {ok:Nat → Prop} {v:Value} {xs:List α} (h:IsS82 w0 W g f0 f1) (ho:Kd.N d e W base ok v xs) (ht:e≠82):some g≠v.ownBlock:=by
 obtain ⟨hb,hg⟩:=h
 exact Kd.N_ne ho hb ht
theorem IsS82.fresh {w0 W:World} {g:Nat} {f0:Value} {f1:Bool} (h:IsS82 w0 W g f0 f1):∀ k,W.heap.size≤k → k≠g:=by
 obtain ⟨hb,hg⟩:=h
 exact Kd.freshB hb
theorem IsS82.kept {w0 W:World} {g:Nat} {f0:Value} {f1:Bool} {W1:World} {S:Nat → Prop} (h:IsS82 w0 W g f0 f1) (hk:Kept W W1 S) (hne : ¬ S g):IsS82 w0 W1 g f0 f1:=by
 obtain ⟨hb,hg⟩:=h
 exact ⟨blk_kept hb hk hne,hg⟩
theorem IsS82.below {w0 W:World} {g:Nat} {f0:Value} {f1:Bool} {W1:World} (h:IsS82 w0 W g f0 f1) (hw:Below W.heap.size W W1):IsS82 w0 W1 g f0 f1:=h.grown (grown_of_below hw none) (by simp)
theorem IsS82.alloc {w0 W:World} {g:Nat} {f0:Value} {f1:Bool} (h:IsS82 w0 W g f0 f1) (o:Obj):IsS82 w0 (W.alloc o) g f0 f1:=h.below (below_alloc (Below.refl _ _) o)
theorem IsS82.drewN {w0 W:World} {g:Nat} {f0:Value} {f1:Bool} (h:IsS82 w0 W g f0 f1) (m:Nat):IsS82 w0 (W.drewN m) g f0 f1:=h
theorem IsS82.drew {w0 W:World} {g:Nat} {f0:Value} {f1:Bool} (h:IsS82 w0 W g f0 f1):IsS82 w0 W.drew g f0 f1:=h
theorem IsS82.at_ {w0 W:World} {g:Nat} {f0:Value} {f1:Bool} {w':World} {m:Nat} (hq:W.drewN m = w') (h:IsS82 w0 W g f0 f1):IsS82 w0 w' g f0 f1:=by subst hq;exact IsS82.drewN h m
theorem IsS82.apart {w0 W:World} {g:Nat} {f0:Value} {f1:Bool} {α:Type} {d:Kd α} {e:Nat} {base:Nat} {ok:Nat → Prop} {v:Value} {xs:List α} (h:IsS82 w0 W g f0 f1) (ho:d.R e W base ok v xs) (ht:∀ q,q ∈ e :: d.E → q≠82):d.R e W base (fun k=>ok k∧k≠g) v xs:=by
 obtain ⟨hb,hg⟩:=h
 exact Kd.R_types ho hb ht
theorem IsS82.own_ne {w0 W:World} {g:Nat} {f0:Value} {f1:Bool} {α:Type} {d:Kd α} {e:Nat} {base:Nat} {ok:Nat → Prop} {v:Value} {xs:List α} (h:IsS82 w0 W g f0 f1) (ho:d.R e W base ok v xs) (ht:e≠82):some g≠v.ownBlock:=by
 obtain ⟨hb,hg⟩:=h
 exact Kd.R_ne ho hb ht
theorem IsS82.apartQ {w0 W:World} {g:Nat} {f0:Value} {f1:Bool} {α:Type} {d:Kd α} {e:Nat} {base:Nat} {ok:Nat → Prop} {v:Value} {xs:List α} (h:IsS82 w0 W g f0 f1) (ho:d.Q e W base ok v xs) (ht:∀ q,q ∈ e :: d.E → q≠82):d.Q e W base (fun k=>ok k∧k≠g) v xs:=by
 obtain ⟨hb,hg⟩:=h
 exact Kd.Q_types ho hb ht
theorem IsS82.own_neQ {w0 W:World} {g:Nat} {f0:Value} {f1:Bool} {α:Type} {d:Kd α} {e:Nat} {base:Nat} {ok:Nat → Prop} {v:Value} {xs:List α} (h:IsS82 w0 W g f0 f1) (ho:d.Q e W base ok v xs) (ht:e≠82):some g≠v.ownBlock:=by
 obtain ⟨hb,hg⟩:=h
 exact Kd.Q_ne ho hb ht
theorem IsS82.apartS {w0 W:World} {g:Nat} {f0:Value} {f1:Bool} {α:Type} {d:Kd α} {e:Nat} {base:Nat} {ok:Nat → Prop} {v:Value} {xs:List α} (h:IsS82 w0 W g f0 f1) (ho:d.S e W base ok v xs) (ht:∀ q,q ∈ e :: d.E → q≠82):d.S e W base (fun k=>ok k∧k≠g) v xs:=by
 obtain ⟨hb,hg⟩:=h
 exact Kd.S_types ho hb ht
theorem IsS82.own_neS {w0 W:World} {g:Nat} {f0:Value} {f1:Bool} {α:Type} {d:Kd α} {e:Nat} {base:Nat} {ok:Nat → Prop} {v:Value} {xs:List α} (h:IsS82 w0 W g f0 f1) (ho:d.S e W base ok v xs) (ht:e≠82):some g≠v.ownBlock:=by
 obtain ⟨hb,hg⟩:=h
 exact Kd.S_ne ho hb ht
theorem IsS82.cell_0 {w0 W:World} {g:Nat} {f0:Value} {f1:Bool} (h:IsS82 w0 W g f0 f1):W.cell? ⟨g,0,none⟩ = some (f0):=by
 obtain ⟨hb,hg⟩:=h
 exact (blk_cell hb 0).trans rfl
theorem IsS82.froz_0 {w0 W:World} {g:Nat} {f0:Value} {f1:Bool} (h:IsS82 w0 W g f0 f1):W.frozen? ⟨g,0,none⟩ = false:=by
 obtain ⟨hb,hg⟩:=h
 exact blk_frozen hb 0
theorem IsS82.cell_1 {w0 W:World} {g:Nat} {f0:Value} {f1:Bool} (h:IsS82 w0 W g f0 f1):W.cell? ⟨g,1,none⟩ = some (.bool f1):=by
 obtain ⟨hb,hg⟩:=h
 exact (blk_cell hb 1).trans rfl
theorem IsS82.froz_1 {w0 W:World} {g:Nat} {f0:Value} {f1:Bool} (h:IsS82 w0 W g f0 f1):W.frozen? ⟨g,1,none⟩ = false:=by
 obtain ⟨hb,hg⟩:=h
 exact blk_frozen hb 1
theorem IsS82.lt {w0 W:World} {g:Nat} {f0:Value} {f1:Bool} (h:IsS82 w0 W g f0 f1):g < W.heap.size:=by
 obtain ⟨hb,hg⟩:=h
 exact blk_lt hb
theorem IsS82.ge {w0 W:World} {g:Nat} {f0:Value} {f1:Bool} (h:IsS82 w0 W g f0 f1):w0.heap.size≤g:=by
 obtain ⟨hb,hg⟩:=h
 exact hg
theorem IsS82.ne_blk {w0 W:World} {g:Nat} {f0:Value} {f1:Bool} {a:Nat} {cs:Array Value} {t:TypeId} {fr:Nat × Nat} (h:IsS82 w0 W g f0 f1) (hb2:W.heap[a]? = some (.cells cs t fr)) (ht:t≠82):g≠a:=by
 obtain ⟨hb,hg⟩:=h;rintro rfl;rw [hb] at hb2
 injection hb2 with hb2
 injection hb2 with _ ht2
 exact ht ht2.symm
theorem IsS82.far {w0 W:World} {g:Nat} {f0:Value} {f1:Bool} {p:Addr} (h:IsS82 w0 W g f0 f1) (hne:g≠p.block) (u:Value):IsS82 w0 (W.setCell p u) g f0 f1:=by
 obtain ⟨hb,hg⟩:=h
 exact ⟨blk_far hb hne u,hg⟩
theorem cellS82_0 {W:World} {g:Nat} {f0:Value} {f1:Bool} (h:W.heap[g]? = some (.cells #[f0,.bool f1] 82 (0,0))):W.cell? ⟨g,0,none⟩ = some (f0):=(blk_cell h 0).trans rfl
theorem IsS82.set_0 {w0 W:World} {g:Nat} {f0:Value} {f1:Bool} (h:IsS82 w0 W g f0 f1) (x:Value):IsS82 w0 (W.setCell ⟨g,0,none⟩ (x)) g x f1:=by
 obtain ⟨hb,hg⟩:=h
 exact ⟨by simpa using blk_set hb 0 (x),hg⟩
theorem cellS82_1 {W:World} {g:Nat} {f0:Value} {f1:Bool} (h:W.heap[g]? = some (.cells #[f0,.bool f1] 82 (0,0))):W.cell? ⟨g,1,none⟩ = some (.bool f1):=(blk_cell h 1).trans rfl
theorem IsS82.set_1 {w0 W:World} {g:Nat} {f0:Value} {f1:Bool} (h:IsS82 w0 W g f0 f1) (x:Bool):IsS82 w0 (W.setCell ⟨g,1,none⟩ (.bool x)) g f0 x:=by
 obtain ⟨hb,hg⟩:=h
 exact ⟨by simpa using blk_set hb 1 (.bool x),hg⟩
theorem IsS82.new (w0 W:World) (f0:Value) (f1:Bool) (hB:Below w0.heap.size w0 W):IsS82 w0 (W.alloc (.cells #[f0,.bool f1] 82)) W.heap.size f0 f1:=⟨by simpa using heap_alloc_new W _,hB.size⟩
theorem IsS82.of_blk {w0 W:World} {g:Nat} {f0:Value} {f1:Bool} (hb:W.heap[g]? = some (.cells #[f0,.bool f1] 82 (0,0))) (hg:w0.heap.size≤g):IsS82 w0 W g f0 f1:=⟨hb,hg⟩

/-! ### impl_climber_comes: function 46 -/
def impl_climber_comes.j0:Nat → Int → Int → Bool → List Int → Bool → Option (List Int × Bool)
 | 0,_,_,_,_,_=>none
 | k + 1,x1,x2,x6,x1000,x1001=>if x6 = true then (some (x1000,true)) else (if 0≤x1 then (if x1 < (x1000.length:Int) then (if (rd x1000 x1) < 0 then (some ((x1000.set (x1:Int).toNat x2),x1001)) else (if (rd x1000 x1) = x2 then (some (x1000,x1001)) else (some (x1000,true)))) else (none)) else (none))
def impl_climber_comes.f (k:Nat) (l0_0:List Int) (s0_1:Bool) (a1:Int) (a2:Int):Option (List Int × Bool):=if a1 ≥ (l0_0.length:Int) then (impl_climber_comes.j0 k a1 a2 true l0_0 s0_1) else (impl_climber_comes.j0 k a1 a2 (decide (a2 > 300)) l0_0 s0_1)
theorem impl_climber_comes.mono_l:∀ k,(∀ y0 y1 y2 y3 y4,LeO (impl_climber_comes.j0 k y0 y1 y2 y3 y4) (impl_climber_comes.j0 (k + 1) y0 y1 y2 y3 y4))
 | 0=>fun _ _ _ _ _ r h=>by simp [impl_climber_comes.j0] at h
 | k + 1=>by
  have ih0:=impl_climber_comes.mono_l k
  ·intro y0 y1 y2 y3 y4
   unfold impl_climber_comes.j0
   with_reducible repeat' first|apply ih0|apply LeO.refl|apply LeO.none|apply LeO.ite|refine LeO.bind ?_ (fun _=>?_)
theorem impl_climber_comes.mono:∀ a0 a1 a2 a3 k,LeO (impl_climber_comes.f k a0 a1 a2 a3) (impl_climber_comes.f (k + 1) a0 a1 a2 a3):=by
 intro a0 a1 a2 a3 k;have ih0:=impl_climber_comes.mono_l k
 unfold impl_climber_comes.f
 with_reducible repeat' first|apply ih0|apply LeO.refl|apply LeO.none|apply LeO.ite|refine LeO.bind ?_ (fun _=>?_)
set_option maxHeartbeats 8000000 in
set_option maxRecDepth 100000 in
theorem impl_climber_comes.calls (k:Nat) (g:Nat) (P0_0_:Nat → Prop) (u9000_:Value) (l0_0:List Int) (s0_1:Bool) (a1:Int) (a2:Int) (r1:List Int) (r2:Bool) (w0 w:World) (hI:IsS82 w0 w g u9000_ s0_1) (hB:Below w0.heap.size w0 w) (ho0_0:Kd.R (Kd.int .i64) 3 w w0.heap.size P0_0_ u9000_ l0_0) (h:impl_climber_comes.f k l0_0 s0_1 a1 a2 = some (r1,r2)) :
  Calls Try.prog 46 #[.pointer (some ⟨g,0,none⟩),.int .i64 a1,.int .i64 a2] w fun e w'=>∃ v0_:Value,e = .returned (.tuple #[])∧Kd.R (Kd.int .i64) 3 w' w0.heap.size (fun k_=>(P0_0_ k_∨w.heap.size≤k_)) v0_ r1∧IsS82 w0 w' g v0_ r2∧Below w0.heap.size w0 w'∧Kept w w' (fun k_=>(P0_0_ k_)∨k_ = g):=by
 have HO0_0:=Aside0.mk (show Kd.R (Kd.int .i64) 3 w w0.heap.size (fun k_=>(P0_0_ k_∨w.heap.size≤k_)) u9000_ l0_0 from Kd.R_mono ho0_0 (fun k_ hk=>(.inl hk)));have HI0:=Aside0.mk hI;have HL:=Aside0.mk hB.size;clear hI;have HK:=Aside0.mk (Kept.refl w (fun k_=>(P0_0_ k_)∨k_ = g));have HW0:=Aside0.mk hB.size;have HB:=Aside0.mk hB;clear hB;have H:(if a1 ≥ (l0_0.length:Int) then (impl_climber_comes.j0 k a1 a2 true l0_0 s0_1) else (impl_climber_comes.j0 k a1 a2 (decide (a2 > 300)) l0_0 s0_1)) = some (r1,r2):=h;clear h;have HC4:=Aside0.mk H;clear H
 go_enter Try.func46,Try.ntmps46
 go_upto_region 0 with (fail)
 go_cut [6] (fun v6 wc=>∃ (kq:Nat) (x6_3:Bool),v6 = .bool x6_3∧Aside0 (impl_climber_comes.j0 kq a1 a2 x6_3 l0_0 s0_1 = some (r1,r2))∧Aside0 (kq≤k)∧Aside0 (Kd.R (Kd.int .i64) 3 wc w0.heap.size (fun k_=>(P0_0_ k_∨w.heap.size≤k_)) u9000_ l0_0)∧Aside0 (IsS82 w0 wc g u9000_ s0_1)∧Aside0 (Kept w wc (fun k_=>(P0_0_ k_)∨k_ = g))∧Aside0 (Below w0.heap.size w0 wc))
 case first =>
  have H:=HC4.out;clear HC4
  by_cases c5:a1 ≥ (l0_0.length:Int)
  ·rw [if_pos c5] at H
   have c5b0:decide ((l0_0.length:Int)≤a1) = true:=decide_eq_true c5;clear c5
   (first|rw [c5b0]|(simp only [i64_w,i32_w];rw [c5b0])|(simp only [c5b2,Bool.not_true,Bool.not_false])|skip)
   have H':=Aside0.mk H;clear H;obtain ⟨HGz6,hgz6⟩:=HI0.out;have hcz6_0:=cellS82_0 HGz6;have hcz6_1:=cellS82_1 HGz6;have hfz6_0:=blk_frozen HGz6 0;have hfz6_1:=blk_frozen HGz6 1;clear HGz6 hgz6;obtain ⟨Ao7,co7,eo7⟩:=Kd.R_slice HO0_0.out;subst eo7
   go_wp2
   go_meet
   case rel=>exact ⟨_,(true),(cl2),H',⟨by first|omega|exact Nat.le_refl _⟩,⟨rk HO0_0.out⟩,⟨by repeat (first|(with_reducible first|exact HI0.out|apply IsS82.alloc|apply IsS82.drewN|apply IsS82.drew|apply IsS82.set_0|apply IsS82.set_1)|exact HI0.out)⟩,⟨by repeat (first|(with_reducible first|exact HK.out|apply Kept.alloc|apply Kept.drewN|apply Kept.drew|refine Kept.setCell ?_ (.inl (.inr rfl)) _)|exact HK.out)⟩,⟨by repeat (first|(with_reducible first|exact HB.out|apply below_alloc|apply pw_below_drewN|apply below_drew1|refine below_set ?_ (IsS82.ge HI0.out))|exact HB.out)⟩⟩
  ·rw [if_neg c5] at H
   have c5b0:decide ((l0_0.length:Int)≤a1) = false:=decide_eq_false c5;clear c5
   (first|rw [c5b0]|(simp only [i64_w,i32_w];rw [c5b0])|(simp only [c5b2,Bool.not_true,Bool.not_false])|skip)
   have H':=Aside0.mk H;clear H;obtain ⟨HGz8,hgz8⟩:=HI0.out;have hcz8_0:=cellS82_0 HGz8;have hcz8_1:=cellS82_1 HGz8;have hfz8_0:=blk_frozen HGz8 0;have hfz8_1:=blk_frozen HGz8 1;clear HGz8 hgz8;obtain ⟨Ao9,co9,eo9⟩:=Kd.R_slice HO0_0.out;subst eo9
   go_wp2
   go_meet
   case rel=>exact ⟨_,(decide (a2 > 300)),(cl2),H',⟨by first|omega|exact Nat.le_refl _⟩,⟨rk HO0_0.out⟩,⟨by repeat (first|(with_reducible first|exact HI0.out|apply IsS82.alloc|apply IsS82.drewN|apply IsS82.drew|apply IsS82.set_0|apply IsS82.set_1)|exact HI0.out)⟩,⟨by repeat (first|(with_reducible first|exact HK.out|apply Kept.alloc|apply Kept.drewN|apply Kept.drew|refine Kept.setCell ?_ (.inl (.inr rfl)) _)|exact HK.out)⟩,⟨by repeat (first|(with_reducible first|exact HB.out|apply below_alloc|apply pw_below_drewN|apply below_drew1|refine below_set ?_ (IsS82.ge HI0.out))|exact HB.out)⟩⟩
 case rest =>
  clear HC4;(try clear p2);(try clear c4);(try clear c5);(try clear c5b0);(try clear c5b2);(try clear hcz6_0);(try clear hcz6_1);(try clear hcz8_0);(try clear hcz8_1);(try clear hfz6_0);(try clear hfz6_1);(try clear hfz8_0);(try clear hfz8_1);(try clear HO_1000);(try clear HI0);(try clear HK);(try clear HB);obtain ⟨kq,x6_3,rfl,HA,HJ3,HO_1000,HI0,HK,HB⟩:=hcut
  cases kq with
  | zero=>exact absurd HA.out (by simp [impl_climber_comes.j0])
  | succ kj3 =>
   have H:=HA.out;clear HA;simp only [impl_climber_comes.j0] at H
   by_cases c10:x6_3 = true
   ·subst c10
    have H1:(some (l0_0,true)) = some (r1,r2):=by rw [if_pos rfl] at H;exact H
    clear H;have H:=H1;clear H1;simp only [Option.some.injEq,Prod.mk.injEq] at H;obtain ⟨rfl,rfl⟩:=H;obtain ⟨HGz11,hgz11⟩:=HI0.out;have hcz11_0:=cellS82_0 HGz11;have hcz11_1:=cellS82_1 HGz11;have hfz11_0:=blk_frozen HGz11 0;have hfz11_1:=blk_frozen HGz11 1;clear HGz11 hgz11
    go_wp2
    first|go_end0|((try simp only [Exit.inBlock,Exit.then]);refine bodyPost_ret (results_none rfl _ _ _) rfl ?_)
    (try refine exists_and_left.mp ?_);exact ⟨_,cl,by (with_reducible repeat (first|apply Kd.R_alloc|apply Kd.R_drewN|apply Kd.R_drew));exact Kd.R_mono (Kd.R_far (p:=⟨g,1,none⟩) (IsS82.apart HI0.out HO_1000.out (by decide)) (fun _ hk=>hk.2) (.bool true)) (fun _ hk=>hk.1),by repeat (first|(with_reducible first|exact HI0.out|apply IsS82.alloc|apply IsS82.drewN|apply IsS82.drew|apply IsS82.set_0|apply IsS82.set_1)|exact HI0.out),by repeat (first|(with_reducible first|exact HB.out|apply below_alloc|apply pw_below_drewN|apply below_drew1|refine below_set ?_ (IsS82.ge HI0.out))|exact HB.out),by repeat (first|(with_reducible first|exact HK.out|apply Kept.alloc|apply Kept.drewN|apply Kept.drew|refine Kept.setCell ?_ (.inl (.inr rfl)) _)|exact HK.out)⟩
   ·replace c10:=Bool.eq_false_iff.mpr c10
    subst c10;have H1:(if 0≤a1 then (if a1 < (l0_0.length:Int) then (if (rd l0_0 a1) < 0 then (some ((l0_0.set (a1:Int).toNat a2),s0_1)) else (if (rd l0_0 a1) = a2 then (some (l0_0,s0_1)) else (some (l0_0,true)))) else (none)) else (none)) = some (r1,r2):=by rw [if_neg (show ¬ (false = true) by decide)] at H;exact H
    clear H;have H:=H1;clear H1
    by_cases c12:0≤a1
    ·rw [if_pos c12] at H
     have c12b0:decide (0≤a1) = true:=decide_eq_true c12;clear c12
     by_cases c13:a1 < (l0_0.length:Int)
     ·rw [if_pos c13] at H
      have c13b0:decide (a1 < (l0_0.length:Int)) = true:=decide_eq_true c13;clear c13
      by_cases c14:(rd l0_0 a1) < 0
      ·rw [if_pos c14] at H
       have c14b0:decide ((rd l0_0 a1) < 0) = true:=decide_eq_true c14;clear c14;obtain ⟨y329,hy329⟩:∃ y_:List Int,y_ = (l0_0.set (a1:Int).toNat a2):=⟨_,rfl⟩;replace H:(some (y329,s0_1)) = some (r1,r2):=by first|(rw [hy329];with_reducible exact H)|(have H2_:=(Option.bind_some _ _).symm.trans H;rw [hy329];with_reducible exact H2_)|(have H2_:=(Option.bind_some _ _).symm.trans H;with_reducible exact H2_)|with_reducible exact H|(rw [hy329];exact H)|exact H
       have Ny329:=Aside0.mk hy329;clear hy329;simp only [Option.some.injEq,Prod.mk.injEq] at H;obtain ⟨rfl,rfl⟩:=H;obtain ⟨HGz16,hgz16⟩:=HI0.out;have hcz16_0:=cellS82_0 HGz16;have hcz16_1:=cellS82_1 HGz16;have hfz16_0:=blk_frozen HGz16 0;have hfz16_1:=blk_frozen HGz16 1;clear HGz16 hgz16;obtain ⟨Ao17,co17,eo17⟩:=Kd.R_slice HO_1000.out;subst eo17;have p328:0≤(a1:Int):=od;have q328:a1 < (l0_0.length:Int):=od;obtain ⟨ad328,e328,hx328_0⟩:=Kd.at_int (Kd.R_reads' HO_1000.out).2.2 a1 p328 q328;cases e328;replace p328:=eq_true p328;replace q328:=eq_true q328;have p15:0≤(a1:Int):=od;have q15:(a1:Int) < ((l0_0.length:Int):Int):=od;obtain ⟨go15,co15,eo15,gb15,gl15,cl15,HG15⟩:=Kd.R_form HO_1000.out (by omega)
       (first|cases eo15|(injection eo15 with ea_ en_ ec_;(first|subst ea_|(injection ea_ with ea_;subst ea_));subst ec_;clear en_))
       have GB15:=Aside0.mk gb15;have GG15:=Aside0.mk HG15;clear gb15 gl15 HG15;have HMgo15:=Aside0.mk (show (P0_0_ go15∨w.heap.size≤go15) from (HO_1000.out.1 _ rfl))
       (first|simp only [add_plain] at hx328_0|skip)
       obtain ⟨hx15_0,hf15_0⟩:=Kd.R_celln 0 HO_1000.out (a1:Int) p15 q15;replace p15:=eq_true p15;replace q15:=eq_true q15;have HP18:=Kd.R_putg HO_1000.out (a1:Int) a2
       go_wp2_with (first|((with_reducible refine gate_store (t:=3) (p:=36) rfl ?_);refine store_event (t:=3) (p:=36) (v:=?vo_w19) (w1:=(wc.setCell ⟨go15,(a1:Int).toNat,none⟩ (.int .i64 a2))) ?hg ?ho ?hn ?hr ?_;(case ho=>rfl);(case hg=>rfl);(case hn=>rfl);(case hr=>first|(go_simp;done)|(go_simp;rfl));intro w19 hw;have hg:wc.grownBy w19 (some go15):=(by rw [hw];exact HP18.2);have hp_:Kd.R (Kd.int .i64) 3 w19 w0.heap.size (fun k_=>(P0_0_ k_∨w.heap.size≤k_)) (.slice (some ⟨go15,0,none⟩) l0_0.length co17) y329:=(by rw [hw,Ny329.out];exact HP18.1);clear HP18;have n_:=ai (Aside0.mk (hp_)) <| ai (Aside0.mk (IsS82.grown (by repeat (first|(with_reducible first|exact HI0.out|apply IsS82.alloc|apply IsS82.drewN|apply IsS82.drew|apply IsS82.set_0|apply IsS82.set_1)|exact HI0.out)) hg (IsS82.own_ne HI0.out HO_1000.out (by decide)))) <| ai (Aside0.mk ((by rw [hw];exact below_set (HB.out) GB15.out:Below w0.heap.size w0 w19))) <| Aside0.mk (Kept.of_grown (S:=(fun k_=>(P0_0_ k_)∨k_ = g)) hg (by repeat (first|(with_reducible first|exact HK.out|apply Kept.alloc|apply Kept.drewN|apply Kept.drew|refine Kept.setCell ?_ (.inl (.inr rfl)) _)|exact HK.out)) (fun k_ e_=>Or.imp_left Or.inl ((HO_1000.out.1 k_ e_))));clear HO_1000 HI0 HB HK;obtain ⟨HO_1000,HI0,HB,HK⟩:=n_;clear hg hw hp_))
       first|go_end0|((try simp only [Exit.inBlock,Exit.then]);refine bodyPost_ret (results_none rfl _ _ _) rfl ?_)
       (try refine exists_and_left.mp ?_);exact ⟨_,cl,rk HO_1000.out,by repeat (first|(with_reducible first|exact HI0.out|apply IsS82.alloc|apply IsS82.drewN|apply IsS82.drew|apply IsS82.set_0|apply IsS82.set_1)|exact HI0.out),by repeat (first|(with_reducible first|exact HB.out|apply below_alloc|apply pw_below_drewN|apply below_drew1|refine below_set ?_ (IsS82.ge HI0.out))|exact HB.out),by repeat (first|(with_reducible first|exact HK.out|apply Kept.alloc|apply Kept.drewN|apply Kept.drew|refine Kept.setCell ?_ (.inl (.inr rfl)) _)|exact HK.out)⟩
      ·rw [if_neg c14] at H
       have c14b0:decide ((rd l0_0 a1) < 0) = false:=decide_eq_false c14;clear c14
       by_cases c20:(rd l0_0 a1) = a2
       ·rw [if_pos c20] at H
        have c20b0:((rd l0_0 a1) == a2) = true:=beq_iff_eq.mpr c20;have c20b1:((rd l0_0 a1) != a2) = false:=bne_eq_false_iff_eq.mpr c20;clear c20;simp only [Option.some.injEq,Prod.mk.injEq] at H;obtain ⟨rfl,rfl⟩:=H;obtain ⟨HGz21,hgz21⟩:=HI0.out;have hcz21_0:=cellS82_0 HGz21;have hcz21_1:=cellS82_1 HGz21;have hfz21_0:=blk_frozen HGz21 0;have hfz21_1:=blk_frozen HGz21 1;clear HGz21 hgz21;obtain ⟨Ao22,co22,eo22⟩:=Kd.R_slice HO_1000.out;subst eo22;have p328:0≤(a1:Int):=od;have q328:a1 < (l0_0.length:Int):=od;obtain ⟨ad328,e328,hx328_0⟩:=Kd.at_int (Kd.R_reads' HO_1000.out).2.2 a1 p328 q328;cases e328;replace p328:=eq_true p328;replace q328:=eq_true q328;have p330:0≤(a1:Int):=od;have q330:a1 < (l0_0.length:Int):=od;obtain ⟨ad330,e330,hx330_0⟩:=Kd.at_int (Kd.R_reads' HO_1000.out).2.2 a1 p330 q330;obtain rfl:ad328 = ad330:=(by injection e330);replace p330:=eq_true p330;replace q330:=eq_true q330
        go_wp2
        first|go_end0|((try simp only [Exit.inBlock,Exit.then]);refine bodyPost_ret (results_none rfl _ _ _) rfl ?_)
        (try refine exists_and_left.mp ?_);exact ⟨_,cl,rk HO_1000.out,by repeat (first|(with_reducible first|exact HI0.out|apply IsS82.alloc|apply IsS82.drewN|apply IsS82.drew|apply IsS82.set_0|apply IsS82.set_1)|exact HI0.out),by repeat (first|(with_reducible first|exact HB.out|apply below_alloc|apply pw_below_drewN|apply below_drew1|refine below_set ?_ (IsS82.ge HI0.out))|exact HB.out),by repeat (first|(with_reducible first|exact HK.out|apply Kept.alloc|apply Kept.drewN|apply Kept.drew|refine Kept.setCell ?_ (.inl (.inr rfl)) _)|exact HK.out)⟩
       ·rw [if_neg c20] at H
        have c20b0:((rd l0_0 a1) == a2) = false:=beq_eq_false_iff_ne.mpr c20;have c20b1:((rd l0_0 a1) != a2) = true:=bne_iff_ne.mpr c20;simp only [Option.some.injEq,Prod.mk.injEq] at H;obtain ⟨rfl,rfl⟩:=H;obtain ⟨HGz23,hgz23⟩:=HI0.out;have hcz23_0:=cellS82_0 HGz23;have hcz23_1:=cellS82_1 HGz23;have hfz23_0:=blk_frozen HGz23 0;have hfz23_1:=blk_frozen HGz23 1;clear HGz23 hgz23;obtain ⟨Ao24,co24,eo24⟩:=Kd.R_slice HO_1000.out;subst eo24;have p328:0≤(a1:Int):=od;have q328:a1 < (l0_0.length:Int):=od;obtain ⟨ad328,e328,hx328_0⟩:=Kd.at_int (Kd.R_reads' HO_1000.out).2.2 a1 p328 q328;cases e328;replace p328:=eq_true p328;replace q328:=eq_true q328;have p330:0≤(a1:Int):=od;have q330:a1 < (l0_0.length:Int):=od;obtain ⟨ad330,e330,hx330_0⟩:=Kd.at_int (Kd.R_reads' HO_1000.out).2.2 a1 p330 q330;obtain rfl:ad328 = ad330:=(by injection e330);replace p330:=eq_true p330;replace q330:=eq_true q330
        go_wp2
        first|go_end0|((try simp only [Exit.inBlock,Exit.then]);refine bodyPost_ret (results_none rfl _ _ _) rfl ?_)
        (try refine exists_and_left.mp ?_);exact ⟨_,cl,by (with_reducible repeat (first|apply Kd.R_alloc|apply Kd.R_drewN|apply Kd.R_drew));exact Kd.R_mono (Kd.R_far (p:=⟨g,1,none⟩) (IsS82.apart HI0.out HO_1000.out (by decide)) (fun _ hk=>hk.2) (.bool true)) (fun _ hk=>hk.1),by repeat (first|(with_reducible first|exact HI0.out|apply IsS82.alloc|apply IsS82.drewN|apply IsS82.drew|apply IsS82.set_0|apply IsS82.set_1)|exact HI0.out),by repeat (first|(with_reducible first|exact HB.out|apply below_alloc|apply pw_below_drewN|apply below_drew1|refine below_set ?_ (IsS82.ge HI0.out))|exact HB.out),by repeat (first|(with_reducible first|exact HK.out|apply Kept.alloc|apply Kept.drewN|apply Kept.drew|refine Kept.setCell ?_ (.inl (.inr rfl)) _)|exact HK.out)⟩
     ·rw [if_neg c13] at H
      exact absurd H (by simp)
    ·rw [if_neg c12] at H
     exact absurd H (by simp)

/-! ### impl_takesOf: function 56 -/
def impl_takesOf.j0:Nat → Int → Bool → Int → Int → ByteArray → Int → Option (Int)
 | 0,_,_,_,_,_,_=>none
 | k + 1,x4,x5,x332000,x332001,x332002,x332003=>if x5 = true then (some x332001) else (if x4 = 7 then (some 2) else (if x4 = 9 then (some 1) else (if x4 = 12 then (some 1) else (some 0))))
def impl_takesOf.f (k:Nat) (a0_0:Int) (a0_1:Int) (a0_2:ByteArray) (a0_3:Int):Option (Int):=if a0_0 = 4 then (impl_takesOf.j0 k a0_0 (a0_0 == 4) a0_0 a0_1 a0_2 a0_3) else (if a0_0 = 5 then (impl_takesOf.j0 k a0_0 (a0_0 == 5) a0_0 a0_1 a0_2 a0_3) else (if a0_0 = 6 then (impl_takesOf.j0 k a0_0 (a0_0 == 6) a0_0 a0_1 a0_2 a0_3) else (impl_takesOf.j0 k a0_0 (a0_0 == 8) a0_0 a0_1 a0_2 a0_3)))
theorem impl_takesOf.mono_l:∀ k,(∀ y0 y1 y2 y3 y4 y5,LeO (impl_takesOf.j0 k y0 y1 y2 y3 y4 y5) (impl_takesOf.j0 (k + 1) y0 y1 y2 y3 y4 y5))
 | 0=>fun _ _ _ _ _ _ r h=>by simp [impl_takesOf.j0] at h
 | k + 1=>by
  have ih0:=impl_takesOf.mono_l k
  ·intro y0 y1 y2 y3 y4 y5
   unfold impl_takesOf.j0
   with_reducible repeat' first|apply ih0|apply LeO.refl|apply LeO.none|apply LeO.ite|refine LeO.bind ?_ (fun _=>?_)
theorem impl_takesOf.mono:∀ a0 a1 a2 a3 k,LeO (impl_takesOf.f k a0 a1 a2 a3) (impl_takesOf.f (k + 1) a0 a1 a2 a3):=by
 intro a0 a1 a2 a3 k;have ih0:=impl_takesOf.mono_l k
 unfold impl_takesOf.f
 with_reducible repeat' first|apply ih0|apply LeO.refl|apply LeO.none|apply LeO.ite|refine LeO.bind ?_ (fun _=>?_)
set_option maxHeartbeats 8000000 in
set_option maxRecDepth 100000 in
theorem impl_takesOf.calls (k:Nat) (a0_0:Int) (a0_1:Int) (a0_2:ByteArray) (a0_3:Int) (r:Int) (w:World) (h:impl_takesOf.f k a0_0 a0_1 a0_2 a0_3 = some r) :
  Calls Try.prog 56 #[.agg #[.int .i64 a0_0,.int .i64 a0_1,.string a0_2,.int .i64 a0_3]] w fun e w'=>e = .returned (.int .i64 r)∧Below w.heap.size w w':=by
 have hu64:=Try.underlying64;have HB:=Aside0.mk (Below.refl w.heap.size w);have H:(if a0_0 = 4 then (impl_takesOf.j0 k a0_0 (a0_0 == 4) a0_0 a0_1 a0_2 a0_3) else (if a0_0 = 5 then (impl_takesOf.j0 k a0_0 (a0_0 == 5) a0_0 a0_1 a0_2 a0_3) else (if a0_0 = 6 then (impl_takesOf.j0 k a0_0 (a0_0 == 6) a0_0 a0_1 a0_2 a0_3) else (impl_takesOf.j0 k a0_0 (a0_0 == 8) a0_0 a0_1 a0_2 a0_3)))) = some r:=h;clear h;have HC2:=Aside0.mk H;clear H
 go_enter Try.func56,Try.ntmps56
 go_upto_if 5 with (first|((with_reducible refine gate_dst (N:=1) rfl ?_);refine box_event ?hg (N:=1) ?hd (cs:=#[.int .i64 a0_0,.int .i64 a0_1,.string a0_2,.int .i64 a0_3]) (t:=64) ?hr ?_;(case hd=>rfl);(case hg=>rfl);(case hr=>first|(go_simp;done)|(go_simp;rfl));intro gb331 hg w3 hbox hb;have n_:=ai (bq HB hb) <| ai (Aside0.mk (hbox)) <| ai (bz hg HB) <| bz hg HB;clear HB;obtain ⟨HB,BK331,GW331,GE331⟩:=n_;clear hb hbox hg;obtain ⟨hcz4_0,hcz4_1,hcz4_2,hcz4_3⟩:=kb4 BK331.out;obtain ⟨hfz4_0,hfz4_1,hfz4_2,hfz4_3⟩:=kz4 BK331.out))
 (try simp only [Act.put,List.setIfInBounds_toArray,List.set_cons_zero,List.set_cons_succ])
 go_cut [5] (fun v5 wc=>∃ (kq:Nat) (x5_1:Bool),v5 = .bool x5_1∧Aside0 (impl_takesOf.j0 kq a0_0 x5_1 a0_0 a0_1 a0_2 a0_3 = some r)∧Aside0 (kq≤k)∧Aside0 (wc.heap[gb331]? = some (.cells #[.int .i64 a0_0,.int .i64 a0_1,.string a0_2,.int .i64 a0_3] 64 (0,0)))∧Aside0 (Below w.heap.size w wc))
 case first =>
  have H:=HC2.out;clear HC2
  by_cases c5:a0_0 = 4
  ·rw [if_pos c5] at H
   have c5b0:(a0_0 == 4) = true:=beq_iff_eq.mpr c5;have c5b1:(a0_0 != 4) = false:=bne_eq_false_iff_eq.mpr c5;clear c5
   (first|rw [c5b0]|(simp only [i64_w,i32_w];rw [c5b0])|(simp only [c5b2,Bool.not_true,Bool.not_false])|skip)
   have H':=Aside0.mk H;clear H
   go_wp2
   go_meet
   case rel=>exact ⟨_,((a0_0 == 4)),(cl2),H',⟨by first|omega|exact Nat.le_refl _⟩,⟨bk BK331.out⟩,⟨bl HB.out⟩⟩
  ·rw [if_neg c5] at H
   have c5b0:(a0_0 == 4) = false:=beq_eq_false_iff_ne.mpr c5;have c5b1:(a0_0 != 4) = true:=bne_iff_ne.mpr c5
   (first|rw [c5b0]|(simp only [i64_w,i32_w];rw [c5b0])|(simp only [c5b2,Bool.not_true,Bool.not_false])|skip)
   by_cases c6:a0_0 = 5
   ·rw [if_pos c6] at H
    have c6b0:(a0_0 == 5) = true:=beq_iff_eq.mpr c6;have c6b1:(a0_0 != 5) = false:=bne_eq_false_iff_eq.mpr c6;clear c6;have H':=Aside0.mk H;clear H
    go_wp2
    go_meet
    case rel=>exact ⟨_,((a0_0 == 5)),(cl2),H',⟨by first|omega|exact Nat.le_refl _⟩,⟨bk BK331.out⟩,⟨bl HB.out⟩⟩
   ·rw [if_neg c6] at H
    have c6b0:(a0_0 == 5) = false:=beq_eq_false_iff_ne.mpr c6;have c6b1:(a0_0 != 5) = true:=bne_iff_ne.mpr c6
    by_cases c7:a0_0 = 6
    ·rw [if_pos c7] at H
     have c7b0:(a0_0 == 6) = true:=beq_iff_eq.mpr c7;have c7b1:(a0_0 != 6) = false:=bne_eq_false_iff_eq.mpr c7;clear c7;have H':=Aside0.mk H;clear H
     go_wp2
     go_meet
     case rel=>exact ⟨_,((a0_0 == 6)),(cl2),H',⟨by first|omega|exact Nat.le_refl _⟩,⟨bk BK331.out⟩,⟨bl HB.out⟩⟩
    ·rw [if_neg c7] at H
     have c7b0:(a0_0 == 6) = false:=beq_eq_false_iff_ne.mpr c7;have c7b1:(a0_0 != 6) = true:=bne_iff_ne.mpr c7;have H':=Aside0.mk H;clear H
     go_wp2
     go_meet
     case rel=>exact ⟨_,((a0_0 == 8)),(cl2),H',⟨by first|omega|exact Nat.le_refl _⟩,⟨bk BK331.out⟩,⟨bl HB.out⟩⟩
 case rest =>
  clear HC2;(try clear p2);(try clear c5);(try clear c5b0);(try clear c5b1);(try clear c5b2);(try clear c6);(try clear c6b0);(try clear c6b1);(try clear c7);(try clear c7b0);(try clear c7b1);(try clear hcz4_0);(try clear hcz4_1);(try clear hcz4_2);(try clear hcz4_3);(try clear hfz4_0);(try clear hfz4_1);(try clear hfz4_2);(try clear hfz4_3);(try clear BK331);(try clear HB);obtain ⟨kq,x5_1,rfl,HA,HJ1,BK331,HB⟩:=hcut
  cases kq with
  | zero=>exact absurd HA.out (by simp [impl_takesOf.j0])
  | succ kj1 =>
   have H:=HA.out;clear HA;simp only [impl_takesOf.j0] at H
   by_cases c8:x5_1 = true
   ·subst c8
    have H1:(some a0_1) = some r:=by rw [if_pos rfl] at H;exact H
    clear H;have H:=H1;clear H1;obtain rfl:=Option.some.inj H;obtain ⟨hcz9_0,hcz9_1,hcz9_2,hcz9_3⟩:=kb4 BK331.out
    go_wp2
    go_ret
    exact ⟨cl,bl HB.out⟩
   ·replace c8:=Bool.eq_false_iff.mpr c8
    subst c8;have H1:(if a0_0 = 7 then (some 2) else (if a0_0 = 9 then (some 1) else (if a0_0 = 12 then (some 1) else (some 0)))) = some r:=by rw [if_neg (show ¬ (false = true) by decide)] at H;exact H
    clear H;have H:=H1;clear H1
    by_cases c10:a0_0 = 7
    ·rw [if_pos c10] at H
     have c10b0:(a0_0 == 7) = true:=beq_iff_eq.mpr c10;have c10b1:(a0_0 != 7) = false:=bne_eq_false_iff_eq.mpr c10;clear c10;obtain rfl:=Option.some.inj H
     go_wp2
     go_ret
     exact ⟨cl,bl HB.out⟩
    ·rw [if_neg c10] at H
     have c10b0:(a0_0 == 7) = false:=beq_eq_false_iff_ne.mpr c10;have c10b1:(a0_0 != 7) = true:=bne_iff_ne.mpr c10
     by_cases c11:a0_0 = 9
     ·rw [if_pos c11] at H
      have c11b0:(a0_0 == 9) = true:=beq_iff_eq.mpr c11;have c11b1:(a0_0 != 9) = false:=bne_eq_false_iff_eq.mpr c11;clear c11;obtain rfl:=Option.some.inj H
      go_wp2
      go_ret
      exact ⟨cl,bl HB.out⟩
     ·rw [if_neg c11] at H
      have c11b0:(a0_0 == 9) = false:=beq_eq_false_iff_ne.mpr c11;have c11b1:(a0_0 != 9) = true:=bne_iff_ne.mpr c11
      by_cases c12:a0_0 = 12
      ·rw [if_pos c12] at H
       have c12b0:(a0_0 == 12) = true:=beq_iff_eq.mpr c12;have c12b1:(a0_0 != 12) = false:=bne_eq_false_iff_eq.mpr c12;clear c12;obtain rfl:=Option.some.inj H
       go_wp2
       go_ret
       exact ⟨cl,bl HB.out⟩
      ·rw [if_neg c12] at H
       have c12b0:(a0_0 == 12) = false:=beq_eq_false_iff_ne.mpr c12;have c12b1:(a0_0 != 12) = true:=bne_iff_ne.mpr c12;obtain rfl:=Option.some.inj H
       go_wp2
       go_ret
       exact ⟨cl,bl HB.out⟩

end Go.Proofs.Ytghhbdmjafedbaa.QFnExactCodeOk
