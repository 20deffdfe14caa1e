-- Written by a program of this workplace (print2.py) for this claim, over the print's words.
import Derived.Test.YtghhbdmjafedbaaProg
import Derived.Below
import Derived.Deep.Draws
import Derived.Deep.AppendLies
import Derived.Maps.AppendAt
import Derived.OwnWalk
import Derived.Laws.BytesArg
import Derived.Laws.MakeOwn
import Derived.Laws.OwnMore
import Derived.Deep.OwnRows
import Derived.Tactics
import Derived.Lib.ConvBytes
import Derived.Laws.Slices
import Derived.WalkKit
import Derived.KernelRfl
import Derived.RowKit3
import Derived.Deep.LoopGhost
import Derived.Deep.QuietTactic
import Derived.BigQuiet
import Derived.WideLaws
import Derived.Deep.DeepCutAuto
import Derived.Deep.CutBlock
import Derived.Deep.RegionHeld3
import Derived.Laws.Rows
import Derived.Lib.AppendStr
import Derived.ArgAppend
import Derived.Laws.IdiomCopy
import Derived.OrdersHeld
import Derived.Laws.BitsLemmas
import Derived.RowKit
import Derived.Lib.SliceRun
import Derived.Test.YtghhbdmjafedbaaSFnExactCodeOkWords
import Derived.Test.YtghhbdmjafedbaaSFnExactCodeOkLast
import Derived.Test.YtghhbdmjafedbaaSFnExactCodeOkTab
import Derived.Test.YtghhbdmjafedbaaSFnExactCodeOkApart
import Derived.Test.YtghhbdmjafedbaaSFnExactCodeOkArr
import Derived.Test.YtghhbdmjafedbaaSFnExactCodeOkFoot
import Derived.Test.YtghhbdmjafedbaaSFnExactCodeOkKept
import Derived.Test.YtghhbdmjafedbaaSFnExactCodeOkShare
import Derived.Test.YtghhbdmjafedbaaSFnExactCodeOkN
import Derived.Test.YtghhbdmjafedbaaSFnExactCodeOkAt
import Derived.Laws.StructEq
import Derived.Test.YtghhbdmjafedbaaSFnExactCodeOkRepsOne
import Derived.Test.YtghhbdmjafedbaaSFnExactCodeOkInv
import Derived.Test.YtghhbdmjafedbaaSFnExactCodeOkGuard
import Derived.Test.YtghhbdmjafedbaaSFnExactCodeOkMore
namespace Go.Proofs.Ytghhbdmjafedbaa.QFnExactCodeOk
open Go.RowKit Go.Proofs.YtghhbdmjafedbaaW.PrintWords Go.Proofs.YtghhbdmjafedbaaW.PrintLast Go.Proofs.YtghhbdmjafedbaaW.PrintMore
attribute [local go_sem] max2_int min2_int max_two min_two max_three min_three max_four min_four   -- for this text's walks alone
set_option linter.unusedVariables false
set_option linter.unusedSimpArgs false
theorem bz {w W W':World} {g:Nat} (hg:g = W'.heap.size) (h:Aside0 (Below w.heap.size w W)) (k:Below w.heap.size w W → Below w.heap.size w W':=by intro h_;repeat (first|(with_reducible first|exact h_|apply below_alloc|apply pw_below_drewN|apply below_drew1|refine below_set ?_ (Aside0.out (by assumption)))|exact h_)):Aside0 (w.heap.size≤g):=⟨hg ▸ below_size (k h.out)⟩
theorem bq {w W W' w':World} (h:Aside0 (Below w.heap.size w W)) (hb:Below W'.heap.size W' w') (k:Below w.heap.size w W → Below w.heap.size w W':=by intro h_;repeat (first|(with_reducible first|exact h_|apply below_alloc|apply pw_below_drewN|apply below_drew1|refine below_set ?_ (Aside0.out (by assumption)))|exact h_)):Aside0 (Below w.heap.size w w'):=⟨below_step (k h.out) hb⟩
theorem bls {p q r:Prop} (e:r) (h:p) (k:r → p → q:=by intro e_ h_;repeat (first|(with_reducible first|exact h_|apply below_alloc|apply pw_below_drewN|apply below_drew1|refine below_set ?_ e_|refine below_set ?_ (Aside0.out (by assumption)))|exact h_)):q:=k e h
theorem bzs {w W W':World} {g:Nat} {r:Prop} (hg:g = W'.heap.size) (e:r) (h:Aside0 (Below w.heap.size w W)) (k:r → Below w.heap.size w W → Below w.heap.size w W':=by intro e_ h_;repeat (first|(with_reducible first|exact h_|apply below_alloc|apply pw_below_drewN|apply below_drew1|refine below_set ?_ e_|refine below_set ?_ (Aside0.out (by assumption)))|exact h_)):Aside0 (w.heap.size≤g):=⟨hg ▸ below_size (k e h.out)⟩
theorem bqs {w W W' w':World} {r:Prop} (e:r) (h:Aside0 (Below w.heap.size w W)) (hb:Below W'.heap.size W' w') (k:r → Below w.heap.size w W → Below w.heap.size w W':=by intro e_ h_;repeat (first|(with_reducible first|exact h_|apply below_alloc|apply pw_below_drewN|apply below_drew1|refine below_set ?_ e_|refine below_set ?_ (Aside0.out (by assumption)))|exact h_)):Aside0 (Below w.heap.size w w'):=⟨below_step (k e h.out) hb⟩
theorem bw {W W' w':World} {g:Nat} {o:Obj} (h:Aside0 (W.heap[g]? = some o)) (hb:Below W'.heap.size W' w') (k:W.heap[g]? = some o → W'.heap[g]? = some o:=by intro h_;(with_reducible repeat (first|refine blk_drewN ?_ _|refine blk_drew ?_|refine blk_alloc ?_ _));exact h_):Aside0 (w'.heap[g]? = some o):=⟨blk_below (k h.out) hb⟩
theorem dk {W:World} {g:Nat} {o:Obj} (h:Aside0 (W.heap[g]? = some o)):Aside0 (W.drew.heap[g]? = some o):=⟨blk_drew h.out⟩
theorem dh {b:Nat} {w W:World} (h:Aside0 (Below b w W)):Aside0 (Below b w W.drew):=⟨below_drew1 h.out⟩
theorem nl {W W':World} {g g':Nat} {o:Obj} (hg:g' = W'.heap.size) (h:Aside0 (W.heap[g]? = some o)) (k:W.heap[g]? = some o → W'.heap[g]? = some o:=by intro h_;(with_reducible repeat (first|refine blk_drewN ?_ _|refine blk_drew ?_|refine blk_alloc ?_ _));exact h_):Aside0 (g≠g'):=⟨hg ▸ Nat.ne_of_lt (blk_lt (k h.out))⟩
theorem ng {W W':World} {g g':Nat} {o:Obj} (hg:g' = W'.heap.size) (h:Aside0 (W.heap[g]? = some o)) (k:W.heap[g]? = some o → W'.heap[g]? = some o:=by intro h_;(with_reducible repeat (first|refine blk_drewN ?_ _|refine blk_drew ?_|refine blk_alloc ?_ _));exact h_):Aside0 (g'≠g):=⟨hg ▸ Nat.ne_of_gt (blk_lt (k h.out))⟩
theorem ai {p q:Prop} (a:p) (b:q):p∧q:=⟨a,b⟩
theorem kb2 {W:World} {g:Nat} {v0 v1:Value} {t:TypeId} (h:W.heap[g]? = some (.cells #[v0,v1] t (0,0))):W.cell? ⟨g,0,none⟩ = some v0∧W.cell? ⟨g,1,none⟩ = some v1:=⟨(blk_cell h 0).trans rfl,(blk_cell h 1).trans rfl⟩
theorem kz2 {W:World} {g:Nat} {v0 v1:Value} {t:TypeId} (h:W.heap[g]? = some (.cells #[v0,v1] t (0,0))):W.frozen? ⟨g,0,none⟩ = false∧W.frozen? ⟨g,1,none⟩ = false:=⟨blk_frozen h 0,blk_frozen h 1⟩
theorem kb3 {W:World} {g:Nat} {v0 v1 v2:Value} {t:TypeId} (h:W.heap[g]? = some (.cells #[v0,v1,v2] t (0,0))):W.cell? ⟨g,0,none⟩ = some v0∧W.cell? ⟨g,1,none⟩ = some v1∧W.cell? ⟨g,2,none⟩ = some v2:=⟨(blk_cell h 0).trans rfl,(blk_cell h 1).trans rfl,(blk_cell h 2).trans rfl⟩
theorem kz3 {W:World} {g:Nat} {v0 v1 v2:Value} {t:TypeId} (h:W.heap[g]? = some (.cells #[v0,v1,v2] t (0,0))):W.frozen? ⟨g,0,none⟩ = false∧W.frozen? ⟨g,1,none⟩ = false∧W.frozen? ⟨g,2,none⟩ = false:=⟨blk_frozen h 0,blk_frozen h 1,blk_frozen h 2⟩
theorem kb4 {W:World} {g:Nat} {v0 v1 v2 v3:Value} {t:TypeId} (h:W.heap[g]? = some (.cells #[v0,v1,v2,v3] t (0,0))):W.cell? ⟨g,0,none⟩ = some v0∧W.cell? ⟨g,1,none⟩ = some v1∧W.cell? ⟨g,2,none⟩ = some v2∧W.cell? ⟨g,3,none⟩ = some v3:=⟨(blk_cell h 0).trans rfl,(blk_cell h 1).trans rfl,(blk_cell h 2).trans rfl,(blk_cell h 3).trans rfl⟩
theorem kz4 {W:World} {g:Nat} {v0 v1 v2 v3:Value} {t:TypeId} (h:W.heap[g]? = some (.cells #[v0,v1,v2,v3] t (0,0))):W.frozen? ⟨g,0,none⟩ = false∧W.frozen? ⟨g,1,none⟩ = false∧W.frozen? ⟨g,2,none⟩ = false∧W.frozen? ⟨g,3,none⟩ = false:=⟨blk_frozen h 0,blk_frozen h 1,blk_frozen h 2,blk_frozen h 3⟩
theorem kb5 {W:World} {g:Nat} {v0 v1 v2 v3 v4:Value} {t:TypeId} (h:W.heap[g]? = some (.cells #[v0,v1,v2,v3,v4] t (0,0))):W.cell? ⟨g,0,none⟩ = some v0∧W.cell? ⟨g,1,none⟩ = some v1∧W.cell? ⟨g,2,none⟩ = some v2∧W.cell? ⟨g,3,none⟩ = some v3∧W.cell? ⟨g,4,none⟩ = some v4:=⟨(blk_cell h 0).trans rfl,(blk_cell h 1).trans rfl,(blk_cell h 2).trans rfl,(blk_cell h 3).trans rfl,(blk_cell h 4).trans rfl⟩
theorem kz5 {W:World} {g:Nat} {v0 v1 v2 v3 v4:Value} {t:TypeId} (h:W.heap[g]? = some (.cells #[v0,v1,v2,v3,v4] t (0,0))):W.frozen? ⟨g,0,none⟩ = false∧W.frozen? ⟨g,1,none⟩ = false∧W.frozen? ⟨g,2,none⟩ = false∧W.frozen? ⟨g,3,none⟩ = false∧W.frozen? ⟨g,4,none⟩ = false:=⟨blk_frozen h 0,blk_frozen h 1,blk_frozen h 2,blk_frozen h 3,blk_frozen h 4⟩
theorem kb6 {W:World} {g:Nat} {v0 v1 v2 v3 v4 v5:Value} {t:TypeId} (h:W.heap[g]? = some (.cells #[v0,v1,v2,v3,v4,v5] t (0,0))):W.cell? ⟨g,0,none⟩ = some v0∧W.cell? ⟨g,1,none⟩ = some v1∧W.cell? ⟨g,2,none⟩ = some v2∧W.cell? ⟨g,3,none⟩ = some v3∧W.cell? ⟨g,4,none⟩ = some v4∧W.cell? ⟨g,5,none⟩ = some v5:=⟨(blk_cell h 0).trans rfl,(blk_cell h 1).trans rfl,(blk_cell h 2).trans rfl,(blk_cell h 3).trans rfl,(blk_cell h 4).trans rfl,(blk_cell h 5).trans rfl⟩
theorem kz6 {W:World} {g:Nat} {v0 v1 v2 v3 v4 v5:Value} {t:TypeId} (h:W.heap[g]? = some (.cells #[v0,v1,v2,v3,v4,v5] t (0,0))):W.frozen? ⟨g,0,none⟩ = false∧W.frozen? ⟨g,1,none⟩ = false∧W.frozen? ⟨g,2,none⟩ = false∧W.frozen? ⟨g,3,none⟩ = false∧W.frozen? ⟨g,4,none⟩ = false∧W.frozen? ⟨g,5,none⟩ = false:=⟨blk_frozen h 0,blk_frozen h 1,blk_frozen h 2,blk_frozen h 3,blk_frozen h 4,blk_frozen h 5⟩
theorem kb7 {W:World} {g:Nat} {v0 v1 v2 v3 v4 v5 v6:Value} {t:TypeId} (h:W.heap[g]? = some (.cells #[v0,v1,v2,v3,v4,v5,v6] t (0,0))):W.cell? ⟨g,0,none⟩ = some v0∧W.cell? ⟨g,1,none⟩ = some v1∧W.cell? ⟨g,2,none⟩ = some v2∧W.cell? ⟨g,3,none⟩ = some v3∧W.cell? ⟨g,4,none⟩ = some v4∧W.cell? ⟨g,5,none⟩ = some v5∧W.cell? ⟨g,6,none⟩ = some v6:=⟨(blk_cell h 0).trans rfl,(blk_cell h 1).trans rfl,(blk_cell h 2).trans rfl,(blk_cell h 3).trans rfl,(blk_cell h 4).trans rfl,(blk_cell h 5).trans rfl,(blk_cell h 6).trans rfl⟩
theorem kz7 {W:World} {g:Nat} {v0 v1 v2 v3 v4 v5 v6:Value} {t:TypeId} (h:W.heap[g]? = some (.cells #[v0,v1,v2,v3,v4,v5,v6] t (0,0))):W.frozen? ⟨g,0,none⟩ = false∧W.frozen? ⟨g,1,none⟩ = false∧W.frozen? ⟨g,2,none⟩ = false∧W.frozen? ⟨g,3,none⟩ = false∧W.frozen? ⟨g,4,none⟩ = false∧W.frozen? ⟨g,5,none⟩ = false∧W.frozen? ⟨g,6,none⟩ = false:=⟨blk_frozen h 0,blk_frozen h 1,blk_frozen h 2,blk_frozen h 3,blk_frozen h 4,blk_frozen h 5,blk_frozen h 6⟩
theorem kb8 {W:World} {g:Nat} {v0 v1 v2 v3 v4 v5 v6 v7:Value} {t:TypeId} (h:W.heap[g]? = some (.cells #[v0,v1,v2,v3,v4,v5,v6,v7] t (0,0))):W.cell? ⟨g,0,none⟩ = some v0∧W.cell? ⟨g,1,none⟩ = some v1∧W.cell? ⟨g,2,none⟩ = some v2∧W.cell? ⟨g,3,none⟩ = some v3∧W.cell? ⟨g,4,none⟩ = some v4∧W.cell? ⟨g,5,none⟩ = some v5∧W.cell? ⟨g,6,none⟩ = some v6∧W.cell? ⟨g,7,none⟩ = some v7:=⟨(blk_cell h 0).trans rfl,(blk_cell h 1).trans rfl,(blk_cell h 2).trans rfl,(blk_cell h 3).trans rfl,(blk_cell h 4).trans rfl,(blk_cell h 5).trans rfl,(blk_cell h 6).trans rfl,(blk_cell h 7).trans rfl⟩
theorem kz8 {W:World} {g:Nat} {v0 v1 v2 v3 v4 v5 v6 v7:Value} {t:TypeId} (h:W.heap[g]? = some (.cells #[v0,v1,v2,v3,v4,v5,v6,v7] t (0,0))):W.frozen? ⟨g,0,none⟩ = false∧W.frozen? ⟨g,1,none⟩ = false∧W.frozen? ⟨g,2,none⟩ = false∧W.frozen? ⟨g,3,none⟩ = false∧W.frozen? ⟨g,4,none⟩ = false∧W.frozen? ⟨g,5,none⟩ = false∧W.frozen? ⟨g,6,none⟩ = false∧W.frozen? ⟨g,7,none⟩ = false:=⟨blk_frozen h 0,blk_frozen h 1,blk_frozen h 2,blk_frozen h 3,blk_frozen h 4,blk_frozen h 5,blk_frozen h 6,blk_frozen h 7⟩
theorem kb9 {W:World} {g:Nat} {v0 v1 v2 v3 v4 v5 v6 v7 v8:Value} {t:TypeId} (h:W.heap[g]? = some (.cells #[v0,v1,v2,v3,v4,v5,v6,v7,v8] t (0,0))):W.cell? ⟨g,0,none⟩ = some v0∧W.cell? ⟨g,1,none⟩ = some v1∧W.cell? ⟨g,2,none⟩ = some v2∧W.cell? ⟨g,3,none⟩ = some v3∧W.cell? ⟨g,4,none⟩ = some v4∧W.cell? ⟨g,5,none⟩ = some v5∧W.cell? ⟨g,6,none⟩ = some v6∧W.cell? ⟨g,7,none⟩ = some v7∧W.cell? ⟨g,8,none⟩ = some v8:=⟨(blk_cell h 0).trans rfl,(blk_cell h 1).trans rfl,(blk_cell h 2).trans rfl,(blk_cell h 3).trans rfl,(blk_cell h 4).trans rfl,(blk_cell h 5).trans rfl,(blk_cell h 6).trans rfl,(blk_cell h 7).trans rfl,(blk_cell h 8).trans rfl⟩
theorem kz9 {W:World} {g:Nat} {v0 v1 v2 v3 v4 v5 v6 v7 v8:Value} {t:TypeId} (h:W.heap[g]? = some (.cells #[v0,v1,v2,v3,v4,v5,v6,v7,v8] t (0,0))):W.frozen? ⟨g,0,none⟩ = false∧W.frozen? ⟨g,1,none⟩ = false∧W.frozen? ⟨g,2,none⟩ = false∧W.frozen? ⟨g,3,none⟩ = false∧W.frozen? ⟨g,4,none⟩ = false∧W.frozen? ⟨g,5,none⟩ = false∧W.frozen? ⟨g,6,none⟩ = false∧W.frozen? ⟨g,7,none⟩ = false∧W.frozen? ⟨g,8,none⟩ = false:=⟨blk_frozen h 0,blk_frozen h 1,blk_frozen h 2,blk_frozen h 3,blk_frozen h 4,blk_frozen h 5,blk_frozen h 6,blk_frozen h 7,blk_frozen h 8⟩
theorem cl {p:Prop} (h:p:=by first|rfl|(simp [*,errW_none,errW_some] <;> rfl)):p:=h
theorem cl2 {p:Prop} (h:p:=by first|rfl|(simp;done)|(simp [*];done)):p:=h
theorem bl {p q:Prop} (h:p) (k:p → q:=by intro h_;repeat (first|(with_reducible first|exact h_|apply below_alloc|apply pw_below_drewN|apply below_drew1|refine below_set ?_ (Aside0.out (by assumption)))|exact h_)):q:=k h
theorem bk {p q:Prop} (h:p) (k:p → q:=by intro h_;(with_reducible repeat (first|refine blk_drewN ?_ _|refine blk_drew ?_|refine blk_alloc ?_ _));exact h_):q:=k h
theorem ck {p q:Prop} (h:p) (k:p → q:=by intro h_;repeat (first|exact h_|(with_reducible refine Kd.C_alloc ?_ _)|(with_reducible refine Kd.C_drewN ?_ _)|(with_reducible refine Kd.C_drew ?_))):q:=k h
theorem rk {p q:Prop} (h:p) (k:p → q:=by intro h_;(with_reducible repeat (first|apply Kd.R_alloc|apply Kd.R_drewN|apply Kd.R_drew));exact h_):q:=k h
theorem cb {w W:World} {p:Addr} {v:Value} (HB:Aside0 (Below w.heap.size w W)) (h:w.cell? p = some v):W.cell? p = some v:=(HB.out.cell (World.block_lt_of_cell? w _ h)).trans h
theorem gs {p:Prop} (h:p:=by (try simp only [List.map_toArray,List.map_cons,List.map_nil]);first|done|rfl|(simp only [List.length_drop,List.length_take];rfl)):p:=h
theorem od {p:Prop} [Decidable p] (h:decide p = true:=by first|(with_reducible assumption)|assumption):p:=of_decide_eq_true h
theorem bc {W:World} {g:Nat} {cs:Array Value} {t:TypeId} (h:W.heap[g]? = some (.cells cs t (0,0))) (i:Nat) {v:Value} (hv:cs.toList[i]? = some v:=by exact rfl):W.cell? ⟨g,i,none⟩ = some v:=(blk_cell h i).trans (by simpa using hv)
section
variable {P:Program} {ops:Array Oper} {Q:Exit → Act → World → Prop} {md:Region.Mode} {S:World → Prop} {ds:List Nat}
theorem pu (i N:Nat) {T:Bool × List (List Nat × List Nat)} {oi:Oper} {v:Value} {fuel:Nat} {l:Array Bool} {a a':Act} {w:World} (h:wpAnyLast P md ops Q S ds fuel (l.setIfInBounds i true) a' w)
    (hT:Aside0 (rtab md ops = T):=by assumption) (hi:ops[i]? = some oi:=by rfl) (hN:oi.dst = some N:=by rfl) (hc:anyT T l.toList (l.setIfInBounds i true).toList i = true:=by kernel_rfl)
    (hy:Yields P ops oi v a:=by first|exact Or.inr ⟨by rfl,rfl⟩|exact Or.inl ⟨by rfl,by intro w';go_simp;with_reducible rfl⟩)
    (ha:a.put (some N) v = a':=by simp only [Act.put,List.setIfInBounds_toArray,List.set_cons_zero,List.set_cons_succ,i64_w,i32_w];rfl)
    (hQ:∀ c a w,Q (.panic c) (a.put oi.dst v) w → Q (.panic c) a w:=by exact fun _ _ _ h=>h):wpAnyLast P md ops Q S ds (fuel + 1) l a w :=
  pure_ (l.setIfInBounds i true) hi hN (any_of hT.out hc) hQ hy ha h
theorem ta (i N:Nat) {T:Bool × List (List Nat × List Nat)} {B:List Nat} {oi:Oper} {v:Value} {fuel:Nat} {l:Array Bool} {a a':Act} {w:World} (hS:S w) (h:wpAnyLast P md ops Q S ds fuel (l.setIfInBounds i true) a' w)
    (hT:Aside0 (rtab md ops = T):=by assumption) (hB:Aside0 (waitsOk T.2 B = true):=by assumption) (hi:ops[i]? = some oi:=by rfl) (hN:oi.dst = some N:=by rfl) (hc:takeW T B ds l.toList (l.setIfInBounds i true).toList i = true:=by kernel_rfl)
    (hy:YieldsIf P ops S oi v a:=by exact Or.inl ⟨by rfl,by intro w' hs_;(try simp only [] at hs_);go_simp;with_reducible rfl⟩)
    (ha:a.put (some N) v = a':=by simp only [Act.put,List.setIfInBounds_toArray,List.set_cons_zero,List.set_cons_succ,i64_w,i32_w];rfl)
    (hQ:∀ c a w,Q (.panic c) (a.put oi.dst v) w → Q (.panic c) a w:=by exact fun _ _ _ h=>h):wpAnyLast P md ops Q S ds (fuel + 1) l a w :=
  take_ (l.setIfInBounds i true) hi hN (take_ofW hT.out hB.out hc) hQ hy hS ha h
end



def errW:Option Int → Value
  | none=>.nilIface
  | some c=>.iface 0 (.int .i64 c)
theorem errW_none:errW none = .nilIface:=rfl
theorem errW_some (c:Int):errW (some c) = .iface 0 (.int .i64 c):=rfl

theorem info3:(Try.prog.info? 3).map (fun i=>(i.zero,i.size,i.bytes)) = some (some (.int .i64 0),1,8):=by kernel_rfl
theorem info44:(Try.prog.info? 44).map (fun i=>(i.zero,i.size,i.bytes)) = some (some (.agg #[(.string ⟨#[]⟩),(.int .i64 0),(.int .i64 0),(.slice none 0 0)]),4,56):=by kernel_rfl
theorem info64:(Try.prog.info? 64).map (fun i=>(i.zero,i.size,i.bytes)) = some (some (.agg #[(.int .i64 0),(.int .i64 0),(.string ⟨#[]⟩),(.int .i64 0)]),4,40):=by kernel_rfl
theorem info67:(Try.prog.info? 67).map (fun i=>(i.zero,i.size,i.bytes)) = some (some (.agg #[(.int .i64 0),(.int .i64 0),(.string ⟨#[]⟩),(.slice none 0 0)]),4,56):=by kernel_rfl
-- the values' own types
/-! #### struct type 87 -/
structure S87 where
  f0:Int
  f1:Int
  f2:ByteArray
  f3:Int
def z87:S87:=⟨(0:Int),(0:Int),(⟨#[]⟩:ByteArray),(0:Int)⟩
def k87:Kd S87:=Kd.iso (Kd.pair (Kd.int .i64) (Kd.pair (Kd.int .i64) (Kd.pair Kd.string (Kd.int .i64)))) (fun x:S87=>(x.f0,x.f1,x.f2,x.f3))
theorem k87_heap:Kd.Heap k87:=Kd.heap_iso _ (Kd.heap_pair (Kd.heap_int .i64) (Kd.heap_pair (Kd.heap_int .i64) (Kd.heap_pair Kd.heap_string (Kd.heap_int .i64))))
theorem k87_open {w:World} {x:S87} {cs:List Value} (h:k87.K w x cs):cs = [.int .i64 x.f0,.int .i64 x.f1,.string x.f2,.int .i64 x.f3]:=by
  obtain ⟨_,_,rfl,rfl,⟨_,_,rfl,rfl,⟨_,_,rfl,rfl,rfl⟩⟩⟩:=h
  exact rfl
theorem k87_openM {w:World} {base:Nat} {ok:Nat → Prop} {x:S87} {cs:List Value} (h:k87.M w base ok x cs):cs = [.int .i64 x.f0,.int .i64 x.f1,.string x.f2,.int .i64 x.f3]:=by
  obtain ⟨_,_,rfl,rfl,⟨_,_,rfl,rfl,⟨_,_,rfl,rfl,rfl⟩⟩⟩:=h
  exact rfl
theorem k87_mk (w:World) (x:S87)  : k87.K w x [.int .i64 x.f0,.int .i64 x.f1,.string x.f2,.int .i64 x.f3]:=⟨[.int .i64 x.f0],[.int .i64 x.f1,.string x.f2,.int .i64 x.f3],rfl,rfl,⟨[.int .i64 x.f1],[.string x.f2,.int .i64 x.f3],rfl,rfl,⟨[.string x.f2],[.int .i64 x.f3],rfl,rfl,rfl⟩⟩⟩
theorem k87_mkM (w:World) (base:Nat) (ok:Nat → Prop) (x:S87)  : k87.M w base ok x [.int .i64 x.f0,.int .i64 x.f1,.string x.f2,.int .i64 x.f3]:=⟨[.int .i64 x.f0],[.int .i64 x.f1,.string x.f2,.int .i64 x.f3],rfl,rfl,⟨[.int .i64 x.f1],[.string x.f2,.int .i64 x.f3],rfl,rfl,⟨[.string x.f2],[.int .i64 x.f3],rfl,rfl,rfl⟩⟩⟩
theorem k87_mkF (W:World) (ok:Nat → Prop) (x:S87):Kd.FK k87 W ok x [.int .i64 x.f0,.int .i64 x.f1,.string x.f2,.int .i64 x.f3]:=fun W2 _=>k87_mk W2 x
def rd_T87 (xs:List S87) (i:Int):S87:=xs.getD i.toNat z87
theorem at_T87 {w:World} {A:Option Addr} {n:Nat} {xs:List S87} (h:Kd.C k87 w A n xs) (i:Int) (h0:0≤i) (h1:i < n):∃ ad ,A = some ad∧w.cell? (ad.add (i.toNat * 4)) = some (.int .i64 (rd_T87 xs i).f0)∧w.cell? ⟨(ad.add (i.toNat * 4)).block,(ad.add (i.toNat * 4)).off + 1,none⟩ = some (.int .i64 (rd_T87 xs i).f1)∧w.cell? ⟨(ad.add (i.toNat * 4)).block,(ad.add (i.toNat * 4)).off + 2,none⟩ = some (.string (rd_T87 xs i).f2)∧w.cell? ⟨(ad.add (i.toNat * 4)).block,(ad.add (i.toNat * 4)).off + 3,none⟩ = some (.int .i64 (rd_T87 xs i).f3):=by
  obtain ⟨ad,c,e,_,hK,hc0⟩:=Kd.C_get h z87 i h0 h1;have hc:∀ j u,c[j]? = some u → w.cell? (ad.add (i.toNat * 4 + j)) = some u:=hc0;obtain rfl:=k87_open hK
  exact ⟨ad,e,hc 0 _ rfl,by rw [← add_field _ _ 1 (by omega)];exact hc 1 _ rfl,by rw [← add_field _ _ 2 (by omega)];exact hc 2 _ rfl,by rw [← add_field _ _ 3 (by omega)];exact hc 3 _ rfl⟩

def rd_L3 (xs:List (List S87)) (i:Int):(List S87):=xs.getD i.toNat ([]:List S87)
theorem at_L3 {w:World} {A:Option Addr} {n:Nat} {xs:List (List S87)} (h:Kd.C (Kd.slice 87 k87) w A n xs) (i:Int) (h0:0≤i) (h1:i < n):∃ ad A0 c0,A = some ad∧w.cell? (ad.add i.toNat) = some (.slice A0 (rd_L3 xs i).length c0)∧(rd_L3 xs i).length≤c0∧k87.C w A0 (rd_L3 xs i).length (rd_L3 xs i):=by
  obtain ⟨ad,c,e,_,hK,hc0⟩:=Kd.C_get h ([]:List S87) i h0 h1;have hc:∀ j u,c[j]? = some u → w.cell? (ad.add (i.toNat * 1 + j)) = some u:=hc0;obtain ⟨A0,c0,rfl,l0,g0⟩:=hK
  exact ⟨ad,A0,c0,e,by have hq:=hc 0 _ rfl;rwa [Nat.mul_one,Nat.add_zero] at hq,l0,g0⟩

/-! #### struct type 52 -/
structure S52 where
  f0:ByteArray
  f1:Int
  f2:Int
  f3:(List S87)
def z52:S52:=⟨(⟨#[]⟩:ByteArray),(0:Int),(0:Int),([]:List S87)⟩
def k52:Kd S52:=Kd.iso (Kd.pair Kd.string (Kd.pair (Kd.int .i64) (Kd.pair (Kd.int .i64) (Kd.slice 87 k87)))) (fun x:S52=>(x.f0,x.f1,x.f2,x.f3))
theorem k52_heap:Kd.Heap k52:=Kd.heap_iso _ (Kd.heap_pair Kd.heap_string (Kd.heap_pair (Kd.heap_int .i64) (Kd.heap_pair (Kd.heap_int .i64) (Kd.heap_slice 87 k87_heap))))
theorem k52_open {w:World} {x:S52} {cs:List Value} (h:k52.K w x cs):∃ A3 c3,cs = [.string x.f0,.int .i64 x.f1,.int .i64 x.f2,.slice A3 x.f3.length c3]∧x.f3.length≤c3∧k87.C w A3 x.f3.length x.f3:=by
  obtain ⟨_,_,rfl,rfl,⟨_,_,rfl,rfl,⟨_,_,rfl,rfl,⟨A3,c3,rfl,l3,g3⟩⟩⟩⟩:=h
  exact ⟨A3,c3,rfl,l3,g3⟩
theorem k52_openM {w:World} {base:Nat} {ok:Nat → Prop} {x:S52} {cs:List Value} (h:k52.M w base ok x cs):∃ v3,cs = [.string x.f0,.int .i64 x.f1,.int .i64 x.f2,v3]∧k87.R 87 w base ok v3 x.f3:=by
  obtain ⟨_,_,rfl,rfl,⟨_,_,rfl,rfl,⟨_,_,rfl,rfl,⟨v3,rfl,g3⟩⟩⟩⟩:=h
  exact ⟨v3,rfl,g3⟩
theorem k52_mk (w:World) (x:S52) {A3:Option Addr} {c3:Nat} (l3:x.f3.length≤c3) (g3:k87.C w A3 x.f3.length x.f3):k52.K w x [.string x.f0,.int .i64 x.f1,.int .i64 x.f2,.slice A3 x.f3.length c3]:=⟨[.string x.f0],[.int .i64 x.f1,.int .i64 x.f2,.slice A3 x.f3.length c3],rfl,rfl,⟨[.int .i64 x.f1],[.int .i64 x.f2,.slice A3 x.f3.length c3],rfl,rfl,⟨[.int .i64 x.f2],[.slice A3 x.f3.length c3],rfl,rfl,⟨A3,c3,rfl,l3,g3⟩⟩⟩⟩
theorem k52_mkM (w:World) (base:Nat) (ok:Nat → Prop) (x:S52) {v3:Value} (g3:k87.R 87 w base ok v3 x.f3):k52.M w base ok x [.string x.f0,.int .i64 x.f1,.int .i64 x.f2,v3]:=⟨[.string x.f0],[.int .i64 x.f1,.int .i64 x.f2,v3],rfl,rfl,⟨[.int .i64 x.f1],[.int .i64 x.f2,v3],rfl,rfl,⟨[.int .i64 x.f2],[v3],rfl,rfl,⟨v3,rfl,g3⟩⟩⟩⟩
theorem k52_openF {W:World} {ok:Nat → Prop} {x:S52} {cs:List Value} (h:Kd.FK k52 W ok x cs):∃ A3 c3,cs = [.string x.f0,.int .i64 x.f1,.int .i64 x.f2,.slice A3 x.f3.length c3]∧x.f3.length≤c3∧Kd.F k87 W ok A3 x.f3.length x.f3:=by
  obtain ⟨A3,c3,rfl,l3,_⟩:=k52_open (Kd.FK_now h)
  exact ⟨A3,c3,rfl,l3,(fun W' hW=>by obtain ⟨A3_,c3_,he,l3_,g3_⟩:=k52_open (h W' hW);injection (Option.some.inj (show some (Value.slice A3 x.f3.length c3) = some (Value.slice A3_ x.f3.length c3_) from congrArg (fun l=>l[3]?) he)) with ha_ _ _;rw [ha_];exact g3_)⟩
theorem k52_mkF (W:World) (ok:Nat → Prop) (x:S52) {A3:Option Addr} {c3:Nat} (l3:x.f3.length≤c3) (g3:Kd.F k87 W ok A3 x.f3.length x.f3):Kd.FK k52 W ok x [.string x.f0,.int .i64 x.f1,.int .i64 x.f2,.slice A3 x.f3.length c3]:=fun W2 hW=>k52_mk W2 x l3 (g3 W2 hW)
def rd_T52 (xs:List S52) (i:Int):S52:=xs.getD i.toNat z52
theorem at_T52 {w:World} {A:Option Addr} {n:Nat} {xs:List S52} (h:Kd.C k52 w A n xs) (i:Int) (h0:0≤i) (h1:i < n):∃ ad A3 c3,A = some ad∧w.cell? (ad.add (i.toNat * 4)) = some (.string (rd_T52 xs i).f0)∧w.cell? ⟨(ad.add (i.toNat * 4)).block,(ad.add (i.toNat * 4)).off + 1,none⟩ = some (.int .i64 (rd_T52 xs i).f1)∧w.cell? ⟨(ad.add (i.toNat * 4)).block,(ad.add (i.toNat * 4)).off + 2,none⟩ = some (.int .i64 (rd_T52 xs i).f2)∧w.cell? ⟨(ad.add (i.toNat * 4)).block,(ad.add (i.toNat * 4)).off + 3,none⟩ = some (.slice A3 (rd_T52 xs i).f3.length c3)∧(rd_T52 xs i).f3.length≤c3∧k87.C w A3 (rd_T52 xs i).f3.length (rd_T52 xs i).f3:=by
  obtain ⟨ad,c,e,_,hK,hc0⟩:=Kd.C_get h z52 i h0 h1;have hc:∀ j u,c[j]? = some u → w.cell? (ad.add (i.toNat * 4 + j)) = some u:=hc0;obtain ⟨A3,c3,rfl,l3,g3⟩:=k52_open hK
  exact ⟨ad,A3,c3,e,hc 0 _ rfl,by rw [← add_field _ _ 1 (by omega)];exact hc 1 _ rfl,by rw [← add_field _ _ 2 (by omega)];exact hc 2 _ rfl,by rw [← add_field _ _ 3 (by omega)];exact hc 3 _ rfl,l3,g3⟩

/-! #### struct type 55, nested in itself -/
structure S55 where
  f0:Int
  f1:Int
  f2:ByteArray
  f3:(List S55)
def z55:S55:=⟨(0:Int),(0:Int),(⟨#[]⟩:ByteArray),([]:List S55)⟩
def F55 (d:Kd S55):Kd S55:=Kd.iso (Kd.pair (Kd.int .i64) (Kd.pair (Kd.int .i64) (Kd.pair Kd.string (Kd.slice 55 d)))) (fun x:S55=>(x.f0,x.f1,x.f2,x.f3))
theorem mono55:Kd.Mono F55:=Kd.mono_iso _ (Kd.mono_pair (Kd.mono_const _) (Kd.mono_pair (Kd.mono_const _) (Kd.mono_pair (Kd.mono_const _) (Kd.mono_slice 55 Kd.mono_id))))
theorem sub55:Kd.Sub F55 [55]:=Kd.sub_iso _ (Kd.sub_pair (Kd.sub_const _ (by decide)) (Kd.sub_pair (Kd.sub_const _ (by decide)) (Kd.sub_pair (Kd.sub_const _ (by decide)) (Kd.sub_slice 55 (by decide) Kd.sub_id))))
theorem sz55:∀ n,(Kd.upto F55 4 [55] n).sz = 4:=Kd.upto_sz (fun _=>rfl)
def k55:Kd S55:=Kd.fix F55 4 [55] sz55 (Kd.upto_E sub55)
theorem k55_heap:Kd.Heap k55:=Kd.heap_fix (fun _ h_=>Kd.heap_iso _ (Kd.heap_pair (Kd.heap_int .i64) (Kd.heap_pair (Kd.heap_int .i64) (Kd.heap_pair Kd.heap_string (Kd.heap_slice 55 h_)))))
theorem k55_open {w:World} {x:S55} {cs:List Value} (h:k55.K w x cs):∃ A3 c3,cs = [.int .i64 x.f0,.int .i64 x.f1,.string x.f2,.slice A3 x.f3.length c3]∧x.f3.length≤c3∧k55.C w A3 x.f3.length x.f3:=by
  obtain ⟨n,h⟩:=h
  cases n with
  | zero=>exact h.elim
  | succ n =>
    obtain ⟨_,_,rfl,rfl,⟨_,_,rfl,rfl,⟨_,_,rfl,rfl,⟨A3,c3,rfl,l3,g3⟩⟩⟩⟩:=h
    exact ⟨A3,c3,rfl,l3,Kd.fix_C g3⟩
theorem k55_openM {w:World} {base:Nat} {ok:Nat → Prop} {x:S55} {cs:List Value} (h:k55.M w base ok x cs):∃ v3,cs = [.int .i64 x.f0,.int .i64 x.f1,.string x.f2,v3]∧k55.R 55 w base ok v3 x.f3:=by
  obtain ⟨n,h⟩:=h
  cases n with
  | zero=>exact h.elim
  | succ n =>
    obtain ⟨_,_,rfl,rfl,⟨_,_,rfl,rfl,⟨_,_,rfl,rfl,⟨v3,rfl,g3⟩⟩⟩⟩:=h
    exact ⟨v3,rfl,Kd.fix_R g3⟩
theorem k55_mk (w:World) (x:S55) {A3:Option Addr} {c3:Nat} (l3:x.f3.length≤c3) (g3:k55.C w A3 x.f3.length x.f3):k55.K w x [.int .i64 x.f0,.int .i64 x.f1,.string x.f2,.slice A3 x.f3.length c3]:=by
  obtain ⟨n3,q3⟩:=Kd.fix_C_back mono55 g3;have r3:=Kd.upto_C_le mono55 sz55 (show n3≤n3 by omega) q3
  exact ⟨n3 + 1,⟨[.int .i64 x.f0],[.int .i64 x.f1,.string x.f2,.slice A3 x.f3.length c3],rfl,rfl,⟨[.int .i64 x.f1],[.string x.f2,.slice A3 x.f3.length c3],rfl,rfl,⟨[.string x.f2],[.slice A3 x.f3.length c3],rfl,rfl,⟨A3,c3,rfl,l3,r3⟩⟩⟩⟩⟩
theorem k55_mkM (w:World) (base:Nat) (ok:Nat → Prop) (x:S55) {v3:Value} (g3:k55.R 55 w base ok v3 x.f3):k55.M w base ok x [.int .i64 x.f0,.int .i64 x.f1,.string x.f2,v3]:=by
  obtain ⟨n3,q3⟩:=Kd.fix_R_back mono55 g3;have r3:=Kd.upto_R_le mono55 sz55 (show n3≤n3 by omega) q3
  exact ⟨n3 + 1,⟨[.int .i64 x.f0],[.int .i64 x.f1,.string x.f2,v3],rfl,rfl,⟨[.int .i64 x.f1],[.string x.f2,v3],rfl,rfl,⟨[.string x.f2],[v3],rfl,rfl,⟨v3,rfl,r3⟩⟩⟩⟩⟩
theorem k55_openF {W:World} {ok:Nat → Prop} {x:S55} {cs:List Value} (h:Kd.FK k55 W ok x cs):∃ A3 c3,cs = [.int .i64 x.f0,.int .i64 x.f1,.string x.f2,.slice A3 x.f3.length c3]∧x.f3.length≤c3∧Kd.F k55 W ok A3 x.f3.length x.f3:=by
  obtain ⟨A3,c3,rfl,l3,_⟩:=k55_open (Kd.FK_now h)
  exact ⟨A3,c3,rfl,l3,(fun W' hW=>by obtain ⟨A3_,c3_,he,l3_,g3_⟩:=k55_open (h W' hW);injection (Option.some.inj (show some (Value.slice A3 x.f3.length c3) = some (Value.slice A3_ x.f3.length c3_) from congrArg (fun l=>l[3]?) he)) with ha_ _ _;rw [ha_];exact g3_)⟩
theorem k55_mkF (W:World) (ok:Nat → Prop) (x:S55) {A3:Option Addr} {c3:Nat} (l3:x.f3.length≤c3) (g3:Kd.F k55 W ok A3 x.f3.length x.f3):Kd.FK k55 W ok x [.int .i64 x.f0,.int .i64 x.f1,.string x.f2,.slice A3 x.f3.length c3]:=fun W2 hW=>k55_mk W2 x l3 (g3 W2 hW)
def rd_T55 (xs:List S55) (i:Int):S55:=xs.getD i.toNat z55
theorem at_T55 {w:World} {A:Option Addr} {n:Nat} {xs:List S55} (h:Kd.C k55 w A n xs) (i:Int) (h0:0≤i) (h1:i < n):∃ ad A3 c3,A = some ad∧w.cell? (ad.add (i.toNat * 4)) = some (.int .i64 (rd_T55 xs i).f0)∧w.cell? ⟨(ad.add (i.toNat * 4)).block,(ad.add (i.toNat * 4)).off + 1,none⟩ = some (.int .i64 (rd_T55 xs i).f1)∧w.cell? ⟨(ad.add (i.toNat * 4)).block,(ad.add (i.toNat * 4)).off + 2,none⟩ = some (.string (rd_T55 xs i).f2)∧w.cell? ⟨(ad.add (i.toNat * 4)).block,(ad.add (i.toNat * 4)).off + 3,none⟩ = some (.slice A3 (rd_T55 xs i).f3.length c3)∧(rd_T55 xs i).f3.length≤c3∧k55.C w A3 (rd_T55 xs i).f3.length (rd_T55 xs i).f3:=by
  obtain ⟨ad,c,e,_,hK,hc0⟩:=Kd.C_get h z55 i h0 h1;have hc:∀ j u,c[j]? = some u → w.cell? (ad.add (i.toNat * 4 + j)) = some u:=hc0;obtain ⟨A3,c3,rfl,l3,g3⟩:=k55_open hK
  exact ⟨ad,A3,c3,e,hc 0 _ rfl,by rw [← add_field _ _ 1 (by omega)];exact hc 1 _ rfl,by rw [← add_field _ _ 2 (by omega)];exact hc 2 _ rfl,by rw [← add_field _ _ 3 (by omega)];exact hc 3 _ rfl,l3,g3⟩

/-! #### struct type 64 -/
structure S64 where
  f0:Int
  f1:Int
  f2:ByteArray
  f3:Int
def z64:S64:=⟨(0:Int),(0:Int),(⟨#[]⟩:ByteArray),(0:Int)⟩
def k64:Kd S64:=Kd.iso (Kd.pair (Kd.int .i64) (Kd.pair (Kd.int .i64) (Kd.pair Kd.string (Kd.int .i64)))) (fun x:S64=>(x.f0,x.f1,x.f2,x.f3))
theorem k64_heap:Kd.Heap k64:=Kd.heap_iso _ (Kd.heap_pair (Kd.heap_int .i64) (Kd.heap_pair (Kd.heap_int .i64) (Kd.heap_pair Kd.heap_string (Kd.heap_int .i64))))
theorem k64_open {w:World} {x:S64} {cs:List Value} (h:k64.K w x cs):cs = [.int .i64 x.f0,.int .i64 x.f1,.string x.f2,.int .i64 x.f3]:=by
  obtain ⟨_,_,rfl,rfl,⟨_,_,rfl,rfl,⟨_,_,rfl,rfl,rfl⟩⟩⟩:=h
  exact rfl
theorem k64_openM {w:World} {base:Nat} {ok:Nat → Prop} {x:S64} {cs:List Value} (h:k64.M w base ok x cs):cs = [.int .i64 x.f0,.int .i64 x.f1,.string x.f2,.int .i64 x.f3]:=by
  obtain ⟨_,_,rfl,rfl,⟨_,_,rfl,rfl,⟨_,_,rfl,rfl,rfl⟩⟩⟩:=h
  exact rfl
theorem k64_mk (w:World) (x:S64)  : k64.K w x [.int .i64 x.f0,.int .i64 x.f1,.string x.f2,.int .i64 x.f3]:=⟨[.int .i64 x.f0],[.int .i64 x.f1,.string x.f2,.int .i64 x.f3],rfl,rfl,⟨[.int .i64 x.f1],[.string x.f2,.int .i64 x.f3],rfl,rfl,⟨[.string x.f2],[.int .i64 x.f3],rfl,rfl,rfl⟩⟩⟩
theorem k64_mkM (w:World) (base:Nat) (ok:Nat → Prop) (x:S64)  : k64.M w base ok x [.int .i64 x.f0,.int .i64 x.f1,.string x.f2,.int .i64 x.f3]:=⟨[.int .i64 x.f0],[.int .i64 x.f1,.string x.f2,.int .i64 x.f3],rfl,rfl,⟨[.int .i64 x.f1],[.string x.f2,.int .i64 x.f3],rfl,rfl,⟨[.string x.f2],[.int .i64 x.f3],rfl,rfl,rfl⟩⟩⟩
theorem k64_mkF (W:World) (ok:Nat → Prop) (x:S64):Kd.FK k64 W ok x [.int .i64 x.f0,.int .i64 x.f1,.string x.f2,.int .i64 x.f3]:=fun W2 _=>k64_mk W2 x
def rd_T64 (xs:List S64) (i:Int):S64:=xs.getD i.toNat z64
theorem at_T64 {w:World} {A:Option Addr} {n:Nat} {xs:List S64} (h:Kd.C k64 w A n xs) (i:Int) (h0:0≤i) (h1:i < n):∃ ad ,A = some ad∧w.cell? (ad.add (i.toNat * 4)) = some (.int .i64 (rd_T64 xs i).f0)∧w.cell? ⟨(ad.add (i.toNat * 4)).block,(ad.add (i.toNat * 4)).off + 1,none⟩ = some (.int .i64 (rd_T64 xs i).f1)∧w.cell? ⟨(ad.add (i.toNat * 4)).block,(ad.add (i.toNat * 4)).off + 2,none⟩ = some (.string (rd_T64 xs i).f2)∧w.cell? ⟨(ad.add (i.toNat * 4)).block,(ad.add (i.toNat * 4)).off + 3,none⟩ = some (.int .i64 (rd_T64 xs i).f3):=by
  obtain ⟨ad,c,e,_,hK,hc0⟩:=Kd.C_get h z64 i h0 h1;have hc:∀ j u,c[j]? = some u → w.cell? (ad.add (i.toNat * 4 + j)) = some u:=hc0;obtain rfl:=k64_open hK
  exact ⟨ad,e,hc 0 _ rfl,by rw [← add_field _ _ 1 (by omega)];exact hc 1 _ rfl,by rw [← add_field _ _ 2 (by omega)];exact hc 2 _ rfl,by rw [← add_field _ _ 3 (by omega)];exact hc 3 _ rfl⟩

def rd_L7 (xs:List (List S64)) (i:Int):(List S64):=xs.getD i.toNat ([]:List S64)
theorem at_L7 {w:World} {A:Option Addr} {n:Nat} {xs:List (List S64)} (h:Kd.C (Kd.slice 64 k64) w A n xs) (i:Int) (h0:0≤i) (h1:i < n):∃ ad A0 c0,A = some ad∧w.cell? (ad.add i.toNat) = some (.slice A0 (rd_L7 xs i).length c0)∧(rd_L7 xs i).length≤c0∧k64.C w A0 (rd_L7 xs i).length (rd_L7 xs i):=by
  obtain ⟨ad,c,e,_,hK,hc0⟩:=Kd.C_get h ([]:List S64) i h0 h1;have hc:∀ j u,c[j]? = some u → w.cell? (ad.add (i.toNat * 1 + j)) = some u:=hc0;obtain ⟨A0,c0,rfl,l0,g0⟩:=hK
  exact ⟨ad,A0,c0,e,by have hq:=hc 0 _ rfl;rwa [Nat.mul_one,Nat.add_zero] at hq,l0,g0⟩

/-! #### struct type 44 -/
structure S44 where
  f0:ByteArray
  f1:Int
  f2:Int
  f3:(List S64)
def z44:S44:=⟨(⟨#[]⟩:ByteArray),(0:Int),(0:Int),([]:List S64)⟩
def k44:Kd S44:=Kd.iso (Kd.pair Kd.string (Kd.pair (Kd.int .i64) (Kd.pair (Kd.int .i64) (Kd.slice 64 k64)))) (fun x:S44=>(x.f0,x.f1,x.f2,x.f3))
theorem k44_heap:Kd.Heap k44:=Kd.heap_iso _ (Kd.heap_pair Kd.heap_string (Kd.heap_pair (Kd.heap_int .i64) (Kd.heap_pair (Kd.heap_int .i64) (Kd.heap_slice 64 k64_heap))))
theorem k44_open {w:World} {x:S44} {cs:List Value} (h:k44.K w x cs):∃ A3 c3,cs = [.string x.f0,.int .i64 x.f1,.int .i64 x.f2,.slice A3 x.f3.length c3]∧x.f3.length≤c3∧k64.C w A3 x.f3.length x.f3:=by
  obtain ⟨_,_,rfl,rfl,⟨_,_,rfl,rfl,⟨_,_,rfl,rfl,⟨A3,c3,rfl,l3,g3⟩⟩⟩⟩:=h
  exact ⟨A3,c3,rfl,l3,g3⟩
theorem k44_openM {w:World} {base:Nat} {ok:Nat → Prop} {x:S44} {cs:List Value} (h:k44.M w base ok x cs):∃ v3,cs = [.string x.f0,.int .i64 x.f1,.int .i64 x.f2,v3]∧k64.R 64 w base ok v3 x.f3:=by
  obtain ⟨_,_,rfl,rfl,⟨_,_,rfl,rfl,⟨_,_,rfl,rfl,⟨v3,rfl,g3⟩⟩⟩⟩:=h
  exact ⟨v3,rfl,g3⟩
theorem k44_mk (w:World) (x:S44) {A3:Option Addr} {c3:Nat} (l3:x.f3.length≤c3) (g3:k64.C w A3 x.f3.length x.f3):k44.K w x [.string x.f0,.int .i64 x.f1,.int .i64 x.f2,.slice A3 x.f3.length c3]:=⟨[.string x.f0],[.int .i64 x.f1,.int .i64 x.f2,.slice A3 x.f3.length c3],rfl,rfl,⟨[.int .i64 x.f1],[.int .i64 x.f2,.slice A3 x.f3.length c3],rfl,rfl,⟨[.int .i64 x.f2],[.slice A3 x.f3.length c3],rfl,rfl,⟨A3,c3,rfl,l3,g3⟩⟩⟩⟩
theorem k44_mkM (w:World) (base:Nat) (ok:Nat → Prop) (x:S44) {v3:Value} (g3:k64.R 64 w base ok v3 x.f3):k44.M w base ok x [.string x.f0,.int .i64 x.f1,.int .i64 x.f2,v3]:=⟨[.string x.f0],[.int .i64 x.f1,.int .i64 x.f2,v3],rfl,rfl,⟨[.int .i64 x.f1],[.int .i64 x.f2,v3],rfl,rfl,⟨[.int .i64 x.f2],[v3],rfl,rfl,⟨v3,rfl,g3⟩⟩⟩⟩
theorem k44_openF {W:World} {ok:Nat → Prop} {x:S44} {cs:List Value} (h:Kd.FK k44 W ok x cs):∃ A3 c3,cs = [.string x.f0,.int .i64 x.f1,.int .i64 x.f2,.slice A3 x.f3.length c3]∧x.f3.length≤c3∧Kd.F k64 W ok A3 x.f3.length x.f3:=by
  obtain ⟨A3,c3,rfl,l3,_⟩:=k44_open (Kd.FK_now h)
  exact ⟨A3,c3,rfl,l3,(fun W' hW=>by obtain ⟨A3_,c3_,he,l3_,g3_⟩:=k44_open (h W' hW);injection (Option.some.inj (show some (Value.slice A3 x.f3.length c3) = some (Value.slice A3_ x.f3.length c3_) from congrArg (fun l=>l[3]?) he)) with ha_ _ _;rw [ha_];exact g3_)⟩
theorem k44_mkF (W:World) (ok:Nat → Prop) (x:S44) {A3:Option Addr} {c3:Nat} (l3:x.f3.length≤c3) (g3:Kd.F k64 W ok A3 x.f3.length x.f3):Kd.FK k44 W ok x [.string x.f0,.int .i64 x.f1,.int .i64 x.f2,.slice A3 x.f3.length c3]:=fun W2 hW=>k44_mk W2 x l3 (g3 W2 hW)
def rd_T44 (xs:List S44) (i:Int):S44:=xs.getD i.toNat z44
theorem at_T44 {w:World} {A:Option Addr} {n:Nat} {xs:List S44} (h:Kd.C k44 w A n xs) (i:Int) (h0:0≤i) (h1:i < n):∃ ad A3 c3,A = some ad∧w.cell? (ad.add (i.toNat * 4)) = some (.string (rd_T44 xs i).f0)∧w.cell? ⟨(ad.add (i.toNat * 4)).block,(ad.add (i.toNat * 4)).off + 1,none⟩ = some (.int .i64 (rd_T44 xs i).f1)∧w.cell? ⟨(ad.add (i.toNat * 4)).block,(ad.add (i.toNat * 4)).off + 2,none⟩ = some (.int .i64 (rd_T44 xs i).f2)∧w.cell? ⟨(ad.add (i.toNat * 4)).block,(ad.add (i.toNat * 4)).off + 3,none⟩ = some (.slice A3 (rd_T44 xs i).f3.length c3)∧(rd_T44 xs i).f3.length≤c3∧k64.C w A3 (rd_T44 xs i).f3.length (rd_T44 xs i).f3:=by
  obtain ⟨ad,c,e,_,hK,hc0⟩:=Kd.C_get h z44 i h0 h1;have hc:∀ j u,c[j]? = some u → w.cell? (ad.add (i.toNat * 4 + j)) = some u:=hc0;obtain ⟨A3,c3,rfl,l3,g3⟩:=k44_open hK
  exact ⟨ad,A3,c3,e,hc 0 _ rfl,by rw [← add_field _ _ 1 (by omega)];exact hc 1 _ rfl,by rw [← add_field _ _ 2 (by omega)];exact hc 2 _ rfl,by rw [← add_field _ _ 3 (by omega)];exact hc 3 _ rfl,l3,g3⟩

/-! #### struct type 67, nested in itself -/
structure S67 where
  f0:Int
  f1:Int
  f2:ByteArray
  f3:(List S67)
def z67:S67:=⟨(0:Int),(0:Int),(⟨#[]⟩:ByteArray),([]:List S67)⟩
def F67 (d:Kd S67):Kd S67:=Kd.iso (Kd.pair (Kd.int .i64) (Kd.pair (Kd.int .i64) (Kd.pair Kd.string (Kd.slice 67 d)))) (fun x:S67=>(x.f0,x.f1,x.f2,x.f3))
theorem mono67:Kd.Mono F67:=Kd.mono_iso _ (Kd.mono_pair (Kd.mono_const _) (Kd.mono_pair (Kd.mono_const _) (Kd.mono_pair (Kd.mono_const _) (Kd.mono_slice 67 Kd.mono_id))))
theorem sub67:Kd.Sub F67 [67]:=Kd.sub_iso _ (Kd.sub_pair (Kd.sub_const _ (by decide)) (Kd.sub_pair (Kd.sub_const _ (by decide)) (Kd.sub_pair (Kd.sub_const _ (by decide)) (Kd.sub_slice 67 (by decide) Kd.sub_id))))
theorem sz67:∀ n,(Kd.upto F67 4 [67] n).sz = 4:=Kd.upto_sz (fun _=>rfl)
def k67:Kd S67:=Kd.fix F67 4 [67] sz67 (Kd.upto_E sub67)
theorem k67_heap:Kd.Heap k67:=Kd.heap_fix (fun _ h_=>Kd.heap_iso _ (Kd.heap_pair (Kd.heap_int .i64) (Kd.heap_pair (Kd.heap_int .i64) (Kd.heap_pair Kd.heap_string (Kd.heap_slice 67 h_)))))
theorem k67_open {w:World} {x:S67} {cs:List Value} (h:k67.K w x cs):∃ A3 c3,cs = [.int .i64 x.f0,.int .i64 x.f1,.string x.f2,.slice A3 x.f3.length c3]∧x.f3.length≤c3∧k67.C w A3 x.f3.length x.f3:=by
  obtain ⟨n,h⟩:=h
  cases n with
  | zero=>exact h.elim
  | succ n =>
    obtain ⟨_,_,rfl,rfl,⟨_,_,rfl,rfl,⟨_,_,rfl,rfl,⟨A3,c3,rfl,l3,g3⟩⟩⟩⟩:=h
    exact ⟨A3,c3,rfl,l3,Kd.fix_C g3⟩
theorem k67_openM {w:World} {base:Nat} {ok:Nat → Prop} {x:S67} {cs:List Value} (h:k67.M w base ok x cs):∃ v3,cs = [.int .i64 x.f0,.int .i64 x.f1,.string x.f2,v3]∧k67.R 67 w base ok v3 x.f3:=by
  obtain ⟨n,h⟩:=h
  cases n with
  | zero=>exact h.elim
  | succ n =>
    obtain ⟨_,_,rfl,rfl,⟨_,_,rfl,rfl,⟨_,_,rfl,rfl,⟨v3,rfl,g3⟩⟩⟩⟩:=h
    exact ⟨v3,rfl,Kd.fix_R g3⟩
theorem k67_mk (w:World) (x:S67) {A3:Option Addr} {c3:Nat} (l3:x.f3.length≤c3) (g3:k67.C w A3 x.f3.length x.f3):k67.K w x [.int .i64 x.f0,.int .i64 x.f1,.string x.f2,.slice A3 x.f3.length c3]:=by
  obtain ⟨n3,q3⟩:=Kd.fix_C_back mono67 g3;have r3:=Kd.upto_C_le mono67 sz67 (show n3≤n3 by omega) q3
  exact ⟨n3 + 1,⟨[.int .i64 x.f0],[.int .i64 x.f1,.string x.f2,.slice A3 x.f3.length c3],rfl,rfl,⟨[.int .i64 x.f1],[.string x.f2,.slice A3 x.f3.length c3],rfl,rfl,⟨[.string x.f2],[.slice A3 x.f3.length c3],rfl,rfl,⟨A3,c3,rfl,l3,r3⟩⟩⟩⟩⟩
theorem k67_mkM (w:World) (base:Nat) (ok:Nat → Prop) (x:S67) {v3:Value} (g3:k67.R 67 w base ok v3 x.f3):k67.M w base ok x [.int .i64 x.f0,.int .i64 x.f1,.string x.f2,v3]:=by
  obtain ⟨n3,q3⟩:=Kd.fix_R_back mono67 g3;have r3:=Kd.upto_R_le mono67 sz67 (show n3≤n3 by omega) q3
  exact ⟨n3 + 1,⟨[.int .i64 x.f0],[.int .i64 x.f1,.string x.f2,v3],rfl,rfl,⟨[.int .i64 x.f1],[.string x.f2,v3],rfl,rfl,⟨[.string x.f2],[v3],rfl,rfl,⟨v3,rfl,r3⟩⟩⟩⟩⟩
theorem k67_openF {W:World} {ok:Nat → Prop} {x:S67} {cs:List Value} (h:Kd.FK k67 W ok x cs):∃ A3 c3,cs = [.int .i64 x.f0,.int .i64 x.f1,.string x.f2,.slice A3 x.f3.length c3]∧x.f3.length≤c3∧Kd.F k67 W ok A3 x.f3.length x.f3:=by
  obtain ⟨A3,c3,rfl,l3,_⟩:=k67_open (Kd.FK_now h)
  exact ⟨A3,c3,rfl,l3,(fun W' hW=>by obtain ⟨A3_,c3_,he,l3_,g3_⟩:=k67_open (h W' hW);injection (Option.some.inj (show some (Value.slice A3 x.f3.length c3) = some (Value.slice A3_ x.f3.length c3_) from congrArg (fun l=>l[3]?) he)) with ha_ _ _;rw [ha_];exact g3_)⟩
theorem k67_mkF (W:World) (ok:Nat → Prop) (x:S67) {A3:Option Addr} {c3:Nat} (l3:x.f3.length≤c3) (g3:Kd.F k67 W ok A3 x.f3.length x.f3):Kd.FK k67 W ok x [.int .i64 x.f0,.int .i64 x.f1,.string x.f2,.slice A3 x.f3.length c3]:=fun W2 hW=>k67_mk W2 x l3 (g3 W2 hW)
def rd_T67 (xs:List S67) (i:Int):S67:=xs.getD i.toNat z67
theorem at_T67 {w:World} {A:Option Addr} {n:Nat} {xs:List S67} (h:Kd.C k67 w A n xs) (i:Int) (h0:0≤i) (h1:i < n):∃ ad A3 c3,A = some ad∧w.cell? (ad.add (i.toNat * 4)) = some (.int .i64 (rd_T67 xs i).f0)∧w.cell? ⟨(ad.add (i.toNat * 4)).block,(ad.add (i.toNat * 4)).off + 1,none⟩ = some (.int .i64 (rd_T67 xs i).f1)∧w.cell? ⟨(ad.add (i.toNat * 4)).block,(ad.add (i.toNat * 4)).off + 2,none⟩ = some (.string (rd_T67 xs i).f2)∧w.cell? ⟨(ad.add (i.toNat * 4)).block,(ad.add (i.toNat * 4)).off + 3,none⟩ = some (.slice A3 (rd_T67 xs i).f3.length c3)∧(rd_T67 xs i).f3.length≤c3∧k67.C w A3 (rd_T67 xs i).f3.length (rd_T67 xs i).f3:=by
  obtain ⟨ad,c,e,_,hK,hc0⟩:=Kd.C_get h z67 i h0 h1;have hc:∀ j u,c[j]? = some u → w.cell? (ad.add (i.toNat * 4 + j)) = some u:=hc0;obtain ⟨A3,c3,rfl,l3,g3⟩:=k67_open hK
  exact ⟨ad,A3,c3,e,hc 0 _ rfl,by rw [← add_field _ _ 1 (by omega)];exact hc 1 _ rfl,by rw [← add_field _ _ 2 (by omega)];exact hc 2 _ rfl,by rw [← add_field _ _ 3 (by omega)];exact hc 3 _ rfl,l3,g3⟩

def rd_L10 (xs:List (List S44)) (i:Int):(List S44):=xs.getD i.toNat ([]:List S44)
theorem at_L10 {w:World} {A:Option Addr} {n:Nat} {xs:List (List S44)} (h:Kd.C (Kd.slice 44 k44) w A n xs) (i:Int) (h0:0≤i) (h1:i < n):∃ ad A0 c0,A = some ad∧w.cell? (ad.add i.toNat) = some (.slice A0 (rd_L10 xs i).length c0)∧(rd_L10 xs i).length≤c0∧k44.C w A0 (rd_L10 xs i).length (rd_L10 xs i):=by
  obtain ⟨ad,c,e,_,hK,hc0⟩:=Kd.C_get h ([]:List S44) i h0 h1;have hc:∀ j u,c[j]? = some u → w.cell? (ad.add (i.toNat * 1 + j)) = some u:=hc0;obtain ⟨A0,c0,rfl,l0,g0⟩:=hK
  exact ⟨ad,A0,c0,e,by have hq:=hc 0 _ rfl;rwa [Nat.mul_one,Nat.add_zero] at hq,l0,g0⟩

def rd_L11 (xs:List (List S67)) (i:Int):(List S67):=xs.getD i.toNat ([]:List S67)
theorem at_L11 {w:World} {A:Option Addr} {n:Nat} {xs:List (List S67)} (h:Kd.C (Kd.slice 67 k67) w A n xs) (i:Int) (h0:0≤i) (h1:i < n):∃ ad A0 c0,A = some ad∧w.cell? (ad.add i.toNat) = some (.slice A0 (rd_L11 xs i).length c0)∧(rd_L11 xs i).length≤c0∧k67.C w A0 (rd_L11 xs i).length (rd_L11 xs i):=by
  obtain ⟨ad,c,e,_,hK,hc0⟩:=Kd.C_get h ([]:List S67) i h0 h1;have hc:∀ j u,c[j]? = some u → w.cell? (ad.add (i.toNat * 1 + j)) = some u:=hc0;obtain ⟨A0,c0,rfl,l0,g0⟩:=hK
  exact ⟨ad,A0,c0,e,by have hq:=hc 0 _ rfl;rwa [Nat.mul_one,Nat.add_zero] at hq,l0,g0⟩

/-! #### struct type 31 -/
structure S31 where
  f0:(List S44)
  f1:(List S67)
def z31:S31:=⟨([]:List S44),([]:List S67)⟩
def k31:Kd S31:=Kd.iso (Kd.pair (Kd.slice 44 k44) (Kd.slice 67 k67)) (fun x:S31=>(x.f0,x.f1))
theorem k31_heap:Kd.Heap k31:=Kd.heap_iso _ (Kd.heap_pair (Kd.heap_slice 44 k44_heap) (Kd.heap_slice 67 k67_heap))
theorem k31_open {w:World} {x:S31} {cs:List Value} (h:k31.K w x cs):∃ A0 c0 A1 c1,cs = [.slice A0 x.f0.length c0,.slice A1 x.f1.length c1]∧x.f0.length≤c0∧k44.C w A0 x.f0.length x.f0∧x.f1.length≤c1∧k67.C w A1 x.f1.length x.f1:=by
  obtain ⟨_,_,rfl,⟨A0,c0,rfl,l0,g0⟩,⟨A1,c1,rfl,l1,g1⟩⟩:=h
  exact ⟨A0,c0,A1,c1,rfl,l0,g0,l1,g1⟩
theorem k31_openM {w:World} {base:Nat} {ok:Nat → Prop} {x:S31} {cs:List Value} (h:k31.M w base ok x cs):∃ v0 v1,cs = [v0,v1]∧k44.R 44 w base ok v0 x.f0∧k67.R 67 w base ok v1 x.f1:=by
  obtain ⟨_,_,rfl,⟨v0,rfl,g0⟩,⟨v1,rfl,g1⟩⟩:=h
  exact ⟨v0,v1,rfl,g0,g1⟩
theorem k31_mk (w:World) (x:S31) {A0:Option Addr} {c0:Nat} (l0:x.f0.length≤c0) (g0:k44.C w A0 x.f0.length x.f0) {A1:Option Addr} {c1:Nat} (l1:x.f1.length≤c1) (g1:k67.C w A1 x.f1.length x.f1):k31.K w x [.slice A0 x.f0.length c0,.slice A1 x.f1.length c1]:=⟨[.slice A0 x.f0.length c0],[.slice A1 x.f1.length c1],rfl,⟨A0,c0,rfl,l0,g0⟩,⟨A1,c1,rfl,l1,g1⟩⟩
theorem k31_mkM (w:World) (base:Nat) (ok:Nat → Prop) (x:S31) {v0:Value} (g0:k44.R 44 w base ok v0 x.f0) {v1:Value} (g1:k67.R 67 w base ok v1 x.f1):k31.M w base ok x [v0,v1]:=⟨[v0],[v1],rfl,⟨v0,rfl,g0⟩,⟨v1,rfl,g1⟩⟩
theorem k31_openF {W:World} {ok:Nat → Prop} {x:S31} {cs:List Value} (h:Kd.FK k31 W ok x cs):∃ A0 c0 A1 c1,cs = [.slice A0 x.f0.length c0,.slice A1 x.f1.length c1]∧x.f0.length≤c0∧Kd.F k44 W ok A0 x.f0.length x.f0∧x.f1.length≤c1∧Kd.F k67 W ok A1 x.f1.length x.f1:=by
  obtain ⟨A0,c0,A1,c1,rfl,l0,_,l1,_⟩:=k31_open (Kd.FK_now h)
  exact ⟨A0,c0,A1,c1,rfl,l0,(fun W' hW=>by obtain ⟨A0_,c0_,A1_,c1_,he,l0_,g0_,l1_,g1_⟩:=k31_open (h W' hW);injection (Option.some.inj (show some (Value.slice A0 x.f0.length c0) = some (Value.slice A0_ x.f0.length c0_) from congrArg (fun l=>l[0]?) he)) with ha_ _ _;rw [ha_];exact g0_),l1,(fun W' hW=>by obtain ⟨A0_,c0_,A1_,c1_,he,l0_,g0_,l1_,g1_⟩:=k31_open (h W' hW);injection (Option.some.inj (show some (Value.slice A1 x.f1.length c1) = some (Value.slice A1_ x.f1.length c1_) from congrArg (fun l=>l[1]?) he)) with ha_ _ _;rw [ha_];exact g1_)⟩
theorem k31_mkF (W:World) (ok:Nat → Prop) (x:S31) {A0:Option Addr} {c0:Nat} (l0:x.f0.length≤c0) (g0:Kd.F k44 W ok A0 x.f0.length x.f0) {A1:Option Addr} {c1:Nat} (l1:x.f1.length≤c1) (g1:Kd.F k67 W ok A1 x.f1.length x.f1):Kd.FK k31 W ok x [.slice A0 x.f0.length c0,.slice A1 x.f1.length c1]:=fun W2 hW=>k31_mk W2 x l0 (g0 W2 hW) l1 (g1 W2 hW)
def rd_T31 (xs:List S31) (i:Int):S31:=xs.getD i.toNat z31
theorem at_T31 {w:World} {A:Option Addr} {n:Nat} {xs:List S31} (h:Kd.C k31 w A n xs) (i:Int) (h0:0≤i) (h1:i < n):∃ ad A0 c0 A1 c1,A = some ad∧w.cell? (ad.add (i.toNat * 2)) = some (.slice A0 (rd_T31 xs i).f0.length c0)∧w.cell? ⟨(ad.add (i.toNat * 2)).block,(ad.add (i.toNat * 2)).off + 1,none⟩ = some (.slice A1 (rd_T31 xs i).f1.length c1)∧(rd_T31 xs i).f0.length≤c0∧k44.C w A0 (rd_T31 xs i).f0.length (rd_T31 xs i).f0∧(rd_T31 xs i).f1.length≤c1∧k67.C w A1 (rd_T31 xs i).f1.length (rd_T31 xs i).f1:=by
  obtain ⟨ad,c,e,_,hK,hc0⟩:=Kd.C_get h z31 i h0 h1;have hc:∀ j u,c[j]? = some u → w.cell? (ad.add (i.toNat * 2 + j)) = some u:=hc0;obtain ⟨A0,c0,A1,c1,rfl,l0,g0,l1,g1⟩:=k31_open hK
  exact ⟨ad,A0,c0,A1,c1,e,hc 0 _ rfl,by rw [← add_field _ _ 1 (by omega)];exact hc 1 _ rfl,l0,g0,l1,g1⟩

def rd_L13 (xs:List (List S52)) (i:Int):(List S52):=xs.getD i.toNat ([]:List S52)
theorem at_L13 {w:World} {A:Option Addr} {n:Nat} {xs:List (List S52)} (h:Kd.C (Kd.slice 52 k52) w A n xs) (i:Int) (h0:0≤i) (h1:i < n):∃ ad A0 c0,A = some ad∧w.cell? (ad.add i.toNat) = some (.slice A0 (rd_L13 xs i).length c0)∧(rd_L13 xs i).length≤c0∧k52.C w A0 (rd_L13 xs i).length (rd_L13 xs i):=by
  obtain ⟨ad,c,e,_,hK,hc0⟩:=Kd.C_get h ([]:List S52) i h0 h1;have hc:∀ j u,c[j]? = some u → w.cell? (ad.add (i.toNat * 1 + j)) = some u:=hc0;obtain ⟨A0,c0,rfl,l0,g0⟩:=hK
  exact ⟨ad,A0,c0,e,by have hq:=hc 0 _ rfl;rwa [Nat.mul_one,Nat.add_zero] at hq,l0,g0⟩

def rd_L14 (xs:List (List S55)) (i:Int):(List S55):=xs.getD i.toNat ([]:List S55)
theorem at_L14 {w:World} {A:Option Addr} {n:Nat} {xs:List (List S55)} (h:Kd.C (Kd.slice 55 k55) w A n xs) (i:Int) (h0:0≤i) (h1:i < n):∃ ad A0 c0,A = some ad∧w.cell? (ad.add i.toNat) = some (.slice A0 (rd_L14 xs i).length c0)∧(rd_L14 xs i).length≤c0∧k55.C w A0 (rd_L14 xs i).length (rd_L14 xs i):=by
  obtain ⟨ad,c,e,_,hK,hc0⟩:=Kd.C_get h ([]:List S55) i h0 h1;have hc:∀ j u,c[j]? = some u → w.cell? (ad.add (i.toNat * 1 + j)) = some u:=hc0;obtain ⟨A0,c0,rfl,l0,g0⟩:=hK
  exact ⟨ad,A0,c0,e,by have hq:=hc 0 _ rfl;rwa [Nat.mul_one,Nat.add_zero] at hq,l0,g0⟩

/-! #### struct type 25 -/
structure S25 where
  f0:(List S52)
  f1:(List S55)
def z25:S25:=⟨([]:List S52),([]:List S55)⟩
def k25:Kd S25:=Kd.iso (Kd.pair (Kd.slice 52 k52) (Kd.slice 55 k55)) (fun x:S25=>(x.f0,x.f1))
theorem k25_heap:Kd.Heap k25:=Kd.heap_iso _ (Kd.heap_pair (Kd.heap_slice 52 k52_heap) (Kd.heap_slice 55 k55_heap))
theorem k25_open {w:World} {x:S25} {cs:List Value} (h:k25.K w x cs):∃ A0 c0 A1 c1,cs = [.slice A0 x.f0.length c0,.slice A1 x.f1.length c1]∧x.f0.length≤c0∧k52.C w A0 x.f0.length x.f0∧x.f1.length≤c1∧k55.C w A1 x.f1.length x.f1:=by
  obtain ⟨_,_,rfl,⟨A0,c0,rfl,l0,g0⟩,⟨A1,c1,rfl,l1,g1⟩⟩:=h
  exact ⟨A0,c0,A1,c1,rfl,l0,g0,l1,g1⟩
theorem k25_openM {w:World} {base:Nat} {ok:Nat → Prop} {x:S25} {cs:List Value} (h:k25.M w base ok x cs):∃ v0 v1,cs = [v0,v1]∧k52.R 52 w base ok v0 x.f0∧k55.R 55 w base ok v1 x.f1:=by
  obtain ⟨_,_,rfl,⟨v0,rfl,g0⟩,⟨v1,rfl,g1⟩⟩:=h
  exact ⟨v0,v1,rfl,g0,g1⟩
theorem k25_mk (w:World) (x:S25) {A0:Option Addr} {c0:Nat} (l0:x.f0.length≤c0) (g0:k52.C w A0 x.f0.length x.f0) {A1:Option Addr} {c1:Nat} (l1:x.f1.length≤c1) (g1:k55.C w A1 x.f1.length x.f1):k25.K w x [.slice A0 x.f0.length c0,.slice A1 x.f1.length c1]:=⟨[.slice A0 x.f0.length c0],[.slice A1 x.f1.length c1],rfl,⟨A0,c0,rfl,l0,g0⟩,⟨A1,c1,rfl,l1,g1⟩⟩
theorem k25_mkM (w:World) (base:Nat) (ok:Nat → Prop) (x:S25) {v0:Value} (g0:k52.R 52 w base ok v0 x.f0) {v1:Value} (g1:k55.R 55 w base ok v1 x.f1):k25.M w base ok x [v0,v1]:=⟨[v0],[v1],rfl,⟨v0,rfl,g0⟩,⟨v1,rfl,g1⟩⟩
theorem k25_openF {W:World} {ok:Nat → Prop} {x:S25} {cs:List Value} (h:Kd.FK k25 W ok x cs):∃ A0 c0 A1 c1,cs = [.slice A0 x.f0.length c0,.slice A1 x.f1.length c1]∧x.f0.length≤c0∧Kd.F k52 W ok A0 x.f0.length x.f0∧x.f1.length≤c1∧Kd.F k55 W ok A1 x.f1.length x.f1:=by
  obtain ⟨A0,c0,A1,c1,rfl,l0,_,l1,_⟩:=k25_open (Kd.FK_now h)
  exact ⟨A0,c0,A1,c1,rfl,l0,(fun W' hW=>by obtain ⟨A0_,c0_,A1_,c1_,he,l0_,g0_,l1_,g1_⟩:=k25_open (h W' hW);injection (Option.some.inj (show some (Value.slice A0 x.f0.length c0) = some (Value.slice A0_ x.f0.length c0_) from congrArg (fun l=>l[0]?) he)) with ha_ _ _;rw [ha_];exact g0_),l1,(fun W' hW=>by obtain ⟨A0_,c0_,A1_,c1_,he,l0_,g0_,l1_,g1_⟩:=k25_open (h W' hW);injection (Option.some.inj (show some (Value.slice A1 x.f1.length c1) = some (Value.slice A1_ x.f1.length c1_) from congrArg (fun l=>l[1]?) he)) with ha_ _ _;rw [ha_];exact g1_)⟩
theorem k25_mkF (W:World) (ok:Nat → Prop) (x:S25) {A0:Option Addr} {c0:Nat} (l0:x.f0.length≤c0) (g0:Kd.F k52 W ok A0 x.f0.length x.f0) {A1:Option Addr} {c1:Nat} (l1:x.f1.length≤c1) (g1:Kd.F k55 W ok A1 x.f1.length x.f1):Kd.FK k25 W ok x [.slice A0 x.f0.length c0,.slice A1 x.f1.length c1]:=fun W2 hW=>k25_mk W2 x l0 (g0 W2 hW) l1 (g1 W2 hW)
def rd_T25 (xs:List S25) (i:Int):S25:=xs.getD i.toNat z25
theorem at_T25 {w:World} {A:Option Addr} {n:Nat} {xs:List S25} (h:Kd.C k25 w A n xs) (i:Int) (h0:0≤i) (h1:i < n):∃ ad A0 c0 A1 c1,A = some ad∧w.cell? (ad.add (i.toNat * 2)) = some (.slice A0 (rd_T25 xs i).f0.length c0)∧w.cell? ⟨(ad.add (i.toNat * 2)).block,(ad.add (i.toNat * 2)).off + 1,none⟩ = some (.slice A1 (rd_T25 xs i).f1.length c1)∧(rd_T25 xs i).f0.length≤c0∧k52.C w A0 (rd_T25 xs i).f0.length (rd_T25 xs i).f0∧(rd_T25 xs i).f1.length≤c1∧k55.C w A1 (rd_T25 xs i).f1.length (rd_T25 xs i).f1:=by
  obtain ⟨ad,c,e,_,hK,hc0⟩:=Kd.C_get h z25 i h0 h1;have hc:∀ j u,c[j]? = some u → w.cell? (ad.add (i.toNat * 2 + j)) = some u:=hc0;obtain ⟨A0,c0,A1,c1,rfl,l0,g0,l1,g1⟩:=k25_open hK
  exact ⟨ad,A0,c0,A1,c1,e,hc 0 _ rfl,by rw [← add_field _ _ 1 (by omega)];exact hc 1 _ rfl,l0,g0,l1,g1⟩

def wf87:S87 → Prop
  | ⟨x0,x1,x2,x3⟩=>((Lit.int .i64 x0).wf = true)∧((Lit.int .i64 x1).wf = true)∧(x2.size≤maxLen)∧((Lit.int .i64 x3).wf = true)
def wf52:S52 → Prop
  | ⟨x0,x1,x2,x3⟩=>(x0.size≤maxLen)∧((Lit.int .i64 x1).wf = true)∧((Lit.int .i64 x2).wf = true)∧(x3.length≤maxLen∧∀ x_ ∈ x3,wf87 x_)
mutual
def wf55:S55 → Prop
  | ⟨x0,x1,x2,x3⟩=>((Lit.int .i64 x0).wf = true)∧((Lit.int .i64 x1).wf = true)∧(x2.size≤maxLen)∧(x3.length≤maxLen∧wfl55 x3)
def wfl55:List S55 → Prop
  | []=>True
  | x :: r=>wf55 x∧wfl55 r
end
theorem wfl55_iff:∀ l:List S55,wfl55 l ↔ ∀ x ∈ l,wf55 x
  | []=>by simp [wfl55]
  | x :: r=>by simp [wfl55,wfl55_iff r]
def wf25:S25 → Prop
  | ⟨x0,x1⟩=>(x0.length≤maxLen∧∀ x_ ∈ x0,wf52 x_)∧(x1.length≤maxLen∧∀ x_ ∈ x1,wf55 x_)
theorem eta25 (x:S25):(⟨x.f0,x.f1⟩:S25) = x:=by cases x;rfl
theorem eta52 (x:S52):(⟨x.f0,x.f1,x.f2,x.f3⟩:S52) = x:=by cases x;rfl
theorem eta87 (x:S87):(⟨x.f0,x.f1,x.f2,x.f3⟩:S87) = x:=by cases x;rfl
theorem eta55 (x:S55):(⟨x.f0,x.f1,x.f2,x.f3⟩:S55) = x:=by cases x;rfl
theorem isEmpty_ne (l:List UInt8):(!l.isEmpty) = (l != []):=by cases l <;> rfl
theorem isEmpty_be (l:List UInt8):l.isEmpty = (l == []):=by cases l <;> rfl





end Go.Proofs.Ytghhbdmjafedbaa.QFnExactCodeOk
