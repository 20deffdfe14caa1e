-- Written by a program of this workplace (print2.py) for this claim, over the print's words.
import Derived.Test.YtgcmmdfgfiflcaaProg
import Derived.Below
import Derived.Deep.Draws
import Derived.Deep.AppendLies
import Derived.Maps.AppendAt
import Derived.OwnWalk
import Derived.Laws.BytesArg
import Derived.Laws.MakeOwn
import Derived.Laws.OwnMore
import Derived.Deep.OwnRows
import Derived.Tactics
import Derived.Lib.ConvBytes
import Derived.Laws.Slices
import Derived.WalkKit
import Derived.KernelRfl
import Derived.RowKit3
import Derived.Deep.LoopGhost
import Derived.Deep.QuietTactic
import Derived.BigQuiet
import Derived.WideLaws
import Derived.Deep.DeepCutAuto
import Derived.Deep.CutBlock
import Derived.Deep.RegionHeld3
import Derived.Laws.Rows
import Derived.Lib.AppendStr
import Derived.ArgAppend
import Derived.Laws.IdiomCopy
import Derived.OrdersHeld
import Derived.Laws.BitsLemmas
import Derived.RowKit
import Derived.Lib.SliceRun
import Derived.Test.YtgcmmdfgfiflcaaSFnFreeWords
import Derived.Test.YtgcmmdfgfiflcaaSFnFreeLast
import Derived.Test.YtgcmmdfgfiflcaaSFnFreeTab
import Derived.Test.YtgcmmdfgfiflcaaSFnFreeApart
import Derived.Test.YtgcmmdfgfiflcaaSFnFreeArr
import Derived.Test.YtgcmmdfgfiflcaaSFnFreeFoot
import Derived.Test.YtgcmmdfgfiflcaaSFnFreeKept
import Derived.Test.YtgcmmdfgfiflcaaSFnFreeShare
import Derived.Test.YtgcmmdfgfiflcaaSFnFreeN
import Derived.Laws.StructEq
import Derived.Test.YtgcmmdfgfiflcaaSFnFreeRepsOne
import Derived.Test.YtgcmmdfgfiflcaaSFnFreeInv
import Derived.Test.YtgcmmdfgfiflcaaSFnFreeGuard
import Derived.Test.YtgcmmdfgfiflcaaSFnFreeNEv
import Derived.Test.YtgcmmdfgfiflcaaSFnFreeMore
namespace Go.Proofs.Ytgcmmdfgfiflcaa.QFnFree
open Go.RowKit Go.Proofs.YtgcmmdfgfiflcaaW.PrintWords Go.Proofs.YtgcmmdfgfiflcaaW.PrintLast Go.Proofs.YtgcmmdfgfiflcaaW.PrintMore
attribute [local go_sem] max2_int min2_int max_two min_two max_three min_three max_four min_four   -- for this text's walks alone
set_option linter.unusedVariables false
set_option linter.unusedSimpArgs false
theorem bz {w W W':World} {g:Nat} (hg:g=W'.heap.size) (h:Aside0 (Below w.heap.size w W)) (k:Below w.heap.size w W→Below w.heap.size w W':=by intro h_;repeat (first|(with_reducible first|exact h_|apply below_alloc|apply pw_below_drewN|apply below_drew1|refine below_set ?_ (Aside0.out (by assumption)))|exact h_)):Aside0 (w.heap.size≤g):=⟨hg ▸ below_size (k h.out)⟩
theorem bq {w W W' w':World} (h:Aside0 (Below w.heap.size w W)) (hb:Below W'.heap.size W' w') (k:Below w.heap.size w W→Below w.heap.size w W':=by intro h_;repeat (first|(with_reducible first|exact h_|apply below_alloc|apply pw_below_drewN|apply below_drew1|refine below_set ?_ (Aside0.out (by assumption)))|exact h_)):Aside0 (Below w.heap.size w w'):=⟨below_step (k h.out) hb⟩
theorem bls {p q r:Prop} (e:r) (h:p) (k:r→p→q:=by intro e_ h_;repeat (first|(with_reducible first|exact h_|apply below_alloc|apply pw_below_drewN|apply below_drew1|refine below_set ?_ e_|refine below_set ?_ (Aside0.out (by assumption)))|exact h_)):q:=k e h
theorem bzs {w W W':World} {g:Nat} {r:Prop} (hg:g=W'.heap.size) (e:r) (h:Aside0 (Below w.heap.size w W)) (k:r→Below w.heap.size w W→Below w.heap.size w W':=by intro e_ h_;repeat (first|(with_reducible first|exact h_|apply below_alloc|apply pw_below_drewN|apply below_drew1|refine below_set ?_ e_|refine below_set ?_ (Aside0.out (by assumption)))|exact h_)):Aside0 (w.heap.size≤g):=⟨hg ▸ below_size (k e h.out)⟩
theorem bqs {w W W' w':World} {r:Prop} (e:r) (h:Aside0 (Below w.heap.size w W)) (hb:Below W'.heap.size W' w') (k:r→Below w.heap.size w W→Below w.heap.size w W':=by intro e_ h_;repeat (first|(with_reducible first|exact h_|apply below_alloc|apply pw_below_drewN|apply below_drew1|refine below_set ?_ e_|refine below_set ?_ (Aside0.out (by assumption)))|exact h_)):Aside0 (Below w.heap.size w w'):=⟨below_step (k e h.out) hb⟩
theorem bw {W W' w':World} {g:Nat} {o:Obj} (h:Aside0 (W.heap[g]?=some o)) (hb:Below W'.heap.size W' w') (k:W.heap[g]?=some o→W'.heap[g]?=some o:=by intro h_;(with_reducible repeat (first|refine blk_drewN ?_ _|refine blk_drew ?_|refine blk_alloc ?_ _));exact h_):Aside0 (w'.heap[g]?=some o):=⟨blk_below (k h.out) hb⟩
theorem dk {W:World} {g:Nat} {o:Obj} (h:Aside0 (W.heap[g]?=some o)):Aside0 (W.drew.heap[g]?=some o):=⟨blk_drew h.out⟩
theorem dh {b:Nat} {w W:World} (h:Aside0 (Below b w W)):Aside0 (Below b w W.drew):=⟨below_drew1 h.out⟩
theorem nl {W W':World} {g g':Nat} {o:Obj} (hg:g'=W'.heap.size) (h:Aside0 (W.heap[g]?=some o)) (k:W.heap[g]?=some o→W'.heap[g]?=some o:=by intro h_;(with_reducible repeat (first|refine blk_drewN ?_ _|refine blk_drew ?_|refine blk_alloc ?_ _));exact h_):Aside0 (g≠g'):=⟨hg ▸ Nat.ne_of_lt (blk_lt (k h.out))⟩
theorem ng {W W':World} {g g':Nat} {o:Obj} (hg:g'=W'.heap.size) (h:Aside0 (W.heap[g]?=some o)) (k:W.heap[g]?=some o→W'.heap[g]?=some o:=by intro h_;(with_reducible repeat (first|refine blk_drewN ?_ _|refine blk_drew ?_|refine blk_alloc ?_ _));exact h_):Aside0 (g'≠g):=⟨hg ▸ Nat.ne_of_gt (blk_lt (k h.out))⟩
theorem ai {p q:Prop} (a:p) (b:q):p∧q:=⟨a,b⟩
theorem kb2 {W:World} {g:Nat} {v0 v1:Value} {t:TypeId} (h:W.heap[g]?=some (.cells #[v0,v1] t (0,0))):W.cell? ⟨g,0,none⟩=some v0∧W.cell? ⟨g,1,none⟩=some v1:=⟨(blk_cell h 0).trans rfl,(blk_cell h 1).trans rfl⟩
theorem kz2 {W:World} {g:Nat} {v0 v1:Value} {t:TypeId} (h:W.heap[g]?=some (.cells #[v0,v1] t (0,0))):W.frozen? ⟨g,0,none⟩=false∧W.frozen? ⟨g,1,none⟩=false:=⟨blk_frozen h 0,blk_frozen h 1⟩
theorem kb3 {W:World} {g:Nat} {v0 v1 v2:Value} {t:TypeId} (h:W.heap[g]?=some (.cells #[v0,v1,v2] t (0,0))):W.cell? ⟨g,0,none⟩=some v0∧W.cell? ⟨g,1,none⟩=some v1∧W.cell? ⟨g,2,none⟩=some v2:=⟨(blk_cell h 0).trans rfl,(blk_cell h 1).trans rfl,(blk_cell h 2).trans rfl⟩
theorem kz3 {W:World} {g:Nat} {v0 v1 v2:Value} {t:TypeId} (h:W.heap[g]?=some (.cells #[v0,v1,v2] t (0,0))):W.frozen? ⟨g,0,none⟩=false∧W.frozen? ⟨g,1,none⟩=false∧W.frozen? ⟨g,2,none⟩=false:=⟨blk_frozen h 0,blk_frozen h 1,blk_frozen h 2⟩
theorem kb4 {W:World} {g:Nat} {v0 v1 v2 v3:Value} {t:TypeId} (h:W.heap[g]?=some (.cells #[v0,v1,v2,v3] t (0,0))):W.cell? ⟨g,0,none⟩=some v0∧W.cell? ⟨g,1,none⟩=some v1∧W.cell? ⟨g,2,none⟩=some v2∧W.cell? ⟨g,3,none⟩=some v3:=⟨(blk_cell h 0).trans rfl,(blk_cell h 1).trans rfl,(blk_cell h 2).trans rfl,(blk_cell h 3).trans rfl⟩
theorem kz4 {W:World} {g:Nat} {v0 v1 v2 v3:Value} {t:TypeId} (h:W.heap[g]?=some (.cells #[v0,v1,v2,v3] t (0,0))):W.frozen? ⟨g,0,none⟩=false∧W.frozen? ⟨g,1,none⟩=false∧W.frozen? ⟨g,2,none⟩=false∧W.frozen? ⟨g,3,none⟩=false:=⟨blk_frozen h 0,blk_frozen h 1,blk_frozen h 2,blk_frozen h 3⟩
theorem kb5 {W:World} {g:Nat} {v0 v1 v2 v3 v4:Value} {t:TypeId} (h:W.heap[g]?=some (.cells #[v0,v1,v2,v3,v4] t (0,0))):W.cell? ⟨g,0,none⟩=some v0∧W.cell? ⟨g,1,none⟩=some v1∧W.cell? ⟨g,2,none⟩=some v2∧W.cell? ⟨g,3,none⟩=some v3∧W.cell? ⟨g,4,none⟩=some v4:=⟨(blk_cell h 0).trans rfl,(blk_cell h 1).trans rfl,(blk_cell h 2).trans rfl,(blk_cell h 3).trans rfl,(blk_cell h 4).trans rfl⟩
theorem kz5 {W:World} {g:Nat} {v0 v1 v2 v3 v4:Value} {t:TypeId} (h:W.heap[g]?=some (.cells #[v0,v1,v2,v3,v4] t (0,0))):W.frozen? ⟨g,0,none⟩=false∧W.frozen? ⟨g,1,none⟩=false∧W.frozen? ⟨g,2,none⟩=false∧W.frozen? ⟨g,3,none⟩=false∧W.frozen? ⟨g,4,none⟩=false:=⟨blk_frozen h 0,blk_frozen h 1,blk_frozen h 2,blk_frozen h 3,blk_frozen h 4⟩
theorem kb6 {W:World} {g:Nat} {v0 v1 v2 v3 v4 v5:Value} {t:TypeId} (h:W.heap[g]?=some (.cells #[v0,v1,v2,v3,v4,v5] t (0,0))):W.cell? ⟨g,0,none⟩=some v0∧W.cell? ⟨g,1,none⟩=some v1∧W.cell? ⟨g,2,none⟩=some v2∧W.cell? ⟨g,3,none⟩=some v3∧W.cell? ⟨g,4,none⟩=some v4∧W.cell? ⟨g,5,none⟩=some v5:=⟨(blk_cell h 0).trans rfl,(blk_cell h 1).trans rfl,(blk_cell h 2).trans rfl,(blk_cell h 3).trans rfl,(blk_cell h 4).trans rfl,(blk_cell h 5).trans rfl⟩
theorem kz6 {W:World} {g:Nat} {v0 v1 v2 v3 v4 v5:Value} {t:TypeId} (h:W.heap[g]?=some (.cells #[v0,v1,v2,v3,v4,v5] t (0,0))):W.frozen? ⟨g,0,none⟩=false∧W.frozen? ⟨g,1,none⟩=false∧W.frozen? ⟨g,2,none⟩=false∧W.frozen? ⟨g,3,none⟩=false∧W.frozen? ⟨g,4,none⟩=false∧W.frozen? ⟨g,5,none⟩=false:=⟨blk_frozen h 0,blk_frozen h 1,blk_frozen h 2,blk_frozen h 3,blk_frozen h 4,blk_frozen h 5⟩
theorem kb7 {W:World} {g:Nat} {v0 v1 v2 v3 v4 v5 v6:Value} {t:TypeId} (h:W.heap[g]?=some (.cells #[v0,v1,v2,v3,v4,v5,v6] t (0,0))):W.cell? ⟨g,0,none⟩=some v0∧W.cell? ⟨g,1,none⟩=some v1∧W.cell? ⟨g,2,none⟩=some v2∧W.cell? ⟨g,3,none⟩=some v3∧W.cell? ⟨g,4,none⟩=some v4∧W.cell? ⟨g,5,none⟩=some v5∧W.cell? ⟨g,6,none⟩=some v6:=⟨(blk_cell h 0).trans rfl,(blk_cell h 1).trans rfl,(blk_cell h 2).trans rfl,(blk_cell h 3).trans rfl,(blk_cell h 4).trans rfl,(blk_cell h 5).trans rfl,(blk_cell h 6).trans rfl⟩
theorem kz7 {W:World} {g:Nat} {v0 v1 v2 v3 v4 v5 v6:Value} {t:TypeId} (h:W.heap[g]?=some (.cells #[v0,v1,v2,v3,v4,v5,v6] t (0,0))):W.frozen? ⟨g,0,none⟩=false∧W.frozen? ⟨g,1,none⟩=false∧W.frozen? ⟨g,2,none⟩=false∧W.frozen? ⟨g,3,none⟩=false∧W.frozen? ⟨g,4,none⟩=false∧W.frozen? ⟨g,5,none⟩=false∧W.frozen? ⟨g,6,none⟩=false:=⟨blk_frozen h 0,blk_frozen h 1,blk_frozen h 2,blk_frozen h 3,blk_frozen h 4,blk_frozen h 5,blk_frozen h 6⟩
theorem kb8 {W:World} {g:Nat} {v0 v1 v2 v3 v4 v5 v6 v7:Value} {t:TypeId} (h:W.heap[g]?=some (.cells #[v0,v1,v2,v3,v4,v5,v6,v7] t (0,0))):W.cell? ⟨g,0,none⟩=some v0∧W.cell? ⟨g,1,none⟩=some v1∧W.cell? ⟨g,2,none⟩=some v2∧W.cell? ⟨g,3,none⟩=some v3∧W.cell? ⟨g,4,none⟩=some v4∧W.cell? ⟨g,5,none⟩=some v5∧W.cell? ⟨g,6,none⟩=some v6∧W.cell? ⟨g,7,none⟩=some v7:=⟨(blk_cell h 0).trans rfl,(blk_cell h 1).trans rfl,(blk_cell h 2).trans rfl,(blk_cell h 3).trans rfl,(blk_cell h 4).trans rfl,(blk_cell h 5).trans rfl,(blk_cell h 6).trans rfl,(blk_cell h 7).trans rfl⟩
theorem kz8 {W:World} {g:Nat} {v0 v1 v2 v3 v4 v5 v6 v7:Value} {t:TypeId} (h:W.heap[g]?=some (.cells #[v0,v1,v2,v3,v4,v5,v6,v7] t (0,0))):W.frozen? ⟨g,0,none⟩=false∧W.frozen? ⟨g,1,none⟩=false∧W.frozen? ⟨g,2,none⟩=false∧W.frozen? ⟨g,3,none⟩=false∧W.frozen? ⟨g,4,none⟩=false∧W.frozen? ⟨g,5,none⟩=false∧W.frozen? ⟨g,6,none⟩=false∧W.frozen? ⟨g,7,none⟩=false:=⟨blk_frozen h 0,blk_frozen h 1,blk_frozen h 2,blk_frozen h 3,blk_frozen h 4,blk_frozen h 5,blk_frozen h 6,blk_frozen h 7⟩
theorem kb9 {W:World} {g:Nat} {v0 v1 v2 v3 v4 v5 v6 v7 v8:Value} {t:TypeId} (h:W.heap[g]?=some (.cells #[v0,v1,v2,v3,v4,v5,v6,v7,v8] t (0,0))):W.cell? ⟨g,0,none⟩=some v0∧W.cell? ⟨g,1,none⟩=some v1∧W.cell? ⟨g,2,none⟩=some v2∧W.cell? ⟨g,3,none⟩=some v3∧W.cell? ⟨g,4,none⟩=some v4∧W.cell? ⟨g,5,none⟩=some v5∧W.cell? ⟨g,6,none⟩=some v6∧W.cell? ⟨g,7,none⟩=some v7∧W.cell? ⟨g,8,none⟩=some v8:=⟨(blk_cell h 0).trans rfl,(blk_cell h 1).trans rfl,(blk_cell h 2).trans rfl,(blk_cell h 3).trans rfl,(blk_cell h 4).trans rfl,(blk_cell h 5).trans rfl,(blk_cell h 6).trans rfl,(blk_cell h 7).trans rfl,(blk_cell h 8).trans rfl⟩
theorem kz9 {W:World} {g:Nat} {v0 v1 v2 v3 v4 v5 v6 v7 v8:Value} {t:TypeId} (h:W.heap[g]?=some (.cells #[v0,v1,v2,v3,v4,v5,v6,v7,v8] t (0,0))):W.frozen? ⟨g,0,none⟩=false∧W.frozen? ⟨g,1,none⟩=false∧W.frozen? ⟨g,2,none⟩=false∧W.frozen? ⟨g,3,none⟩=false∧W.frozen? ⟨g,4,none⟩=false∧W.frozen? ⟨g,5,none⟩=false∧W.frozen? ⟨g,6,none⟩=false∧W.frozen? ⟨g,7,none⟩=false∧W.frozen? ⟨g,8,none⟩=false:=⟨blk_frozen h 0,blk_frozen h 1,blk_frozen h 2,blk_frozen h 3,blk_frozen h 4,blk_frozen h 5,blk_frozen h 6,blk_frozen h 7,blk_frozen h 8⟩
theorem tdiv_lit (b:Int):Int.tdiv 1000000000000 b=1000000000000 / b:=Int.tdiv_eq_ediv_of_nonneg (by decide)
theorem blk_farA {w:World} {g:Nat} {t:TypeId} {cs:Array Value} {p:Addr} (hp:Aside0 (g≠p.block)) (h:w.heap[g]?=some (.cells cs t (0,0))) (u:Value):(w.setCell p u).heap[g]?=some (.cells cs t (0,0)):=blk_far h hp.out u
theorem bm {p q:Prop} (h:p) (k:p→q:=by intro h_;repeat (first|(with_reducible exact h_)|(with_reducible first|refine blk_drewN ?_ _|refine blk_drew ?_|refine blk_alloc ?_ _)|(with_reducible apply blk_farA;assumption)|exact h_)):q:=k h
theorem bmp {p q:Prop} (h:p) (k:p→q:=by intro h_;repeat (first|(with_reducible exact h_)|(with_reducible first|refine blk_drewN ?_ _|refine blk_drew ?_|refine blk_alloc ?_ _)|(with_reducible apply blk_farA;assumption)|with_reducible apply blk_put|with_reducible rfl|exact h_|rfl)):q:=k h
theorem bwm {W W' w':World} {g:Nat} {o:Obj} (h:Aside0 (W.heap[g]?=some o)) (hb:Below W'.heap.size W' w') (k:W.heap[g]?=some o→W'.heap[g]?=some o:=by intro h_;repeat (first|(with_reducible exact h_)|(with_reducible first|refine blk_drewN ?_ _|refine blk_drew ?_|refine blk_alloc ?_ _)|(with_reducible apply blk_farA;assumption)|exact h_)):Aside0 (w'.heap[g]?=some o):=⟨blk_below (k h.out) hb⟩
theorem nlm {W W':World} {g g':Nat} {o:Obj} (hg:g'=W'.heap.size) (h:Aside0 (W.heap[g]?=some o)) (k:W.heap[g]?=some o→W'.heap[g]?=some o:=by intro h_;repeat (first|(with_reducible exact h_)|(with_reducible first|refine blk_drewN ?_ _|refine blk_drew ?_|refine blk_alloc ?_ _)|(with_reducible apply blk_farA;assumption)|exact h_)):Aside0 (g≠g'):=⟨hg ▸ Nat.ne_of_lt (blk_lt (k h.out))⟩
theorem ngm {W W':World} {g g':Nat} {o:Obj} (hg:g'=W'.heap.size) (h:Aside0 (W.heap[g]?=some o)) (k:W.heap[g]?=some o→W'.heap[g]?=some o:=by intro h_;repeat (first|(with_reducible exact h_)|(with_reducible first|refine blk_drewN ?_ _|refine blk_drew ?_|refine blk_alloc ?_ _)|(with_reducible apply blk_farA;assumption)|exact h_)):Aside0 (g'≠g):=⟨hg ▸ Nat.ne_of_gt (blk_lt (k h.out))⟩
theorem ndm {p q:Prop} (h:p) (k:p→q:=by intro h_;(with_reducible repeat (first|apply Kd.N_alloc|apply Kd.N_drewN|apply Kd.N_drew));exact h_):q:=k h
theorem nfm {α:Type} {d:Kd α} {e base:Nat} {ok:Nat→Prop} {v:Value} {xs:List α} {W W':World} (h:Kd.N d e W base ok v xs) (k:Kd.N d e W base ok v xs→Kd.N d e W' base ok v xs:=by intro h_;repeat (first|(with_reducible exact h_)|(with_reducible first|apply Kd.N_alloc|apply Kd.N_drewN|apply Kd.N_drew)|((with_reducible refine Kd.N_far ?_ ?hq _);(case hq=>first|exact fun _ hk=>hk.2|exact fun _ hk=>hk.1.2|exact fun _ hk=>hk.1.1.2|exact fun _ hk=>hk.1.1.1.2))|exact h_)):Kd.N d e W' base ok v xs:=k h
theorem nbm {α:Type} {d:Kd α} {e base:Nat} {ok:Nat→Prop} {v:Value} {xs:List α} {W W' w':World} {g:Nat} (h:Aside0 (Kd.N d e W base ok v xs)) (hg:g=W'.heap.size) (hb:Below W'.heap.size W' w') (k:Kd.N d e W base ok v xs→Kd.N d e W' base ok v xs:=by intro h_;(with_reducible repeat (first|apply Kd.N_alloc|apply Kd.N_drewN|apply Kd.N_drew));exact h_):Aside0 (Kd.N d e w' base (fun k=>ok k∧k≠g) v xs):=⟨Kd.N_below (Kd.N_elderB (k h.out) g (Nat.le_of_eq hg.symm)) hb⟩
theorem nwm {α:Type} {d:Kd α} {e base:Nat} {ok:Nat→Prop} {v:Value} {xs:List α} {W W' w':World} (h:Aside0 (Kd.N d e W base ok v xs)) (hb:Below W'.heap.size W' w') (k:Kd.N d e W base ok v xs→Kd.N d e W' base ok v xs:=by intro h_;(with_reducible repeat (first|apply Kd.N_alloc|apply Kd.N_drewN|apply Kd.N_drew));exact h_):Aside0 (Kd.N d e w' base ok v xs):=⟨Kd.N_below (k h.out) hb⟩
theorem sdm {p q:Prop} (h:p) (k:p→q:=by intro h_;(with_reducible repeat (first|apply Kd.S_alloc|apply Kd.S_drewN|apply Kd.S_drew));exact h_):q:=k h
theorem sfm {α:Type} {d:Kd α} {e base:Nat} {ok:Nat→Prop} {v:Value} {xs:List α} {W W':World} (h:Kd.S d e W base ok v xs) (k:Kd.S d e W base ok v xs→Kd.S d e W' base ok v xs:=by intro h_;repeat (first|(with_reducible exact h_)|(with_reducible first|apply Kd.S_alloc|apply Kd.S_drewN|apply Kd.S_drew)|((with_reducible refine Kd.S_far ?_ ?hq _);(case hq=>first|exact fun _ hk=>hk.2|exact fun _ hk=>hk.1.2|exact fun _ hk=>hk.1.1.2|exact fun _ hk=>hk.1.1.1.2))|exact h_)):Kd.S d e W' base ok v xs:=k h
theorem sbm {α:Type} {d:Kd α} {e base:Nat} {ok:Nat→Prop} {v:Value} {xs:List α} {W W' w':World} {g:Nat} (h:Aside0 (Kd.S d e W base ok v xs)) (hg:g=W'.heap.size) (hb:Below W'.heap.size W' w') (k:Kd.S d e W base ok v xs→Kd.S d e W' base ok v xs:=by intro h_;(with_reducible repeat (first|apply Kd.S_alloc|apply Kd.S_drewN|apply Kd.S_drew));exact h_):Aside0 (Kd.S d e w' base (fun k=>ok k∧k≠g) v xs):=⟨Kd.S_below (Kd.S_elderB (k h.out) g (Nat.le_of_eq hg.symm)) hb⟩
theorem swm {α:Type} {d:Kd α} {e base:Nat} {ok:Nat→Prop} {v:Value} {xs:List α} {W W' w':World} (h:Aside0 (Kd.S d e W base ok v xs)) (hb:Below W'.heap.size W' w') (k:Kd.S d e W base ok v xs→Kd.S d e W' base ok v xs:=by intro h_;(with_reducible repeat (first|apply Kd.S_alloc|apply Kd.S_drewN|apply Kd.S_drew));exact h_):Aside0 (Kd.S d e w' base ok v xs):=⟨Kd.S_below (k h.out) hb⟩
theorem vdm {p q:Prop} (h:p) (k:p→q:=by intro h_;(with_reducible repeat (first|apply Kd.V_alloc|apply Kd.V_drewN|apply Kd.V_drew));exact h_):q:=k h
theorem vfm {α:Type} {d:Kd α} {e base:Nat} {ok:Nat→Prop} {v:Value} {xs:List α} {W W':World} (h:Kd.V d e W base ok v xs) (k:Kd.V d e W base ok v xs→Kd.V d e W' base ok v xs:=by intro h_;repeat (first|(with_reducible exact h_)|(with_reducible first|apply Kd.V_alloc|apply Kd.V_drewN|apply Kd.V_drew)|((with_reducible refine Kd.V_far ?_ ?hq _);(case hq=>first|exact fun _ hk=>hk.2|exact fun _ hk=>hk.1.2|exact fun _ hk=>hk.1.1.2|exact fun _ hk=>hk.1.1.1.2))|exact h_)):Kd.V d e W' base ok v xs:=k h
theorem vbm {α:Type} {d:Kd α} {e base:Nat} {ok:Nat→Prop} {v:Value} {xs:List α} {W W' w':World} {g:Nat} (h:Aside0 (Kd.V d e W base ok v xs)) (hg:g=W'.heap.size) (hb:Below W'.heap.size W' w') (k:Kd.V d e W base ok v xs→Kd.V d e W' base ok v xs:=by intro h_;(with_reducible repeat (first|apply Kd.V_alloc|apply Kd.V_drewN|apply Kd.V_drew));exact h_):Aside0 (Kd.V d e w' base (fun k=>ok k∧k≠g) v xs):=⟨Kd.V_below (Kd.V_elderB (k h.out) g (Nat.le_of_eq hg.symm)) hb⟩
theorem vwm {α:Type} {d:Kd α} {e base:Nat} {ok:Nat→Prop} {v:Value} {xs:List α} {W W' w':World} (h:Aside0 (Kd.V d e W base ok v xs)) (hb:Below W'.heap.size W' w') (k:Kd.V d e W base ok v xs→Kd.V d e W' base ok v xs:=by intro h_;(with_reducible repeat (first|apply Kd.V_alloc|apply Kd.V_drewN|apply Kd.V_drew));exact h_):Aside0 (Kd.V d e w' base ok v xs):=⟨Kd.V_below (k h.out) hb⟩
theorem rdm {p q:Prop} (h:p) (k:p→q:=by intro h_;(with_reducible repeat (first|apply Kd.R_alloc|apply Kd.R_drewN|apply Kd.R_drew));exact h_):q:=k h
theorem rfm {α:Type} {d:Kd α} {e base:Nat} {ok:Nat→Prop} {v:Value} {xs:List α} {W W':World} (h:d.R e W base ok v xs) (k:d.R e W base ok v xs→d.R e W' base ok v xs:=by intro h_;repeat (first|(with_reducible exact h_)|(with_reducible first|apply Kd.R_alloc|apply Kd.R_drewN|apply Kd.R_drew)|((with_reducible refine Kd.R_far ?_ ?hq _);(case hq=>first|exact fun _ hk=>hk.2|exact fun _ hk=>hk.1.2|exact fun _ hk=>hk.1.1.2|exact fun _ hk=>hk.1.1.1.2))|exact h_)):d.R e W' base ok v xs:=k h
theorem rbm {α:Type} {d:Kd α} {e base:Nat} {ok:Nat→Prop} {v:Value} {xs:List α} {W W' w':World} {g:Nat} (h:Aside0 (d.R e W base ok v xs)) (hg:g=W'.heap.size) (hb:Below W'.heap.size W' w') (k:d.R e W base ok v xs→d.R e W' base ok v xs:=by intro h_;(with_reducible repeat (first|apply Kd.R_alloc|apply Kd.R_drewN|apply Kd.R_drew));exact h_):Aside0 (d.R e w' base (fun k=>ok k∧k≠g) v xs):=⟨Kd.R_below (Kd.R_elderB (k h.out) g (Nat.le_of_eq hg.symm)) hb⟩
theorem rwm {α:Type} {d:Kd α} {e base:Nat} {ok:Nat→Prop} {v:Value} {xs:List α} {W W' w':World} (h:Aside0 (d.R e W base ok v xs)) (hb:Below W'.heap.size W' w') (k:d.R e W base ok v xs→d.R e W' base ok v xs:=by intro h_;(with_reducible repeat (first|apply Kd.R_alloc|apply Kd.R_drewN|apply Kd.R_drew));exact h_):Aside0 (d.R e w' base ok v xs):=⟨Kd.R_below (k h.out) hb⟩
theorem cl {p:Prop} (h:p:=by first|rfl|(simp [*,errW_none,errW_some] <;> rfl)):p:=h
theorem cl2 {p:Prop} (h:p:=by first|rfl|(simp;done)|(simp [*];done)):p:=h
theorem bl {p q:Prop} (h:p) (k:p→q:=by intro h_;repeat (first|(with_reducible first|exact h_|apply below_alloc|apply pw_below_drewN|apply below_drew1|refine below_set ?_ (Aside0.out (by assumption)))|exact h_)):q:=k h
theorem bk {p q:Prop} (h:p) (k:p→q:=by intro h_;(with_reducible repeat (first|refine blk_drewN ?_ _|refine blk_drew ?_|refine blk_alloc ?_ _));exact h_):q:=k h
theorem ck {p q:Prop} (h:p) (k:p→q:=by intro h_;repeat (first|exact h_|(with_reducible refine Kd.C_alloc ?_ _)|(with_reducible refine Kd.C_drewN ?_ _)|(with_reducible refine Kd.C_drew ?_))):q:=k h
theorem rk {p q:Prop} (h:p) (k:p→q:=by intro h_;(with_reducible repeat (first|apply Kd.R_alloc|apply Kd.R_drewN|apply Kd.R_drew));exact h_):q:=k h
theorem cb {w W:World} {p:Addr} {v:Value} (HB:Aside0 (Below w.heap.size w W)) (h:w.cell? p=some v):W.cell? p=some v:=(HB.out.cell (World.block_lt_of_cell? w _ h)).trans h
theorem gs {p:Prop} (h:p:=by (try simp only [List.map_toArray,List.map_cons,List.map_nil]);first|done|rfl|(simp only [List.length_drop,List.length_take];rfl)):p:=h
theorem od {p:Prop} [Decidable p] (h:decide p=true:=by first|(with_reducible assumption)|assumption):p:=of_decide_eq_true h
theorem bc {W:World} {g:Nat} {cs:Array Value} {t:TypeId} (h:W.heap[g]?=some (.cells cs t (0,0))) (i:Nat) {v:Value} (hv:cs.toList[i]?=some v:=by exact rfl):W.cell? ⟨g,i,none⟩=some v:=(blk_cell h i).trans (by simpa using hv)
section
variable {P:Program} {ops:Array Oper} {Q:Exit→Act→World→Prop} {md:Region.Mode} {S:World→Prop} {ds:List Nat}
theorem pu (i N:Nat) {T:Bool×List (List Nat×List Nat)} {oi:Oper} {v:Value} {fuel:Nat} {l:Array Bool} {a a':Act} {w:World} (h:wpAnyLast P md ops Q S ds fuel (l.setIfInBounds i true) a' w)
  (hT:Aside0 (rtab md ops=T):=by assumption) (hi:ops[i]?=some oi:=by rfl) (hN:oi.dst=some N:=by rfl) (hc:anyT T l.toList (l.setIfInBounds i true).toList i=true:=by kernel_rfl)
  (hy:Yields P ops oi v a:=by first|exact Or.inr ⟨by rfl,rfl⟩|exact Or.inl ⟨by rfl,by intro w';go_simp;with_reducible rfl⟩)
  (ha:a.put (some N) v=a':=by simp only [Act.put,List.setIfInBounds_toArray,List.set_cons_zero,List.set_cons_succ,i64_w,i32_w];rfl)
  (hQ:∀ c a w,Q (.panic c) (a.put oi.dst v) w→Q (.panic c) a w:=by exact fun _ _ _ h=>h):wpAnyLast P md ops Q S ds (fuel + 1) l a w :=
 pure_ (l.setIfInBounds i true) hi hN (any_of hT.out hc) hQ hy ha h
theorem ta (i N:Nat) {T:Bool×List (List Nat×List Nat)} {B:List Nat} {oi:Oper} {v:Value} {fuel:Nat} {l:Array Bool} {a a':Act} {w:World} (hS:S w) (h:wpAnyLast P md ops Q S ds fuel (l.setIfInBounds i true) a' w)
  (hT:Aside0 (rtab md ops=T):=by assumption) (hB:Aside0 (waitsOk T.2 B=true):=by assumption) (hi:ops[i]?=some oi:=by rfl) (hN:oi.dst=some N:=by rfl) (hc:takeW T B ds l.toList (l.setIfInBounds i true).toList i=true:=by kernel_rfl)
  (hy:YieldsIf P ops S oi v a:=by exact Or.inl ⟨by rfl,by intro w' hs_;(try simp only [] at hs_);go_simp;with_reducible rfl⟩)
  (ha:a.put (some N) v=a':=by simp only [Act.put,List.setIfInBounds_toArray,List.set_cons_zero,List.set_cons_succ,i64_w,i32_w];rfl)
  (hQ:∀ c a w,Q (.panic c) (a.put oi.dst v) w→Q (.panic c) a w:=by exact fun _ _ _ h=>h):wpAnyLast P md ops Q S ds (fuel + 1) l a w :=
 take_ (l.setIfInBounds i true) hi hN (take_ofW hT.out hB.out hc) hQ hy hS ha h
end
def errW:Option Int→Value
 | none=>.nilIface
 | some c=>.iface 0 (.int .i64 c)
theorem errW_none:errW none=.nilIface:=rfl
theorem errW_some (c:Int):errW (some c)=.iface 0 (.int .i64 c):=rfl
theorem info3:(Try.prog.info? 3).map (fun i=>(i.zero,i.size,i.bytes))=some (some (.int .i64 0),1,8):=by kernel_rfl
theorem info9:(Try.prog.info? 9).map (fun i=>(i.zero,i.size,i.bytes))=some (some (.string ⟨#[]⟩),1,16):=by kernel_rfl
theorem info27:(Try.prog.info? 27).map (fun i=>(i.zero,i.size,i.bytes))=some (some (.agg #[(.int .i64 0),(.int .i64 0),(.string ⟨#[]⟩),(.slice none 0 0),(.slice none 0 0)]),5,80):=by kernel_rfl
theorem info33:(Try.prog.info? 33).map (fun i=>(i.zero,i.size,i.bytes))=some (some (.agg #[(.int .i64 0),(.int .i64 0),(.string ⟨#[]⟩),(.slice none 0 0),(.slice none 0 0),(.int .i64 0),(.int .i64 0),(.string ⟨#[]⟩),(.slice none 0 0),(.slice none 0 0)]),10,160):=by kernel_rfl
-- the values' own types
section
variable {α β:Type} {F:Kd α→Kd α} {G:Kd α→Kd β} {sz:Nat} {E:List Nat} {hs:∀ n,(Kd.upto F sz E n).sz=sz} {hE:∀ n q,q ∈ (Kd.upto F sz E n).E→q ∈ E}
theorem nest_C (hg:Kd.Mono G) {n:Nat} {w:World} {A:Option Addr} {m:Nat} {xs:List β} (h:(G (Kd.upto F sz E n)).C w A m xs):(G (Kd.fix F sz E hs hE)).C w A m xs :=
 Kd.C_imp (hg.sz _ _ (hs n)) (fun w x cs hp=>hg.K _ (Kd.fix F sz E hs hE) (hs n) (fun w x cs hp=>(⟨n,hp⟩:∃ n,(Kd.upto F sz E n).K w x cs)) w x cs hp) h
theorem nest_R (hg:Kd.Mono G) {n:Nat} {e:Nat} {w:World} {base:Nat} {ok:Nat→Prop} {v:Value} {xs:List β} (h:(G (Kd.upto F sz E n)).R e w base ok v xs):(G (Kd.fix F sz E hs hE)).R e w base ok v xs :=
 Kd.R_imp (hg.sz _ _ (hs n)) (fun w base ok x cs hp=>hg.M _ (Kd.fix F sz E hs hE) (hs n) (fun w base ok x cs hp=>(⟨n,hp⟩:∃ n,(Kd.upto F sz E n).M w base ok x cs)) w base ok x cs hp) h
theorem nest_C_le (hm:Kd.Mono F) (hs:∀ n,(Kd.upto F sz E n).sz=sz) (hg:Kd.Mono G) {n m:Nat} (hnm:n≤m) {w:World} {A:Option Addr} {l:Nat} {xs:List β} (h:(G (Kd.upto F sz E n)).C w A l xs):(G (Kd.upto F sz E m)).C w A l xs :=
 Kd.C_imp (hg.sz _ _ (by rw [hs n,hs m])) (fun w x cs hp=>hg.K _ _ (by rw [hs n,hs m]) (fun _ _ _ hp=>Kd.upto_K_le hm hs hnm hp) w x cs hp) h
theorem nest_R_le (hm:Kd.Mono F) (hs:∀ n,(Kd.upto F sz E n).sz=sz) (hg:Kd.Mono G) {n m:Nat} (hnm:n≤m) {e:Nat} {w:World} {base:Nat} {ok:Nat→Prop} {v:Value} {xs:List β} (h:(G (Kd.upto F sz E n)).R e w base ok v xs):(G (Kd.upto F sz E m)).R e w base ok v xs :=
 Kd.R_imp (hg.sz _ _ (by rw [hs n,hs m])) (fun w base ok x cs hp=>hg.M _ _ (by rw [hs n,hs m]) (fun _ _ _ _ _ hp=>Kd.upto_M_le hm hs hnm hp) w base ok x cs hp) h
theorem nest_R_back (hm:Kd.Mono F) (hg:Kd.Mono G) (hb:∀ {w:World} {base:Nat} {ok:Nat→Prop} {x:β} {cs:List Value},(G (Kd.fix F sz E hs hE)).M w base ok x cs→∃ n,(G (Kd.upto F sz E n)).M w base ok x cs)
  {e:Nat} {w:World} {base:Nat} {ok:Nat→Prop} {v:Value} {xs:List β} (h:(G (Kd.fix F sz E hs hE)).R e w base ok v xs):∃ n,(G (Kd.upto F sz E n)).R e w base ok v xs:=by
 obtain ⟨h0,inner,ho,hr⟩:=h;have hz:∀ n,(G (Kd.upto F sz E n)).sz=(G (Kd.fix F sz E hs hE)).sz:=fun n=>hg.sz _ _ (hs n)
 obtain ⟨N,hN⟩:=Kd.reps_bounded (R:=fun n p c=>(G (Kd.upto F sz E n)).M w base (fun k=>ok k∧some k≠v.ownBlock) p c) (fun n m p c hnm hp=>hg.M _ _ (by rw [hs n,hs m]) (fun _ _ _ _ _ hp=>Kd.upto_M_le hm hs hnm hp) _ _ _ _ _ hp) (hr.imp_ (fun _ _ hp=>hb hp))
 refine ⟨N,h0,inner,?_,?_⟩
 ·rw [hz N];exact ho
 ·rw [hz N];exact hN
theorem nest_C_back (hm:Kd.Mono F) (hg:Kd.Mono G) (hb:∀ {w:World} {x:β} {cs:List Value},(G (Kd.fix F sz E hs hE)).K w x cs→∃ n,(G (Kd.upto F sz E n)).K w x cs)
  {w:World} {A:Option Addr} {m:Nat} {xs:List β} (h:(G (Kd.fix F sz E hs hE)).C w A m xs):∃ n,(G (Kd.upto F sz E n)).C w A m xs:=by
 have hz:∀ n,(G (Kd.upto F sz E n)).sz=(G (Kd.fix F sz E hs hE)).sz:=fun n=>hg.sz _ _ (hs n)
 rcases Nat.eq_zero_or_pos m with h0|hpos
 ·subst h0
  exact ⟨0,h.1,h.2.1,fun hp=>absurd hp (Nat.lt_irrefl 0)⟩
 ·obtain ⟨ad,e,hc⟩:=h.2.2 hpos
  obtain ⟨N,hN⟩:=Kd.bounded (P:=fun n j=>∀ p,xs[j]?=some p→∃ c,c.length=(G (Kd.fix F sz E hs hE)).sz∧(G (Kd.upto F sz E n)).K w p c∧∀ i u,c[i]?=some u→w.cell? (ad.add (j * (G (Kd.fix F sz E hs hE)).sz + i))=some u)
   (fun n n' j hnm hp p hj=>by
    obtain ⟨c,h1,h2,h3⟩:=hp p hj
    exact ⟨c,h1,hg.K _ _ (by rw [hs n,hs n']) (fun _ _ _ hp=>Kd.upto_K_le hm hs hnm hp) _ _ _ h2,h3⟩) xs.length
   (fun j hj=>by
    obtain ⟨c,h1,h2,h3⟩:=hc j _ (List.getElem?_eq_getElem hj);obtain ⟨n,h2⟩:=hb h2
    refine ⟨n,fun p hp=>?_⟩
    rw [List.getElem?_eq_getElem hj] at hp
    injection hp with hp
    rw [← hp]
    exact ⟨c,h1,h2,h3⟩)
  refine ⟨N,h.1,h.2.1,fun _=>⟨ad,e,fun j p hj=>?_⟩⟩
  rw [hz N]
  exact hN j (List.getElem?_eq_some_iff.1 hj).1 p hj
end
/-! #### struct type 27, nested in itself -/
structure P33 (α:Type) where
 f0:α
 f1:α
structure S27 where
 f0:Int
 f1:Int
 f2:ByteArray
 f3:(List S27)
 f4:(List (P33 S27))
abbrev S33:=P33 S27
def z27:S27:=⟨(0:Int),(0:Int),(⟨#[]⟩:ByteArray),([]:List S27),([]:List S33)⟩
def G33 (d:Kd S27):Kd S33:=Kd.iso (Kd.pair d d) (fun x:S33=>(x.f0,x.f1))
theorem monoG33:Kd.Mono G33:=Kd.mono_iso _ (Kd.mono_pair Kd.mono_id Kd.mono_id)
theorem subG33 {E:List Nat} : Kd.Sub G33 E:=Kd.sub_iso _ (Kd.sub_pair Kd.sub_id Kd.sub_id)
def F27 (d:Kd S27):Kd S27:=Kd.iso (Kd.pair (Kd.int .i64) (Kd.pair (Kd.int .i64) (Kd.pair Kd.string (Kd.pair (Kd.slice 27 d) (Kd.slice 33 (G33 d)))))) (fun x:S27=>(x.f0,x.f1,x.f2,x.f3,x.f4))
theorem mono27:Kd.Mono F27:=Kd.mono_iso _ (Kd.mono_pair (Kd.mono_const _) (Kd.mono_pair (Kd.mono_const _) (Kd.mono_pair (Kd.mono_const _) (Kd.mono_pair (Kd.mono_slice 27 Kd.mono_id) (Kd.mono_slice 33 monoG33)))))
theorem sub27:Kd.Sub F27 [27,33]:=Kd.sub_iso _ (Kd.sub_pair (Kd.sub_const _ (by decide)) (Kd.sub_pair (Kd.sub_const _ (by decide)) (Kd.sub_pair (Kd.sub_const _ (by decide)) (Kd.sub_pair (Kd.sub_slice 27 (by decide) Kd.sub_id) (Kd.sub_slice 33 (by decide) subG33)))))
theorem sz27:∀ n,(Kd.upto F27 5 [27,33] n).sz=5:=Kd.upto_sz (fun _=>rfl)
def k27:Kd S27:=Kd.fix F27 5 [27,33] sz27 (Kd.upto_E sub27)
def k33:Kd S33:=G33 k27
theorem hbK33 {w:World} {x:S33} {cs:List Value} (h:(G33 k27).K w x cs):∃ n,(G33 (Kd.upto F27 5 [27,33] n)).K w x cs:=by
 obtain ⟨c0,c1,rfl,⟨n0,h0⟩,⟨n1,h1⟩⟩:=h
 exact ⟨max n0 n1,c0,c1,rfl,Kd.upto_K_le mono27 sz27 (Nat.le_max_left _ _) h0,Kd.upto_K_le mono27 sz27 (Nat.le_max_right _ _) h1⟩
theorem hbM33 {w:World} {base:Nat} {ok:Nat→Prop} {x:S33} {cs:List Value} (h:(G33 k27).M w base ok x cs):∃ n,(G33 (Kd.upto F27 5 [27,33] n)).M w base ok x cs:=by
 obtain ⟨c0,c1,rfl,⟨n0,h0⟩,⟨n1,h1⟩⟩:=h
 exact ⟨max n0 n1,c0,c1,rfl,Kd.upto_M_le mono27 sz27 (Nat.le_max_left _ _) h0,Kd.upto_M_le mono27 sz27 (Nat.le_max_right _ _) h1⟩
theorem k27_heap:Kd.Heap k27:=Kd.heap_fix (fun _ h_=>Kd.heap_iso _ (Kd.heap_pair (Kd.heap_int .i64) (Kd.heap_pair (Kd.heap_int .i64) (Kd.heap_pair Kd.heap_string (Kd.heap_pair (Kd.heap_slice 27 h_) (Kd.heap_slice 33 (Kd.heap_iso _ (Kd.heap_pair h_ h_))))))))
theorem k27_open {w:World} {x:S27} {cs:List Value} (h:k27.K w x cs):∃ A3 c3 A4 c4,cs=[.int .i64 x.f0,.int .i64 x.f1,.string x.f2,.slice A3 x.f3.length c3,.slice A4 x.f4.length c4]∧x.f3.length≤c3∧k27.C w A3 x.f3.length x.f3∧x.f4.length≤c4∧k33.C w A4 x.f4.length x.f4:=by
 obtain ⟨n,h⟩:=h
 cases n with
 | zero=>exact h.elim
 | succ n =>
  obtain ⟨_,_,rfl,rfl,⟨_,_,rfl,rfl,⟨_,_,rfl,rfl,⟨_,_,rfl,⟨A3,c3,rfl,l3,g3⟩,⟨A4,c4,rfl,l4,g4⟩⟩⟩⟩⟩:=h
  exact ⟨A3,c3,A4,c4,rfl,l3,Kd.fix_C g3,l4,nest_C monoG33 g4⟩
theorem k27_openM {w:World} {base:Nat} {ok:Nat→Prop} {x:S27} {cs:List Value} (h:k27.M w base ok x cs):∃ v3 v4,cs=[.int .i64 x.f0,.int .i64 x.f1,.string x.f2,v3,v4]∧k27.R 27 w base ok v3 x.f3∧k33.R 33 w base ok v4 x.f4:=by
 obtain ⟨n,h⟩:=h
 cases n with
 | zero=>exact h.elim
 | succ n =>
  obtain ⟨_,_,rfl,rfl,⟨_,_,rfl,rfl,⟨_,_,rfl,rfl,⟨_,_,rfl,⟨v3,rfl,g3⟩,⟨v4,rfl,g4⟩⟩⟩⟩⟩:=h
  exact ⟨v3,v4,rfl,Kd.fix_R g3,nest_R monoG33 g4⟩
theorem k27_mk (w:World) (x:S27) {A3:Option Addr} {c3:Nat} (l3:x.f3.length≤c3) (g3:k27.C w A3 x.f3.length x.f3) {A4:Option Addr} {c4:Nat} (l4:x.f4.length≤c4) (g4:k33.C w A4 x.f4.length x.f4):k27.K w x [.int .i64 x.f0,.int .i64 x.f1,.string x.f2,.slice A3 x.f3.length c3,.slice A4 x.f4.length c4]:=by
 obtain ⟨n3,q3⟩:=Kd.fix_C_back mono27 g3;obtain ⟨n4,q4⟩:=nest_C_back mono27 monoG33 hbK33 g4;have r3:=Kd.upto_C_le mono27 sz27 (show n3≤(max n3 n4) by omega) q3;have r4:=nest_C_le mono27 sz27 monoG33 (show n4≤(max n3 n4) by omega) q4
 exact ⟨(max n3 n4) + 1,⟨[.int .i64 x.f0],[.int .i64 x.f1,.string x.f2,.slice A3 x.f3.length c3,.slice A4 x.f4.length c4],rfl,rfl,⟨[.int .i64 x.f1],[.string x.f2,.slice A3 x.f3.length c3,.slice A4 x.f4.length c4],rfl,rfl,⟨[.string x.f2],[.slice A3 x.f3.length c3,.slice A4 x.f4.length c4],rfl,rfl,⟨[.slice A3 x.f3.length c3],[.slice A4 x.f4.length c4],rfl,⟨A3,c3,rfl,l3,r3⟩,⟨A4,c4,rfl,l4,r4⟩⟩⟩⟩⟩⟩
theorem k27_mkM (w:World) (base:Nat) (ok:Nat→Prop) (x:S27) {v3:Value} (g3:k27.R 27 w base ok v3 x.f3) {v4:Value} (g4:k33.R 33 w base ok v4 x.f4):k27.M w base ok x [.int .i64 x.f0,.int .i64 x.f1,.string x.f2,v3,v4]:=by
 obtain ⟨n3,q3⟩:=Kd.fix_R_back mono27 g3;obtain ⟨n4,q4⟩:=nest_R_back mono27 monoG33 hbM33 g4;have r3:=Kd.upto_R_le mono27 sz27 (show n3≤(max n3 n4) by omega) q3;have r4:=nest_R_le mono27 sz27 monoG33 (show n4≤(max n3 n4) by omega) q4
 exact ⟨(max n3 n4) + 1,⟨[.int .i64 x.f0],[.int .i64 x.f1,.string x.f2,v3,v4],rfl,rfl,⟨[.int .i64 x.f1],[.string x.f2,v3,v4],rfl,rfl,⟨[.string x.f2],[v3,v4],rfl,rfl,⟨[v3],[v4],rfl,⟨v3,rfl,r3⟩,⟨v4,rfl,r4⟩⟩⟩⟩⟩⟩
theorem k27_openF {W:World} {ok:Nat→Prop} {x:S27} {cs:List Value} (h:Kd.FK k27 W ok x cs):∃ A3 c3 A4 c4,cs=[.int .i64 x.f0,.int .i64 x.f1,.string x.f2,.slice A3 x.f3.length c3,.slice A4 x.f4.length c4]∧x.f3.length≤c3∧Kd.F k27 W ok A3 x.f3.length x.f3∧x.f4.length≤c4∧Kd.F k33 W ok A4 x.f4.length x.f4:=by
 obtain ⟨A3,c3,A4,c4,rfl,l3,_,l4,_⟩:=k27_open (Kd.FK_now h)
 exact ⟨A3,c3,A4,c4,rfl,l3,(fun W' hW=>by obtain ⟨A3_,c3_,A4_,c4_,he,l3_,g3_,l4_,g4_⟩:=k27_open (h W' hW);injection (Option.some.inj (show some (Value.slice A3 x.f3.length c3)=some (Value.slice A3_ x.f3.length c3_) from congrArg (fun l=>l[3]?) he)) with ha_ _ _;rw [ha_];exact g3_),l4,(fun W' hW=>by obtain ⟨A3_,c3_,A4_,c4_,he,l3_,g3_,l4_,g4_⟩:=k27_open (h W' hW);injection (Option.some.inj (show some (Value.slice A4 x.f4.length c4)=some (Value.slice A4_ x.f4.length c4_) from congrArg (fun l=>l[4]?) he)) with ha_ _ _;rw [ha_];exact g4_)⟩
theorem k27_mkF (W:World) (ok:Nat→Prop) (x:S27) {A3:Option Addr} {c3:Nat} (l3:x.f3.length≤c3) (g3:Kd.F k27 W ok A3 x.f3.length x.f3) {A4:Option Addr} {c4:Nat} (l4:x.f4.length≤c4) (g4:Kd.F k33 W ok A4 x.f4.length x.f4):Kd.FK k27 W ok x [.int .i64 x.f0,.int .i64 x.f1,.string x.f2,.slice A3 x.f3.length c3,.slice A4 x.f4.length c4]:=fun W2 hW=>k27_mk W2 x l3 (g3 W2 hW) l4 (g4 W2 hW)
def rd_T27 (xs:List S27) (i:Int):S27:=xs.getD i.toNat z27
theorem at_T27 {w:World} {A:Option Addr} {n:Nat} {xs:List S27} (h:Kd.C k27 w A n xs) (i:Int) (h0:0≤i) (h1:i < n):∃ ad A3 c3 A4 c4,A=some ad∧w.cell? (ad.add (i.toNat * 5))=some (.int .i64 (rd_T27 xs i).f0)∧w.cell? ⟨(ad.add (i.toNat * 5)).block,(ad.add (i.toNat * 5)).off + 1,none⟩=some (.int .i64 (rd_T27 xs i).f1)∧w.cell? ⟨(ad.add (i.toNat * 5)).block,(ad.add (i.toNat * 5)).off + 2,none⟩=some (.string (rd_T27 xs i).f2)∧w.cell? ⟨(ad.add (i.toNat * 5)).block,(ad.add (i.toNat * 5)).off + 3,none⟩=some (.slice A3 (rd_T27 xs i).f3.length c3)∧w.cell? ⟨(ad.add (i.toNat * 5)).block,(ad.add (i.toNat * 5)).off + 4,none⟩=some (.slice A4 (rd_T27 xs i).f4.length c4)∧(rd_T27 xs i).f3.length≤c3∧k27.C w A3 (rd_T27 xs i).f3.length (rd_T27 xs i).f3∧(rd_T27 xs i).f4.length≤c4∧k33.C w A4 (rd_T27 xs i).f4.length (rd_T27 xs i).f4:=by
 obtain ⟨ad,c,e,_,hK,hc0⟩:=Kd.C_get h z27 i h0 h1;have hc:∀ j u,c[j]?=some u→w.cell? (ad.add (i.toNat * 5 + j))=some u:=hc0;obtain ⟨A3,c3,A4,c4,rfl,l3,g3,l4,g4⟩:=k27_open hK
 exact ⟨ad,A3,c3,A4,c4,e,hc 0 _ rfl,by rw [← add_field _ _ 1 (by omega)];exact hc 1 _ rfl,by rw [← add_field _ _ 2 (by omega)];exact hc 2 _ rfl,by rw [← add_field _ _ 3 (by omega)];exact hc 3 _ rfl,by rw [← add_field _ _ 4 (by omega)];exact hc 4 _ rfl,l3,g3,l4,g4⟩
/-! #### struct type 33 -/
def z33:S33:=⟨z27,z27⟩
theorem k33_heap:Kd.Heap k33:=Kd.heap_iso _ (Kd.heap_pair k27_heap k27_heap)
theorem k33_open {w:World} {x:S33} {cs:List Value} (h:k33.K w x cs):∃ A3 c3 A4 c4 A8 c8 A9 c9,cs=[.int .i64 x.f0.f0,.int .i64 x.f0.f1,.string x.f0.f2,.slice A3 x.f0.f3.length c3,.slice A4 x.f0.f4.length c4,.int .i64 x.f1.f0,.int .i64 x.f1.f1,.string x.f1.f2,.slice A8 x.f1.f3.length c8,.slice A9 x.f1.f4.length c9]∧x.f0.f3.length≤c3∧k27.C w A3 x.f0.f3.length x.f0.f3∧x.f0.f4.length≤c4∧k33.C w A4 x.f0.f4.length x.f0.f4∧x.f1.f3.length≤c8∧k27.C w A8 x.f1.f3.length x.f1.f3∧x.f1.f4.length≤c9∧k33.C w A9 x.f1.f4.length x.f1.f4:=by
 obtain ⟨_,_,rfl,s0,s5⟩:=h;obtain ⟨A3,c3,A4,c4,rfl,l3,g3,l4,g4⟩:=k27_open s0;obtain ⟨A8,c8,A9,c9,rfl,l8,g8,l9,g9⟩:=k27_open s5
 exact ⟨A3,c3,A4,c4,A8,c8,A9,c9,rfl,l3,g3,l4,g4,l8,g8,l9,g9⟩
theorem k33_openM {w:World} {base:Nat} {ok:Nat→Prop} {x:S33} {cs:List Value} (h:k33.M w base ok x cs):∃ v3 v4 v8 v9,cs=[.int .i64 x.f0.f0,.int .i64 x.f0.f1,.string x.f0.f2,v3,v4,.int .i64 x.f1.f0,.int .i64 x.f1.f1,.string x.f1.f2,v8,v9]∧k27.R 27 w base ok v3 x.f0.f3∧k33.R 33 w base ok v4 x.f0.f4∧k27.R 27 w base ok v8 x.f1.f3∧k33.R 33 w base ok v9 x.f1.f4:=by
 obtain ⟨_,_,rfl,s0,s5⟩:=h;obtain ⟨v3,v4,rfl,g3,g4⟩:=k27_openM s0;obtain ⟨v8,v9,rfl,g8,g9⟩:=k27_openM s5
 exact ⟨v3,v4,v8,v9,rfl,g3,g4,g8,g9⟩
theorem k33_mk (w:World) (x:S33) {A3:Option Addr} {c3:Nat} (l3:x.f0.f3.length≤c3) (g3:k27.C w A3 x.f0.f3.length x.f0.f3) {A4:Option Addr} {c4:Nat} (l4:x.f0.f4.length≤c4) (g4:k33.C w A4 x.f0.f4.length x.f0.f4) {A8:Option Addr} {c8:Nat} (l8:x.f1.f3.length≤c8) (g8:k27.C w A8 x.f1.f3.length x.f1.f3) {A9:Option Addr} {c9:Nat} (l9:x.f1.f4.length≤c9) (g9:k33.C w A9 x.f1.f4.length x.f1.f4):k33.K w x [.int .i64 x.f0.f0,.int .i64 x.f0.f1,.string x.f0.f2,.slice A3 x.f0.f3.length c3,.slice A4 x.f0.f4.length c4,.int .i64 x.f1.f0,.int .i64 x.f1.f1,.string x.f1.f2,.slice A8 x.f1.f3.length c8,.slice A9 x.f1.f4.length c9]:=⟨[.int .i64 x.f0.f0,.int .i64 x.f0.f1,.string x.f0.f2,.slice A3 x.f0.f3.length c3,.slice A4 x.f0.f4.length c4],[.int .i64 x.f1.f0,.int .i64 x.f1.f1,.string x.f1.f2,.slice A8 x.f1.f3.length c8,.slice A9 x.f1.f4.length c9],rfl,(k27_mk w x.f0 l3 g3 l4 g4),(k27_mk w x.f1 l8 g8 l9 g9)⟩
theorem k33_mkM (w:World) (base:Nat) (ok:Nat→Prop) (x:S33) {v3:Value} (g3:k27.R 27 w base ok v3 x.f0.f3) {v4:Value} (g4:k33.R 33 w base ok v4 x.f0.f4) {v8:Value} (g8:k27.R 27 w base ok v8 x.f1.f3) {v9:Value} (g9:k33.R 33 w base ok v9 x.f1.f4):k33.M w base ok x [.int .i64 x.f0.f0,.int .i64 x.f0.f1,.string x.f0.f2,v3,v4,.int .i64 x.f1.f0,.int .i64 x.f1.f1,.string x.f1.f2,v8,v9]:=⟨[.int .i64 x.f0.f0,.int .i64 x.f0.f1,.string x.f0.f2,v3,v4],[.int .i64 x.f1.f0,.int .i64 x.f1.f1,.string x.f1.f2,v8,v9],rfl,(k27_mkM w base ok x.f0 g3 g4),(k27_mkM w base ok x.f1 g8 g9)⟩
theorem k33_openF {W:World} {ok:Nat→Prop} {x:S33} {cs:List Value} (h:Kd.FK k33 W ok x cs):∃ A3 c3 A4 c4 A8 c8 A9 c9,cs=[.int .i64 x.f0.f0,.int .i64 x.f0.f1,.string x.f0.f2,.slice A3 x.f0.f3.length c3,.slice A4 x.f0.f4.length c4,.int .i64 x.f1.f0,.int .i64 x.f1.f1,.string x.f1.f2,.slice A8 x.f1.f3.length c8,.slice A9 x.f1.f4.length c9]∧x.f0.f3.length≤c3∧Kd.F k27 W ok A3 x.f0.f3.length x.f0.f3∧x.f0.f4.length≤c4∧Kd.F k33 W ok A4 x.f0.f4.length x.f0.f4∧x.f1.f3.length≤c8∧Kd.F k27 W ok A8 x.f1.f3.length x.f1.f3∧x.f1.f4.length≤c9∧Kd.F k33 W ok A9 x.f1.f4.length x.f1.f4:=by
 obtain ⟨A3,c3,A4,c4,A8,c8,A9,c9,rfl,l3,_,l4,_,l8,_,l9,_⟩:=k33_open (Kd.FK_now h)
 exact ⟨A3,c3,A4,c4,A8,c8,A9,c9,rfl,l3,(fun W' hW=>by obtain ⟨A3_,c3_,A4_,c4_,A8_,c8_,A9_,c9_,he,l3_,g3_,l4_,g4_,l8_,g8_,l9_,g9_⟩:=k33_open (h W' hW);injection (Option.some.inj (show some (Value.slice A3 x.f0.f3.length c3)=some (Value.slice A3_ x.f0.f3.length c3_) from congrArg (fun l=>l[3]?) he)) with ha_ _ _;rw [ha_];exact g3_),l4,(fun W' hW=>by obtain ⟨A3_,c3_,A4_,c4_,A8_,c8_,A9_,c9_,he,l3_,g3_,l4_,g4_,l8_,g8_,l9_,g9_⟩:=k33_open (h W' hW);injection (Option.some.inj (show some (Value.slice A4 x.f0.f4.length c4)=some (Value.slice A4_ x.f0.f4.length c4_) from congrArg (fun l=>l[4]?) he)) with ha_ _ _;rw [ha_];exact g4_),l8,(fun W' hW=>by obtain ⟨A3_,c3_,A4_,c4_,A8_,c8_,A9_,c9_,he,l3_,g3_,l4_,g4_,l8_,g8_,l9_,g9_⟩:=k33_open (h W' hW);injection (Option.some.inj (show some (Value.slice A8 x.f1.f3.length c8)=some (Value.slice A8_ x.f1.f3.length c8_) from congrArg (fun l=>l[8]?) he)) with ha_ _ _;rw [ha_];exact g8_),l9,(fun W' hW=>by obtain ⟨A3_,c3_,A4_,c4_,A8_,c8_,A9_,c9_,he,l3_,g3_,l4_,g4_,l8_,g8_,l9_,g9_⟩:=k33_open (h W' hW);injection (Option.some.inj (show some (Value.slice A9 x.f1.f4.length c9)=some (Value.slice A9_ x.f1.f4.length c9_) from congrArg (fun l=>l[9]?) he)) with ha_ _ _;rw [ha_];exact g9_)⟩
theorem k33_mkF (W:World) (ok:Nat→Prop) (x:S33) {A3:Option Addr} {c3:Nat} (l3:x.f0.f3.length≤c3) (g3:Kd.F k27 W ok A3 x.f0.f3.length x.f0.f3) {A4:Option Addr} {c4:Nat} (l4:x.f0.f4.length≤c4) (g4:Kd.F k33 W ok A4 x.f0.f4.length x.f0.f4) {A8:Option Addr} {c8:Nat} (l8:x.f1.f3.length≤c8) (g8:Kd.F k27 W ok A8 x.f1.f3.length x.f1.f3) {A9:Option Addr} {c9:Nat} (l9:x.f1.f4.length≤c9) (g9:Kd.F k33 W ok A9 x.f1.f4.length x.f1.f4):Kd.FK k33 W ok x [.int .i64 x.f0.f0,.int .i64 x.f0.f1,.string x.f0.f2,.slice A3 x.f0.f3.length c3,.slice A4 x.f0.f4.length c4,.int .i64 x.f1.f0,.int .i64 x.f1.f1,.string x.f1.f2,.slice A8 x.f1.f3.length c8,.slice A9 x.f1.f4.length c9]:=fun W2 hW=>k33_mk W2 x l3 (g3 W2 hW) l4 (g4 W2 hW) l8 (g8 W2 hW) l9 (g9 W2 hW)
def rd_T33 (xs:List S33) (i:Int):S33:=xs.getD i.toNat z33
theorem at_T33 {w:World} {A:Option Addr} {n:Nat} {xs:List S33} (h:Kd.C k33 w A n xs) (i:Int) (h0:0≤i) (h1:i < n):∃ ad A3 c3 A4 c4 A8 c8 A9 c9,A=some ad∧w.cell? (ad.add (i.toNat * 10))=some (.int .i64 (rd_T33 xs i).f0.f0)∧w.cell? ⟨(ad.add (i.toNat * 10)).block,(ad.add (i.toNat * 10)).off + 1,none⟩=some (.int .i64 (rd_T33 xs i).f0.f1)∧w.cell? ⟨(ad.add (i.toNat * 10)).block,(ad.add (i.toNat * 10)).off + 2,none⟩=some (.string (rd_T33 xs i).f0.f2)∧w.cell? ⟨(ad.add (i.toNat * 10)).block,(ad.add (i.toNat * 10)).off + 3,none⟩=some (.slice A3 (rd_T33 xs i).f0.f3.length c3)∧w.cell? ⟨(ad.add (i.toNat * 10)).block,(ad.add (i.toNat * 10)).off + 4,none⟩=some (.slice A4 (rd_T33 xs i).f0.f4.length c4)∧w.cell? ⟨(ad.add (i.toNat * 10)).block,(ad.add (i.toNat * 10)).off + 5,none⟩=some (.int .i64 (rd_T33 xs i).f1.f0)∧w.cell? ⟨(ad.add (i.toNat * 10)).block,(ad.add (i.toNat * 10)).off + 6,none⟩=some (.int .i64 (rd_T33 xs i).f1.f1)∧w.cell? ⟨(ad.add (i.toNat * 10)).block,(ad.add (i.toNat * 10)).off + 7,none⟩=some (.string (rd_T33 xs i).f1.f2)∧w.cell? ⟨(ad.add (i.toNat * 10)).block,(ad.add (i.toNat * 10)).off + 8,none⟩=some (.slice A8 (rd_T33 xs i).f1.f3.length c8)∧w.cell? ⟨(ad.add (i.toNat * 10)).block,(ad.add (i.toNat * 10)).off + 9,none⟩=some (.slice A9 (rd_T33 xs i).f1.f4.length c9)∧(rd_T33 xs i).f0.f3.length≤c3∧k27.C w A3 (rd_T33 xs i).f0.f3.length (rd_T33 xs i).f0.f3∧(rd_T33 xs i).f0.f4.length≤c4∧k33.C w A4 (rd_T33 xs i).f0.f4.length (rd_T33 xs i).f0.f4∧(rd_T33 xs i).f1.f3.length≤c8∧k27.C w A8 (rd_T33 xs i).f1.f3.length (rd_T33 xs i).f1.f3∧(rd_T33 xs i).f1.f4.length≤c9∧k33.C w A9 (rd_T33 xs i).f1.f4.length (rd_T33 xs i).f1.f4:=by
 obtain ⟨ad,c,e,_,hK,hc0⟩:=Kd.C_get h z33 i h0 h1;have hc:∀ j u,c[j]?=some u→w.cell? (ad.add (i.toNat * 10 + j))=some u:=hc0;obtain ⟨A3,c3,A4,c4,A8,c8,A9,c9,rfl,l3,g3,l4,g4,l8,g8,l9,g9⟩:=k33_open hK
 exact ⟨ad,A3,c3,A4,c4,A8,c8,A9,c9,e,hc 0 _ rfl,by rw [← add_field _ _ 1 (by omega)];exact hc 1 _ rfl,by rw [← add_field _ _ 2 (by omega)];exact hc 2 _ rfl,by rw [← add_field _ _ 3 (by omega)];exact hc 3 _ rfl,by rw [← add_field _ _ 4 (by omega)];exact hc 4 _ rfl,by rw [← add_field _ _ 5 (by omega)];exact hc 5 _ rfl,by rw [← add_field _ _ 6 (by omega)];exact hc 6 _ rfl,by rw [← add_field _ _ 7 (by omega)];exact hc 7 _ rfl,by rw [← add_field _ _ 8 (by omega)];exact hc 8 _ rfl,by rw [← add_field _ _ 9 (by omega)];exact hc 9 _ rfl,l3,g3,l4,g4,l8,g8,l9,g9⟩
theorem isEmpty_ne (l:List UInt8):(!l.isEmpty)=(l != []):=by cases l <;> rfl
theorem isEmpty_be (l:List UInt8):l.isEmpty=(l == []):=by cases l <;> rfl
/-! ### a shared row's block is none of the row's that grows -/
theorem V_away {α:Type} {d:Kd α} {e base n c:Nat} {ok:Nat→Prop} {W w1:World} {ad:Addr} {v:Value} {xs:List α} (h:Kd.V d e W base (fun k=>ok k∧some k≠v.ownBlock) (.slice (some ad) n c) xs) (_:W.grownBy w1 v.ownBlock) (i:Int) (h0:0≤i) (h1:i < n) (hs:0 < d.sz):some ad.block≠v.ownBlock:=by
 by_cases hx:∃ z:α,True
 ·obtain ⟨z,_⟩:=hx
  obtain ⟨ad',cs,he,_,_,_,hok⟩:=Kd.F_get (Kd.V_F h) z i h0 h1
  injection he with he
  subst he
  exact (hok hs).2
 ·exfalso
  have hl:=(Kd.V_at h).1
  cases xs with
  | nil=>simp at hl;omega
  | cons z r=>exact hx ⟨z,trivial⟩
theorem kk {w W W':World} {g:Nat} {row:Option Nat} (h:KeepBut w W g row) (k:KeepBut w W g row→KeepBut w W' g row:=by intro h_;repeat (first|(with_reducible first|exact h_|apply KeepBut.set_|apply keep_drewN|apply keep_drew|apply keep_alloc|refine keep_far ?_ (Aside0.out (by assumption)) _)|exact h_)):KeepBut w W' g row:=k h
theorem kp {w W W':World} {S:Nat→Prop} (h:Kept w W S) (k:Kept w W S→Kept w W' S:=by intro h_;repeat (first|(with_reducible first|exact h_|apply Kept.alloc|apply Kept.drewN|apply Kept.drew|refine Kept.setCell ?_ (.inl (.inr rfl)) _|refine Kept.setCell ?_ (Or.inl (Aside0.out (by assumption))) _|refine Kept.setCell ?_ (.inr (Aside0.out (by assumption))) _)|exact h_)):Kept w W' S:=k h
theorem ks {w W W':World} {g:Nat} (h:Aside0 (KeepBut w W g none)) (k:KeepBut w W g none→KeepBut w W' g none:=by intro h_;repeat (first|(with_reducible first|exact h_|apply KeepBut.set_|apply keep_drewN|apply keep_drew|apply keep_alloc|refine keep_far ?_ (Aside0.out (by assumption)) _)|exact h_)):w.heap.size≤W'.heap.size:=keep_size (k h.out)
theorem gw {w W W':World} {g g':Nat} (hg:g'=W'.heap.size) (h:Aside0 (KeepBut w W g none)) (k:KeepBut w W g none→KeepBut w W' g none:=by intro h_;repeat (first|(with_reducible first|exact h_|apply KeepBut.set_|apply keep_drewN|apply keep_drew|apply keep_alloc|refine keep_far ?_ (Aside0.out (by assumption)) _)|exact h_)):w.heap.size≤g':=hg ▸ keep_size (k h.out)
theorem kt {w W W' W2:World} {g:Nat} (h:Aside0 (KeepBut w W g none)) (hb:Below W'.heap.size W' W2) (k:KeepBut w W g none→KeepBut w W' g none:=by intro h_;repeat (first|(with_reducible first|exact h_|apply KeepBut.set_|apply keep_drewN|apply keep_drew|apply keep_alloc|refine keep_far ?_ (Aside0.out (by assumption)) _)|exact h_)):Aside0 (KeepBut w W2 g none):=⟨KeepBut.trans (k h.out) (KeepBut.of_below hb g none) (.inl rfl)⟩
theorem fb {W W':World} {g:Nat} {o:Obj} (h:Aside0 (W.heap[g]?=some o)) (i:Nat) (hi:W'.heap.size≤i) (k:W.heap[g]?=some o→W'.heap[g]?=some o:=by intro h_;(with_reducible repeat (first|refine blk_drewN ?_ _|refine blk_drew ?_|refine blk_alloc ?_ _));exact h_):i≠g:=Kd.freshB (k h.out) i hi
theorem kq {W W' W2:World} {g g':Nat} {o:Obj} (hk:KeepBut W' W2 g none) (h:Aside0 (W.heap[g']?=some o)) (hn:Aside0 (g'≠g)) (k:W.heap[g']?=some o→W'.heap[g']?=some o:=by intro h_;(with_reducible repeat (first|refine blk_drewN ?_ _|refine blk_drew ?_|refine blk_alloc ?_ _));exact h_):W2.heap[g']?=some o:=KeepBut.blk hk (k h.out) hn.out (by simp)
theorem d0 {w W:World} (h:Drawn0 w W:=by repeat (first|exact Drawn0.refl _|apply Drawn0.step)):Drawn0 w W:=h
theorem nt {α:Type} {a b r:α} (H:(if false=true then a else b)=r):b=r:=by rw [if_neg (show ¬ (false=true) by decide)] at H;exact H
theorem hw {α:Type} {x y:α} {p q:Prop} (e:x=y) (h:p) (k:x=y→p→q:=by intro e_ H;first|(rw [e_];with_reducible exact H)|(have H2_:=(Option.bind_some _ _).symm.trans H;rw [e_];with_reducible exact H2_)|(have H2_:=(Option.bind_some _ _).symm.trans H;with_reducible exact H2_)|with_reducible exact H|(rw [e_];exact H)|exact H):q:=k e h
theorem aj {p q:Prop} (a:p) (b:q):Aside0 p∧q:=⟨⟨a⟩,b⟩
theorem bs {α β:Type} {x:Option α} {f:α→Option β} {b:β} (h:x.bind f=some b):∃ a,x=some a∧f a=some b:=Option.bind_eq_some_iff.mp h
theorem pt {α:Type} {a b r:α} (H:(if true=true then a else b)=r):a=r:=by rw [if_pos rfl] at H;exact H
theorem sj {a b:Option Addr} {n m c d:Nat} (h:Value.slice a n c=Value.slice b m d):b=a∧d=c:=by injection h with h1 h2 h3;exact ⟨h1.symm,h3.symm⟩
theorem oe {a c:Prop} {n k:Nat} (h:a∨n≤k) (h1:a∨c→False) (h2:k < n):False:=h.elim (fun x=>h1 (.inl x)) (fun x=>Nat.not_le.2 h2 x)
end Go.Proofs.Ytgcmmdfgfiflcaa.QFnFree
