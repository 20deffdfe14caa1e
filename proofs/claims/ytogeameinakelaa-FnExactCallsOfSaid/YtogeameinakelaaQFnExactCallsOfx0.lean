-- Written by a program of this workplace (print2.py) for this claim, over the print's words.
import Derived.Test.YtogeameinakelaaProg
import Derived.Below
import Derived.Deep.Draws
import Derived.Deep.AppendLies
import Derived.Maps.AppendAt
import Derived.OwnWalk
import Derived.Laws.BytesArg
import Derived.Laws.MakeOwn
import Derived.Laws.OwnMore
import Derived.Deep.OwnRows
import Derived.Tactics
import Derived.Lib.ConvBytes
import Derived.Laws.Slices
import Derived.WalkKit
import Derived.KernelRfl
import Derived.RowKit3
import Derived.Deep.LoopGhost
import Derived.Deep.QuietTactic
import Derived.BigQuiet
import Derived.WideLaws
import Derived.Deep.DeepCutAuto
import Derived.Deep.CutBlock
import Derived.Deep.RegionHeld3
import Derived.Laws.Rows
import Derived.Lib.AppendStr
import Derived.ArgAppend
import Derived.Laws.IdiomCopy
import Derived.OrdersHeld
import Derived.Laws.BitsLemmas
import Derived.RowKit
import Derived.Lib.SliceRun
import Derived.Test.YtogeameinakelaaSFnExactCallsOfWords
import Derived.Test.YtogeameinakelaaSFnExactCallsOfLast
import Derived.Test.YtogeameinakelaaSFnExactCallsOfTab
import Derived.Test.YtogeameinakelaaSFnExactCallsOfApart
import Derived.Test.YtogeameinakelaaSFnExactCallsOfArr
import Derived.Test.YtogeameinakelaaSFnExactCallsOfFoot
import Derived.Test.YtogeameinakelaaSFnExactCallsOfKept
import Derived.Test.YtogeameinakelaaSFnExactCallsOfShare
import Derived.Test.YtogeameinakelaaSFnExactCallsOfN
import Derived.Laws.StructEq
import Derived.Test.YtogeameinakelaaSFnExactCallsOfRepsOne
import Derived.Test.YtogeameinakelaaSFnExactCallsOfInv
import Derived.Test.YtogeameinakelaaSFnExactCallsOfMore
namespace Go.Proofs.Ytogeameinakelaa.QFnExactCallsOf
open Go.RowKit Go.Proofs.YtogeameinakelaaW.PrintWords Go.Proofs.YtogeameinakelaaW.PrintLast Go.Proofs.YtogeameinakelaaW.PrintMore
attribute [local go_sem] max2_int min2_int max_two min_two max_three min_three max_four min_four   -- for this text's walks alone
set_option linter.unusedVariables false
set_option linter.unusedSimpArgs false
theorem bz {w W W':World} {g:Nat} (hg:g = W'.heap.size) (h:Aside0 (Below w.heap.size w W)) (k:Below w.heap.size w W → Below w.heap.size w W':=by intro h_;repeat (first|(with_reducible first|exact h_|apply below_alloc|apply pw_below_drewN|apply below_drew1|refine below_set ?_ (Aside0.out (by assumption)))|exact h_)):Aside0 (w.heap.size≤g):=⟨hg ▸ below_size (k h.out)⟩
theorem bq {w W W' w':World} (h:Aside0 (Below w.heap.size w W)) (hb:Below W'.heap.size W' w') (k:Below w.heap.size w W → Below w.heap.size w W':=by intro h_;repeat (first|(with_reducible first|exact h_|apply below_alloc|apply pw_below_drewN|apply below_drew1|refine below_set ?_ (Aside0.out (by assumption)))|exact h_)):Aside0 (Below w.heap.size w w'):=⟨below_step (k h.out) hb⟩
theorem bls {p q r:Prop} (e:r) (h:p) (k:r → p → q:=by intro e_ h_;repeat (first|(with_reducible first|exact h_|apply below_alloc|apply pw_below_drewN|apply below_drew1|refine below_set ?_ e_|refine below_set ?_ (Aside0.out (by assumption)))|exact h_)):q:=k e h
theorem bzs {w W W':World} {g:Nat} {r:Prop} (hg:g = W'.heap.size) (e:r) (h:Aside0 (Below w.heap.size w W)) (k:r → Below w.heap.size w W → Below w.heap.size w W':=by intro e_ h_;repeat (first|(with_reducible first|exact h_|apply below_alloc|apply pw_below_drewN|apply below_drew1|refine below_set ?_ e_|refine below_set ?_ (Aside0.out (by assumption)))|exact h_)):Aside0 (w.heap.size≤g):=⟨hg ▸ below_size (k e h.out)⟩
theorem bqs {w W W' w':World} {r:Prop} (e:r) (h:Aside0 (Below w.heap.size w W)) (hb:Below W'.heap.size W' w') (k:r → Below w.heap.size w W → Below w.heap.size w W':=by intro e_ h_;repeat (first|(with_reducible first|exact h_|apply below_alloc|apply pw_below_drewN|apply below_drew1|refine below_set ?_ e_|refine below_set ?_ (Aside0.out (by assumption)))|exact h_)):Aside0 (Below w.heap.size w w'):=⟨below_step (k e h.out) hb⟩
theorem bw {W W' w':World} {g:Nat} {o:Obj} (h:Aside0 (W.heap[g]? = some o)) (hb:Below W'.heap.size W' w') (k:W.heap[g]? = some o → W'.heap[g]? = some o:=by intro h_;(with_reducible repeat (first|refine blk_drewN ?_ _|refine blk_drew ?_|refine blk_alloc ?_ _));exact h_):Aside0 (w'.heap[g]? = some o):=⟨blk_below (k h.out) hb⟩
theorem dk {W:World} {g:Nat} {o:Obj} (h:Aside0 (W.heap[g]? = some o)):Aside0 (W.drew.heap[g]? = some o):=⟨blk_drew h.out⟩
theorem dh {b:Nat} {w W:World} (h:Aside0 (Below b w W)):Aside0 (Below b w W.drew):=⟨below_drew1 h.out⟩
theorem nl {W W':World} {g g':Nat} {o:Obj} (hg:g' = W'.heap.size) (h:Aside0 (W.heap[g]? = some o)) (k:W.heap[g]? = some o → W'.heap[g]? = some o:=by intro h_;(with_reducible repeat (first|refine blk_drewN ?_ _|refine blk_drew ?_|refine blk_alloc ?_ _));exact h_):Aside0 (g≠g'):=⟨hg ▸ Nat.ne_of_lt (blk_lt (k h.out))⟩
theorem ng {W W':World} {g g':Nat} {o:Obj} (hg:g' = W'.heap.size) (h:Aside0 (W.heap[g]? = some o)) (k:W.heap[g]? = some o → W'.heap[g]? = some o:=by intro h_;(with_reducible repeat (first|refine blk_drewN ?_ _|refine blk_drew ?_|refine blk_alloc ?_ _));exact h_):Aside0 (g'≠g):=⟨hg ▸ Nat.ne_of_gt (blk_lt (k h.out))⟩
theorem ai {p q:Prop} (a:p) (b:q):p∧q:=⟨a,b⟩
theorem kb2 {W:World} {g:Nat} {v0 v1:Value} {t:TypeId} (h:W.heap[g]? = some (.cells #[v0,v1] t (0,0))):W.cell? ⟨g,0,none⟩ = some v0∧W.cell? ⟨g,1,none⟩ = some v1:=⟨(blk_cell h 0).trans rfl,(blk_cell h 1).trans rfl⟩
theorem kz2 {W:World} {g:Nat} {v0 v1:Value} {t:TypeId} (h:W.heap[g]? = some (.cells #[v0,v1] t (0,0))):W.frozen? ⟨g,0,none⟩ = false∧W.frozen? ⟨g,1,none⟩ = false:=⟨blk_frozen h 0,blk_frozen h 1⟩
theorem kb3 {W:World} {g:Nat} {v0 v1 v2:Value} {t:TypeId} (h:W.heap[g]? = some (.cells #[v0,v1,v2] t (0,0))):W.cell? ⟨g,0,none⟩ = some v0∧W.cell? ⟨g,1,none⟩ = some v1∧W.cell? ⟨g,2,none⟩ = some v2:=⟨(blk_cell h 0).trans rfl,(blk_cell h 1).trans rfl,(blk_cell h 2).trans rfl⟩
theorem kz3 {W:World} {g:Nat} {v0 v1 v2:Value} {t:TypeId} (h:W.heap[g]? = some (.cells #[v0,v1,v2] t (0,0))):W.frozen? ⟨g,0,none⟩ = false∧W.frozen? ⟨g,1,none⟩ = false∧W.frozen? ⟨g,2,none⟩ = false:=⟨blk_frozen h 0,blk_frozen h 1,blk_frozen h 2⟩
theorem kb4 {W:World} {g:Nat} {v0 v1 v2 v3:Value} {t:TypeId} (h:W.heap[g]? = some (.cells #[v0,v1,v2,v3] t (0,0))):W.cell? ⟨g,0,none⟩ = some v0∧W.cell? ⟨g,1,none⟩ = some v1∧W.cell? ⟨g,2,none⟩ = some v2∧W.cell? ⟨g,3,none⟩ = some v3:=⟨(blk_cell h 0).trans rfl,(blk_cell h 1).trans rfl,(blk_cell h 2).trans rfl,(blk_cell h 3).trans rfl⟩
theorem kz4 {W:World} {g:Nat} {v0 v1 v2 v3:Value} {t:TypeId} (h:W.heap[g]? = some (.cells #[v0,v1,v2,v3] t (0,0))):W.frozen? ⟨g,0,none⟩ = false∧W.frozen? ⟨g,1,none⟩ = false∧W.frozen? ⟨g,2,none⟩ = false∧W.frozen? ⟨g,3,none⟩ = false:=⟨blk_frozen h 0,blk_frozen h 1,blk_frozen h 2,blk_frozen h 3⟩
theorem kb5 {W:World} {g:Nat} {v0 v1 v2 v3 v4:Value} {t:TypeId} (h:W.heap[g]? = some (.cells #[v0,v1,v2,v3,v4] t (0,0))):W.cell? ⟨g,0,none⟩ = some v0∧W.cell? ⟨g,1,none⟩ = some v1∧W.cell? ⟨g,2,none⟩ = some v2∧W.cell? ⟨g,3,none⟩ = some v3∧W.cell? ⟨g,4,none⟩ = some v4:=⟨(blk_cell h 0).trans rfl,(blk_cell h 1).trans rfl,(blk_cell h 2).trans rfl,(blk_cell h 3).trans rfl,(blk_cell h 4).trans rfl⟩
theorem kz5 {W:World} {g:Nat} {v0 v1 v2 v3 v4:Value} {t:TypeId} (h:W.heap[g]? = some (.cells #[v0,v1,v2,v3,v4] t (0,0))):W.frozen? ⟨g,0,none⟩ = false∧W.frozen? ⟨g,1,none⟩ = false∧W.frozen? ⟨g,2,none⟩ = false∧W.frozen? ⟨g,3,none⟩ = false∧W.frozen? ⟨g,4,none⟩ = false:=⟨blk_frozen h 0,blk_frozen h 1,blk_frozen h 2,blk_frozen h 3,blk_frozen h 4⟩
theorem kb6 {W:World} {g:Nat} {v0 v1 v2 v3 v4 v5:Value} {t:TypeId} (h:W.heap[g]? = some (.cells #[v0,v1,v2,v3,v4,v5] t (0,0))):W.cell? ⟨g,0,none⟩ = some v0∧W.cell? ⟨g,1,none⟩ = some v1∧W.cell? ⟨g,2,none⟩ = some v2∧W.cell? ⟨g,3,none⟩ = some v3∧W.cell? ⟨g,4,none⟩ = some v4∧W.cell? ⟨g,5,none⟩ = some v5:=⟨(blk_cell h 0).trans rfl,(blk_cell h 1).trans rfl,(blk_cell h 2).trans rfl,(blk_cell h 3).trans rfl,(blk_cell h 4).trans rfl,(blk_cell h 5).trans rfl⟩
theorem kz6 {W:World} {g:Nat} {v0 v1 v2 v3 v4 v5:Value} {t:TypeId} (h:W.heap[g]? = some (.cells #[v0,v1,v2,v3,v4,v5] t (0,0))):W.frozen? ⟨g,0,none⟩ = false∧W.frozen? ⟨g,1,none⟩ = false∧W.frozen? ⟨g,2,none⟩ = false∧W.frozen? ⟨g,3,none⟩ = false∧W.frozen? ⟨g,4,none⟩ = false∧W.frozen? ⟨g,5,none⟩ = false:=⟨blk_frozen h 0,blk_frozen h 1,blk_frozen h 2,blk_frozen h 3,blk_frozen h 4,blk_frozen h 5⟩
theorem kb7 {W:World} {g:Nat} {v0 v1 v2 v3 v4 v5 v6:Value} {t:TypeId} (h:W.heap[g]? = some (.cells #[v0,v1,v2,v3,v4,v5,v6] t (0,0))):W.cell? ⟨g,0,none⟩ = some v0∧W.cell? ⟨g,1,none⟩ = some v1∧W.cell? ⟨g,2,none⟩ = some v2∧W.cell? ⟨g,3,none⟩ = some v3∧W.cell? ⟨g,4,none⟩ = some v4∧W.cell? ⟨g,5,none⟩ = some v5∧W.cell? ⟨g,6,none⟩ = some v6:=⟨(blk_cell h 0).trans rfl,(blk_cell h 1).trans rfl,(blk_cell h 2).trans rfl,(blk_cell h 3).trans rfl,(blk_cell h 4).trans rfl,(blk_cell h 5).trans rfl,(blk_cell h 6).trans rfl⟩
theorem kz7 {W:World} {g:Nat} {v0 v1 v2 v3 v4 v5 v6:Value} {t:TypeId} (h:W.heap[g]? = some (.cells #[v0,v1,v2,v3,v4,v5,v6] t (0,0))):W.frozen? ⟨g,0,none⟩ = false∧W.frozen? ⟨g,1,none⟩ = false∧W.frozen? ⟨g,2,none⟩ = false∧W.frozen? ⟨g,3,none⟩ = false∧W.frozen? ⟨g,4,none⟩ = false∧W.frozen? ⟨g,5,none⟩ = false∧W.frozen? ⟨g,6,none⟩ = false:=⟨blk_frozen h 0,blk_frozen h 1,blk_frozen h 2,blk_frozen h 3,blk_frozen h 4,blk_frozen h 5,blk_frozen h 6⟩
theorem kb8 {W:World} {g:Nat} {v0 v1 v2 v3 v4 v5 v6 v7:Value} {t:TypeId} (h:W.heap[g]? = some (.cells #[v0,v1,v2,v3,v4,v5,v6,v7] t (0,0))):W.cell? ⟨g,0,none⟩ = some v0∧W.cell? ⟨g,1,none⟩ = some v1∧W.cell? ⟨g,2,none⟩ = some v2∧W.cell? ⟨g,3,none⟩ = some v3∧W.cell? ⟨g,4,none⟩ = some v4∧W.cell? ⟨g,5,none⟩ = some v5∧W.cell? ⟨g,6,none⟩ = some v6∧W.cell? ⟨g,7,none⟩ = some v7:=⟨(blk_cell h 0).trans rfl,(blk_cell h 1).trans rfl,(blk_cell h 2).trans rfl,(blk_cell h 3).trans rfl,(blk_cell h 4).trans rfl,(blk_cell h 5).trans rfl,(blk_cell h 6).trans rfl,(blk_cell h 7).trans rfl⟩
theorem kz8 {W:World} {g:Nat} {v0 v1 v2 v3 v4 v5 v6 v7:Value} {t:TypeId} (h:W.heap[g]? = some (.cells #[v0,v1,v2,v3,v4,v5,v6,v7] t (0,0))):W.frozen? ⟨g,0,none⟩ = false∧W.frozen? ⟨g,1,none⟩ = false∧W.frozen? ⟨g,2,none⟩ = false∧W.frozen? ⟨g,3,none⟩ = false∧W.frozen? ⟨g,4,none⟩ = false∧W.frozen? ⟨g,5,none⟩ = false∧W.frozen? ⟨g,6,none⟩ = false∧W.frozen? ⟨g,7,none⟩ = false:=⟨blk_frozen h 0,blk_frozen h 1,blk_frozen h 2,blk_frozen h 3,blk_frozen h 4,blk_frozen h 5,blk_frozen h 6,blk_frozen h 7⟩
theorem kb9 {W:World} {g:Nat} {v0 v1 v2 v3 v4 v5 v6 v7 v8:Value} {t:TypeId} (h:W.heap[g]? = some (.cells #[v0,v1,v2,v3,v4,v5,v6,v7,v8] t (0,0))):W.cell? ⟨g,0,none⟩ = some v0∧W.cell? ⟨g,1,none⟩ = some v1∧W.cell? ⟨g,2,none⟩ = some v2∧W.cell? ⟨g,3,none⟩ = some v3∧W.cell? ⟨g,4,none⟩ = some v4∧W.cell? ⟨g,5,none⟩ = some v5∧W.cell? ⟨g,6,none⟩ = some v6∧W.cell? ⟨g,7,none⟩ = some v7∧W.cell? ⟨g,8,none⟩ = some v8:=⟨(blk_cell h 0).trans rfl,(blk_cell h 1).trans rfl,(blk_cell h 2).trans rfl,(blk_cell h 3).trans rfl,(blk_cell h 4).trans rfl,(blk_cell h 5).trans rfl,(blk_cell h 6).trans rfl,(blk_cell h 7).trans rfl,(blk_cell h 8).trans rfl⟩
theorem kz9 {W:World} {g:Nat} {v0 v1 v2 v3 v4 v5 v6 v7 v8:Value} {t:TypeId} (h:W.heap[g]? = some (.cells #[v0,v1,v2,v3,v4,v5,v6,v7,v8] t (0,0))):W.frozen? ⟨g,0,none⟩ = false∧W.frozen? ⟨g,1,none⟩ = false∧W.frozen? ⟨g,2,none⟩ = false∧W.frozen? ⟨g,3,none⟩ = false∧W.frozen? ⟨g,4,none⟩ = false∧W.frozen? ⟨g,5,none⟩ = false∧W.frozen? ⟨g,6,none⟩ = false∧W.frozen? ⟨g,7,none⟩ = false∧W.frozen? ⟨g,8,none⟩ = false:=⟨blk_frozen h 0,blk_frozen h 1,blk_frozen h 2,blk_frozen h 3,blk_frozen h 4,blk_frozen h 5,blk_frozen h 6,blk_frozen h 7,blk_frozen h 8⟩
theorem tdiv_lit (b:Int):Int.tdiv 1000000000000 b = 1000000000000 / b:=Int.tdiv_eq_ediv_of_nonneg (by decide)
theorem blk_farA {w:World} {g:Nat} {t:TypeId} {cs:Array Value} {p:Addr} (hp:Aside0 (g≠p.block)) (h:w.heap[g]? = some (.cells cs t (0,0))) (u:Value):(w.setCell p u).heap[g]? = some (.cells cs t (0,0)):=blk_far h hp.out u
theorem bm {p q:Prop} (h:p) (k:p → q:=by intro h_;repeat (first|(with_reducible exact h_)|(with_reducible first|refine blk_drewN ?_ _|refine blk_drew ?_|refine blk_alloc ?_ _)|(with_reducible apply blk_farA;assumption)|exact h_)):q:=k h
theorem bmp {p q:Prop} (h:p) (k:p → q:=by intro h_;repeat (first|(with_reducible exact h_)|(with_reducible first|refine blk_drewN ?_ _|refine blk_drew ?_|refine blk_alloc ?_ _)|(with_reducible apply blk_farA;assumption)|with_reducible apply blk_put|with_reducible rfl|exact h_|rfl)):q:=k h
theorem bwm {W W' w':World} {g:Nat} {o:Obj} (h:Aside0 (W.heap[g]? = some o)) (hb:Below W'.heap.size W' w') (k:W.heap[g]? = some o → W'.heap[g]? = some o:=by intro h_;repeat (first|(with_reducible exact h_)|(with_reducible first|refine blk_drewN ?_ _|refine blk_drew ?_|refine blk_alloc ?_ _)|(with_reducible apply blk_farA;assumption)|exact h_)):Aside0 (w'.heap[g]? = some o):=⟨blk_below (k h.out) hb⟩
theorem nlm {W W':World} {g g':Nat} {o:Obj} (hg:g' = W'.heap.size) (h:Aside0 (W.heap[g]? = some o)) (k:W.heap[g]? = some o → W'.heap[g]? = some o:=by intro h_;repeat (first|(with_reducible exact h_)|(with_reducible first|refine blk_drewN ?_ _|refine blk_drew ?_|refine blk_alloc ?_ _)|(with_reducible apply blk_farA;assumption)|exact h_)):Aside0 (g≠g'):=⟨hg ▸ Nat.ne_of_lt (blk_lt (k h.out))⟩
theorem ngm {W W':World} {g g':Nat} {o:Obj} (hg:g' = W'.heap.size) (h:Aside0 (W.heap[g]? = some o)) (k:W.heap[g]? = some o → W'.heap[g]? = some o:=by intro h_;repeat (first|(with_reducible exact h_)|(with_reducible first|refine blk_drewN ?_ _|refine blk_drew ?_|refine blk_alloc ?_ _)|(with_reducible apply blk_farA;assumption)|exact h_)):Aside0 (g'≠g):=⟨hg ▸ Nat.ne_of_gt (blk_lt (k h.out))⟩
theorem ndm {p q:Prop} (h:p) (k:p → q:=by intro h_;(with_reducible repeat (first|apply Kd.N_alloc|apply Kd.N_drewN|apply Kd.N_drew));exact h_):q:=k h
theorem nfm {α:Type} {d:Kd α} {e base:Nat} {ok:Nat → Prop} {v:Value} {xs:List α} {W W':World} (h:Kd.N d e W base ok v xs) (k:Kd.N d e W base ok v xs → Kd.N d e W' base ok v xs:=by intro h_;repeat (first|(with_reducible exact h_)|(with_reducible first|apply Kd.N_alloc|apply Kd.N_drewN|apply Kd.N_drew)|((with_reducible refine Kd.N_far ?_ ?hq _);(case hq=>first|exact fun _ hk=>hk.2|exact fun _ hk=>hk.1.2|exact fun _ hk=>hk.1.1.2|exact fun _ hk=>hk.1.1.1.2))|exact h_)):Kd.N d e W' base ok v xs:=k h
theorem nbm {α:Type} {d:Kd α} {e base:Nat} {ok:Nat → Prop} {v:Value} {xs:List α} {W W' w':World} {g:Nat} (h:Aside0 (Kd.N d e W base ok v xs)) (hg:g = W'.heap.size) (hb:Below W'.heap.size W' w') (k:Kd.N d e W base ok v xs → Kd.N d e W' base ok v xs:=by intro h_;(with_reducible repeat (first|apply Kd.N_alloc|apply Kd.N_drewN|apply Kd.N_drew));exact h_):Aside0 (Kd.N d e w' base (fun k=>ok k∧k≠g) v xs):=⟨Kd.N_below (Kd.N_elderB (k h.out) g (Nat.le_of_eq hg.symm)) hb⟩
theorem nwm {α:Type} {d:Kd α} {e base:Nat} {ok:Nat → Prop} {v:Value} {xs:List α} {W W' w':World} (h:Aside0 (Kd.N d e W base ok v xs)) (hb:Below W'.heap.size W' w') (k:Kd.N d e W base ok v xs → Kd.N d e W' base ok v xs:=by intro h_;(with_reducible repeat (first|apply Kd.N_alloc|apply Kd.N_drewN|apply Kd.N_drew));exact h_):Aside0 (Kd.N d e w' base ok v xs):=⟨Kd.N_below (k h.out) hb⟩
theorem sdm {p q:Prop} (h:p) (k:p → q:=by intro h_;(with_reducible repeat (first|apply Kd.S_alloc|apply Kd.S_drewN|apply Kd.S_drew));exact h_):q:=k h
theorem sfm {α:Type} {d:Kd α} {e base:Nat} {ok:Nat → Prop} {v:Value} {xs:List α} {W W':World} (h:Kd.S d e W base ok v xs) (k:Kd.S d e W base ok v xs → Kd.S d e W' base ok v xs:=by intro h_;repeat (first|(with_reducible exact h_)|(with_reducible first|apply Kd.S_alloc|apply Kd.S_drewN|apply Kd.S_drew)|((with_reducible refine Kd.S_far ?_ ?hq _);(case hq=>first|exact fun _ hk=>hk.2|exact fun _ hk=>hk.1.2|exact fun _ hk=>hk.1.1.2|exact fun _ hk=>hk.1.1.1.2))|exact h_)):Kd.S d e W' base ok v xs:=k h
theorem sbm {α:Type} {d:Kd α} {e base:Nat} {ok:Nat → Prop} {v:Value} {xs:List α} {W W' w':World} {g:Nat} (h:Aside0 (Kd.S d e W base ok v xs)) (hg:g = W'.heap.size) (hb:Below W'.heap.size W' w') (k:Kd.S d e W base ok v xs → Kd.S d e W' base ok v xs:=by intro h_;(with_reducible repeat (first|apply Kd.S_alloc|apply Kd.S_drewN|apply Kd.S_drew));exact h_):Aside0 (Kd.S d e w' base (fun k=>ok k∧k≠g) v xs):=⟨Kd.S_below (Kd.S_elderB (k h.out) g (Nat.le_of_eq hg.symm)) hb⟩
theorem swm {α:Type} {d:Kd α} {e base:Nat} {ok:Nat → Prop} {v:Value} {xs:List α} {W W' w':World} (h:Aside0 (Kd.S d e W base ok v xs)) (hb:Below W'.heap.size W' w') (k:Kd.S d e W base ok v xs → Kd.S d e W' base ok v xs:=by intro h_;(with_reducible repeat (first|apply Kd.S_alloc|apply Kd.S_drewN|apply Kd.S_drew));exact h_):Aside0 (Kd.S d e w' base ok v xs):=⟨Kd.S_below (k h.out) hb⟩
theorem vdm {p q:Prop} (h:p) (k:p → q:=by intro h_;(with_reducible repeat (first|apply Kd.V_alloc|apply Kd.V_drewN|apply Kd.V_drew));exact h_):q:=k h
theorem vfm {α:Type} {d:Kd α} {e base:Nat} {ok:Nat → Prop} {v:Value} {xs:List α} {W W':World} (h:Kd.V d e W base ok v xs) (k:Kd.V d e W base ok v xs → Kd.V d e W' base ok v xs:=by intro h_;repeat (first|(with_reducible exact h_)|(with_reducible first|apply Kd.V_alloc|apply Kd.V_drewN|apply Kd.V_drew)|((with_reducible refine Kd.V_far ?_ ?hq _);(case hq=>first|exact fun _ hk=>hk.2|exact fun _ hk=>hk.1.2|exact fun _ hk=>hk.1.1.2|exact fun _ hk=>hk.1.1.1.2))|exact h_)):Kd.V d e W' base ok v xs:=k h
theorem vbm {α:Type} {d:Kd α} {e base:Nat} {ok:Nat → Prop} {v:Value} {xs:List α} {W W' w':World} {g:Nat} (h:Aside0 (Kd.V d e W base ok v xs)) (hg:g = W'.heap.size) (hb:Below W'.heap.size W' w') (k:Kd.V d e W base ok v xs → Kd.V d e W' base ok v xs:=by intro h_;(with_reducible repeat (first|apply Kd.V_alloc|apply Kd.V_drewN|apply Kd.V_drew));exact h_):Aside0 (Kd.V d e w' base (fun k=>ok k∧k≠g) v xs):=⟨Kd.V_below (Kd.V_elderB (k h.out) g (Nat.le_of_eq hg.symm)) hb⟩
theorem vwm {α:Type} {d:Kd α} {e base:Nat} {ok:Nat → Prop} {v:Value} {xs:List α} {W W' w':World} (h:Aside0 (Kd.V d e W base ok v xs)) (hb:Below W'.heap.size W' w') (k:Kd.V d e W base ok v xs → Kd.V d e W' base ok v xs:=by intro h_;(with_reducible repeat (first|apply Kd.V_alloc|apply Kd.V_drewN|apply Kd.V_drew));exact h_):Aside0 (Kd.V d e w' base ok v xs):=⟨Kd.V_below (k h.out) hb⟩
theorem rdm {p q:Prop} (h:p) (k:p → q:=by intro h_;(with_reducible repeat (first|apply Kd.R_alloc|apply Kd.R_drewN|apply Kd.R_drew));exact h_):q:=k h
theorem rfm {α:Type} {d:Kd α} {e base:Nat} {ok:Nat → Prop} {v:Value} {xs:List α} {W W':World} (h:d.R e W base ok v xs) (k:d.R e W base ok v xs → d.R e W' base ok v xs:=by intro h_;repeat (first|(with_reducible exact h_)|(with_reducible first|apply Kd.R_alloc|apply Kd.R_drewN|apply Kd.R_drew)|((with_reducible refine Kd.R_far ?_ ?hq _);(case hq=>first|exact fun _ hk=>hk.2|exact fun _ hk=>hk.1.2|exact fun _ hk=>hk.1.1.2|exact fun _ hk=>hk.1.1.1.2))|exact h_)):d.R e W' base ok v xs:=k h
theorem rbm {α:Type} {d:Kd α} {e base:Nat} {ok:Nat → Prop} {v:Value} {xs:List α} {W W' w':World} {g:Nat} (h:Aside0 (d.R e W base ok v xs)) (hg:g = W'.heap.size) (hb:Below W'.heap.size W' w') (k:d.R e W base ok v xs → d.R e W' base ok v xs:=by intro h_;(with_reducible repeat (first|apply Kd.R_alloc|apply Kd.R_drewN|apply Kd.R_drew));exact h_):Aside0 (d.R e w' base (fun k=>ok k∧k≠g) v xs):=⟨Kd.R_below (Kd.R_elderB (k h.out) g (Nat.le_of_eq hg.symm)) hb⟩
theorem rwm {α:Type} {d:Kd α} {e base:Nat} {ok:Nat → Prop} {v:Value} {xs:List α} {W W' w':World} (h:Aside0 (d.R e W base ok v xs)) (hb:Below W'.heap.size W' w') (k:d.R e W base ok v xs → d.R e W' base ok v xs:=by intro h_;(with_reducible repeat (first|apply Kd.R_alloc|apply Kd.R_drewN|apply Kd.R_drew));exact h_):Aside0 (d.R e w' base ok v xs):=⟨Kd.R_below (k h.out) hb⟩
theorem cl {p:Prop} (h:p:=by first|rfl|(simp [*,errW_none,errW_some] <;> rfl)):p:=h
theorem cl2 {p:Prop} (h:p:=by first|rfl|(simp;done)|(simp [*];done)):p:=h
theorem bl {p q:Prop} (h:p) (k:p → q:=by intro h_;repeat (first|(with_reducible first|exact h_|apply below_alloc|apply pw_below_drewN|apply below_drew1|refine below_set ?_ (Aside0.out (by assumption)))|exact h_)):q:=k h
theorem bk {p q:Prop} (h:p) (k:p → q:=by intro h_;(with_reducible repeat (first|refine blk_drewN ?_ _|refine blk_drew ?_|refine blk_alloc ?_ _));exact h_):q:=k h
theorem ck {p q:Prop} (h:p) (k:p → q:=by intro h_;repeat (first|exact h_|(with_reducible refine Kd.C_alloc ?_ _)|(with_reducible refine Kd.C_drewN ?_ _)|(with_reducible refine Kd.C_drew ?_))):q:=k h
theorem rk {p q:Prop} (h:p) (k:p → q:=by intro h_;(with_reducible repeat (first|apply Kd.R_alloc|apply Kd.R_drewN|apply Kd.R_drew));exact h_):q:=k h
theorem cb {w W:World} {p:Addr} {v:Value} (HB:Aside0 (Below w.heap.size w W)) (h:w.cell? p = some v):W.cell? p = some v:=(HB.out.cell (World.block_lt_of_cell? w _ h)).trans h
theorem gs {p:Prop} (h:p:=by (try simp only [List.map_toArray,List.map_cons,List.map_nil]);first|done|rfl|(simp only [List.length_drop,List.length_take];rfl)):p:=h
theorem od {p:Prop} [Decidable p] (h:decide p = true:=by first|(with_reducible assumption)|assumption):p:=of_decide_eq_true h
theorem bc {W:World} {g:Nat} {cs:Array Value} {t:TypeId} (h:W.heap[g]? = some (.cells cs t (0,0))) (i:Nat) {v:Value} (hv:cs.toList[i]? = some v:=by exact rfl):W.cell? ⟨g,i,none⟩ = some v:=(blk_cell h i).trans (by simpa using hv)
section
variable {P:Program} {ops:Array Oper} {Q:Exit → Act → World → Prop} {md:Region.Mode} {S:World → Prop} {ds:List Nat}
theorem pu (i N:Nat) {T:Bool × List (List Nat × List Nat)} {oi:Oper} {v:Value} {fuel:Nat} {l:Array Bool} {a a':Act} {w:World} (h:wpAnyLast P md ops Q S ds fuel (l.setIfInBounds i true) a' w)
  (hT:Aside0 (rtab md ops = T):=by assumption) (hi:ops[i]? = some oi:=by rfl) (hN:oi.dst = some N:=by rfl) (hc:anyT T l.toList (l.setIfInBounds i true).toList i = true:=by kernel_rfl)
  (hy:Yields P ops oi v a:=by first|exact Or.inr ⟨by rfl,rfl⟩|exact Or.inl ⟨by rfl,by intro w';go_simp;with_reducible rfl⟩)
  (ha:a.put (some N) v = a':=by simp only [Act.put,List.setIfInBounds_toArray,List.set_cons_zero,List.set_cons_succ,i64_w,i32_w];rfl)
  (hQ:∀ c a w,Q (.panic c) (a.put oi.dst v) w → Q (.panic c) a w:=by exact fun _ _ _ h=>h):wpAnyLast P md ops Q S ds (fuel + 1) l a w :=
 pure_ (l.setIfInBounds i true) hi hN (any_of hT.out hc) hQ hy ha h
theorem ta (i N:Nat) {T:Bool × List (List Nat × List Nat)} {B:List Nat} {oi:Oper} {v:Value} {fuel:Nat} {l:Array Bool} {a a':Act} {w:World} (hS:S w) (h:wpAnyLast P md ops Q S ds fuel (l.setIfInBounds i true) a' w)
  (hT:Aside0 (rtab md ops = T):=by assumption) (hB:Aside0 (waitsOk T.2 B = true):=by assumption) (hi:ops[i]? = some oi:=by rfl) (hN:oi.dst = some N:=by rfl) (hc:takeW T B ds l.toList (l.setIfInBounds i true).toList i = true:=by kernel_rfl)
  (hy:YieldsIf P ops S oi v a:=by exact Or.inl ⟨by rfl,by intro w' hs_;(try simp only [] at hs_);go_simp;with_reducible rfl⟩)
  (ha:a.put (some N) v = a':=by simp only [Act.put,List.setIfInBounds_toArray,List.set_cons_zero,List.set_cons_succ,i64_w,i32_w];rfl)
  (hQ:∀ c a w,Q (.panic c) (a.put oi.dst v) w → Q (.panic c) a w:=by exact fun _ _ _ h=>h):wpAnyLast P md ops Q S ds (fuel + 1) l a w :=
 take_ (l.setIfInBounds i true) hi hN (take_ofW hT.out hB.out hc) hQ hy hS ha h
end



def errW:Option Int → Value
 | none=>.nilIface
 | some c=>.iface 0 (.int .i64 c)
theorem errW_none:errW none = .nilIface:=rfl
theorem errW_some (c:Int):errW (some c) = .iface 0 (.int .i64 c):=rfl

theorem info5:(Try.prog.info? 5).map (fun i=>(i.zero,i.size,i.bytes)) = some (some (.int .u8 0),1,1):=by kernel_rfl
theorem info9:(Try.prog.info? 9).map (fun i=>(i.zero,i.size,i.bytes)) = some (some (.string ⟨#[]⟩),1,16):=by kernel_rfl
theorem info32:(Try.prog.info? 32).map (fun i=>(i.zero,i.size,i.bytes)) = some (some (.agg #[(.int .i64 0),(.int .i64 0),(.string ⟨#[]⟩),(.slice none 0 0),(.slice none 0 0)]),5,80):=by kernel_rfl
theorem info42:(Try.prog.info? 42).map (fun i=>(i.zero,i.size,i.bytes)) = some (some (.agg #[(.int .i64 0),(.int .i64 0),(.string ⟨#[]⟩),(.slice none 0 0),(.slice none 0 0),(.int .i64 0),(.int .i64 0),(.string ⟨#[]⟩),(.slice none 0 0),(.slice none 0 0)]),10,160):=by kernel_rfl
-- the values' own types
section
variable {α β:Type} {F:Kd α → Kd α} {G:Kd α → Kd β} {sz:Nat} {E:List Nat} {hs:∀ n,(Kd.upto F sz E n).sz = sz} {hE:∀ n q,q ∈ (Kd.upto F sz E n).E → q ∈ E}
theorem nest_C (hg:Kd.Mono G) {n:Nat} {w:World} {A:Option Addr} {m:Nat} {xs:List β} (h:(G (Kd.upto F sz E n)).C w A m xs):(G (Kd.fix F sz E hs hE)).C w A m xs :=
 Kd.C_imp (hg.sz _ _ (hs n)) (fun w x cs hp=>hg.K _ (Kd.fix F sz E hs hE) (hs n) (fun w x cs hp=>(⟨n,hp⟩:∃ n,(Kd.upto F sz E n).K w x cs)) w x cs hp) h
theorem nest_R (hg:Kd.Mono G) {n:Nat} {e:Nat} {w:World} {base:Nat} {ok:Nat → Prop} {v:Value} {xs:List β} (h:(G (Kd.upto F sz E n)).R e w base ok v xs):(G (Kd.fix F sz E hs hE)).R e w base ok v xs :=
 Kd.R_imp (hg.sz _ _ (hs n)) (fun w base ok x cs hp=>hg.M _ (Kd.fix F sz E hs hE) (hs n) (fun w base ok x cs hp=>(⟨n,hp⟩:∃ n,(Kd.upto F sz E n).M w base ok x cs)) w base ok x cs hp) h
theorem nest_C_le (hm:Kd.Mono F) (hs:∀ n,(Kd.upto F sz E n).sz = sz) (hg:Kd.Mono G) {n m:Nat} (hnm:n≤m) {w:World} {A:Option Addr} {l:Nat} {xs:List β} (h:(G (Kd.upto F sz E n)).C w A l xs):(G (Kd.upto F sz E m)).C w A l xs :=
 Kd.C_imp (hg.sz _ _ (by rw [hs n,hs m])) (fun w x cs hp=>hg.K _ _ (by rw [hs n,hs m]) (fun _ _ _ hp=>Kd.upto_K_le hm hs hnm hp) w x cs hp) h
theorem nest_R_le (hm:Kd.Mono F) (hs:∀ n,(Kd.upto F sz E n).sz = sz) (hg:Kd.Mono G) {n m:Nat} (hnm:n≤m) {e:Nat} {w:World} {base:Nat} {ok:Nat → Prop} {v:Value} {xs:List β} (h:(G (Kd.upto F sz E n)).R e w base ok v xs):(G (Kd.upto F sz E m)).R e w base ok v xs :=
 Kd.R_imp (hg.sz _ _ (by rw [hs n,hs m])) (fun w base ok x cs hp=>hg.M _ _ (by rw [hs n,hs m]) (fun _ _ _ _ _ hp=>Kd.upto_M_le hm hs hnm hp) w base ok x cs hp) h
theorem nest_R_back (hm:Kd.Mono F) (hg:Kd.Mono G) (hb:∀ {w:World} {base:Nat} {ok:Nat → Prop} {x:β} {cs:List Value},(G (Kd.fix F sz E hs hE)).M w base ok x cs → ∃ n,(G (Kd.upto F sz E n)).M w base ok x cs)
  {e:Nat} {w:World} {base:Nat} {ok:Nat → Prop} {v:Value} {xs:List β} (h:(G (Kd.fix F sz E hs hE)).R e w base ok v xs):∃ n,(G (Kd.upto F sz E n)).R e w base ok v xs:=by
 obtain ⟨h0,inner,ho,hr⟩:=h;have hz:∀ n,(G (Kd.upto F sz E n)).sz = (G (Kd.fix F sz E hs hE)).sz:=fun n=>hg.sz _ _ (hs n)
 obtain ⟨N,hN⟩:=Kd.reps_bounded (R:=fun n p c=>(G (Kd.upto F sz E n)).M w base (fun k=>ok k∧some k≠v.ownBlock) p c) (fun n m p c hnm hp=>hg.M _ _ (by rw [hs n,hs m]) (fun _ _ _ _ _ hp=>Kd.upto_M_le hm hs hnm hp) _ _ _ _ _ hp) (hr.imp_ (fun _ _ hp=>hb hp))
 refine ⟨N,h0,inner,?_,?_⟩
 ·rw [hz N];exact ho
 ·rw [hz N];exact hN
theorem nest_C_back (hm:Kd.Mono F) (hg:Kd.Mono G) (hb:∀ {w:World} {x:β} {cs:List Value},(G (Kd.fix F sz E hs hE)).K w x cs → ∃ n,(G (Kd.upto F sz E n)).K w x cs)
  {w:World} {A:Option Addr} {m:Nat} {xs:List β} (h:(G (Kd.fix F sz E hs hE)).C w A m xs):∃ n,(G (Kd.upto F sz E n)).C w A m xs:=by
 have hz:∀ n,(G (Kd.upto F sz E n)).sz = (G (Kd.fix F sz E hs hE)).sz:=fun n=>hg.sz _ _ (hs n)
 rcases Nat.eq_zero_or_pos m with h0|hpos
 ·subst h0
  exact ⟨0,h.1,h.2.1,fun hp=>absurd hp (Nat.lt_irrefl 0)⟩
 ·obtain ⟨ad,e,hc⟩:=h.2.2 hpos
  obtain ⟨N,hN⟩:=Kd.bounded (P:=fun n j=>∀ p,xs[j]? = some p → ∃ c,c.length = (G (Kd.fix F sz E hs hE)).sz∧(G (Kd.upto F sz E n)).K w p c∧∀ i u,c[i]? = some u → w.cell? (ad.add (j * (G (Kd.fix F sz E hs hE)).sz + i)) = some u)
   (fun n n' j hnm hp p hj=>by
    obtain ⟨c,h1,h2,h3⟩:=hp p hj
    exact ⟨c,h1,hg.K _ _ (by rw [hs n,hs n']) (fun _ _ _ hp=>Kd.upto_K_le hm hs hnm hp) _ _ _ h2,h3⟩) xs.length
   (fun j hj=>by
    obtain ⟨c,h1,h2,h3⟩:=hc j _ (List.getElem?_eq_getElem hj);obtain ⟨n,h2⟩:=hb h2
    refine ⟨n,fun p hp=>?_⟩
    rw [List.getElem?_eq_getElem hj] at hp
    injection hp with hp
    rw [← hp]
    exact ⟨c,h1,h2,h3⟩)
  refine ⟨N,h.1,h.2.1,fun _=>⟨ad,e,fun j p hj=>?_⟩⟩
  rw [hz N]
  exact hN j (List.getElem?_eq_some_iff.1 hj).1 p hj
end
/-! #### struct type 25, nested in itself -/
structure P54 (α:Type) where
 f0:α
 f1:α
structure S25 where
 f0:Int
 f1:Int
 f2:ByteArray
 f3:(List S25)
 f4:(List (P54 S25))
abbrev S54:=P54 S25
def z25:S25:=⟨(0:Int),(0:Int),(⟨#[]⟩:ByteArray),([]:List S25),([]:List S54)⟩
def G54 (d:Kd S25):Kd S54:=Kd.iso (Kd.pair d d) (fun x:S54=>(x.f0,x.f1))
theorem monoG54:Kd.Mono G54:=Kd.mono_iso _ (Kd.mono_pair Kd.mono_id Kd.mono_id)
theorem subG54 {E:List Nat} : Kd.Sub G54 E:=Kd.sub_iso _ (Kd.sub_pair Kd.sub_id Kd.sub_id)
def F25 (d:Kd S25):Kd S25:=Kd.iso (Kd.pair (Kd.int .i64) (Kd.pair (Kd.int .i64) (Kd.pair Kd.string (Kd.pair (Kd.slice 25 d) (Kd.slice 54 (G54 d)))))) (fun x:S25=>(x.f0,x.f1,x.f2,x.f3,x.f4))
theorem mono25:Kd.Mono F25:=Kd.mono_iso _ (Kd.mono_pair (Kd.mono_const _) (Kd.mono_pair (Kd.mono_const _) (Kd.mono_pair (Kd.mono_const _) (Kd.mono_pair (Kd.mono_slice 25 Kd.mono_id) (Kd.mono_slice 54 monoG54)))))
theorem sub25:Kd.Sub F25 [25,54]:=Kd.sub_iso _ (Kd.sub_pair (Kd.sub_const _ (by decide)) (Kd.sub_pair (Kd.sub_const _ (by decide)) (Kd.sub_pair (Kd.sub_const _ (by decide)) (Kd.sub_pair (Kd.sub_slice 25 (by decide) Kd.sub_id) (Kd.sub_slice 54 (by decide) subG54)))))
theorem sz25:∀ n,(Kd.upto F25 5 [25,54] n).sz = 5:=Kd.upto_sz (fun _=>rfl)
def k25:Kd S25:=Kd.fix F25 5 [25,54] sz25 (Kd.upto_E sub25)
def k54:Kd S54:=G54 k25
theorem hbK54 {w:World} {x:S54} {cs:List Value} (h:(G54 k25).K w x cs):∃ n,(G54 (Kd.upto F25 5 [25,54] n)).K w x cs:=by
 obtain ⟨c0,c1,rfl,⟨n0,h0⟩,⟨n1,h1⟩⟩:=h
 exact ⟨max n0 n1,c0,c1,rfl,Kd.upto_K_le mono25 sz25 (Nat.le_max_left _ _) h0,Kd.upto_K_le mono25 sz25 (Nat.le_max_right _ _) h1⟩
theorem hbM54 {w:World} {base:Nat} {ok:Nat → Prop} {x:S54} {cs:List Value} (h:(G54 k25).M w base ok x cs):∃ n,(G54 (Kd.upto F25 5 [25,54] n)).M w base ok x cs:=by
 obtain ⟨c0,c1,rfl,⟨n0,h0⟩,⟨n1,h1⟩⟩:=h
 exact ⟨max n0 n1,c0,c1,rfl,Kd.upto_M_le mono25 sz25 (Nat.le_max_left _ _) h0,Kd.upto_M_le mono25 sz25 (Nat.le_max_right _ _) h1⟩
theorem k25_heap:Kd.Heap k25:=Kd.heap_fix (fun _ h_=>Kd.heap_iso _ (Kd.heap_pair (Kd.heap_int .i64) (Kd.heap_pair (Kd.heap_int .i64) (Kd.heap_pair Kd.heap_string (Kd.heap_pair (Kd.heap_slice 25 h_) (Kd.heap_slice 54 (Kd.heap_iso _ (Kd.heap_pair h_ h_))))))))
theorem k25_open {w:World} {x:S25} {cs:List Value} (h:k25.K w x cs):∃ A3 c3 A4 c4,cs = [.int .i64 x.f0,.int .i64 x.f1,.string x.f2,.slice A3 x.f3.length c3,.slice A4 x.f4.length c4]∧x.f3.length≤c3∧k25.C w A3 x.f3.length x.f3∧x.f4.length≤c4∧k54.C w A4 x.f4.length x.f4:=by
 obtain ⟨n,h⟩:=h
 cases n with
 | zero=>exact h.elim
 | succ n =>
  obtain ⟨_,_,rfl,rfl,⟨_,_,rfl,rfl,⟨_,_,rfl,rfl,⟨_,_,rfl,⟨A3,c3,rfl,l3,g3⟩,⟨A4,c4,rfl,l4,g4⟩⟩⟩⟩⟩:=h
  exact ⟨A3,c3,A4,c4,rfl,l3,Kd.fix_C g3,l4,nest_C monoG54 g4⟩
theorem k25_openM {w:World} {base:Nat} {ok:Nat → Prop} {x:S25} {cs:List Value} (h:k25.M w base ok x cs):∃ v3 v4,cs = [.int .i64 x.f0,.int .i64 x.f1,.string x.f2,v3,v4]∧k25.R 25 w base ok v3 x.f3∧k54.R 54 w base ok v4 x.f4:=by
 obtain ⟨n,h⟩:=h
 cases n with
 | zero=>exact h.elim
 | succ n =>
  obtain ⟨_,_,rfl,rfl,⟨_,_,rfl,rfl,⟨_,_,rfl,rfl,⟨_,_,rfl,⟨v3,rfl,g3⟩,⟨v4,rfl,g4⟩⟩⟩⟩⟩:=h
  exact ⟨v3,v4,rfl,Kd.fix_R g3,nest_R monoG54 g4⟩
theorem k25_mk (w:World) (x:S25) {A3:Option Addr} {c3:Nat} (l3:x.f3.length≤c3) (g3:k25.C w A3 x.f3.length x.f3) {A4:Option Addr} {c4:Nat} (l4:x.f4.length≤c4) (g4:k54.C w A4 x.f4.length x.f4):k25.K w x [.int .i64 x.f0,.int .i64 x.f1,.string x.f2,.slice A3 x.f3.length c3,.slice A4 x.f4.length c4]:=by
 obtain ⟨n3,q3⟩:=Kd.fix_C_back mono25 g3;obtain ⟨n4,q4⟩:=nest_C_back mono25 monoG54 hbK54 g4;have r3:=Kd.upto_C_le mono25 sz25 (show n3≤(max n3 n4) by omega) q3;have r4:=nest_C_le mono25 sz25 monoG54 (show n4≤(max n3 n4) by omega) q4
 exact ⟨(max n3 n4) + 1,⟨[.int .i64 x.f0],[.int .i64 x.f1,.string x.f2,.slice A3 x.f3.length c3,.slice A4 x.f4.length c4],rfl,rfl,⟨[.int .i64 x.f1],[.string x.f2,.slice A3 x.f3.length c3,.slice A4 x.f4.length c4],rfl,rfl,⟨[.string x.f2],[.slice A3 x.f3.length c3,.slice A4 x.f4.length c4],rfl,rfl,⟨[.slice A3 x.f3.length c3],[.slice A4 x.f4.length c4],rfl,⟨A3,c3,rfl,l3,r3⟩,⟨A4,c4,rfl,l4,r4⟩⟩⟩⟩⟩⟩
theorem k25_mkM (w:World) (base:Nat) (ok:Nat → Prop) (x:S25) {v3:Value} (g3:k25.R 25 w base ok v3 x.f3) {v4:Value} (g4:k54.R 54 w base ok v4 x.f4):k25.M w base ok x [.int .i64 x.f0,.int .i64 x.f1,.string x.f2,v3,v4]:=by
 obtain ⟨n3,q3⟩:=Kd.fix_R_back mono25 g3;obtain ⟨n4,q4⟩:=nest_R_back mono25 monoG54 hbM54 g4;have r3:=Kd.upto_R_le mono25 sz25 (show n3≤(max n3 n4) by omega) q3;have r4:=nest_R_le mono25 sz25 monoG54 (show n4≤(max n3 n4) by omega) q4
 exact ⟨(max n3 n4) + 1,⟨[.int .i64 x.f0],[.int .i64 x.f1,.string x.f2,v3,v4],rfl,rfl,⟨[.int .i64 x.f1],[.string x.f2,v3,v4],rfl,rfl,⟨[.string x.f2],[v3,v4],rfl,rfl,⟨[v3],[v4],rfl,⟨v3,rfl,r3⟩,⟨v4,rfl,r4⟩⟩⟩⟩⟩⟩
theorem k25_openF {W:World} {ok:Nat → Prop} {x:S25} {cs:List Value} (h:Kd.FK k25 W ok x cs):∃ A3 c3 A4 c4,cs = [.int .i64 x.f0,.int .i64 x.f1,.string x.f2,.slice A3 x.f3.length c3,.slice A4 x.f4.length c4]∧x.f3.length≤c3∧Kd.F k25 W ok A3 x.f3.length x.f3∧x.f4.length≤c4∧Kd.F k54 W ok A4 x.f4.length x.f4:=by
 obtain ⟨A3,c3,A4,c4,rfl,l3,_,l4,_⟩:=k25_open (Kd.FK_now h)
 exact ⟨A3,c3,A4,c4,rfl,l3,(fun W' hW=>by obtain ⟨A3_,c3_,A4_,c4_,he,l3_,g3_,l4_,g4_⟩:=k25_open (h W' hW);injection (Option.some.inj (show some (Value.slice A3 x.f3.length c3) = some (Value.slice A3_ x.f3.length c3_) from congrArg (fun l=>l[3]?) he)) with ha_ _ _;rw [ha_];exact g3_),l4,(fun W' hW=>by obtain ⟨A3_,c3_,A4_,c4_,he,l3_,g3_,l4_,g4_⟩:=k25_open (h W' hW);injection (Option.some.inj (show some (Value.slice A4 x.f4.length c4) = some (Value.slice A4_ x.f4.length c4_) from congrArg (fun l=>l[4]?) he)) with ha_ _ _;rw [ha_];exact g4_)⟩
theorem k25_mkF (W:World) (ok:Nat → Prop) (x:S25) {A3:Option Addr} {c3:Nat} (l3:x.f3.length≤c3) (g3:Kd.F k25 W ok A3 x.f3.length x.f3) {A4:Option Addr} {c4:Nat} (l4:x.f4.length≤c4) (g4:Kd.F k54 W ok A4 x.f4.length x.f4):Kd.FK k25 W ok x [.int .i64 x.f0,.int .i64 x.f1,.string x.f2,.slice A3 x.f3.length c3,.slice A4 x.f4.length c4]:=fun W2 hW=>k25_mk W2 x l3 (g3 W2 hW) l4 (g4 W2 hW)
def rd_T25 (xs:List S25) (i:Int):S25:=xs.getD i.toNat z25
theorem at_T25 {w:World} {A:Option Addr} {n:Nat} {xs:List S25} (h:Kd.C k25 w A n xs) (i:Int) (h0:0≤i) (h1:i < n):∃ ad A3 c3 A4 c4,A = some ad∧w.cell? (ad.add (i.toNat * 5)) = some (.int .i64 (rd_T25 xs i).f0)∧w.cell? ⟨(ad.add (i.toNat * 5)).block,(ad.add (i.toNat * 5)).off + 1,none⟩ = some (.int .i64 (rd_T25 xs i).f1)∧w.cell? ⟨(ad.add (i.toNat * 5)).block,(ad.add (i.toNat * 5)).off + 2,none⟩ = some (.string (rd_T25 xs i).f2)∧w.cell? ⟨(ad.add (i.toNat * 5)).block,(ad.add (i.toNat * 5)).off + 3,none⟩ = some (.slice A3 (rd_T25 xs i).f3.length c3)∧w.cell? ⟨(ad.add (i.toNat * 5)).block,(ad.add (i.toNat * 5)).off + 4,none⟩ = some (.slice A4 (rd_T25 xs i).f4.length c4)∧(rd_T25 xs i).f3.length≤c3∧k25.C w A3 (rd_T25 xs i).f3.length (rd_T25 xs i).f3∧(rd_T25 xs i).f4.length≤c4∧k54.C w A4 (rd_T25 xs i).f4.length (rd_T25 xs i).f4:=by
 obtain ⟨ad,c,e,_,hK,hc0⟩:=Kd.C_get h z25 i h0 h1;have hc:∀ j u,c[j]? = some u → w.cell? (ad.add (i.toNat * 5 + j)) = some u:=hc0;obtain ⟨A3,c3,A4,c4,rfl,l3,g3,l4,g4⟩:=k25_open hK
 exact ⟨ad,A3,c3,A4,c4,e,hc 0 _ rfl,by rw [← add_field _ _ 1 (by omega)];exact hc 1 _ rfl,by rw [← add_field _ _ 2 (by omega)];exact hc 2 _ rfl,by rw [← add_field _ _ 3 (by omega)];exact hc 3 _ rfl,by rw [← add_field _ _ 4 (by omega)];exact hc 4 _ rfl,l3,g3,l4,g4⟩

/-! #### struct type 54 -/
def z54:S54:=⟨z25,z25⟩
theorem k54_heap:Kd.Heap k54:=Kd.heap_iso _ (Kd.heap_pair k25_heap k25_heap)
theorem k54_open {w:World} {x:S54} {cs:List Value} (h:k54.K w x cs):∃ A3 c3 A4 c4 A8 c8 A9 c9,cs = [.int .i64 x.f0.f0,.int .i64 x.f0.f1,.string x.f0.f2,.slice A3 x.f0.f3.length c3,.slice A4 x.f0.f4.length c4,.int .i64 x.f1.f0,.int .i64 x.f1.f1,.string x.f1.f2,.slice A8 x.f1.f3.length c8,.slice A9 x.f1.f4.length c9]∧x.f0.f3.length≤c3∧k25.C w A3 x.f0.f3.length x.f0.f3∧x.f0.f4.length≤c4∧k54.C w A4 x.f0.f4.length x.f0.f4∧x.f1.f3.length≤c8∧k25.C w A8 x.f1.f3.length x.f1.f3∧x.f1.f4.length≤c9∧k54.C w A9 x.f1.f4.length x.f1.f4:=by
 obtain ⟨_,_,rfl,s0,s5⟩:=h;obtain ⟨A3,c3,A4,c4,rfl,l3,g3,l4,g4⟩:=k25_open s0;obtain ⟨A8,c8,A9,c9,rfl,l8,g8,l9,g9⟩:=k25_open s5
 exact ⟨A3,c3,A4,c4,A8,c8,A9,c9,rfl,l3,g3,l4,g4,l8,g8,l9,g9⟩
theorem k54_openM {w:World} {base:Nat} {ok:Nat → Prop} {x:S54} {cs:List Value} (h:k54.M w base ok x cs):∃ v3 v4 v8 v9,cs = [.int .i64 x.f0.f0,.int .i64 x.f0.f1,.string x.f0.f2,v3,v4,.int .i64 x.f1.f0,.int .i64 x.f1.f1,.string x.f1.f2,v8,v9]∧k25.R 25 w base ok v3 x.f0.f3∧k54.R 54 w base ok v4 x.f0.f4∧k25.R 25 w base ok v8 x.f1.f3∧k54.R 54 w base ok v9 x.f1.f4:=by
 obtain ⟨_,_,rfl,s0,s5⟩:=h;obtain ⟨v3,v4,rfl,g3,g4⟩:=k25_openM s0;obtain ⟨v8,v9,rfl,g8,g9⟩:=k25_openM s5
 exact ⟨v3,v4,v8,v9,rfl,g3,g4,g8,g9⟩
theorem k54_mk (w:World) (x:S54) {A3:Option Addr} {c3:Nat} (l3:x.f0.f3.length≤c3) (g3:k25.C w A3 x.f0.f3.length x.f0.f3) {A4:Option Addr} {c4:Nat} (l4:x.f0.f4.length≤c4) (g4:k54.C w A4 x.f0.f4.length x.f0.f4) {A8:Option Addr} {c8:Nat} (l8:x.f1.f3.length≤c8) (g8:k25.C w A8 x.f1.f3.length x.f1.f3) {A9:Option Addr} {c9:Nat} (l9:x.f1.f4.length≤c9) (g9:k54.C w A9 x.f1.f4.length x.f1.f4):k54.K w x [.int .i64 x.f0.f0,.int .i64 x.f0.f1,.string x.f0.f2,.slice A3 x.f0.f3.length c3,.slice A4 x.f0.f4.length c4,.int .i64 x.f1.f0,.int .i64 x.f1.f1,.string x.f1.f2,.slice A8 x.f1.f3.length c8,.slice A9 x.f1.f4.length c9]:=⟨[.int .i64 x.f0.f0,.int .i64 x.f0.f1,.string x.f0.f2,.slice A3 x.f0.f3.length c3,.slice A4 x.f0.f4.length c4],[.int .i64 x.f1.f0,.int .i64 x.f1.f1,.string x.f1.f2,.slice A8 x.f1.f3.length c8,.slice A9 x.f1.f4.length c9],rfl,(k25_mk w x.f0 l3 g3 l4 g4),(k25_mk w x.f1 l8 g8 l9 g9)⟩
theorem k54_mkM (w:World) (base:Nat) (ok:Nat → Prop) (x:S54) {v3:Value} (g3:k25.R 25 w base ok v3 x.f0.f3) {v4:Value} (g4:k54.R 54 w base ok v4 x.f0.f4) {v8:Value} (g8:k25.R 25 w base ok v8 x.f1.f3) {v9:Value} (g9:k54.R 54 w base ok v9 x.f1.f4):k54.M w base ok x [.int .i64 x.f0.f0,.int .i64 x.f0.f1,.string x.f0.f2,v3,v4,.int .i64 x.f1.f0,.int .i64 x.f1.f1,.string x.f1.f2,v8,v9]:=⟨[.int .i64 x.f0.f0,.int .i64 x.f0.f1,.string x.f0.f2,v3,v4],[.int .i64 x.f1.f0,.int .i64 x.f1.f1,.string x.f1.f2,v8,v9],rfl,(k25_mkM w base ok x.f0 g3 g4),(k25_mkM w base ok x.f1 g8 g9)⟩
theorem k54_openF {W:World} {ok:Nat → Prop} {x:S54} {cs:List Value} (h:Kd.FK k54 W ok x cs):∃ A3 c3 A4 c4 A8 c8 A9 c9,cs = [.int .i64 x.f0.f0,.int .i64 x.f0.f1,.string x.f0.f2,.slice A3 x.f0.f3.length c3,.slice A4 x.f0.f4.length c4,.int .i64 x.f1.f0,.int .i64 x.f1.f1,.string x.f1.f2,.slice A8 x.f1.f3.length c8,.slice A9 x.f1.f4.length c9]∧x.f0.f3.length≤c3∧Kd.F k25 W ok A3 x.f0.f3.length x.f0.f3∧x.f0.f4.length≤c4∧Kd.F k54 W ok A4 x.f0.f4.length x.f0.f4∧x.f1.f3.length≤c8∧Kd.F k25 W ok A8 x.f1.f3.length x.f1.f3∧x.f1.f4.length≤c9∧Kd.F k54 W ok A9 x.f1.f4.length x.f1.f4:=by
 obtain ⟨A3,c3,A4,c4,A8,c8,A9,c9,rfl,l3,_,l4,_,l8,_,l9,_⟩:=k54_open (Kd.FK_now h)
 exact ⟨A3,c3,A4,c4,A8,c8,A9,c9,rfl,l3,(fun W' hW=>by obtain ⟨A3_,c3_,A4_,c4_,A8_,c8_,A9_,c9_,he,l3_,g3_,l4_,g4_,l8_,g8_,l9_,g9_⟩:=k54_open (h W' hW);injection (Option.some.inj (show some (Value.slice A3 x.f0.f3.length c3) = some (Value.slice A3_ x.f0.f3.length c3_) from congrArg (fun l=>l[3]?) he)) with ha_ _ _;rw [ha_];exact g3_),l4,(fun W' hW=>by obtain ⟨A3_,c3_,A4_,c4_,A8_,c8_,A9_,c9_,he,l3_,g3_,l4_,g4_,l8_,g8_,l9_,g9_⟩:=k54_open (h W' hW);injection (Option.some.inj (show some (Value.slice A4 x.f0.f4.length c4) = some (Value.slice A4_ x.f0.f4.length c4_) from congrArg (fun l=>l[4]?) he)) with ha_ _ _;rw [ha_];exact g4_),l8,(fun W' hW=>by obtain ⟨A3_,c3_,A4_,c4_,A8_,c8_,A9_,c9_,he,l3_,g3_,l4_,g4_,l8_,g8_,l9_,g9_⟩:=k54_open (h W' hW);injection (Option.some.inj (show some (Value.slice A8 x.f1.f3.length c8) = some (Value.slice A8_ x.f1.f3.length c8_) from congrArg (fun l=>l[8]?) he)) with ha_ _ _;rw [ha_];exact g8_),l9,(fun W' hW=>by obtain ⟨A3_,c3_,A4_,c4_,A8_,c8_,A9_,c9_,he,l3_,g3_,l4_,g4_,l8_,g8_,l9_,g9_⟩:=k54_open (h W' hW);injection (Option.some.inj (show some (Value.slice A9 x.f1.f4.length c9) = some (Value.slice A9_ x.f1.f4.length c9_) from congrArg (fun l=>l[9]?) he)) with ha_ _ _;rw [ha_];exact g9_)⟩
theorem k54_mkF (W:World) (ok:Nat → Prop) (x:S54) {A3:Option Addr} {c3:Nat} (l3:x.f0.f3.length≤c3) (g3:Kd.F k25 W ok A3 x.f0.f3.length x.f0.f3) {A4:Option Addr} {c4:Nat} (l4:x.f0.f4.length≤c4) (g4:Kd.F k54 W ok A4 x.f0.f4.length x.f0.f4) {A8:Option Addr} {c8:Nat} (l8:x.f1.f3.length≤c8) (g8:Kd.F k25 W ok A8 x.f1.f3.length x.f1.f3) {A9:Option Addr} {c9:Nat} (l9:x.f1.f4.length≤c9) (g9:Kd.F k54 W ok A9 x.f1.f4.length x.f1.f4):Kd.FK k54 W ok x [.int .i64 x.f0.f0,.int .i64 x.f0.f1,.string x.f0.f2,.slice A3 x.f0.f3.length c3,.slice A4 x.f0.f4.length c4,.int .i64 x.f1.f0,.int .i64 x.f1.f1,.string x.f1.f2,.slice A8 x.f1.f3.length c8,.slice A9 x.f1.f4.length c9]:=fun W2 hW=>k54_mk W2 x l3 (g3 W2 hW) l4 (g4 W2 hW) l8 (g8 W2 hW) l9 (g9 W2 hW)
def rd_T54 (xs:List S54) (i:Int):S54:=xs.getD i.toNat z54
theorem at_T54 {w:World} {A:Option Addr} {n:Nat} {xs:List S54} (h:Kd.C k54 w A n xs) (i:Int) (h0:0≤i) (h1:i < n):∃ ad A3 c3 A4 c4 A8 c8 A9 c9,A = some ad∧w.cell? (ad.add (i.toNat * 10)) = some (.int .i64 (rd_T54 xs i).f0.f0)∧w.cell? ⟨(ad.add (i.toNat * 10)).block,(ad.add (i.toNat * 10)).off + 1,none⟩ = some (.int .i64 (rd_T54 xs i).f0.f1)∧w.cell? ⟨(ad.add (i.toNat * 10)).block,(ad.add (i.toNat * 10)).off + 2,none⟩ = some (.string (rd_T54 xs i).f0.f2)∧w.cell? ⟨(ad.add (i.toNat * 10)).block,(ad.add (i.toNat * 10)).off + 3,none⟩ = some (.slice A3 (rd_T54 xs i).f0.f3.length c3)∧w.cell? ⟨(ad.add (i.toNat * 10)).block,(ad.add (i.toNat * 10)).off + 4,none⟩ = some (.slice A4 (rd_T54 xs i).f0.f4.length c4)∧w.cell? ⟨(ad.add (i.toNat * 10)).block,(ad.add (i.toNat * 10)).off + 5,none⟩ = some (.int .i64 (rd_T54 xs i).f1.f0)∧w.cell? ⟨(ad.add (i.toNat * 10)).block,(ad.add (i.toNat * 10)).off + 6,none⟩ = some (.int .i64 (rd_T54 xs i).f1.f1)∧w.cell? ⟨(ad.add (i.toNat * 10)).block,(ad.add (i.toNat * 10)).off + 7,none⟩ = some (.string (rd_T54 xs i).f1.f2)∧w.cell? ⟨(ad.add (i.toNat * 10)).block,(ad.add (i.toNat * 10)).off + 8,none⟩ = some (.slice A8 (rd_T54 xs i).f1.f3.length c8)∧w.cell? ⟨(ad.add (i.toNat * 10)).block,(ad.add (i.toNat * 10)).off + 9,none⟩ = some (.slice A9 (rd_T54 xs i).f1.f4.length c9)∧(rd_T54 xs i).f0.f3.length≤c3∧k25.C w A3 (rd_T54 xs i).f0.f3.length (rd_T54 xs i).f0.f3∧(rd_T54 xs i).f0.f4.length≤c4∧k54.C w A4 (rd_T54 xs i).f0.f4.length (rd_T54 xs i).f0.f4∧(rd_T54 xs i).f1.f3.length≤c8∧k25.C w A8 (rd_T54 xs i).f1.f3.length (rd_T54 xs i).f1.f3∧(rd_T54 xs i).f1.f4.length≤c9∧k54.C w A9 (rd_T54 xs i).f1.f4.length (rd_T54 xs i).f1.f4:=by
 obtain ⟨ad,c,e,_,hK,hc0⟩:=Kd.C_get h z54 i h0 h1;have hc:∀ j u,c[j]? = some u → w.cell? (ad.add (i.toNat * 10 + j)) = some u:=hc0;obtain ⟨A3,c3,A4,c4,A8,c8,A9,c9,rfl,l3,g3,l4,g4,l8,g8,l9,g9⟩:=k54_open hK
 exact ⟨ad,A3,c3,A4,c4,A8,c8,A9,c9,e,hc 0 _ rfl,by rw [← add_field _ _ 1 (by omega)];exact hc 1 _ rfl,by rw [← add_field _ _ 2 (by omega)];exact hc 2 _ rfl,by rw [← add_field _ _ 3 (by omega)];exact hc 3 _ rfl,by rw [← add_field _ _ 4 (by omega)];exact hc 4 _ rfl,by rw [← add_field _ _ 5 (by omega)];exact hc 5 _ rfl,by rw [← add_field _ _ 6 (by omega)];exact hc 6 _ rfl,by rw [← add_field _ _ 7 (by omega)];exact hc 7 _ rfl,by rw [← add_field _ _ 8 (by omega)];exact hc 8 _ rfl,by rw [← add_field _ _ 9 (by omega)];exact hc 9 _ rfl,l3,g3,l4,g4,l8,g8,l9,g9⟩

/-! #### struct type 32, nested in itself -/
structure P42 (α:Type) where
 f0:α
 f1:α
structure S32 where
 f0:Int
 f1:Int
 f2:ByteArray
 f3:(List S32)
 f4:(List (P42 S32))
abbrev S42:=P42 S32
def z32:S32:=⟨(0:Int),(0:Int),(⟨#[]⟩:ByteArray),([]:List S32),([]:List S42)⟩
def G42 (d:Kd S32):Kd S42:=Kd.iso (Kd.pair d d) (fun x:S42=>(x.f0,x.f1))
theorem monoG42:Kd.Mono G42:=Kd.mono_iso _ (Kd.mono_pair Kd.mono_id Kd.mono_id)
theorem subG42 {E:List Nat} : Kd.Sub G42 E:=Kd.sub_iso _ (Kd.sub_pair Kd.sub_id Kd.sub_id)
def F32 (d:Kd S32):Kd S32:=Kd.iso (Kd.pair (Kd.int .i64) (Kd.pair (Kd.int .i64) (Kd.pair Kd.string (Kd.pair (Kd.slice 32 d) (Kd.slice 42 (G42 d)))))) (fun x:S32=>(x.f0,x.f1,x.f2,x.f3,x.f4))
theorem mono32:Kd.Mono F32:=Kd.mono_iso _ (Kd.mono_pair (Kd.mono_const _) (Kd.mono_pair (Kd.mono_const _) (Kd.mono_pair (Kd.mono_const _) (Kd.mono_pair (Kd.mono_slice 32 Kd.mono_id) (Kd.mono_slice 42 monoG42)))))
theorem sub32:Kd.Sub F32 [32,42]:=Kd.sub_iso _ (Kd.sub_pair (Kd.sub_const _ (by decide)) (Kd.sub_pair (Kd.sub_const _ (by decide)) (Kd.sub_pair (Kd.sub_const _ (by decide)) (Kd.sub_pair (Kd.sub_slice 32 (by decide) Kd.sub_id) (Kd.sub_slice 42 (by decide) subG42)))))
theorem sz32:∀ n,(Kd.upto F32 5 [32,42] n).sz = 5:=Kd.upto_sz (fun _=>rfl)
def k32:Kd S32:=Kd.fix F32 5 [32,42] sz32 (Kd.upto_E sub32)
def k42:Kd S42:=G42 k32
theorem hbK42 {w:World} {x:S42} {cs:List Value} (h:(G42 k32).K w x cs):∃ n,(G42 (Kd.upto F32 5 [32,42] n)).K w x cs:=by
 obtain ⟨c0,c1,rfl,⟨n0,h0⟩,⟨n1,h1⟩⟩:=h
 exact ⟨max n0 n1,c0,c1,rfl,Kd.upto_K_le mono32 sz32 (Nat.le_max_left _ _) h0,Kd.upto_K_le mono32 sz32 (Nat.le_max_right _ _) h1⟩
theorem hbM42 {w:World} {base:Nat} {ok:Nat → Prop} {x:S42} {cs:List Value} (h:(G42 k32).M w base ok x cs):∃ n,(G42 (Kd.upto F32 5 [32,42] n)).M w base ok x cs:=by
 obtain ⟨c0,c1,rfl,⟨n0,h0⟩,⟨n1,h1⟩⟩:=h
 exact ⟨max n0 n1,c0,c1,rfl,Kd.upto_M_le mono32 sz32 (Nat.le_max_left _ _) h0,Kd.upto_M_le mono32 sz32 (Nat.le_max_right _ _) h1⟩
theorem k32_heap:Kd.Heap k32:=Kd.heap_fix (fun _ h_=>Kd.heap_iso _ (Kd.heap_pair (Kd.heap_int .i64) (Kd.heap_pair (Kd.heap_int .i64) (Kd.heap_pair Kd.heap_string (Kd.heap_pair (Kd.heap_slice 32 h_) (Kd.heap_slice 42 (Kd.heap_iso _ (Kd.heap_pair h_ h_))))))))
theorem k32_open {w:World} {x:S32} {cs:List Value} (h:k32.K w x cs):∃ A3 c3 A4 c4,cs = [.int .i64 x.f0,.int .i64 x.f1,.string x.f2,.slice A3 x.f3.length c3,.slice A4 x.f4.length c4]∧x.f3.length≤c3∧k32.C w A3 x.f3.length x.f3∧x.f4.length≤c4∧k42.C w A4 x.f4.length x.f4:=by
 obtain ⟨n,h⟩:=h
 cases n with
 | zero=>exact h.elim
 | succ n =>
  obtain ⟨_,_,rfl,rfl,⟨_,_,rfl,rfl,⟨_,_,rfl,rfl,⟨_,_,rfl,⟨A3,c3,rfl,l3,g3⟩,⟨A4,c4,rfl,l4,g4⟩⟩⟩⟩⟩:=h
  exact ⟨A3,c3,A4,c4,rfl,l3,Kd.fix_C g3,l4,nest_C monoG42 g4⟩
theorem k32_openM {w:World} {base:Nat} {ok:Nat → Prop} {x:S32} {cs:List Value} (h:k32.M w base ok x cs):∃ v3 v4,cs = [.int .i64 x.f0,.int .i64 x.f1,.string x.f2,v3,v4]∧k32.R 32 w base ok v3 x.f3∧k42.R 42 w base ok v4 x.f4:=by
 obtain ⟨n,h⟩:=h
 cases n with
 | zero=>exact h.elim
 | succ n =>
  obtain ⟨_,_,rfl,rfl,⟨_,_,rfl,rfl,⟨_,_,rfl,rfl,⟨_,_,rfl,⟨v3,rfl,g3⟩,⟨v4,rfl,g4⟩⟩⟩⟩⟩:=h
  exact ⟨v3,v4,rfl,Kd.fix_R g3,nest_R monoG42 g4⟩
theorem k32_mk (w:World) (x:S32) {A3:Option Addr} {c3:Nat} (l3:x.f3.length≤c3) (g3:k32.C w A3 x.f3.length x.f3) {A4:Option Addr} {c4:Nat} (l4:x.f4.length≤c4) (g4:k42.C w A4 x.f4.length x.f4):k32.K w x [.int .i64 x.f0,.int .i64 x.f1,.string x.f2,.slice A3 x.f3.length c3,.slice A4 x.f4.length c4]:=by
 obtain ⟨n3,q3⟩:=Kd.fix_C_back mono32 g3;obtain ⟨n4,q4⟩:=nest_C_back mono32 monoG42 hbK42 g4;have r3:=Kd.upto_C_le mono32 sz32 (show n3≤(max n3 n4) by omega) q3;have r4:=nest_C_le mono32 sz32 monoG42 (show n4≤(max n3 n4) by omega) q4
 exact ⟨(max n3 n4) + 1,⟨[.int .i64 x.f0],[.int .i64 x.f1,.string x.f2,.slice A3 x.f3.length c3,.slice A4 x.f4.length c4],rfl,rfl,⟨[.int .i64 x.f1],[.string x.f2,.slice A3 x.f3.length c3,.slice A4 x.f4.length c4],rfl,rfl,⟨[.string x.f2],[.slice A3 x.f3.length c3,.slice A4 x.f4.length c4],rfl,rfl,⟨[.slice A3 x.f3.length c3],[.slice A4 x.f4.length c4],rfl,⟨A3,c3,rfl,l3,r3⟩,⟨A4,c4,rfl,l4,r4⟩⟩⟩⟩⟩⟩
theorem k32_mkM (w:World) (base:Nat) (ok:Nat → Prop) (x:S32) {v3:Value} (g3:k32.R 32 w base ok v3 x.f3) {v4:Value} (g4:k42.R 42 w base ok v4 x.f4):k32.M w base ok x [.int .i64 x.f0,.int .i64 x.f1,.string x.f2,v3,v4]:=by
 obtain ⟨n3,q3⟩:=Kd.fix_R_back mono32 g3;obtain ⟨n4,q4⟩:=nest_R_back mono32 monoG42 hbM42 g4;have r3:=Kd.upto_R_le mono32 sz32 (show n3≤(max n3 n4) by omega) q3;have r4:=nest_R_le mono32 sz32 monoG42 (show n4≤(max n3 n4) by omega) q4
 exact ⟨(max n3 n4) + 1,⟨[.int .i64 x.f0],[.int .i64 x.f1,.string x.f2,v3,v4],rfl,rfl,⟨[.int .i64 x.f1],[.string x.f2,v3,v4],rfl,rfl,⟨[.string x.f2],[v3,v4],rfl,rfl,⟨[v3],[v4],rfl,⟨v3,rfl,r3⟩,⟨v4,rfl,r4⟩⟩⟩⟩⟩⟩
theorem k32_openF {W:World} {ok:Nat → Prop} {x:S32} {cs:List Value} (h:Kd.FK k32 W ok x cs):∃ A3 c3 A4 c4,cs = [.int .i64 x.f0,.int .i64 x.f1,.string x.f2,.slice A3 x.f3.length c3,.slice A4 x.f4.length c4]∧x.f3.length≤c3∧Kd.F k32 W ok A3 x.f3.length x.f3∧x.f4.length≤c4∧Kd.F k42 W ok A4 x.f4.length x.f4:=by
 obtain ⟨A3,c3,A4,c4,rfl,l3,_,l4,_⟩:=k32_open (Kd.FK_now h)
 exact ⟨A3,c3,A4,c4,rfl,l3,(fun W' hW=>by obtain ⟨A3_,c3_,A4_,c4_,he,l3_,g3_,l4_,g4_⟩:=k32_open (h W' hW);injection (Option.some.inj (show some (Value.slice A3 x.f3.length c3) = some (Value.slice A3_ x.f3.length c3_) from congrArg (fun l=>l[3]?) he)) with ha_ _ _;rw [ha_];exact g3_),l4,(fun W' hW=>by obtain ⟨A3_,c3_,A4_,c4_,he,l3_,g3_,l4_,g4_⟩:=k32_open (h W' hW);injection (Option.some.inj (show some (Value.slice A4 x.f4.length c4) = some (Value.slice A4_ x.f4.length c4_) from congrArg (fun l=>l[4]?) he)) with ha_ _ _;rw [ha_];exact g4_)⟩
theorem k32_mkF (W:World) (ok:Nat → Prop) (x:S32) {A3:Option Addr} {c3:Nat} (l3:x.f3.length≤c3) (g3:Kd.F k32 W ok A3 x.f3.length x.f3) {A4:Option Addr} {c4:Nat} (l4:x.f4.length≤c4) (g4:Kd.F k42 W ok A4 x.f4.length x.f4):Kd.FK k32 W ok x [.int .i64 x.f0,.int .i64 x.f1,.string x.f2,.slice A3 x.f3.length c3,.slice A4 x.f4.length c4]:=fun W2 hW=>k32_mk W2 x l3 (g3 W2 hW) l4 (g4 W2 hW)
def rd_T32 (xs:List S32) (i:Int):S32:=xs.getD i.toNat z32
theorem at_T32 {w:World} {A:Option Addr} {n:Nat} {xs:List S32} (h:Kd.C k32 w A n xs) (i:Int) (h0:0≤i) (h1:i < n):∃ ad A3 c3 A4 c4,A = some ad∧w.cell? (ad.add (i.toNat * 5)) = some (.int .i64 (rd_T32 xs i).f0)∧w.cell? ⟨(ad.add (i.toNat * 5)).block,(ad.add (i.toNat * 5)).off + 1,none⟩ = some (.int .i64 (rd_T32 xs i).f1)∧w.cell? ⟨(ad.add (i.toNat * 5)).block,(ad.add (i.toNat * 5)).off + 2,none⟩ = some (.string (rd_T32 xs i).f2)∧w.cell? ⟨(ad.add (i.toNat * 5)).block,(ad.add (i.toNat * 5)).off + 3,none⟩ = some (.slice A3 (rd_T32 xs i).f3.length c3)∧w.cell? ⟨(ad.add (i.toNat * 5)).block,(ad.add (i.toNat * 5)).off + 4,none⟩ = some (.slice A4 (rd_T32 xs i).f4.length c4)∧(rd_T32 xs i).f3.length≤c3∧k32.C w A3 (rd_T32 xs i).f3.length (rd_T32 xs i).f3∧(rd_T32 xs i).f4.length≤c4∧k42.C w A4 (rd_T32 xs i).f4.length (rd_T32 xs i).f4:=by
 obtain ⟨ad,c,e,_,hK,hc0⟩:=Kd.C_get h z32 i h0 h1;have hc:∀ j u,c[j]? = some u → w.cell? (ad.add (i.toNat * 5 + j)) = some u:=hc0;obtain ⟨A3,c3,A4,c4,rfl,l3,g3,l4,g4⟩:=k32_open hK
 exact ⟨ad,A3,c3,A4,c4,e,hc 0 _ rfl,by rw [← add_field _ _ 1 (by omega)];exact hc 1 _ rfl,by rw [← add_field _ _ 2 (by omega)];exact hc 2 _ rfl,by rw [← add_field _ _ 3 (by omega)];exact hc 3 _ rfl,by rw [← add_field _ _ 4 (by omega)];exact hc 4 _ rfl,l3,g3,l4,g4⟩

/-! #### struct type 42 -/
def z42:S42:=⟨z32,z32⟩
theorem k42_heap:Kd.Heap k42:=Kd.heap_iso _ (Kd.heap_pair k32_heap k32_heap)
theorem k42_open {w:World} {x:S42} {cs:List Value} (h:k42.K w x cs):∃ A3 c3 A4 c4 A8 c8 A9 c9,cs = [.int .i64 x.f0.f0,.int .i64 x.f0.f1,.string x.f0.f2,.slice A3 x.f0.f3.length c3,.slice A4 x.f0.f4.length c4,.int .i64 x.f1.f0,.int .i64 x.f1.f1,.string x.f1.f2,.slice A8 x.f1.f3.length c8,.slice A9 x.f1.f4.length c9]∧x.f0.f3.length≤c3∧k32.C w A3 x.f0.f3.length x.f0.f3∧x.f0.f4.length≤c4∧k42.C w A4 x.f0.f4.length x.f0.f4∧x.f1.f3.length≤c8∧k32.C w A8 x.f1.f3.length x.f1.f3∧x.f1.f4.length≤c9∧k42.C w A9 x.f1.f4.length x.f1.f4:=by
 obtain ⟨_,_,rfl,s0,s5⟩:=h;obtain ⟨A3,c3,A4,c4,rfl,l3,g3,l4,g4⟩:=k32_open s0;obtain ⟨A8,c8,A9,c9,rfl,l8,g8,l9,g9⟩:=k32_open s5
 exact ⟨A3,c3,A4,c4,A8,c8,A9,c9,rfl,l3,g3,l4,g4,l8,g8,l9,g9⟩
theorem k42_openM {w:World} {base:Nat} {ok:Nat → Prop} {x:S42} {cs:List Value} (h:k42.M w base ok x cs):∃ v3 v4 v8 v9,cs = [.int .i64 x.f0.f0,.int .i64 x.f0.f1,.string x.f0.f2,v3,v4,.int .i64 x.f1.f0,.int .i64 x.f1.f1,.string x.f1.f2,v8,v9]∧k32.R 32 w base ok v3 x.f0.f3∧k42.R 42 w base ok v4 x.f0.f4∧k32.R 32 w base ok v8 x.f1.f3∧k42.R 42 w base ok v9 x.f1.f4:=by
 obtain ⟨_,_,rfl,s0,s5⟩:=h;obtain ⟨v3,v4,rfl,g3,g4⟩:=k32_openM s0;obtain ⟨v8,v9,rfl,g8,g9⟩:=k32_openM s5
 exact ⟨v3,v4,v8,v9,rfl,g3,g4,g8,g9⟩
theorem k42_mk (w:World) (x:S42) {A3:Option Addr} {c3:Nat} (l3:x.f0.f3.length≤c3) (g3:k32.C w A3 x.f0.f3.length x.f0.f3) {A4:Option Addr} {c4:Nat} (l4:x.f0.f4.length≤c4) (g4:k42.C w A4 x.f0.f4.length x.f0.f4) {A8:Option Addr} {c8:Nat} (l8:x.f1.f3.length≤c8) (g8:k32.C w A8 x.f1.f3.length x.f1.f3) {A9:Option Addr} {c9:Nat} (l9:x.f1.f4.length≤c9) (g9:k42.C w A9 x.f1.f4.length x.f1.f4):k42.K w x [.int .i64 x.f0.f0,.int .i64 x.f0.f1,.string x.f0.f2,.slice A3 x.f0.f3.length c3,.slice A4 x.f0.f4.length c4,.int .i64 x.f1.f0,.int .i64 x.f1.f1,.string x.f1.f2,.slice A8 x.f1.f3.length c8,.slice A9 x.f1.f4.length c9]:=⟨[.int .i64 x.f0.f0,.int .i64 x.f0.f1,.string x.f0.f2,.slice A3 x.f0.f3.length c3,.slice A4 x.f0.f4.length c4],[.int .i64 x.f1.f0,.int .i64 x.f1.f1,.string x.f1.f2,.slice A8 x.f1.f3.length c8,.slice A9 x.f1.f4.length c9],rfl,(k32_mk w x.f0 l3 g3 l4 g4),(k32_mk w x.f1 l8 g8 l9 g9)⟩
theorem k42_mkM (w:World) (base:Nat) (ok:Nat → Prop) (x:S42) {v3:Value} (g3:k32.R 32 w base ok v3 x.f0.f3) {v4:Value} (g4:k42.R 42 w base ok v4 x.f0.f4) {v8:Value} (g8:k32.R 32 w base ok v8 x.f1.f3) {v9:Value} (g9:k42.R 42 w base ok v9 x.f1.f4):k42.M w base ok x [.int .i64 x.f0.f0,.int .i64 x.f0.f1,.string x.f0.f2,v3,v4,.int .i64 x.f1.f0,.int .i64 x.f1.f1,.string x.f1.f2,v8,v9]:=⟨[.int .i64 x.f0.f0,.int .i64 x.f0.f1,.string x.f0.f2,v3,v4],[.int .i64 x.f1.f0,.int .i64 x.f1.f1,.string x.f1.f2,v8,v9],rfl,(k32_mkM w base ok x.f0 g3 g4),(k32_mkM w base ok x.f1 g8 g9)⟩
theorem k42_openF {W:World} {ok:Nat → Prop} {x:S42} {cs:List Value} (h:Kd.FK k42 W ok x cs):∃ A3 c3 A4 c4 A8 c8 A9 c9,cs = [.int .i64 x.f0.f0,.int .i64 x.f0.f1,.string x.f0.f2,.slice A3 x.f0.f3.length c3,.slice A4 x.f0.f4.length c4,.int .i64 x.f1.f0,.int .i64 x.f1.f1,.string x.f1.f2,.slice A8 x.f1.f3.length c8,.slice A9 x.f1.f4.length c9]∧x.f0.f3.length≤c3∧Kd.F k32 W ok A3 x.f0.f3.length x.f0.f3∧x.f0.f4.length≤c4∧Kd.F k42 W ok A4 x.f0.f4.length x.f0.f4∧x.f1.f3.length≤c8∧Kd.F k32 W ok A8 x.f1.f3.length x.f1.f3∧x.f1.f4.length≤c9∧Kd.F k42 W ok A9 x.f1.f4.length x.f1.f4:=by
 obtain ⟨A3,c3,A4,c4,A8,c8,A9,c9,rfl,l3,_,l4,_,l8,_,l9,_⟩:=k42_open (Kd.FK_now h)
 exact ⟨A3,c3,A4,c4,A8,c8,A9,c9,rfl,l3,(fun W' hW=>by obtain ⟨A3_,c3_,A4_,c4_,A8_,c8_,A9_,c9_,he,l3_,g3_,l4_,g4_,l8_,g8_,l9_,g9_⟩:=k42_open (h W' hW);injection (Option.some.inj (show some (Value.slice A3 x.f0.f3.length c3) = some (Value.slice A3_ x.f0.f3.length c3_) from congrArg (fun l=>l[3]?) he)) with ha_ _ _;rw [ha_];exact g3_),l4,(fun W' hW=>by obtain ⟨A3_,c3_,A4_,c4_,A8_,c8_,A9_,c9_,he,l3_,g3_,l4_,g4_,l8_,g8_,l9_,g9_⟩:=k42_open (h W' hW);injection (Option.some.inj (show some (Value.slice A4 x.f0.f4.length c4) = some (Value.slice A4_ x.f0.f4.length c4_) from congrArg (fun l=>l[4]?) he)) with ha_ _ _;rw [ha_];exact g4_),l8,(fun W' hW=>by obtain ⟨A3_,c3_,A4_,c4_,A8_,c8_,A9_,c9_,he,l3_,g3_,l4_,g4_,l8_,g8_,l9_,g9_⟩:=k42_open (h W' hW);injection (Option.some.inj (show some (Value.slice A8 x.f1.f3.length c8) = some (Value.slice A8_ x.f1.f3.length c8_) from congrArg (fun l=>l[8]?) he)) with ha_ _ _;rw [ha_];exact g8_),l9,(fun W' hW=>by obtain ⟨A3_,c3_,A4_,c4_,A8_,c8_,A9_,c9_,he,l3_,g3_,l4_,g4_,l8_,g8_,l9_,g9_⟩:=k42_open (h W' hW);injection (Option.some.inj (show some (Value.slice A9 x.f1.f4.length c9) = some (Value.slice A9_ x.f1.f4.length c9_) from congrArg (fun l=>l[9]?) he)) with ha_ _ _;rw [ha_];exact g9_)⟩
theorem k42_mkF (W:World) (ok:Nat → Prop) (x:S42) {A3:Option Addr} {c3:Nat} (l3:x.f0.f3.length≤c3) (g3:Kd.F k32 W ok A3 x.f0.f3.length x.f0.f3) {A4:Option Addr} {c4:Nat} (l4:x.f0.f4.length≤c4) (g4:Kd.F k42 W ok A4 x.f0.f4.length x.f0.f4) {A8:Option Addr} {c8:Nat} (l8:x.f1.f3.length≤c8) (g8:Kd.F k32 W ok A8 x.f1.f3.length x.f1.f3) {A9:Option Addr} {c9:Nat} (l9:x.f1.f4.length≤c9) (g9:Kd.F k42 W ok A9 x.f1.f4.length x.f1.f4):Kd.FK k42 W ok x [.int .i64 x.f0.f0,.int .i64 x.f0.f1,.string x.f0.f2,.slice A3 x.f0.f3.length c3,.slice A4 x.f0.f4.length c4,.int .i64 x.f1.f0,.int .i64 x.f1.f1,.string x.f1.f2,.slice A8 x.f1.f3.length c8,.slice A9 x.f1.f4.length c9]:=fun W2 hW=>k42_mk W2 x l3 (g3 W2 hW) l4 (g4 W2 hW) l8 (g8 W2 hW) l9 (g9 W2 hW)
def rd_T42 (xs:List S42) (i:Int):S42:=xs.getD i.toNat z42
theorem at_T42 {w:World} {A:Option Addr} {n:Nat} {xs:List S42} (h:Kd.C k42 w A n xs) (i:Int) (h0:0≤i) (h1:i < n):∃ ad A3 c3 A4 c4 A8 c8 A9 c9,A = some ad∧w.cell? (ad.add (i.toNat * 10)) = some (.int .i64 (rd_T42 xs i).f0.f0)∧w.cell? ⟨(ad.add (i.toNat * 10)).block,(ad.add (i.toNat * 10)).off + 1,none⟩ = some (.int .i64 (rd_T42 xs i).f0.f1)∧w.cell? ⟨(ad.add (i.toNat * 10)).block,(ad.add (i.toNat * 10)).off + 2,none⟩ = some (.string (rd_T42 xs i).f0.f2)∧w.cell? ⟨(ad.add (i.toNat * 10)).block,(ad.add (i.toNat * 10)).off + 3,none⟩ = some (.slice A3 (rd_T42 xs i).f0.f3.length c3)∧w.cell? ⟨(ad.add (i.toNat * 10)).block,(ad.add (i.toNat * 10)).off + 4,none⟩ = some (.slice A4 (rd_T42 xs i).f0.f4.length c4)∧w.cell? ⟨(ad.add (i.toNat * 10)).block,(ad.add (i.toNat * 10)).off + 5,none⟩ = some (.int .i64 (rd_T42 xs i).f1.f0)∧w.cell? ⟨(ad.add (i.toNat * 10)).block,(ad.add (i.toNat * 10)).off + 6,none⟩ = some (.int .i64 (rd_T42 xs i).f1.f1)∧w.cell? ⟨(ad.add (i.toNat * 10)).block,(ad.add (i.toNat * 10)).off + 7,none⟩ = some (.string (rd_T42 xs i).f1.f2)∧w.cell? ⟨(ad.add (i.toNat * 10)).block,(ad.add (i.toNat * 10)).off + 8,none⟩ = some (.slice A8 (rd_T42 xs i).f1.f3.length c8)∧w.cell? ⟨(ad.add (i.toNat * 10)).block,(ad.add (i.toNat * 10)).off + 9,none⟩ = some (.slice A9 (rd_T42 xs i).f1.f4.length c9)∧(rd_T42 xs i).f0.f3.length≤c3∧k32.C w A3 (rd_T42 xs i).f0.f3.length (rd_T42 xs i).f0.f3∧(rd_T42 xs i).f0.f4.length≤c4∧k42.C w A4 (rd_T42 xs i).f0.f4.length (rd_T42 xs i).f0.f4∧(rd_T42 xs i).f1.f3.length≤c8∧k32.C w A8 (rd_T42 xs i).f1.f3.length (rd_T42 xs i).f1.f3∧(rd_T42 xs i).f1.f4.length≤c9∧k42.C w A9 (rd_T42 xs i).f1.f4.length (rd_T42 xs i).f1.f4:=by
 obtain ⟨ad,c,e,_,hK,hc0⟩:=Kd.C_get h z42 i h0 h1;have hc:∀ j u,c[j]? = some u → w.cell? (ad.add (i.toNat * 10 + j)) = some u:=hc0;obtain ⟨A3,c3,A4,c4,A8,c8,A9,c9,rfl,l3,g3,l4,g4,l8,g8,l9,g9⟩:=k42_open hK
 exact ⟨ad,A3,c3,A4,c4,A8,c8,A9,c9,e,hc 0 _ rfl,by rw [← add_field _ _ 1 (by omega)];exact hc 1 _ rfl,by rw [← add_field _ _ 2 (by omega)];exact hc 2 _ rfl,by rw [← add_field _ _ 3 (by omega)];exact hc 3 _ rfl,by rw [← add_field _ _ 4 (by omega)];exact hc 4 _ rfl,by rw [← add_field _ _ 5 (by omega)];exact hc 5 _ rfl,by rw [← add_field _ _ 6 (by omega)];exact hc 6 _ rfl,by rw [← add_field _ _ 7 (by omega)];exact hc 7 _ rfl,by rw [← add_field _ _ 8 (by omega)];exact hc 8 _ rfl,by rw [← add_field _ _ 9 (by omega)];exact hc 9 _ rfl,l3,g3,l4,g4,l8,g8,l9,g9⟩

def rd_L7 (xs:List (List S42)) (i:Int):(List S42):=xs.getD i.toNat ([]:List S42)
theorem at_L7 {w:World} {A:Option Addr} {n:Nat} {xs:List (List S42)} (h:Kd.C (Kd.slice 42 k42) w A n xs) (i:Int) (h0:0≤i) (h1:i < n):∃ ad A0 c0,A = some ad∧w.cell? (ad.add i.toNat) = some (.slice A0 (rd_L7 xs i).length c0)∧(rd_L7 xs i).length≤c0∧k42.C w A0 (rd_L7 xs i).length (rd_L7 xs i):=by
 obtain ⟨ad,c,e,_,hK,hc0⟩:=Kd.C_get h ([]:List S42) i h0 h1;have hc:∀ j u,c[j]? = some u → w.cell? (ad.add (i.toNat * 1 + j)) = some u:=hc0;obtain ⟨A0,c0,rfl,l0,g0⟩:=hK
 exact ⟨ad,A0,c0,e,by have hq:=hc 0 _ rfl;rwa [Nat.mul_one,Nat.add_zero] at hq,l0,g0⟩

def rd_L8 (xs:List (List S32)) (i:Int):(List S32):=xs.getD i.toNat ([]:List S32)
theorem at_L8 {w:World} {A:Option Addr} {n:Nat} {xs:List (List S32)} (h:Kd.C (Kd.slice 32 k32) w A n xs) (i:Int) (h0:0≤i) (h1:i < n):∃ ad A0 c0,A = some ad∧w.cell? (ad.add i.toNat) = some (.slice A0 (rd_L8 xs i).length c0)∧(rd_L8 xs i).length≤c0∧k32.C w A0 (rd_L8 xs i).length (rd_L8 xs i):=by
 obtain ⟨ad,c,e,_,hK,hc0⟩:=Kd.C_get h ([]:List S32) i h0 h1;have hc:∀ j u,c[j]? = some u → w.cell? (ad.add (i.toNat * 1 + j)) = some u:=hc0;obtain ⟨A0,c0,rfl,l0,g0⟩:=hK
 exact ⟨ad,A0,c0,e,by have hq:=hc 0 _ rfl;rwa [Nat.mul_one,Nat.add_zero] at hq,l0,g0⟩

mutual
def wf25:S25 → Prop
 | ⟨x0,x1,x2,x3,x4⟩=>((Lit.int .i64 x0).wf = true)∧((Lit.int .i64 x1).wf = true)∧(x2.size≤maxLen)∧(x3.length≤maxLen∧wfl25 x3)∧(x4.length≤maxLen∧wfl54 x4)
def wfl25:List S25 → Prop
 | []=>True
 | x :: r=>wf25 x∧wfl25 r
def wf54:P54 S25 → Prop
 | ⟨x0,x1⟩=>wf25 x0∧wf25 x1
def wfl54:List (P54 S25) → Prop
 | []=>True
 | x :: r=>wf54 x∧wfl54 r
end
theorem wfl25_iff:∀ l:List S25,wfl25 l ↔ ∀ x ∈ l,wf25 x
 | []=>by simp [wfl25]
 | x :: r=>by simp [wfl25,wfl25_iff r]
theorem wfl54_iff:∀ l:List S54,wfl54 l ↔ ∀ x ∈ l,wf54 x
 | []=>by simp [wfl54]
 | x :: r=>by simp [wfl54,wfl54_iff r]
theorem eta25 (x:S25):(⟨x.f0,x.f1,x.f2,x.f3,x.f4⟩:S25) = x:=by cases x;rfl
theorem eta54 (x:S54):(⟨x.f0,x.f1⟩:S54) = x:=by cases x;rfl
theorem isEmpty_ne (l:List UInt8):(!l.isEmpty) = (l != []):=by cases l <;> rfl
theorem isEmpty_be (l:List UInt8):l.isEmpty = (l == []):=by cases l <;> rfl



/-! ### marks: what a call leaves that writes whole numbers and strings over others in rows that it is handed -/
def SoftV (a b:Value):Prop:=a = b∨(∃ k x y,a = .int k x∧b = .int k y)∨(∃ x y,a = .string x∧b = .string y)
theorem SoftV.refl (a:Value):SoftV a a:=.inl rfl
theorem SoftV.int (k:IntKind) (x y:Int):SoftV (.int k x) (.int k y):=.inr (.inl ⟨k,x,y,rfl,rfl⟩)
theorem SoftV.string (x y:ByteArray):SoftV (.string x) (.string y):=.inr (.inr ⟨x,y,rfl,rfl⟩)
theorem SoftV.trans {a b c:Value} (h:SoftV a b) (k:SoftV b c):SoftV a c:=by
 rcases h with rfl|⟨t,x,y,rfl,rfl⟩|⟨x,y,rfl,rfl⟩
 ·exact k
 ·rcases k with rfl|⟨t',x',y',e,rfl⟩|⟨x',y',e,_⟩
  ·exact SoftV.int _ _ _
  ·injection e with e1 e2
   subst e1
   exact SoftV.int _ _ _
  ·cases e
 ·rcases k with rfl|⟨t',x',y',e,_⟩|⟨x',y',e,rfl⟩
  ·exact SoftV.string _ _
  ·cases e
  ·exact SoftV.string _ _
theorem SoftV.of_int {k:IntKind} {x:Int} {b:Value} (h:SoftV (.int k x) b):∃ y,b = .int k y:=by
 rcases h with rfl|⟨t,x',y,e,rfl⟩|⟨x',y,e,_⟩
 ·exact ⟨_,rfl⟩
 ·injection e with e1 e2
  subst e1
  exact ⟨_,rfl⟩
 ·cases e
theorem SoftV.of_string {x:ByteArray} {b:Value} (h:SoftV (.string x) b):∃ y,b = .string y:=by
 rcases h with rfl|⟨t,x',y,e,_⟩|⟨x',y,e,rfl⟩
 ·exact ⟨_,rfl⟩
 ·cases e
 ·exact ⟨_,rfl⟩
theorem SoftV.of_slice {A:Option Addr} {n c:Nat} {b:Value} (h:SoftV (.slice A n c) b):b = .slice A n c:=by
 rcases h with rfl|⟨t,x',y,e,_⟩|⟨x',y,e,_⟩
 ·rfl
 ·cases e
 ·cases e
/-- A block of a row of one of these types, made from b on. -/
def InRows (b:Nat) (P:Nat → Prop) (E:List Nat) (w:World) (k:Nat):Prop:=b≤k∧P k∧∃ q,q ∈ E∧∃ cells,w.heap[k]? = some (.cells cells q (0,0))
structure Soft (b:Nat) (P:Nat → Prop) (E:List Nat) (w W:World):Prop where
 below:Below b w W
 same:∀ i,i < w.heap.size → ¬ InRows b P E w i → W.heap[i]? = w.heap[i]?
 soft:∀ i,InRows b P E w i → ∀ cells q,w.heap[i]? = some (.cells cells q (0,0)) → ∃ cells':Array Value,W.heap[i]? = some (.cells cells' q (0,0))∧cells'.size = cells.size∧∀ (j:Nat) (v:Value),cells[j]? = some v → ∃ v',cells'[j]? = some v'∧SoftV v v'
section
variable {b:Nat} {P:Nat → Prop} {E:List Nat} {w W W2:World}
theorem Soft.refl (b:Nat) (P:Nat → Prop) (E:List Nat) (w:World):Soft b P E w w:=⟨Below.refl _ _,fun _ _ _=>rfl,fun i _ cells q h=>⟨cells,h,rfl,fun j v hv=>⟨v,hv,SoftV.refl v⟩⟩⟩
theorem Soft.kept (h:Soft b P E w W):Kept w W (InRows b P E w):=⟨h.below.size,h.same⟩
theorem Soft.step (h:Soft b P E w W) (hb:b≤w.heap.size) (k:Below W.heap.size W W2):Soft b P E w W2:=by
 refine ⟨h.below.trans (k.mono (Nat.le_trans hb h.below.size)),fun i hi hn=>?_,fun i hi cells q hc=>?_⟩
 ·rw [k.block i (Nat.lt_of_lt_of_le hi h.below.size)]
  exact h.same i hi hn
 ·obtain ⟨cells',h1,h2⟩:=h.soft i hi cells q hc
  refine ⟨cells',?_,h2⟩
  rw [k.block i (blk_lt h1)]
  exact h1
theorem Soft.lt (_:Soft b P E w W) {g:Nat} (hg:InRows b P E w g):g < w.heap.size:=by
 obtain ⟨_,_,q,_,cells,hc⟩:=hg
 exact blk_lt hc
theorem Soft.set (h:Soft b P E w W) {g j:Nat} (hg:InRows b P E w g) {old new:Value} (ho:W.cell? ⟨g,j,none⟩ = some old) (hv:SoftV old new):Soft b P E w (W.setCell ⟨g,j,none⟩ new):=by
 refine ⟨h.below.setCell hg.1 _,fun i hi hn=>?_,fun i hi cells q hc=>?_⟩
 ·rw [Below.heap_setCell _ _ _ _ (by rintro rfl;exact hn hg)]
  exact h.same i hi hn
 ·by_cases hig:i = g
  ·subst hig
   obtain ⟨cells',h1,h2,h3⟩:=h.soft i hi cells q hc
   refine ⟨cells'.setIfInBounds j new,?_,by simpa using h2,fun l v hl=>?_⟩
   ·simp only [World.setCell]
    first
     | (rw [Array.getElem?_modify,if_pos rfl,h1];rfl)
     | (simp;rw [Array.getElem?_modify,if_pos rfl,h1];rfl)
   ·obtain ⟨v',h4,h5⟩:=h3 l v hl
    by_cases hjl:j = l
    ·subst hjl
     have ho':old = v':=by
      have:W.cell? ⟨i,j,none⟩ = cells'[j]?:=by simp [World.cell?,h1]
      rw [this,h4] at ho
      exact (Option.some.inj ho).symm
     subst ho';have hlt:j < cells'.size:=(Array.getElem?_eq_some_iff.1 h4).1
     exact ⟨new,by simp [Array.getElem?_setIfInBounds,hlt],h5.trans hv⟩
    ·exact ⟨v',by rw [Array.getElem?_setIfInBounds,if_neg hjl];exact h4,h5⟩
  ·obtain ⟨cells',h1,h2⟩:=h.soft i hi cells q hc
   refine ⟨cells',?_,h2⟩
   rw [Below.heap_setCell _ _ _ _ hig]
   exact h1
theorem Soft.cell (h:Soft b P E w W) {g j:Nat} (hg:InRows b P E w g) {v:Value} (hv:w.cell? ⟨g,j,none⟩ = some v):∃ v',W.cell? ⟨g,j,none⟩ = some v'∧SoftV v v':=by
 obtain ⟨hb,hp,q,hq,cells,hc⟩:=hg;obtain ⟨cells',h1,_,h3⟩:=h.soft g ⟨hb,hp,q,hq,cells,hc⟩ cells q hc;have hv2:cells[j]? = some v:=by simpa [World.cell?,hc] using hv
 obtain ⟨v',h4,h5⟩:=h3 j v hv2
 exact ⟨v',by simpa [World.cell?,h1] using h4,h5⟩
theorem Soft.frozen (h:Soft b P E w W) {g:Nat} (hg:InRows b P E w g) (j:Nat):W.frozen? ⟨g,j,none⟩ = false:=by
 obtain ⟨hb,hp,q,hq,cells,hc⟩:=hg;obtain ⟨cells',h1,_⟩:=h.soft g ⟨hb,hp,q,hq,cells,hc⟩ cells q hc
 simp [World.frozen?,h1]
/-- An element of a row of the call's own. -/
theorem R_elem {α:Type} {d:Kd α} {e base:Nat} {ok:Nat → Prop} {v:Value} {xs:List α} (h:d.R e w base ok v xs) (i:Nat) (p:α) (hp:xs[i]? = some p) :
  ∃ g cap cs,v = .slice (some ⟨g,0,none⟩) xs.length cap∧(base≤g∧∃ cells,w.heap[g]? = some (.cells cells e (0,0)))∧cs.length = d.sz∧d.M w base (fun k=>ok k∧some k≠v.ownBlock) p cs∧∀ (j:Nat) (u:Value),cs[j]? = some u → w.cell? ⟨g,i * d.sz + j,none⟩ = some u:=by
 have hlt:i < xs.length:=(List.getElem?_eq_some_iff.1 hp).1;obtain ⟨g,cap,hv,hb,hg,cells,hc⟩:=Kd.R_form h (by omega);obtain ⟨h0,inner,ho,hr⟩:=h;have hM:=hr.2 i p hp
 refine ⟨g,cap,(inner.drop (i * d.sz)).take d.sz,hv,⟨hb,cells,hc⟩,d.K_len (d.K_of_M hM),hM,fun j u hu=>?_⟩
 have hcell:=ho.cells (g:=g) (by rw [hv];rfl) (i * d.sz + j) u (by
  have hj:j < d.sz:=by
   have:=(List.getElem?_eq_some_iff.1 hu).1;rw [d.K_len (d.K_of_M hM)] at this
   exact this
  rw [List.getElem?_take_of_lt hj,List.getElem?_drop] at hu
  exact hu)
 have ea:∀ m:Nat,(⟨g,0,none⟩:Addr).add m = ⟨g,m,none⟩:=by
  intro m
  unfold Addr.add
  split <;> simp_all
 rw [ea] at hcell
 exact hcell
end
/-- A row of other types stays. -/
theorem R_soft {α:Type} {d:Kd α} {e base base':Nat} {P:Nat → Prop} {E:List Nat} {ok:Nat → Prop} {w W:World} {v:Value} {xs:List α} (h:d.R e w base ok v xs) (hk:Kept w W (InRows base' P E w)) (ht:∀ q,q ∈ e :: d.E → q ∉ E):d.R e W base ok v xs:=by
 refine Kd.R_mono (Kd.R_kept (Kd.R_bound h) hk (fun k hk hs=>?_)) (fun _ hk=>hk.1)
 obtain ⟨_,_,_,q,hq,cells,hc⟩:=hk;obtain ⟨_,_,q',hq',cells',hc'⟩:=hs;rw [hc] at hc'
 injection hc' with hc'
 injection hc' with _ hc'
 subst hc'
 exact ht q hq hq'
theorem blk_soft {base':Nat} {P:Nat → Prop} {E:List Nat} {w W:World} {g t:Nat} {cs:Array Value} {fr:Nat × Nat} (hb:w.heap[g]? = some (.cells cs t fr)) (hk:Kept w W (InRows base' P E w)) (ht:t ∉ E):W.heap[g]? = some (.cells cs t fr):=blk_kept hb hk (fun h=>by
 obtain ⟨_,_,q,hq,cells,hc⟩:=h;rw [hb] at hc
 injection hc with hc
 injection hc with _ hc
 subst hc
 exact ht hq)
/-- A row without elements stays where its block does. -/
theorem R_kept_nil {α:Type} {d:Kd α} {e base:Nat} {S ok:Nat → Prop} {w W:World} {v:Value} {xs:List α} (hx:xs = []) (h:d.R e w base ok v xs) (hk:Kept w W S) (hne:∀ k,S k → some k≠v.ownBlock):d.R e W base ok v xs:=by
 subst hx;have h1:d.R e w base (fun k=>ok k∧some k = v.ownBlock) v []:=by
  obtain ⟨h0,inner,ho,hr⟩:=h
  refine ⟨fun k hk=>⟨h0 k hk,hk.symm⟩,inner,ho,hr.1,fun i p hp=>?_⟩
  simp at hp
 exact Kd.R_mono (Kd.R_kept h1 hk (fun k h2 h3=>hne k h3 h2.2)) (fun _ h2=>h2.1)
/-- What holds of an answer, where there is one. -/
def OptAll {α:Type} (P:α → Prop) (o:Option α):Prop:=∀ r,o = some r → P r
theorem OptAll.no {α:Type} (P:α → Prop):OptAll P (none:Option α):=fun _ h=>by cases h
theorem OptAll.so {α:Type} {P:α → Prop} {r:α} (h:P r):OptAll P (some r):=fun _ e=>by cases e;exact h
theorem OptAll.bind {α β:Type} {P:β → Prop} {o:Option α} {f:α → Option β} (h:∀ t,o = some t → OptAll P (f t)):OptAll P (o.bind f):=fun r e=>by
 obtain ⟨t,h1,h2⟩:=Option.bind_eq_some_iff.1 e
 exact h t h1 r h2
theorem OptAll.ite {α:Type} {P:α → Prop} {c:Prop} [Decidable c] {a b:Option α} (h1:OptAll P a) (h2:OptAll P b):OptAll P (if c then a else b):=by
 split
 ·exact h1
 ·exact h2
theorem Soft.between {b:Nat} {P S:Nat → Prop} {E:List Nat} {ws w W:World} (h:Soft b P E ws w) (h':Soft b P E ws W) (hk:Kept w W S):Below b w W :=
 ⟨h'.below.os.trans h.below.os.symm,h'.below.tape.trans h.below.tape.symm,h'.below.output.trans h.below.output.symm,hk.1,fun k hb=>(h'.below.block k hb).trans (h.below.block k hb).symm⟩
theorem Soft.typed {b:Nat} {P:Nat → Prop} {E:List Nat} {ws w:World} (h:Soft b P E ws w) {k t:Nat} {cs:Array Value} {fr:Nat × Nat} (hb:w.heap[k]? = some (.cells cs t fr)) (ht:t ∉ E) : ¬ InRows b P E ws k:=fun hi=>by
 have hi2:=hi;obtain ⟨_,_,q,hq,cells,hc⟩:=hi;obtain ⟨cells',h1,_⟩:=h.soft k hi2 cells q hc;rw [hb] at h1
 injection h1 with h1
 injection h1 with _ h1
 subst h1
 exact ht hq
theorem blk_softS {b:Nat} {P:Nat → Prop} {E:List Nat} {ws w W:World} {g t:Nat} {cs:Array Value} {fr:Nat × Nat} (hs:Soft b P E ws w) (hb:w.heap[g]? = some (.cells cs t fr)) (hk:Kept w W (InRows b P E ws)) (ht:t ∉ E):W.heap[g]? = some (.cells cs t fr):=blk_kept hb hk (hs.typed hb ht)
theorem R_softS {α:Type} {d:Kd α} {e base b:Nat} {P:Nat → Prop} {E:List Nat} {ok:Nat → Prop} {ws w W:World} {v:Value} {xs:List α} (hs:Soft b P E ws w) (h:d.R e w base ok v xs) (hk:Kept w W (InRows b P E ws)) (ht:∀ q,q ∈ e :: d.E → q ∉ E):d.R e W base ok v xs:=by
 refine Kd.R_mono (Kd.R_kept (Kd.R_bound h) hk (fun k hk=>?_)) (fun _ hk=>hk.1)
 obtain ⟨_,_,_,q,hq,cells,hc⟩:=hk
 exact hs.typed hc (ht q hq)



end Go.Proofs.Ytogeameinakelaa.QFnExactCallsOf
