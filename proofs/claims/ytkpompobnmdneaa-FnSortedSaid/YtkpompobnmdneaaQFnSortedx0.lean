-- Written by a program of this workplace (print2.py) for this claim, over the print's words.
import Derived.Test.YtkpompobnmdneaaProg
import Derived.Below
import Derived.Deep.Draws
import Derived.Deep.AppendLies
import Derived.Maps.AppendAt
import Derived.OwnWalk
import Derived.Laws.BytesArg
import Derived.Laws.MakeOwn
import Derived.Laws.OwnMore
import Derived.Deep.OwnRows
import Derived.Tactics
import Derived.Lib.ConvBytes
import Derived.Laws.Slices
import Derived.WalkKit
import Derived.KernelRfl
import Derived.RowKit3
import Derived.Deep.LoopGhost
import Derived.Deep.QuietTactic
import Derived.BigQuiet
import Derived.WideLaws
import Derived.Deep.DeepCutAuto
import Derived.Deep.CutBlock
import Derived.Deep.RegionHeld3
import Derived.Laws.Rows
import Derived.Lib.AppendStr
import Derived.ArgAppend
import Derived.Laws.IdiomCopy
import Derived.OrdersHeld
import Derived.Laws.BitsLemmas
import Derived.RowKit
import Derived.Lib.SliceRun
import Derived.Test.YtkpompobnmdneaaWWords
import Derived.Test.YtkpompobnmdneaaWLast
import Derived.Test.YtkpompobnmdneaaWTab
import Derived.Test.YtkpompobnmdneaaWFour
import Derived.Test.YtkpompobnmdneaaWQPut
import Derived.Test.YtkpompobnmdneaaWApart
import Derived.Test.YtkpompobnmdneaaWArr
import Derived.Test.YtkpompobnmdneaaWZeros
import Derived.Test.YtkpompobnmdneaaWFoot
import Derived.Test.YtkpompobnmdneaaWKept
import Derived.Test.YtkpompobnmdneaaWShare
import Derived.Test.YtkpompobnmdneaaWN
import Derived.Test.YtkpompobnmdneaaWFootNe
import Derived.Test.YtkpompobnmdneaaWAt
import Derived.Test.YtkpompobnmdneaaWEqStruct
import Derived.Test.YtkpompobnmdneaaWRepsOne
import Derived.Test.YtkpompobnmdneaaWInv
import Derived.Test.YtkpompobnmdneaaWInvWords
import Derived.Test.YtkpompobnmdneaaWGuard
import Derived.Test.YtkpompobnmdneaaWNEv
import Derived.Test.YtkpompobnmdneaaWMore
namespace Go.Proofs.Ytkpompobnmdneaa.QFnSorted
open Go.RowKit Go.Proofs.YtkpompobnmdneaaW.PrintWords Go.Proofs.YtkpompobnmdneaaW.PrintLast Go.Proofs.YtkpompobnmdneaaW.PrintMore
attribute [local go_sem] max2_int min2_int max_two min_two max_three min_three max_four min_four   -- for this text's walks alone
set_option linter.unusedVariables false
set_option linter.unusedSimpArgs false
theorem bz {w W W':World} {g:Nat} (hg:g = W'.heap.size) (h:Aside0 (Below w.heap.size w W)) (k:Below w.heap.size w W → Below w.heap.size w W':=by intro h_;repeat (first|(with_reducible first|exact h_|apply below_alloc|apply pw_below_drewN|apply below_drew1|refine below_set ?_ (Aside0.out (by assumption)))|exact h_)):Aside0 (w.heap.size≤g):=⟨hg ▸ below_size (k h.out)⟩
theorem bq {w W W' w':World} (h:Aside0 (Below w.heap.size w W)) (hb:Below W'.heap.size W' w') (k:Below w.heap.size w W → Below w.heap.size w W':=by intro h_;repeat (first|(with_reducible first|exact h_|apply below_alloc|apply pw_below_drewN|apply below_drew1|refine below_set ?_ (Aside0.out (by assumption)))|exact h_)):Aside0 (Below w.heap.size w w'):=⟨below_step (k h.out) hb⟩
theorem bls {p q r:Prop} (e:r) (h:p) (k:r → p → q:=by intro e_ h_;repeat (first|(with_reducible first|exact h_|apply below_alloc|apply pw_below_drewN|apply below_drew1|refine below_set ?_ e_|refine below_set ?_ (Aside0.out (by assumption)))|exact h_)):q:=k e h
theorem bzs {w W W':World} {g:Nat} {r:Prop} (hg:g = W'.heap.size) (e:r) (h:Aside0 (Below w.heap.size w W)) (k:r → Below w.heap.size w W → Below w.heap.size w W':=by intro e_ h_;repeat (first|(with_reducible first|exact h_|apply below_alloc|apply pw_below_drewN|apply below_drew1|refine below_set ?_ e_|refine below_set ?_ (Aside0.out (by assumption)))|exact h_)):Aside0 (w.heap.size≤g):=⟨hg ▸ below_size (k e h.out)⟩
theorem bqs {w W W' w':World} {r:Prop} (e:r) (h:Aside0 (Below w.heap.size w W)) (hb:Below W'.heap.size W' w') (k:r → Below w.heap.size w W → Below w.heap.size w W':=by intro e_ h_;repeat (first|(with_reducible first|exact h_|apply below_alloc|apply pw_below_drewN|apply below_drew1|refine below_set ?_ e_|refine below_set ?_ (Aside0.out (by assumption)))|exact h_)):Aside0 (Below w.heap.size w w'):=⟨below_step (k e h.out) hb⟩
theorem bw {W W' w':World} {g:Nat} {o:Obj} (h:Aside0 (W.heap[g]? = some o)) (hb:Below W'.heap.size W' w') (k:W.heap[g]? = some o → W'.heap[g]? = some o:=by intro h_;(with_reducible repeat (first|refine blk_drewN ?_ _|refine blk_drew ?_|refine blk_alloc ?_ _));exact h_):Aside0 (w'.heap[g]? = some o):=⟨blk_below (k h.out) hb⟩
theorem dk {W:World} {g:Nat} {o:Obj} (h:Aside0 (W.heap[g]? = some o)):Aside0 (W.drew.heap[g]? = some o):=⟨blk_drew h.out⟩
theorem dh {b:Nat} {w W:World} (h:Aside0 (Below b w W)):Aside0 (Below b w W.drew):=⟨below_drew1 h.out⟩
theorem nl {W W':World} {g g':Nat} {o:Obj} (hg:g' = W'.heap.size) (h:Aside0 (W.heap[g]? = some o)) (k:W.heap[g]? = some o → W'.heap[g]? = some o:=by intro h_;(with_reducible repeat (first|refine blk_drewN ?_ _|refine blk_drew ?_|refine blk_alloc ?_ _));exact h_):Aside0 (g≠g'):=⟨hg ▸ Nat.ne_of_lt (blk_lt (k h.out))⟩
theorem ng {W W':World} {g g':Nat} {o:Obj} (hg:g' = W'.heap.size) (h:Aside0 (W.heap[g]? = some o)) (k:W.heap[g]? = some o → W'.heap[g]? = some o:=by intro h_;(with_reducible repeat (first|refine blk_drewN ?_ _|refine blk_drew ?_|refine blk_alloc ?_ _));exact h_):Aside0 (g'≠g):=⟨hg ▸ Nat.ne_of_gt (blk_lt (k h.out))⟩
theorem ai {p q:Prop} (a:p) (b:q):p∧q:=⟨a,b⟩
theorem kb2 {W:World} {g:Nat} {v0 v1:Value} {t:TypeId} (h:W.heap[g]? = some (.cells #[v0,v1] t (0,0))):W.cell? ⟨g,0,none⟩ = some v0∧W.cell? ⟨g,1,none⟩ = some v1:=⟨(blk_cell h 0).trans rfl,(blk_cell h 1).trans rfl⟩
theorem kz2 {W:World} {g:Nat} {v0 v1:Value} {t:TypeId} (h:W.heap[g]? = some (.cells #[v0,v1] t (0,0))):W.frozen? ⟨g,0,none⟩ = false∧W.frozen? ⟨g,1,none⟩ = false:=⟨blk_frozen h 0,blk_frozen h 1⟩
theorem kb3 {W:World} {g:Nat} {v0 v1 v2:Value} {t:TypeId} (h:W.heap[g]? = some (.cells #[v0,v1,v2] t (0,0))):W.cell? ⟨g,0,none⟩ = some v0∧W.cell? ⟨g,1,none⟩ = some v1∧W.cell? ⟨g,2,none⟩ = some v2:=⟨(blk_cell h 0).trans rfl,(blk_cell h 1).trans rfl,(blk_cell h 2).trans rfl⟩
theorem kz3 {W:World} {g:Nat} {v0 v1 v2:Value} {t:TypeId} (h:W.heap[g]? = some (.cells #[v0,v1,v2] t (0,0))):W.frozen? ⟨g,0,none⟩ = false∧W.frozen? ⟨g,1,none⟩ = false∧W.frozen? ⟨g,2,none⟩ = false:=⟨blk_frozen h 0,blk_frozen h 1,blk_frozen h 2⟩
theorem kb4 {W:World} {g:Nat} {v0 v1 v2 v3:Value} {t:TypeId} (h:W.heap[g]? = some (.cells #[v0,v1,v2,v3] t (0,0))):W.cell? ⟨g,0,none⟩ = some v0∧W.cell? ⟨g,1,none⟩ = some v1∧W.cell? ⟨g,2,none⟩ = some v2∧W.cell? ⟨g,3,none⟩ = some v3:=⟨(blk_cell h 0).trans rfl,(blk_cell h 1).trans rfl,(blk_cell h 2).trans rfl,(blk_cell h 3).trans rfl⟩
theorem kz4 {W:World} {g:Nat} {v0 v1 v2 v3:Value} {t:TypeId} (h:W.heap[g]? = some (.cells #[v0,v1,v2,v3] t (0,0))):W.frozen? ⟨g,0,none⟩ = false∧W.frozen? ⟨g,1,none⟩ = false∧W.frozen? ⟨g,2,none⟩ = false∧W.frozen? ⟨g,3,none⟩ = false:=⟨blk_frozen h 0,blk_frozen h 1,blk_frozen h 2,blk_frozen h 3⟩
theorem kb5 {W:World} {g:Nat} {v0 v1 v2 v3 v4:Value} {t:TypeId} (h:W.heap[g]? = some (.cells #[v0,v1,v2,v3,v4] t (0,0))):W.cell? ⟨g,0,none⟩ = some v0∧W.cell? ⟨g,1,none⟩ = some v1∧W.cell? ⟨g,2,none⟩ = some v2∧W.cell? ⟨g,3,none⟩ = some v3∧W.cell? ⟨g,4,none⟩ = some v4:=⟨(blk_cell h 0).trans rfl,(blk_cell h 1).trans rfl,(blk_cell h 2).trans rfl,(blk_cell h 3).trans rfl,(blk_cell h 4).trans rfl⟩
theorem kz5 {W:World} {g:Nat} {v0 v1 v2 v3 v4:Value} {t:TypeId} (h:W.heap[g]? = some (.cells #[v0,v1,v2,v3,v4] t (0,0))):W.frozen? ⟨g,0,none⟩ = false∧W.frozen? ⟨g,1,none⟩ = false∧W.frozen? ⟨g,2,none⟩ = false∧W.frozen? ⟨g,3,none⟩ = false∧W.frozen? ⟨g,4,none⟩ = false:=⟨blk_frozen h 0,blk_frozen h 1,blk_frozen h 2,blk_frozen h 3,blk_frozen h 4⟩
theorem kb6 {W:World} {g:Nat} {v0 v1 v2 v3 v4 v5:Value} {t:TypeId} (h:W.heap[g]? = some (.cells #[v0,v1,v2,v3,v4,v5] t (0,0))):W.cell? ⟨g,0,none⟩ = some v0∧W.cell? ⟨g,1,none⟩ = some v1∧W.cell? ⟨g,2,none⟩ = some v2∧W.cell? ⟨g,3,none⟩ = some v3∧W.cell? ⟨g,4,none⟩ = some v4∧W.cell? ⟨g,5,none⟩ = some v5:=⟨(blk_cell h 0).trans rfl,(blk_cell h 1).trans rfl,(blk_cell h 2).trans rfl,(blk_cell h 3).trans rfl,(blk_cell h 4).trans rfl,(blk_cell h 5).trans rfl⟩
theorem kz6 {W:World} {g:Nat} {v0 v1 v2 v3 v4 v5:Value} {t:TypeId} (h:W.heap[g]? = some (.cells #[v0,v1,v2,v3,v4,v5] t (0,0))):W.frozen? ⟨g,0,none⟩ = false∧W.frozen? ⟨g,1,none⟩ = false∧W.frozen? ⟨g,2,none⟩ = false∧W.frozen? ⟨g,3,none⟩ = false∧W.frozen? ⟨g,4,none⟩ = false∧W.frozen? ⟨g,5,none⟩ = false:=⟨blk_frozen h 0,blk_frozen h 1,blk_frozen h 2,blk_frozen h 3,blk_frozen h 4,blk_frozen h 5⟩
theorem kb7 {W:World} {g:Nat} {v0 v1 v2 v3 v4 v5 v6:Value} {t:TypeId} (h:W.heap[g]? = some (.cells #[v0,v1,v2,v3,v4,v5,v6] t (0,0))):W.cell? ⟨g,0,none⟩ = some v0∧W.cell? ⟨g,1,none⟩ = some v1∧W.cell? ⟨g,2,none⟩ = some v2∧W.cell? ⟨g,3,none⟩ = some v3∧W.cell? ⟨g,4,none⟩ = some v4∧W.cell? ⟨g,5,none⟩ = some v5∧W.cell? ⟨g,6,none⟩ = some v6:=⟨(blk_cell h 0).trans rfl,(blk_cell h 1).trans rfl,(blk_cell h 2).trans rfl,(blk_cell h 3).trans rfl,(blk_cell h 4).trans rfl,(blk_cell h 5).trans rfl,(blk_cell h 6).trans rfl⟩
theorem kz7 {W:World} {g:Nat} {v0 v1 v2 v3 v4 v5 v6:Value} {t:TypeId} (h:W.heap[g]? = some (.cells #[v0,v1,v2,v3,v4,v5,v6] t (0,0))):W.frozen? ⟨g,0,none⟩ = false∧W.frozen? ⟨g,1,none⟩ = false∧W.frozen? ⟨g,2,none⟩ = false∧W.frozen? ⟨g,3,none⟩ = false∧W.frozen? ⟨g,4,none⟩ = false∧W.frozen? ⟨g,5,none⟩ = false∧W.frozen? ⟨g,6,none⟩ = false:=⟨blk_frozen h 0,blk_frozen h 1,blk_frozen h 2,blk_frozen h 3,blk_frozen h 4,blk_frozen h 5,blk_frozen h 6⟩
theorem kb8 {W:World} {g:Nat} {v0 v1 v2 v3 v4 v5 v6 v7:Value} {t:TypeId} (h:W.heap[g]? = some (.cells #[v0,v1,v2,v3,v4,v5,v6,v7] t (0,0))):W.cell? ⟨g,0,none⟩ = some v0∧W.cell? ⟨g,1,none⟩ = some v1∧W.cell? ⟨g,2,none⟩ = some v2∧W.cell? ⟨g,3,none⟩ = some v3∧W.cell? ⟨g,4,none⟩ = some v4∧W.cell? ⟨g,5,none⟩ = some v5∧W.cell? ⟨g,6,none⟩ = some v6∧W.cell? ⟨g,7,none⟩ = some v7:=⟨(blk_cell h 0).trans rfl,(blk_cell h 1).trans rfl,(blk_cell h 2).trans rfl,(blk_cell h 3).trans rfl,(blk_cell h 4).trans rfl,(blk_cell h 5).trans rfl,(blk_cell h 6).trans rfl,(blk_cell h 7).trans rfl⟩
theorem kz8 {W:World} {g:Nat} {v0 v1 v2 v3 v4 v5 v6 v7:Value} {t:TypeId} (h:W.heap[g]? = some (.cells #[v0,v1,v2,v3,v4,v5,v6,v7] t (0,0))):W.frozen? ⟨g,0,none⟩ = false∧W.frozen? ⟨g,1,none⟩ = false∧W.frozen? ⟨g,2,none⟩ = false∧W.frozen? ⟨g,3,none⟩ = false∧W.frozen? ⟨g,4,none⟩ = false∧W.frozen? ⟨g,5,none⟩ = false∧W.frozen? ⟨g,6,none⟩ = false∧W.frozen? ⟨g,7,none⟩ = false:=⟨blk_frozen h 0,blk_frozen h 1,blk_frozen h 2,blk_frozen h 3,blk_frozen h 4,blk_frozen h 5,blk_frozen h 6,blk_frozen h 7⟩
theorem kb9 {W:World} {g:Nat} {v0 v1 v2 v3 v4 v5 v6 v7 v8:Value} {t:TypeId} (h:W.heap[g]? = some (.cells #[v0,v1,v2,v3,v4,v5,v6,v7,v8] t (0,0))):W.cell? ⟨g,0,none⟩ = some v0∧W.cell? ⟨g,1,none⟩ = some v1∧W.cell? ⟨g,2,none⟩ = some v2∧W.cell? ⟨g,3,none⟩ = some v3∧W.cell? ⟨g,4,none⟩ = some v4∧W.cell? ⟨g,5,none⟩ = some v5∧W.cell? ⟨g,6,none⟩ = some v6∧W.cell? ⟨g,7,none⟩ = some v7∧W.cell? ⟨g,8,none⟩ = some v8:=⟨(blk_cell h 0).trans rfl,(blk_cell h 1).trans rfl,(blk_cell h 2).trans rfl,(blk_cell h 3).trans rfl,(blk_cell h 4).trans rfl,(blk_cell h 5).trans rfl,(blk_cell h 6).trans rfl,(blk_cell h 7).trans rfl,(blk_cell h 8).trans rfl⟩
theorem kz9 {W:World} {g:Nat} {v0 v1 v2 v3 v4 v5 v6 v7 v8:Value} {t:TypeId} (h:W.heap[g]? = some (.cells #[v0,v1,v2,v3,v4,v5,v6,v7,v8] t (0,0))):W.frozen? ⟨g,0,none⟩ = false∧W.frozen? ⟨g,1,none⟩ = false∧W.frozen? ⟨g,2,none⟩ = false∧W.frozen? ⟨g,3,none⟩ = false∧W.frozen? ⟨g,4,none⟩ = false∧W.frozen? ⟨g,5,none⟩ = false∧W.frozen? ⟨g,6,none⟩ = false∧W.frozen? ⟨g,7,none⟩ = false∧W.frozen? ⟨g,8,none⟩ = false:=⟨blk_frozen h 0,blk_frozen h 1,blk_frozen h 2,blk_frozen h 3,blk_frozen h 4,blk_frozen h 5,blk_frozen h 6,blk_frozen h 7,blk_frozen h 8⟩
theorem tdiv_lit (b:Int):Int.tdiv 1000000000000 b = 1000000000000 / b:=Int.tdiv_eq_ediv_of_nonneg (by decide)
theorem blk_farA {w:World} {g:Nat} {t:TypeId} {cs:Array Value} {p:Addr} (hp:Aside0 (g≠p.block)) (h:w.heap[g]? = some (.cells cs t (0,0))) (u:Value):(w.setCell p u).heap[g]? = some (.cells cs t (0,0)):=blk_far h hp.out u
theorem bm {p q:Prop} (h:p) (k:p → q:=by intro h_;repeat (first|(with_reducible exact h_)|(with_reducible first|refine blk_drewN ?_ _|refine blk_drew ?_|refine blk_alloc ?_ _)|(with_reducible apply blk_farA;assumption)|exact h_)):q:=k h
theorem bmp {p q:Prop} (h:p) (k:p → q:=by intro h_;repeat (first|(with_reducible exact h_)|(with_reducible first|refine blk_drewN ?_ _|refine blk_drew ?_|refine blk_alloc ?_ _)|(with_reducible apply blk_farA;assumption)|with_reducible apply blk_put|with_reducible rfl|exact h_|rfl)):q:=k h
theorem bwm {W W' w':World} {g:Nat} {o:Obj} (h:Aside0 (W.heap[g]? = some o)) (hb:Below W'.heap.size W' w') (k:W.heap[g]? = some o → W'.heap[g]? = some o:=by intro h_;repeat (first|(with_reducible exact h_)|(with_reducible first|refine blk_drewN ?_ _|refine blk_drew ?_|refine blk_alloc ?_ _)|(with_reducible apply blk_farA;assumption)|exact h_)):Aside0 (w'.heap[g]? = some o):=⟨blk_below (k h.out) hb⟩
theorem nlm {W W':World} {g g':Nat} {o:Obj} (hg:g' = W'.heap.size) (h:Aside0 (W.heap[g]? = some o)) (k:W.heap[g]? = some o → W'.heap[g]? = some o:=by intro h_;repeat (first|(with_reducible exact h_)|(with_reducible first|refine blk_drewN ?_ _|refine blk_drew ?_|refine blk_alloc ?_ _)|(with_reducible apply blk_farA;assumption)|exact h_)):Aside0 (g≠g'):=⟨hg ▸ Nat.ne_of_lt (blk_lt (k h.out))⟩
theorem ngm {W W':World} {g g':Nat} {o:Obj} (hg:g' = W'.heap.size) (h:Aside0 (W.heap[g]? = some o)) (k:W.heap[g]? = some o → W'.heap[g]? = some o:=by intro h_;repeat (first|(with_reducible exact h_)|(with_reducible first|refine blk_drewN ?_ _|refine blk_drew ?_|refine blk_alloc ?_ _)|(with_reducible apply blk_farA;assumption)|exact h_)):Aside0 (g'≠g):=⟨hg ▸ Nat.ne_of_gt (blk_lt (k h.out))⟩
theorem ndm {p q:Prop} (h:p) (k:p → q:=by intro h_;(with_reducible repeat (first|apply Kd.N_alloc|apply Kd.N_drewN|apply Kd.N_drew));exact h_):q:=k h
theorem nfm {α:Type} {d:Kd α} {e base:Nat} {ok:Nat → Prop} {v:Value} {xs:List α} {W W':World} (h:Kd.N d e W base ok v xs) (k:Kd.N d e W base ok v xs → Kd.N d e W' base ok v xs:=by intro h_;repeat (first|(with_reducible exact h_)|(with_reducible first|apply Kd.N_alloc|apply Kd.N_drewN|apply Kd.N_drew)|((with_reducible refine Kd.N_far ?_ ?hq _);(case hq=>first|exact fun _ hk=>hk.2|exact fun _ hk=>hk.1.2|exact fun _ hk=>hk.1.1.2|exact fun _ hk=>hk.1.1.1.2))|exact h_)):Kd.N d e W' base ok v xs:=k h
theorem nbm {α:Type} {d:Kd α} {e base:Nat} {ok:Nat → Prop} {v:Value} {xs:List α} {W W' w':World} {g:Nat} (h:Aside0 (Kd.N d e W base ok v xs)) (hg:g = W'.heap.size) (hb:Below W'.heap.size W' w') (k:Kd.N d e W base ok v xs → Kd.N d e W' base ok v xs:=by intro h_;(with_reducible repeat (first|apply Kd.N_alloc|apply Kd.N_drewN|apply Kd.N_drew));exact h_):Aside0 (Kd.N d e w' base (fun k=>ok k∧k≠g) v xs):=⟨Kd.N_below (Kd.N_elderB (k h.out) g (Nat.le_of_eq hg.symm)) hb⟩
theorem nwm {α:Type} {d:Kd α} {e base:Nat} {ok:Nat → Prop} {v:Value} {xs:List α} {W W' w':World} (h:Aside0 (Kd.N d e W base ok v xs)) (hb:Below W'.heap.size W' w') (k:Kd.N d e W base ok v xs → Kd.N d e W' base ok v xs:=by intro h_;(with_reducible repeat (first|apply Kd.N_alloc|apply Kd.N_drewN|apply Kd.N_drew));exact h_):Aside0 (Kd.N d e w' base ok v xs):=⟨Kd.N_below (k h.out) hb⟩
theorem sdm {p q:Prop} (h:p) (k:p → q:=by intro h_;(with_reducible repeat (first|apply Kd.S_alloc|apply Kd.S_drewN|apply Kd.S_drew));exact h_):q:=k h
theorem sfm {α:Type} {d:Kd α} {e base:Nat} {ok:Nat → Prop} {v:Value} {xs:List α} {W W':World} (h:Kd.S d e W base ok v xs) (k:Kd.S d e W base ok v xs → Kd.S d e W' base ok v xs:=by intro h_;repeat (first|(with_reducible exact h_)|(with_reducible first|apply Kd.S_alloc|apply Kd.S_drewN|apply Kd.S_drew)|((with_reducible refine Kd.S_far ?_ ?hq _);(case hq=>first|exact fun _ hk=>hk.2|exact fun _ hk=>hk.1.2|exact fun _ hk=>hk.1.1.2|exact fun _ hk=>hk.1.1.1.2))|exact h_)):Kd.S d e W' base ok v xs:=k h
theorem sbm {α:Type} {d:Kd α} {e base:Nat} {ok:Nat → Prop} {v:Value} {xs:List α} {W W' w':World} {g:Nat} (h:Aside0 (Kd.S d e W base ok v xs)) (hg:g = W'.heap.size) (hb:Below W'.heap.size W' w') (k:Kd.S d e W base ok v xs → Kd.S d e W' base ok v xs:=by intro h_;(with_reducible repeat (first|apply Kd.S_alloc|apply Kd.S_drewN|apply Kd.S_drew));exact h_):Aside0 (Kd.S d e w' base (fun k=>ok k∧k≠g) v xs):=⟨Kd.S_below (Kd.S_elderB (k h.out) g (Nat.le_of_eq hg.symm)) hb⟩
theorem swm {α:Type} {d:Kd α} {e base:Nat} {ok:Nat → Prop} {v:Value} {xs:List α} {W W' w':World} (h:Aside0 (Kd.S d e W base ok v xs)) (hb:Below W'.heap.size W' w') (k:Kd.S d e W base ok v xs → Kd.S d e W' base ok v xs:=by intro h_;(with_reducible repeat (first|apply Kd.S_alloc|apply Kd.S_drewN|apply Kd.S_drew));exact h_):Aside0 (Kd.S d e w' base ok v xs):=⟨Kd.S_below (k h.out) hb⟩
theorem vdm {p q:Prop} (h:p) (k:p → q:=by intro h_;(with_reducible repeat (first|apply Kd.V_alloc|apply Kd.V_drewN|apply Kd.V_drew));exact h_):q:=k h
theorem vfm {α:Type} {d:Kd α} {e base:Nat} {ok:Nat → Prop} {v:Value} {xs:List α} {W W':World} (h:Kd.V d e W base ok v xs) (k:Kd.V d e W base ok v xs → Kd.V d e W' base ok v xs:=by intro h_;repeat (first|(with_reducible exact h_)|(with_reducible first|apply Kd.V_alloc|apply Kd.V_drewN|apply Kd.V_drew)|((with_reducible refine Kd.V_far ?_ ?hq _);(case hq=>first|exact fun _ hk=>hk.2|exact fun _ hk=>hk.1.2|exact fun _ hk=>hk.1.1.2|exact fun _ hk=>hk.1.1.1.2))|exact h_)):Kd.V d e W' base ok v xs:=k h
theorem vbm {α:Type} {d:Kd α} {e base:Nat} {ok:Nat → Prop} {v:Value} {xs:List α} {W W' w':World} {g:Nat} (h:Aside0 (Kd.V d e W base ok v xs)) (hg:g = W'.heap.size) (hb:Below W'.heap.size W' w') (k:Kd.V d e W base ok v xs → Kd.V d e W' base ok v xs:=by intro h_;(with_reducible repeat (first|apply Kd.V_alloc|apply Kd.V_drewN|apply Kd.V_drew));exact h_):Aside0 (Kd.V d e w' base (fun k=>ok k∧k≠g) v xs):=⟨Kd.V_below (Kd.V_elderB (k h.out) g (Nat.le_of_eq hg.symm)) hb⟩
theorem vwm {α:Type} {d:Kd α} {e base:Nat} {ok:Nat → Prop} {v:Value} {xs:List α} {W W' w':World} (h:Aside0 (Kd.V d e W base ok v xs)) (hb:Below W'.heap.size W' w') (k:Kd.V d e W base ok v xs → Kd.V d e W' base ok v xs:=by intro h_;(with_reducible repeat (first|apply Kd.V_alloc|apply Kd.V_drewN|apply Kd.V_drew));exact h_):Aside0 (Kd.V d e w' base ok v xs):=⟨Kd.V_below (k h.out) hb⟩
theorem rdm {p q:Prop} (h:p) (k:p → q:=by intro h_;(with_reducible repeat (first|apply Kd.R_alloc|apply Kd.R_drewN|apply Kd.R_drew));exact h_):q:=k h
theorem rfm {α:Type} {d:Kd α} {e base:Nat} {ok:Nat → Prop} {v:Value} {xs:List α} {W W':World} (h:d.R e W base ok v xs) (k:d.R e W base ok v xs → d.R e W' base ok v xs:=by intro h_;repeat (first|(with_reducible exact h_)|(with_reducible first|apply Kd.R_alloc|apply Kd.R_drewN|apply Kd.R_drew)|((with_reducible refine Kd.R_far ?_ ?hq _);(case hq=>first|exact fun _ hk=>hk.2|exact fun _ hk=>hk.1.2|exact fun _ hk=>hk.1.1.2|exact fun _ hk=>hk.1.1.1.2))|exact h_)):d.R e W' base ok v xs:=k h
theorem rbm {α:Type} {d:Kd α} {e base:Nat} {ok:Nat → Prop} {v:Value} {xs:List α} {W W' w':World} {g:Nat} (h:Aside0 (d.R e W base ok v xs)) (hg:g = W'.heap.size) (hb:Below W'.heap.size W' w') (k:d.R e W base ok v xs → d.R e W' base ok v xs:=by intro h_;(with_reducible repeat (first|apply Kd.R_alloc|apply Kd.R_drewN|apply Kd.R_drew));exact h_):Aside0 (d.R e w' base (fun k=>ok k∧k≠g) v xs):=⟨Kd.R_below (Kd.R_elderB (k h.out) g (Nat.le_of_eq hg.symm)) hb⟩
theorem rwm {α:Type} {d:Kd α} {e base:Nat} {ok:Nat → Prop} {v:Value} {xs:List α} {W W' w':World} (h:Aside0 (d.R e W base ok v xs)) (hb:Below W'.heap.size W' w') (k:d.R e W base ok v xs → d.R e W' base ok v xs:=by intro h_;(with_reducible repeat (first|apply Kd.R_alloc|apply Kd.R_drewN|apply Kd.R_drew));exact h_):Aside0 (d.R e w' base ok v xs):=⟨Kd.R_below (k h.out) hb⟩
theorem cl {p:Prop} (h:p:=by first|rfl|(simp [*,errW_none,errW_some] <;> rfl)):p:=h
theorem cl2 {p:Prop} (h:p:=by first|rfl|(simp;done)|(simp [*];done)):p:=h
theorem bl {p q:Prop} (h:p) (k:p → q:=by intro h_;repeat (first|(with_reducible first|exact h_|apply below_alloc|apply pw_below_drewN|apply below_drew1|refine below_set ?_ (Aside0.out (by assumption)))|exact h_)):q:=k h
theorem bk {p q:Prop} (h:p) (k:p → q:=by intro h_;(with_reducible repeat (first|refine blk_drewN ?_ _|refine blk_drew ?_|refine blk_alloc ?_ _));exact h_):q:=k h
theorem ck {p q:Prop} (h:p) (k:p → q:=by intro h_;repeat (first|exact h_|(with_reducible refine Kd.C_alloc ?_ _)|(with_reducible refine Kd.C_drewN ?_ _)|(with_reducible refine Kd.C_drew ?_))):q:=k h
theorem rk {p q:Prop} (h:p) (k:p → q:=by intro h_;(with_reducible repeat (first|apply Kd.R_alloc|apply Kd.R_drewN|apply Kd.R_drew));exact h_):q:=k h
theorem cb {w W:World} {p:Addr} {v:Value} (HB:Aside0 (Below w.heap.size w W)) (h:w.cell? p = some v):W.cell? p = some v:=(HB.out.cell (World.block_lt_of_cell? w _ h)).trans h
theorem gs {p:Prop} (h:p:=by (try simp only [List.map_toArray,List.map_cons,List.map_nil]);first|done|rfl|(simp only [List.length_drop,List.length_take];rfl)):p:=h
theorem od {p:Prop} [Decidable p] (h:decide p = true:=by first|(with_reducible assumption)|assumption):p:=of_decide_eq_true h
theorem bc {W:World} {g:Nat} {cs:Array Value} {t:TypeId} (h:W.heap[g]? = some (.cells cs t (0,0))) (i:Nat) {v:Value} (hv:cs.toList[i]? = some v:=by exact rfl):W.cell? ⟨g,i,none⟩ = some v:=(blk_cell h i).trans (by simpa using hv)
section
variable {P:Program} {ops:Array Oper} {Q:Exit → Act → World → Prop} {md:Region.Mode} {S:World → Prop} {ds:List Nat}
theorem pu (i N:Nat) {T:Bool × List (List Nat × List Nat)} {oi:Oper} {v:Value} {fuel:Nat} {l:Array Bool} {a a':Act} {w:World} (h:wpAnyLast P md ops Q S ds fuel (l.setIfInBounds i true) a' w)
  (hT:Aside0 (rtab md ops = T):=by assumption) (hi:ops[i]? = some oi:=by rfl) (hN:oi.dst = some N:=by rfl) (hc:anyT T l.toList (l.setIfInBounds i true).toList i = true:=by kernel_rfl)
  (hy:Yields P ops oi v a:=by first|exact Or.inr ⟨by rfl,rfl⟩|exact Or.inl ⟨by rfl,by intro w';go_simp;with_reducible rfl⟩)
  (ha:a.put (some N) v = a':=by simp only [Act.put,List.setIfInBounds_toArray,List.set_cons_zero,List.set_cons_succ,i64_w,i32_w];rfl)
  (hQ:∀ c a w,Q (.panic c) (a.put oi.dst v) w → Q (.panic c) a w:=by exact fun _ _ _ h=>h):wpAnyLast P md ops Q S ds (fuel + 1) l a w :=
 pure_ (l.setIfInBounds i true) hi hN (any_of hT.out hc) hQ hy ha h
theorem ta (i N:Nat) {T:Bool × List (List Nat × List Nat)} {B:List Nat} {oi:Oper} {v:Value} {fuel:Nat} {l:Array Bool} {a a':Act} {w:World} (hS:S w) (h:wpAnyLast P md ops Q S ds fuel (l.setIfInBounds i true) a' w)
  (hT:Aside0 (rtab md ops = T):=by assumption) (hB:Aside0 (waitsOk T.2 B = true):=by assumption) (hi:ops[i]? = some oi:=by rfl) (hN:oi.dst = some N:=by rfl) (hc:takeW T B ds l.toList (l.setIfInBounds i true).toList i = true:=by kernel_rfl)
  (hy:YieldsIf P ops S oi v a:=by exact Or.inl ⟨by rfl,by intro w' hs_;(try simp only [] at hs_);go_simp;with_reducible rfl⟩)
  (ha:a.put (some N) v = a':=by simp only [Act.put,List.setIfInBounds_toArray,List.set_cons_zero,List.set_cons_succ,i64_w,i32_w];rfl)
  (hQ:∀ c a w,Q (.panic c) (a.put oi.dst v) w → Q (.panic c) a w:=by exact fun _ _ _ h=>h):wpAnyLast P md ops Q S ds (fuel + 1) l a w :=
 take_ (l.setIfInBounds i true) hi hN (take_ofW hT.out hB.out hc) hQ hy hS ha h
end



def errW:Option Int → Value
 | none=>.nilIface
 | some c=>.iface 0 (.int .i64 c)
theorem errW_none:errW none = .nilIface:=rfl
theorem errW_some (c:Int):errW (some c) = .iface 0 (.int .i64 c):=rfl

theorem info3:(Try.prog.info? 3).map (fun i=>(i.zero,i.size,i.bytes)) = some (some (.int .i64 0),1,8):=by kernel_rfl
theorem info9:(Try.prog.info? 9).map (fun i=>(i.zero,i.size,i.bytes)) = some (some (.string ⟨#[]⟩),1,16):=by kernel_rfl
theorem info30:(Try.prog.info? 30).map (fun i=>(i.zero,i.size,i.bytes)) = some (some (.agg #[(.int .i64 0),(.int .i64 0),(.string ⟨#[]⟩),(.slice none 0 0)]),4,56):=by kernel_rfl
-- the values' own types
/-! #### struct type 30, nested in itself -/
structure S30 where
 f0:Int
 f1:Int
 f2:ByteArray
 f3:(List S30)
def z30:S30:=⟨(0:Int),(0:Int),(⟨#[]⟩:ByteArray),([]:List S30)⟩
def F30 (d:Kd S30):Kd S30:=Kd.iso (Kd.pair (Kd.int .i64) (Kd.pair (Kd.int .i64) (Kd.pair Kd.string (Kd.slice 30 d)))) (fun x:S30=>(x.f0,x.f1,x.f2,x.f3))
theorem mono30:Kd.Mono F30:=Kd.mono_iso _ (Kd.mono_pair (Kd.mono_const _) (Kd.mono_pair (Kd.mono_const _) (Kd.mono_pair (Kd.mono_const _) (Kd.mono_slice 30 Kd.mono_id))))
theorem sub30:Kd.Sub F30 [30]:=Kd.sub_iso _ (Kd.sub_pair (Kd.sub_const _ (by decide)) (Kd.sub_pair (Kd.sub_const _ (by decide)) (Kd.sub_pair (Kd.sub_const _ (by decide)) (Kd.sub_slice 30 (by decide) Kd.sub_id))))
theorem sz30:∀ n,(Kd.upto F30 4 [30] n).sz = 4:=Kd.upto_sz (fun _=>rfl)
def k30:Kd S30:=Kd.fix F30 4 [30] sz30 (Kd.upto_E sub30)
theorem k30_open {w:World} {x:S30} {cs:List Value} (h:k30.K w x cs):∃ A3 c3,cs = [.int .i64 x.f0,.int .i64 x.f1,.string x.f2,.slice A3 x.f3.length c3]∧x.f3.length≤c3∧k30.C w A3 x.f3.length x.f3:=by
 obtain ⟨n,h⟩:=h
 cases n with
 | zero=>exact h.elim
 | succ n =>
  obtain ⟨_,_,rfl,rfl,⟨_,_,rfl,rfl,⟨_,_,rfl,rfl,⟨A3,c3,rfl,l3,g3⟩⟩⟩⟩:=h
  exact ⟨A3,c3,rfl,l3,Kd.fix_C g3⟩
theorem k30_openM {w:World} {base:Nat} {ok:Nat → Prop} {x:S30} {cs:List Value} (h:k30.M w base ok x cs):∃ v3,cs = [.int .i64 x.f0,.int .i64 x.f1,.string x.f2,v3]∧k30.R 30 w base ok v3 x.f3:=by
 obtain ⟨n,h⟩:=h
 cases n with
 | zero=>exact h.elim
 | succ n =>
  obtain ⟨_,_,rfl,rfl,⟨_,_,rfl,rfl,⟨_,_,rfl,rfl,⟨v3,rfl,g3⟩⟩⟩⟩:=h
  exact ⟨v3,rfl,Kd.fix_R g3⟩
theorem k30_mk (w:World) (x:S30) {A3:Option Addr} {c3:Nat} (l3:x.f3.length≤c3) (g3:k30.C w A3 x.f3.length x.f3):k30.K w x [.int .i64 x.f0,.int .i64 x.f1,.string x.f2,.slice A3 x.f3.length c3]:=by
 obtain ⟨n3,q3⟩:=Kd.fix_C_back mono30 g3;have r3:=Kd.upto_C_le mono30 sz30 (show n3≤n3 by omega) q3
 exact ⟨n3 + 1,⟨[.int .i64 x.f0],[.int .i64 x.f1,.string x.f2,.slice A3 x.f3.length c3],rfl,rfl,⟨[.int .i64 x.f1],[.string x.f2,.slice A3 x.f3.length c3],rfl,rfl,⟨[.string x.f2],[.slice A3 x.f3.length c3],rfl,rfl,⟨A3,c3,rfl,l3,r3⟩⟩⟩⟩⟩
theorem k30_mkM (w:World) (base:Nat) (ok:Nat → Prop) (x:S30) {v3:Value} (g3:k30.R 30 w base ok v3 x.f3):k30.M w base ok x [.int .i64 x.f0,.int .i64 x.f1,.string x.f2,v3]:=by
 obtain ⟨n3,q3⟩:=Kd.fix_R_back mono30 g3;have r3:=Kd.upto_R_le mono30 sz30 (show n3≤n3 by omega) q3
 exact ⟨n3 + 1,⟨[.int .i64 x.f0],[.int .i64 x.f1,.string x.f2,v3],rfl,rfl,⟨[.int .i64 x.f1],[.string x.f2,v3],rfl,rfl,⟨[.string x.f2],[v3],rfl,rfl,⟨v3,rfl,r3⟩⟩⟩⟩⟩
theorem k30_openF {W:World} {ok:Nat → Prop} {x:S30} {cs:List Value} (h:Kd.FK k30 W ok x cs):∃ A3 c3,cs = [.int .i64 x.f0,.int .i64 x.f1,.string x.f2,.slice A3 x.f3.length c3]∧x.f3.length≤c3∧Kd.F k30 W ok A3 x.f3.length x.f3:=by
 obtain ⟨A3,c3,rfl,l3,_⟩:=k30_open (Kd.FK_now h)
 exact ⟨A3,c3,rfl,l3,(fun W' hW=>by obtain ⟨A3_,c3_,he,l3_,g3_⟩:=k30_open (h W' hW);injection (Option.some.inj (show some (Value.slice A3 x.f3.length c3) = some (Value.slice A3_ x.f3.length c3_) from congrArg (fun l=>l[3]?) he)) with ha_ _ _;rw [ha_];exact g3_)⟩
theorem k30_mkF (W:World) (ok:Nat → Prop) (x:S30) {A3:Option Addr} {c3:Nat} (l3:x.f3.length≤c3) (g3:Kd.F k30 W ok A3 x.f3.length x.f3):Kd.FK k30 W ok x [.int .i64 x.f0,.int .i64 x.f1,.string x.f2,.slice A3 x.f3.length c3]:=fun W2 hW=>k30_mk W2 x l3 (g3 W2 hW)
def rd_T30 (xs:List S30) (i:Int):S30:=xs.getD i.toNat z30
theorem at_T30 {w:World} {A:Option Addr} {n:Nat} {xs:List S30} (h:Kd.C k30 w A n xs) (i:Int) (h0:0≤i) (h1:i < n):∃ ad A3 c3,A = some ad∧w.cell? (ad.add (i.toNat * 4)) = some (.int .i64 (rd_T30 xs i).f0)∧w.cell? ⟨(ad.add (i.toNat * 4)).block,(ad.add (i.toNat * 4)).off + 1,none⟩ = some (.int .i64 (rd_T30 xs i).f1)∧w.cell? ⟨(ad.add (i.toNat * 4)).block,(ad.add (i.toNat * 4)).off + 2,none⟩ = some (.string (rd_T30 xs i).f2)∧w.cell? ⟨(ad.add (i.toNat * 4)).block,(ad.add (i.toNat * 4)).off + 3,none⟩ = some (.slice A3 (rd_T30 xs i).f3.length c3)∧(rd_T30 xs i).f3.length≤c3∧k30.C w A3 (rd_T30 xs i).f3.length (rd_T30 xs i).f3:=by
 obtain ⟨ad,c,e,_,hK,hc0⟩:=Kd.C_get h z30 i h0 h1;have hc:∀ j u,c[j]? = some u → w.cell? (ad.add (i.toNat * 4 + j)) = some u:=hc0;obtain ⟨A3,c3,rfl,l3,g3⟩:=k30_open hK
 exact ⟨ad,A3,c3,e,hc 0 _ rfl,by rw [← add_field _ _ 1 (by omega)];exact hc 1 _ rfl,by rw [← add_field _ _ 2 (by omega)];exact hc 2 _ rfl,by rw [← add_field _ _ 3 (by omega)];exact hc 3 _ rfl,l3,g3⟩

def rd_L4 (xs:List (List S30)) (i:Int):(List S30):=xs.getD i.toNat ([]:List S30)
theorem at_L4 {w:World} {A:Option Addr} {n:Nat} {xs:List (List S30)} (h:Kd.C (Kd.slice 30 k30) w A n xs) (i:Int) (h0:0≤i) (h1:i < n):∃ ad A0 c0,A = some ad∧w.cell? (ad.add i.toNat) = some (.slice A0 (rd_L4 xs i).length c0)∧(rd_L4 xs i).length≤c0∧k30.C w A0 (rd_L4 xs i).length (rd_L4 xs i):=by
 obtain ⟨ad,c,e,_,hK,hc0⟩:=Kd.C_get h ([]:List S30) i h0 h1;have hc:∀ j u,c[j]? = some u → w.cell? (ad.add (i.toNat * 1 + j)) = some u:=hc0;obtain ⟨A0,c0,rfl,l0,g0⟩:=hK
 exact ⟨ad,A0,c0,e,by have hq:=hc 0 _ rfl;rwa [Nat.mul_one,Nat.add_zero] at hq,l0,g0⟩


theorem isEmpty_ne (l:List UInt8):(!l.isEmpty) = (l != []):=by cases l <;> rfl
theorem isEmpty_be (l:List UInt8):l.isEmpty = (l == []):=by cases l <;> rfl


theorem bl_gt:∀ x y:List UInt8,(!(Op.bytesLess x y || x == y)) = Op.bytesLess y x
 | [],[]=>rfl
 | [],_ :: _=>rfl
 | _ :: _,[]=>rfl
 | a :: x,b :: y=>by
  have ih:=bl_gt x y;rw [Op.bytesLess,Op.bytesLess,← ih]
  rcases Nat.lt_trichotomy a.toNat b.toNat with h|h|h
  ·have h1:a < b:=UInt8.lt_iff_toNat_lt.2 h
   have h2 : ¬ b < a:=fun e=>by have:=UInt8.lt_iff_toNat_lt.1 e;omega
   have h3:(b == a) = false:=by rw [beq_eq_false_iff_ne];intro e;rw [e] at h;omega
   simp [h1,h2,h3]
  ·have e:a = b:=UInt8.toNat_inj.1 h
   subst e;have h1 : ¬ a < a:=fun e=>by have:=UInt8.lt_iff_toNat_lt.1 e;omega
   simp [h1]
  ·have h1:b < a:=UInt8.lt_iff_toNat_lt.2 h
   have h2 : ¬ a < b:=fun e=>by have:=UInt8.lt_iff_toNat_lt.1 e;omega
   have h3:(a == b) = false:=by rw [beq_eq_false_iff_ne];intro e;rw [e] at h;omega
   simp [h1,h2,h3]
theorem binOp_string_gtr (t:TypeId) (a b:ByteArray):binOp .gtr t (.string a) (.string b) = pure (.bool (Op.bytesLess b.toList a.toList)):=by
 rw [← bl_gt]
 simp [binOp,Op.stringOp]




end Go.Proofs.Ytkpompobnmdneaa.QFnSorted
