-- Written by a program of this workplace (print2.py) for this claim, over the print's words.
import Derived.Test.YtefkjmkmojmllaaProg
import Derived.Below
import Derived.Deep.Draws
import Derived.Deep.AppendLies
import Derived.Maps.AppendAt
import Derived.OwnWalk
import Derived.Laws.BytesArg
import Derived.Laws.MakeOwn
import Derived.Laws.OwnMore
import Derived.Deep.OwnRows
import Derived.Tactics
import Derived.Lib.ConvBytes
import Derived.Laws.Slices
import Derived.WalkKit
import Derived.KernelRfl
import Derived.RowKit3
import Derived.Deep.LoopGhost
import Derived.Deep.QuietTactic
import Derived.BigQuiet
import Derived.WideLaws
import Derived.Deep.DeepCutAuto
import Derived.Deep.CutBlock
import Derived.Deep.RegionHeld3
import Derived.Laws.Rows
import Derived.Lib.AppendStr
import Derived.ArgAppend
import Derived.Laws.IdiomCopy
import Derived.OrdersHeld
import Derived.Laws.BitsLemmas
import Derived.RowKit
import Derived.Lib.SliceRun
import Derived.Test.YtefkjmkmojmllaaWWords
import Derived.Test.YtefkjmkmojmllaaWLast
import Derived.Test.YtefkjmkmojmllaaWTab
import Derived.Test.YtefkjmkmojmllaaWFour
import Derived.Test.YtefkjmkmojmllaaWQPut
import Derived.Test.YtefkjmkmojmllaaWApart
import Derived.Test.YtefkjmkmojmllaaWArr
import Derived.Test.YtefkjmkmojmllaaWZeros
import Derived.Test.YtefkjmkmojmllaaWFoot
import Derived.Test.YtefkjmkmojmllaaWKept
import Derived.Test.YtefkjmkmojmllaaWShare
import Derived.Test.YtefkjmkmojmllaaWN
import Derived.Test.YtefkjmkmojmllaaWFootNe
import Derived.Test.YtefkjmkmojmllaaWAt
import Derived.Test.YtefkjmkmojmllaaWEqStruct
import Derived.Test.YtefkjmkmojmllaaWRepsOne
import Derived.Test.YtefkjmkmojmllaaWInv
import Derived.Test.YtefkjmkmojmllaaWInvWords
import Derived.Test.YtefkjmkmojmllaaWGuard
import Derived.Test.YtefkjmkmojmllaaWNEv
import Derived.Test.YtefkjmkmojmllaaWMore
namespace Go.Proofs.Ytefkjmkmojmllaa.QFnExactGetTerm
open Go.RowKit Go.Proofs.YtefkjmkmojmllaaW.PrintWords Go.Proofs.YtefkjmkmojmllaaW.PrintLast Go.Proofs.YtefkjmkmojmllaaW.PrintMore
attribute [local go_sem] max2_int min2_int max_two min_two max_three min_three max_four min_four   -- for this text's walks alone
set_option linter.unusedVariables false
set_option linter.unusedSimpArgs false
theorem bz {w W W':World} {g:Nat} (hg:g = W'.heap.size) (h:Aside0 (Below w.heap.size w W)) (k:Below w.heap.size w W → Below w.heap.size w W':=by intro h_;repeat (first|(with_reducible first|exact h_|apply below_alloc|apply pw_below_drewN|apply below_drew1|refine below_set ?_ (Aside0.out (by assumption)))|exact h_)):Aside0 (w.heap.size≤g):=⟨hg ▸ below_size (k h.out)⟩
theorem bq {w W W' w':World} (h:Aside0 (Below w.heap.size w W)) (hb:Below W'.heap.size W' w') (k:Below w.heap.size w W → Below w.heap.size w W':=by intro h_;repeat (first|(with_reducible first|exact h_|apply below_alloc|apply pw_below_drewN|apply below_drew1|refine below_set ?_ (Aside0.out (by assumption)))|exact h_)):Aside0 (Below w.heap.size w w'):=⟨below_step (k h.out) hb⟩
theorem bls {p q r:Prop} (e:r) (h:p) (k:r → p → q:=by intro e_ h_;repeat (first|(with_reducible first|exact h_|apply below_alloc|apply pw_below_drewN|apply below_drew1|refine below_set ?_ e_|refine below_set ?_ (Aside0.out (by assumption)))|exact h_)):q:=k e h
theorem bzs {w W W':World} {g:Nat} {r:Prop} (hg:g = W'.heap.size) (e:r) (h:Aside0 (Below w.heap.size w W)) (k:r → Below w.heap.size w W → Below w.heap.size w W':=by intro e_ h_;repeat (first|(with_reducible first|exact h_|apply below_alloc|apply pw_below_drewN|apply below_drew1|refine below_set ?_ e_|refine below_set ?_ (Aside0.out (by assumption)))|exact h_)):Aside0 (w.heap.size≤g):=⟨hg ▸ below_size (k e h.out)⟩
theorem bqs {w W W' w':World} {r:Prop} (e:r) (h:Aside0 (Below w.heap.size w W)) (hb:Below W'.heap.size W' w') (k:r → Below w.heap.size w W → Below w.heap.size w W':=by intro e_ h_;repeat (first|(with_reducible first|exact h_|apply below_alloc|apply pw_below_drewN|apply below_drew1|refine below_set ?_ e_|refine below_set ?_ (Aside0.out (by assumption)))|exact h_)):Aside0 (Below w.heap.size w w'):=⟨below_step (k e h.out) hb⟩
theorem bw {W W' w':World} {g:Nat} {o:Obj} (h:Aside0 (W.heap[g]? = some o)) (hb:Below W'.heap.size W' w') (k:W.heap[g]? = some o → W'.heap[g]? = some o:=by intro h_;(with_reducible repeat (first|refine blk_drewN ?_ _|refine blk_drew ?_|refine blk_alloc ?_ _));exact h_):Aside0 (w'.heap[g]? = some o):=⟨blk_below (k h.out) hb⟩
theorem dk {W:World} {g:Nat} {o:Obj} (h:Aside0 (W.heap[g]? = some o)):Aside0 (W.drew.heap[g]? = some o):=⟨blk_drew h.out⟩
theorem dh {b:Nat} {w W:World} (h:Aside0 (Below b w W)):Aside0 (Below b w W.drew):=⟨below_drew1 h.out⟩
theorem nl {W W':World} {g g':Nat} {o:Obj} (hg:g' = W'.heap.size) (h:Aside0 (W.heap[g]? = some o)) (k:W.heap[g]? = some o → W'.heap[g]? = some o:=by intro h_;(with_reducible repeat (first|refine blk_drewN ?_ _|refine blk_drew ?_|refine blk_alloc ?_ _));exact h_):Aside0 (g≠g'):=⟨hg ▸ Nat.ne_of_lt (blk_lt (k h.out))⟩
theorem ng {W W':World} {g g':Nat} {o:Obj} (hg:g' = W'.heap.size) (h:Aside0 (W.heap[g]? = some o)) (k:W.heap[g]? = some o → W'.heap[g]? = some o:=by intro h_;(with_reducible repeat (first|refine blk_drewN ?_ _|refine blk_drew ?_|refine blk_alloc ?_ _));exact h_):Aside0 (g'≠g):=⟨hg ▸ Nat.ne_of_gt (blk_lt (k h.out))⟩
theorem ai {p q:Prop} (a:p) (b:q):p∧q:=⟨a,b⟩
theorem kb2 {W:World} {g:Nat} {v0 v1:Value} {t:TypeId} (h:W.heap[g]? = some (.cells #[v0,v1] t (0,0))):W.cell? ⟨g,0,none⟩ = some v0∧W.cell? ⟨g,1,none⟩ = some v1:=⟨(blk_cell h 0).trans rfl,(blk_cell h 1).trans rfl⟩
theorem kz2 {W:World} {g:Nat} {v0 v1:Value} {t:TypeId} (h:W.heap[g]? = some (.cells #[v0,v1] t (0,0))):W.frozen? ⟨g,0,none⟩ = false∧W.frozen? ⟨g,1,none⟩ = false:=⟨blk_frozen h 0,blk_frozen h 1⟩
theorem kb3 {W:World} {g:Nat} {v0 v1 v2:Value} {t:TypeId} (h:W.heap[g]? = some (.cells #[v0,v1,v2] t (0,0))):W.cell? ⟨g,0,none⟩ = some v0∧W.cell? ⟨g,1,none⟩ = some v1∧W.cell? ⟨g,2,none⟩ = some v2:=⟨(blk_cell h 0).trans rfl,(blk_cell h 1).trans rfl,(blk_cell h 2).trans rfl⟩
theorem kz3 {W:World} {g:Nat} {v0 v1 v2:Value} {t:TypeId} (h:W.heap[g]? = some (.cells #[v0,v1,v2] t (0,0))):W.frozen? ⟨g,0,none⟩ = false∧W.frozen? ⟨g,1,none⟩ = false∧W.frozen? ⟨g,2,none⟩ = false:=⟨blk_frozen h 0,blk_frozen h 1,blk_frozen h 2⟩
theorem kb4 {W:World} {g:Nat} {v0 v1 v2 v3:Value} {t:TypeId} (h:W.heap[g]? = some (.cells #[v0,v1,v2,v3] t (0,0))):W.cell? ⟨g,0,none⟩ = some v0∧W.cell? ⟨g,1,none⟩ = some v1∧W.cell? ⟨g,2,none⟩ = some v2∧W.cell? ⟨g,3,none⟩ = some v3:=⟨(blk_cell h 0).trans rfl,(blk_cell h 1).trans rfl,(blk_cell h 2).trans rfl,(blk_cell h 3).trans rfl⟩
theorem kz4 {W:World} {g:Nat} {v0 v1 v2 v3:Value} {t:TypeId} (h:W.heap[g]? = some (.cells #[v0,v1,v2,v3] t (0,0))):W.frozen? ⟨g,0,none⟩ = false∧W.frozen? ⟨g,1,none⟩ = false∧W.frozen? ⟨g,2,none⟩ = false∧W.frozen? ⟨g,3,none⟩ = false:=⟨blk_frozen h 0,blk_frozen h 1,blk_frozen h 2,blk_frozen h 3⟩
theorem kb5 {W:World} {g:Nat} {v0 v1 v2 v3 v4:Value} {t:TypeId} (h:W.heap[g]? = some (.cells #[v0,v1,v2,v3,v4] t (0,0))):W.cell? ⟨g,0,none⟩ = some v0∧W.cell? ⟨g,1,none⟩ = some v1∧W.cell? ⟨g,2,none⟩ = some v2∧W.cell? ⟨g,3,none⟩ = some v3∧W.cell? ⟨g,4,none⟩ = some v4:=⟨(blk_cell h 0).trans rfl,(blk_cell h 1).trans rfl,(blk_cell h 2).trans rfl,(blk_cell h 3).trans rfl,(blk_cell h 4).trans rfl⟩
theorem kz5 {W:World} {g:Nat} {v0 v1 v2 v3 v4:Value} {t:TypeId} (h:W.heap[g]? = some (.cells #[v0,v1,v2,v3,v4] t (0,0))):W.frozen? ⟨g,0,none⟩ = false∧W.frozen? ⟨g,1,none⟩ = false∧W.frozen? ⟨g,2,none⟩ = false∧W.frozen? ⟨g,3,none⟩ = false∧W.frozen? ⟨g,4,none⟩ = false:=⟨blk_frozen h 0,blk_frozen h 1,blk_frozen h 2,blk_frozen h 3,blk_frozen h 4⟩
theorem kb6 {W:World} {g:Nat} {v0 v1 v2 v3 v4 v5:Value} {t:TypeId} (h:W.heap[g]? = some (.cells #[v0,v1,v2,v3,v4,v5] t (0,0))):W.cell? ⟨g,0,none⟩ = some v0∧W.cell? ⟨g,1,none⟩ = some v1∧W.cell? ⟨g,2,none⟩ = some v2∧W.cell? ⟨g,3,none⟩ = some v3∧W.cell? ⟨g,4,none⟩ = some v4∧W.cell? ⟨g,5,none⟩ = some v5:=⟨(blk_cell h 0).trans rfl,(blk_cell h 1).trans rfl,(blk_cell h 2).trans rfl,(blk_cell h 3).trans rfl,(blk_cell h 4).trans rfl,(blk_cell h 5).trans rfl⟩
theorem kz6 {W:World} {g:Nat} {v0 v1 v2 v3 v4 v5:Value} {t:TypeId} (h:W.heap[g]? = some (.cells #[v0,v1,v2,v3,v4,v5] t (0,0))):W.frozen? ⟨g,0,none⟩ = false∧W.frozen? ⟨g,1,none⟩ = false∧W.frozen? ⟨g,2,none⟩ = false∧W.frozen? ⟨g,3,none⟩ = false∧W.frozen? ⟨g,4,none⟩ = false∧W.frozen? ⟨g,5,none⟩ = false:=⟨blk_frozen h 0,blk_frozen h 1,blk_frozen h 2,blk_frozen h 3,blk_frozen h 4,blk_frozen h 5⟩
theorem kb7 {W:World} {g:Nat} {v0 v1 v2 v3 v4 v5 v6:Value} {t:TypeId} (h:W.heap[g]? = some (.cells #[v0,v1,v2,v3,v4,v5,v6] t (0,0))):W.cell? ⟨g,0,none⟩ = some v0∧W.cell? ⟨g,1,none⟩ = some v1∧W.cell? ⟨g,2,none⟩ = some v2∧W.cell? ⟨g,3,none⟩ = some v3∧W.cell? ⟨g,4,none⟩ = some v4∧W.cell? ⟨g,5,none⟩ = some v5∧W.cell? ⟨g,6,none⟩ = some v6:=⟨(blk_cell h 0).trans rfl,(blk_cell h 1).trans rfl,(blk_cell h 2).trans rfl,(blk_cell h 3).trans rfl,(blk_cell h 4).trans rfl,(blk_cell h 5).trans rfl,(blk_cell h 6).trans rfl⟩
theorem kz7 {W:World} {g:Nat} {v0 v1 v2 v3 v4 v5 v6:Value} {t:TypeId} (h:W.heap[g]? = some (.cells #[v0,v1,v2,v3,v4,v5,v6] t (0,0))):W.frozen? ⟨g,0,none⟩ = false∧W.frozen? ⟨g,1,none⟩ = false∧W.frozen? ⟨g,2,none⟩ = false∧W.frozen? ⟨g,3,none⟩ = false∧W.frozen? ⟨g,4,none⟩ = false∧W.frozen? ⟨g,5,none⟩ = false∧W.frozen? ⟨g,6,none⟩ = false:=⟨blk_frozen h 0,blk_frozen h 1,blk_frozen h 2,blk_frozen h 3,blk_frozen h 4,blk_frozen h 5,blk_frozen h 6⟩
theorem kb8 {W:World} {g:Nat} {v0 v1 v2 v3 v4 v5 v6 v7:Value} {t:TypeId} (h:W.heap[g]? = some (.cells #[v0,v1,v2,v3,v4,v5,v6,v7] t (0,0))):W.cell? ⟨g,0,none⟩ = some v0∧W.cell? ⟨g,1,none⟩ = some v1∧W.cell? ⟨g,2,none⟩ = some v2∧W.cell? ⟨g,3,none⟩ = some v3∧W.cell? ⟨g,4,none⟩ = some v4∧W.cell? ⟨g,5,none⟩ = some v5∧W.cell? ⟨g,6,none⟩ = some v6∧W.cell? ⟨g,7,none⟩ = some v7:=⟨(blk_cell h 0).trans rfl,(blk_cell h 1).trans rfl,(blk_cell h 2).trans rfl,(blk_cell h 3).trans rfl,(blk_cell h 4).trans rfl,(blk_cell h 5).trans rfl,(blk_cell h 6).trans rfl,(blk_cell h 7).trans rfl⟩
theorem kz8 {W:World} {g:Nat} {v0 v1 v2 v3 v4 v5 v6 v7:Value} {t:TypeId} (h:W.heap[g]? = some (.cells #[v0,v1,v2,v3,v4,v5,v6,v7] t (0,0))):W.frozen? ⟨g,0,none⟩ = false∧W.frozen? ⟨g,1,none⟩ = false∧W.frozen? ⟨g,2,none⟩ = false∧W.frozen? ⟨g,3,none⟩ = false∧W.frozen? ⟨g,4,none⟩ = false∧W.frozen? ⟨g,5,none⟩ = false∧W.frozen? ⟨g,6,none⟩ = false∧W.frozen? ⟨g,7,none⟩ = false:=⟨blk_frozen h 0,blk_frozen h 1,blk_frozen h 2,blk_frozen h 3,blk_frozen h 4,blk_frozen h 5,blk_frozen h 6,blk_frozen h 7⟩
theorem kb9 {W:World} {g:Nat} {v0 v1 v2 v3 v4 v5 v6 v7 v8:Value} {t:TypeId} (h:W.heap[g]? = some (.cells #[v0,v1,v2,v3,v4,v5,v6,v7,v8] t (0,0))):W.cell? ⟨g,0,none⟩ = some v0∧W.cell? ⟨g,1,none⟩ = some v1∧W.cell? ⟨g,2,none⟩ = some v2∧W.cell? ⟨g,3,none⟩ = some v3∧W.cell? ⟨g,4,none⟩ = some v4∧W.cell? ⟨g,5,none⟩ = some v5∧W.cell? ⟨g,6,none⟩ = some v6∧W.cell? ⟨g,7,none⟩ = some v7∧W.cell? ⟨g,8,none⟩ = some v8:=⟨(blk_cell h 0).trans rfl,(blk_cell h 1).trans rfl,(blk_cell h 2).trans rfl,(blk_cell h 3).trans rfl,(blk_cell h 4).trans rfl,(blk_cell h 5).trans rfl,(blk_cell h 6).trans rfl,(blk_cell h 7).trans rfl,(blk_cell h 8).trans rfl⟩
theorem kz9 {W:World} {g:Nat} {v0 v1 v2 v3 v4 v5 v6 v7 v8:Value} {t:TypeId} (h:W.heap[g]? = some (.cells #[v0,v1,v2,v3,v4,v5,v6,v7,v8] t (0,0))):W.frozen? ⟨g,0,none⟩ = false∧W.frozen? ⟨g,1,none⟩ = false∧W.frozen? ⟨g,2,none⟩ = false∧W.frozen? ⟨g,3,none⟩ = false∧W.frozen? ⟨g,4,none⟩ = false∧W.frozen? ⟨g,5,none⟩ = false∧W.frozen? ⟨g,6,none⟩ = false∧W.frozen? ⟨g,7,none⟩ = false∧W.frozen? ⟨g,8,none⟩ = false:=⟨blk_frozen h 0,blk_frozen h 1,blk_frozen h 2,blk_frozen h 3,blk_frozen h 4,blk_frozen h 5,blk_frozen h 6,blk_frozen h 7,blk_frozen h 8⟩
theorem tdiv_lit (b:Int):Int.tdiv 1000000000000 b = 1000000000000 / b:=Int.tdiv_eq_ediv_of_nonneg (by decide)
theorem blk_farA {w:World} {g:Nat} {t:TypeId} {cs:Array Value} {p:Addr} (hp:Aside0 (g≠p.block)) (h:w.heap[g]? = some (.cells cs t (0,0))) (u:Value):(w.setCell p u).heap[g]? = some (.cells cs t (0,0)):=blk_far h hp.out u
theorem bm {p q:Prop} (h:p) (k:p → q:=by intro h_;repeat (first|(with_reducible exact h_)|(with_reducible first|refine blk_drewN ?_ _|refine blk_drew ?_|refine blk_alloc ?_ _)|(with_reducible apply blk_farA;assumption)|exact h_)):q:=k h
theorem bmp {p q:Prop} (h:p) (k:p → q:=by intro h_;repeat (first|(with_reducible exact h_)|(with_reducible first|refine blk_drewN ?_ _|refine blk_drew ?_|refine blk_alloc ?_ _)|(with_reducible apply blk_farA;assumption)|with_reducible apply blk_put|with_reducible rfl|exact h_|rfl)):q:=k h
theorem bwm {W W' w':World} {g:Nat} {o:Obj} (h:Aside0 (W.heap[g]? = some o)) (hb:Below W'.heap.size W' w') (k:W.heap[g]? = some o → W'.heap[g]? = some o:=by intro h_;repeat (first|(with_reducible exact h_)|(with_reducible first|refine blk_drewN ?_ _|refine blk_drew ?_|refine blk_alloc ?_ _)|(with_reducible apply blk_farA;assumption)|exact h_)):Aside0 (w'.heap[g]? = some o):=⟨blk_below (k h.out) hb⟩
theorem nlm {W W':World} {g g':Nat} {o:Obj} (hg:g' = W'.heap.size) (h:Aside0 (W.heap[g]? = some o)) (k:W.heap[g]? = some o → W'.heap[g]? = some o:=by intro h_;repeat (first|(with_reducible exact h_)|(with_reducible first|refine blk_drewN ?_ _|refine blk_drew ?_|refine blk_alloc ?_ _)|(with_reducible apply blk_farA;assumption)|exact h_)):Aside0 (g≠g'):=⟨hg ▸ Nat.ne_of_lt (blk_lt (k h.out))⟩
theorem ngm {W W':World} {g g':Nat} {o:Obj} (hg:g' = W'.heap.size) (h:Aside0 (W.heap[g]? = some o)) (k:W.heap[g]? = some o → W'.heap[g]? = some o:=by intro h_;repeat (first|(with_reducible exact h_)|(with_reducible first|refine blk_drewN ?_ _|refine blk_drew ?_|refine blk_alloc ?_ _)|(with_reducible apply blk_farA;assumption)|exact h_)):Aside0 (g'≠g):=⟨hg ▸ Nat.ne_of_gt (blk_lt (k h.out))⟩
theorem ndm {p q:Prop} (h:p) (k:p → q:=by intro h_;(with_reducible repeat (first|apply Kd.N_alloc|apply Kd.N_drewN|apply Kd.N_drew));exact h_):q:=k h
theorem nfm {α:Type} {d:Kd α} {e base:Nat} {ok:Nat → Prop} {v:Value} {xs:List α} {W W':World} (h:Kd.N d e W base ok v xs) (k:Kd.N d e W base ok v xs → Kd.N d e W' base ok v xs:=by intro h_;repeat (first|(with_reducible exact h_)|(with_reducible first|apply Kd.N_alloc|apply Kd.N_drewN|apply Kd.N_drew)|((with_reducible refine Kd.N_far ?_ ?hq _);(case hq=>first|exact fun _ hk=>hk.2|exact fun _ hk=>hk.1.2|exact fun _ hk=>hk.1.1.2|exact fun _ hk=>hk.1.1.1.2))|exact h_)):Kd.N d e W' base ok v xs:=k h
theorem nbm {α:Type} {d:Kd α} {e base:Nat} {ok:Nat → Prop} {v:Value} {xs:List α} {W W' w':World} {g:Nat} (h:Aside0 (Kd.N d e W base ok v xs)) (hg:g = W'.heap.size) (hb:Below W'.heap.size W' w') (k:Kd.N d e W base ok v xs → Kd.N d e W' base ok v xs:=by intro h_;(with_reducible repeat (first|apply Kd.N_alloc|apply Kd.N_drewN|apply Kd.N_drew));exact h_):Aside0 (Kd.N d e w' base (fun k=>ok k∧k≠g) v xs):=⟨Kd.N_below (Kd.N_elderB (k h.out) g (Nat.le_of_eq hg.symm)) hb⟩
theorem nwm {α:Type} {d:Kd α} {e base:Nat} {ok:Nat → Prop} {v:Value} {xs:List α} {W W' w':World} (h:Aside0 (Kd.N d e W base ok v xs)) (hb:Below W'.heap.size W' w') (k:Kd.N d e W base ok v xs → Kd.N d e W' base ok v xs:=by intro h_;(with_reducible repeat (first|apply Kd.N_alloc|apply Kd.N_drewN|apply Kd.N_drew));exact h_):Aside0 (Kd.N d e w' base ok v xs):=⟨Kd.N_below (k h.out) hb⟩
theorem sdm {p q:Prop} (h:p) (k:p → q:=by intro h_;(with_reducible repeat (first|apply Kd.S_alloc|apply Kd.S_drewN|apply Kd.S_drew));exact h_):q:=k h
theorem sfm {α:Type} {d:Kd α} {e base:Nat} {ok:Nat → Prop} {v:Value} {xs:List α} {W W':World} (h:Kd.S d e W base ok v xs) (k:Kd.S d e W base ok v xs → Kd.S d e W' base ok v xs:=by intro h_;repeat (first|(with_reducible exact h_)|(with_reducible first|apply Kd.S_alloc|apply Kd.S_drewN|apply Kd.S_drew)|((with_reducible refine Kd.S_far ?_ ?hq _);(case hq=>first|exact fun _ hk=>hk.2|exact fun _ hk=>hk.1.2|exact fun _ hk=>hk.1.1.2|exact fun _ hk=>hk.1.1.1.2))|exact h_)):Kd.S d e W' base ok v xs:=k h
theorem sbm {α:Type} {d:Kd α} {e base:Nat} {ok:Nat → Prop} {v:Value} {xs:List α} {W W' w':World} {g:Nat} (h:Aside0 (Kd.S d e W base ok v xs)) (hg:g = W'.heap.size) (hb:Below W'.heap.size W' w') (k:Kd.S d e W base ok v xs → Kd.S d e W' base ok v xs:=by intro h_;(with_reducible repeat (first|apply Kd.S_alloc|apply Kd.S_drewN|apply Kd.S_drew));exact h_):Aside0 (Kd.S d e w' base (fun k=>ok k∧k≠g) v xs):=⟨Kd.S_below (Kd.S_elderB (k h.out) g (Nat.le_of_eq hg.symm)) hb⟩
theorem swm {α:Type} {d:Kd α} {e base:Nat} {ok:Nat → Prop} {v:Value} {xs:List α} {W W' w':World} (h:Aside0 (Kd.S d e W base ok v xs)) (hb:Below W'.heap.size W' w') (k:Kd.S d e W base ok v xs → Kd.S d e W' base ok v xs:=by intro h_;(with_reducible repeat (first|apply Kd.S_alloc|apply Kd.S_drewN|apply Kd.S_drew));exact h_):Aside0 (Kd.S d e w' base ok v xs):=⟨Kd.S_below (k h.out) hb⟩
theorem vdm {p q:Prop} (h:p) (k:p → q:=by intro h_;(with_reducible repeat (first|apply Kd.V_alloc|apply Kd.V_drewN|apply Kd.V_drew));exact h_):q:=k h
theorem vfm {α:Type} {d:Kd α} {e base:Nat} {ok:Nat → Prop} {v:Value} {xs:List α} {W W':World} (h:Kd.V d e W base ok v xs) (k:Kd.V d e W base ok v xs → Kd.V d e W' base ok v xs:=by intro h_;repeat (first|(with_reducible exact h_)|(with_reducible first|apply Kd.V_alloc|apply Kd.V_drewN|apply Kd.V_drew)|((with_reducible refine Kd.V_far ?_ ?hq _);(case hq=>first|exact fun _ hk=>hk.2|exact fun _ hk=>hk.1.2|exact fun _ hk=>hk.1.1.2|exact fun _ hk=>hk.1.1.1.2))|exact h_)):Kd.V d e W' base ok v xs:=k h
theorem vbm {α:Type} {d:Kd α} {e base:Nat} {ok:Nat → Prop} {v:Value} {xs:List α} {W W' w':World} {g:Nat} (h:Aside0 (Kd.V d e W base ok v xs)) (hg:g = W'.heap.size) (hb:Below W'.heap.size W' w') (k:Kd.V d e W base ok v xs → Kd.V d e W' base ok v xs:=by intro h_;(with_reducible repeat (first|apply Kd.V_alloc|apply Kd.V_drewN|apply Kd.V_drew));exact h_):Aside0 (Kd.V d e w' base (fun k=>ok k∧k≠g) v xs):=⟨Kd.V_below (Kd.V_elderB (k h.out) g (Nat.le_of_eq hg.symm)) hb⟩
theorem vwm {α:Type} {d:Kd α} {e base:Nat} {ok:Nat → Prop} {v:Value} {xs:List α} {W W' w':World} (h:Aside0 (Kd.V d e W base ok v xs)) (hb:Below W'.heap.size W' w') (k:Kd.V d e W base ok v xs → Kd.V d e W' base ok v xs:=by intro h_;(with_reducible repeat (first|apply Kd.V_alloc|apply Kd.V_drewN|apply Kd.V_drew));exact h_):Aside0 (Kd.V d e w' base ok v xs):=⟨Kd.V_below (k h.out) hb⟩
theorem rdm {p q:Prop} (h:p) (k:p → q:=by intro h_;(with_reducible repeat (first|apply Kd.R_alloc|apply Kd.R_drewN|apply Kd.R_drew));exact h_):q:=k h
theorem rfm {α:Type} {d:Kd α} {e base:Nat} {ok:Nat → Prop} {v:Value} {xs:List α} {W W':World} (h:d.R e W base ok v xs) (k:d.R e W base ok v xs → d.R e W' base ok v xs:=by intro h_;repeat (first|(with_reducible exact h_)|(with_reducible first|apply Kd.R_alloc|apply Kd.R_drewN|apply Kd.R_drew)|((with_reducible refine Kd.R_far ?_ ?hq _);(case hq=>first|exact fun _ hk=>hk.2|exact fun _ hk=>hk.1.2|exact fun _ hk=>hk.1.1.2|exact fun _ hk=>hk.1.1.1.2))|exact h_)):d.R e W' base ok v xs:=k h
theorem rbm {α:Type} {d:Kd α} {e base:Nat} {ok:Nat → Prop} {v:Value} {xs:List α} {W W' w':World} {g:Nat} (h:Aside0 (d.R e W base ok v xs)) (hg:g = W'.heap.size) (hb:Below W'.heap.size W' w') (k:d.R e W base ok v xs → d.R e W' base ok v xs:=by intro h_;(with_reducible repeat (first|apply Kd.R_alloc|apply Kd.R_drewN|apply Kd.R_drew));exact h_):Aside0 (d.R e w' base (fun k=>ok k∧k≠g) v xs):=⟨Kd.R_below (Kd.R_elderB (k h.out) g (Nat.le_of_eq hg.symm)) hb⟩
theorem rwm {α:Type} {d:Kd α} {e base:Nat} {ok:Nat → Prop} {v:Value} {xs:List α} {W W' w':World} (h:Aside0 (d.R e W base ok v xs)) (hb:Below W'.heap.size W' w') (k:d.R e W base ok v xs → d.R e W' base ok v xs:=by intro h_;(with_reducible repeat (first|apply Kd.R_alloc|apply Kd.R_drewN|apply Kd.R_drew));exact h_):Aside0 (d.R e w' base ok v xs):=⟨Kd.R_below (k h.out) hb⟩
theorem cl {p:Prop} (h:p:=by first|rfl|(simp [*,errW_none,errW_some] <;> rfl)):p:=h
theorem cl2 {p:Prop} (h:p:=by first|rfl|(simp;done)|(simp [*];done)):p:=h
theorem bl {p q:Prop} (h:p) (k:p → q:=by intro h_;repeat (first|(with_reducible first|exact h_|apply below_alloc|apply pw_below_drewN|apply below_drew1|refine below_set ?_ (Aside0.out (by assumption)))|exact h_)):q:=k h
theorem bk {p q:Prop} (h:p) (k:p → q:=by intro h_;(with_reducible repeat (first|refine blk_drewN ?_ _|refine blk_drew ?_|refine blk_alloc ?_ _));exact h_):q:=k h
theorem ck {p q:Prop} (h:p) (k:p → q:=by intro h_;repeat (first|exact h_|(with_reducible refine Kd.C_alloc ?_ _)|(with_reducible refine Kd.C_drewN ?_ _)|(with_reducible refine Kd.C_drew ?_))):q:=k h
theorem rk {p q:Prop} (h:p) (k:p → q:=by intro h_;(with_reducible repeat (first|apply Kd.R_alloc|apply Kd.R_drewN|apply Kd.R_drew));exact h_):q:=k h
theorem cb {w W:World} {p:Addr} {v:Value} (HB:Aside0 (Below w.heap.size w W)) (h:w.cell? p = some v):W.cell? p = some v:=(HB.out.cell (World.block_lt_of_cell? w _ h)).trans h
theorem gs {p:Prop} (h:p:=by (try simp only [List.map_toArray,List.map_cons,List.map_nil]);first|done|rfl|(simp only [List.length_drop,List.length_take];rfl)):p:=h
theorem od {p:Prop} [Decidable p] (h:decide p = true:=by first|(with_reducible assumption)|assumption):p:=of_decide_eq_true h
theorem bc {W:World} {g:Nat} {cs:Array Value} {t:TypeId} (h:W.heap[g]? = some (.cells cs t (0,0))) (i:Nat) {v:Value} (hv:cs.toList[i]? = some v:=by exact rfl):W.cell? ⟨g,i,none⟩ = some v:=(blk_cell h i).trans (by simpa using hv)
section
variable {P:Program} {ops:Array Oper} {Q:Exit → Act → World → Prop} {md:Region.Mode} {S:World → Prop} {ds:List Nat}
theorem pu (i N:Nat) {T:Bool × List (List Nat × List Nat)} {oi:Oper} {v:Value} {fuel:Nat} {l:Array Bool} {a a':Act} {w:World} (h:wpAnyLast P md ops Q S ds fuel (l.setIfInBounds i true) a' w)
  (hT:Aside0 (rtab md ops = T):=by assumption) (hi:ops[i]? = some oi:=by rfl) (hN:oi.dst = some N:=by rfl) (hc:anyT T l.toList (l.setIfInBounds i true).toList i = true:=by kernel_rfl)
  (hy:Yields P ops oi v a:=by first|exact Or.inr ⟨by rfl,rfl⟩|exact Or.inl ⟨by rfl,by intro w';go_simp;with_reducible rfl⟩)
  (ha:a.put (some N) v = a':=by simp only [Act.put,List.setIfInBounds_toArray,List.set_cons_zero,List.set_cons_succ,i64_w,i32_w];rfl)
  (hQ:∀ c a w,Q (.panic c) (a.put oi.dst v) w → Q (.panic c) a w:=by exact fun _ _ _ h=>h):wpAnyLast P md ops Q S ds (fuel + 1) l a w :=
 pure_ (l.setIfInBounds i true) hi hN (any_of hT.out hc) hQ hy ha h
theorem ta (i N:Nat) {T:Bool × List (List Nat × List Nat)} {B:List Nat} {oi:Oper} {v:Value} {fuel:Nat} {l:Array Bool} {a a':Act} {w:World} (hS:S w) (h:wpAnyLast P md ops Q S ds fuel (l.setIfInBounds i true) a' w)
  (hT:Aside0 (rtab md ops = T):=by assumption) (hB:Aside0 (waitsOk T.2 B = true):=by assumption) (hi:ops[i]? = some oi:=by rfl) (hN:oi.dst = some N:=by rfl) (hc:takeW T B ds l.toList (l.setIfInBounds i true).toList i = true:=by kernel_rfl)
  (hy:YieldsIf P ops S oi v a:=by exact Or.inl ⟨by rfl,by intro w' hs_;(try simp only [] at hs_);go_simp;with_reducible rfl⟩)
  (ha:a.put (some N) v = a':=by simp only [Act.put,List.setIfInBounds_toArray,List.set_cons_zero,List.set_cons_succ,i64_w,i32_w];rfl)
  (hQ:∀ c a w,Q (.panic c) (a.put oi.dst v) w → Q (.panic c) a w:=by exact fun _ _ _ h=>h):wpAnyLast P md ops Q S ds (fuel + 1) l a w :=
 take_ (l.setIfInBounds i true) hi hN (take_ofW hT.out hB.out hc) hQ hy hS ha h
end



def errW:Option Int → Value
 | none=>.nilIface
 | some c=>.iface 0 (.int .i64 c)
theorem errW_none:errW none = .nilIface:=rfl
theorem errW_some (c:Int):errW (some c) = .iface 0 (.int .i64 c):=rfl

theorem info5:(Try.prog.info? 5).map (fun i=>(i.zero,i.size,i.bytes)) = some (some (.int .u8 0),1,1):=by kernel_rfl
theorem info25:(Try.prog.info? 25).map (fun i=>(i.zero,i.size,i.bytes)) = some (some (.agg #[(.int .i64 0),(.int .i64 0),(.string ⟨#[]⟩),(.slice none 0 0)]),4,56):=by kernel_rfl
-- the values' own types
/-! #### struct type 25, nested in itself -/
structure S25 where
 f0:Int
 f1:Int
 f2:ByteArray
 f3:(List S25)
def z25:S25:=⟨(0:Int),(0:Int),(⟨#[]⟩:ByteArray),([]:List S25)⟩
def F25 (d:Kd S25):Kd S25:=Kd.iso (Kd.pair (Kd.int .i64) (Kd.pair (Kd.int .i64) (Kd.pair Kd.string (Kd.slice 25 d)))) (fun x:S25=>(x.f0,x.f1,x.f2,x.f3))
theorem mono25:Kd.Mono F25:=Kd.mono_iso _ (Kd.mono_pair (Kd.mono_const _) (Kd.mono_pair (Kd.mono_const _) (Kd.mono_pair (Kd.mono_const _) (Kd.mono_slice 25 Kd.mono_id))))
theorem sub25:Kd.Sub F25 [25]:=Kd.sub_iso _ (Kd.sub_pair (Kd.sub_const _ (by decide)) (Kd.sub_pair (Kd.sub_const _ (by decide)) (Kd.sub_pair (Kd.sub_const _ (by decide)) (Kd.sub_slice 25 (by decide) Kd.sub_id))))
theorem sz25:∀ n,(Kd.upto F25 4 [25] n).sz = 4:=Kd.upto_sz (fun _=>rfl)
def k25:Kd S25:=Kd.fix F25 4 [25] sz25 (Kd.upto_E sub25)
theorem k25_open {w:World} {x:S25} {cs:List Value} (h:k25.K w x cs):∃ A3 c3,cs = [.int .i64 x.f0,.int .i64 x.f1,.string x.f2,.slice A3 x.f3.length c3]∧x.f3.length≤c3∧k25.C w A3 x.f3.length x.f3:=by
 obtain ⟨n,h⟩:=h
 cases n with
 | zero=>exact h.elim
 | succ n =>
  obtain ⟨_,_,rfl,rfl,⟨_,_,rfl,rfl,⟨_,_,rfl,rfl,⟨A3,c3,rfl,l3,g3⟩⟩⟩⟩:=h
  exact ⟨A3,c3,rfl,l3,Kd.fix_C g3⟩
theorem k25_openM {w:World} {base:Nat} {ok:Nat → Prop} {x:S25} {cs:List Value} (h:k25.M w base ok x cs):∃ v3,cs = [.int .i64 x.f0,.int .i64 x.f1,.string x.f2,v3]∧k25.R 25 w base ok v3 x.f3:=by
 obtain ⟨n,h⟩:=h
 cases n with
 | zero=>exact h.elim
 | succ n =>
  obtain ⟨_,_,rfl,rfl,⟨_,_,rfl,rfl,⟨_,_,rfl,rfl,⟨v3,rfl,g3⟩⟩⟩⟩:=h
  exact ⟨v3,rfl,Kd.fix_R g3⟩
theorem k25_mk (w:World) (x:S25) {A3:Option Addr} {c3:Nat} (l3:x.f3.length≤c3) (g3:k25.C w A3 x.f3.length x.f3):k25.K w x [.int .i64 x.f0,.int .i64 x.f1,.string x.f2,.slice A3 x.f3.length c3]:=by
 obtain ⟨n3,q3⟩:=Kd.fix_C_back mono25 g3;have r3:=Kd.upto_C_le mono25 sz25 (show n3≤n3 by omega) q3
 exact ⟨n3 + 1,⟨[.int .i64 x.f0],[.int .i64 x.f1,.string x.f2,.slice A3 x.f3.length c3],rfl,rfl,⟨[.int .i64 x.f1],[.string x.f2,.slice A3 x.f3.length c3],rfl,rfl,⟨[.string x.f2],[.slice A3 x.f3.length c3],rfl,rfl,⟨A3,c3,rfl,l3,r3⟩⟩⟩⟩⟩
theorem k25_mkM (w:World) (base:Nat) (ok:Nat → Prop) (x:S25) {v3:Value} (g3:k25.R 25 w base ok v3 x.f3):k25.M w base ok x [.int .i64 x.f0,.int .i64 x.f1,.string x.f2,v3]:=by
 obtain ⟨n3,q3⟩:=Kd.fix_R_back mono25 g3;have r3:=Kd.upto_R_le mono25 sz25 (show n3≤n3 by omega) q3
 exact ⟨n3 + 1,⟨[.int .i64 x.f0],[.int .i64 x.f1,.string x.f2,v3],rfl,rfl,⟨[.int .i64 x.f1],[.string x.f2,v3],rfl,rfl,⟨[.string x.f2],[v3],rfl,rfl,⟨v3,rfl,r3⟩⟩⟩⟩⟩
theorem k25_openF {W:World} {ok:Nat → Prop} {x:S25} {cs:List Value} (h:Kd.FK k25 W ok x cs):∃ A3 c3,cs = [.int .i64 x.f0,.int .i64 x.f1,.string x.f2,.slice A3 x.f3.length c3]∧x.f3.length≤c3∧Kd.F k25 W ok A3 x.f3.length x.f3:=by
 obtain ⟨A3,c3,rfl,l3,_⟩:=k25_open (Kd.FK_now h)
 exact ⟨A3,c3,rfl,l3,(fun W' hW=>by obtain ⟨A3_,c3_,he,l3_,g3_⟩:=k25_open (h W' hW);injection (Option.some.inj (show some (Value.slice A3 x.f3.length c3) = some (Value.slice A3_ x.f3.length c3_) from congrArg (fun l=>l[3]?) he)) with ha_ _ _;rw [ha_];exact g3_)⟩
theorem k25_mkF (W:World) (ok:Nat → Prop) (x:S25) {A3:Option Addr} {c3:Nat} (l3:x.f3.length≤c3) (g3:Kd.F k25 W ok A3 x.f3.length x.f3):Kd.FK k25 W ok x [.int .i64 x.f0,.int .i64 x.f1,.string x.f2,.slice A3 x.f3.length c3]:=fun W2 hW=>k25_mk W2 x l3 (g3 W2 hW)
def rd_T25 (xs:List S25) (i:Int):S25:=xs.getD i.toNat z25
theorem at_T25 {w:World} {A:Option Addr} {n:Nat} {xs:List S25} (h:Kd.C k25 w A n xs) (i:Int) (h0:0≤i) (h1:i < n):∃ ad A3 c3,A = some ad∧w.cell? (ad.add (i.toNat * 4)) = some (.int .i64 (rd_T25 xs i).f0)∧w.cell? ⟨(ad.add (i.toNat * 4)).block,(ad.add (i.toNat * 4)).off + 1,none⟩ = some (.int .i64 (rd_T25 xs i).f1)∧w.cell? ⟨(ad.add (i.toNat * 4)).block,(ad.add (i.toNat * 4)).off + 2,none⟩ = some (.string (rd_T25 xs i).f2)∧w.cell? ⟨(ad.add (i.toNat * 4)).block,(ad.add (i.toNat * 4)).off + 3,none⟩ = some (.slice A3 (rd_T25 xs i).f3.length c3)∧(rd_T25 xs i).f3.length≤c3∧k25.C w A3 (rd_T25 xs i).f3.length (rd_T25 xs i).f3:=by
 obtain ⟨ad,c,e,_,hK,hc0⟩:=Kd.C_get h z25 i h0 h1;have hc:∀ j u,c[j]? = some u → w.cell? (ad.add (i.toNat * 4 + j)) = some u:=hc0;obtain ⟨A3,c3,rfl,l3,g3⟩:=k25_open hK
 exact ⟨ad,A3,c3,e,hc 0 _ rfl,by rw [← add_field _ _ 1 (by omega)];exact hc 1 _ rfl,by rw [← add_field _ _ 2 (by omega)];exact hc 2 _ rfl,by rw [← add_field _ _ 3 (by omega)];exact hc 3 _ rfl,l3,g3⟩

def rd_L4 (xs:List (List S25)) (i:Int):(List S25):=xs.getD i.toNat ([]:List S25)
theorem at_L4 {w:World} {A:Option Addr} {n:Nat} {xs:List (List S25)} (h:Kd.C (Kd.slice 25 k25) w A n xs) (i:Int) (h0:0≤i) (h1:i < n):∃ ad A0 c0,A = some ad∧w.cell? (ad.add i.toNat) = some (.slice A0 (rd_L4 xs i).length c0)∧(rd_L4 xs i).length≤c0∧k25.C w A0 (rd_L4 xs i).length (rd_L4 xs i):=by
 obtain ⟨ad,c,e,_,hK,hc0⟩:=Kd.C_get h ([]:List S25) i h0 h1;have hc:∀ j u,c[j]? = some u → w.cell? (ad.add (i.toNat * 1 + j)) = some u:=hc0;obtain ⟨A0,c0,rfl,l0,g0⟩:=hK
 exact ⟨ad,A0,c0,e,by have hq:=hc 0 _ rfl;rwa [Nat.mul_one,Nat.add_zero] at hq,l0,g0⟩


theorem isEmpty_ne (l:List UInt8):(!l.isEmpty) = (l != []):=by cases l <;> rfl
theorem isEmpty_be (l:List UInt8):l.isEmpty = (l == []):=by cases l <;> rfl

/-! ### deep rows: a row's elements lead to rows that are apart from each other, at every depth (Kd.S in place of Kd.R inside an element) -/
namespace Kd
open YtefkjmkmojmllaaW.PrintWords.Kd
def sliceS {α:Type} (e:Nat) (d:Kd α):Kd (List α) where
 sz:=1
 E:=e :: d.E
 K:=fun w xs cs=>∃ A c,cs = [.slice A xs.length c]∧xs.length≤c∧d.C w A xs.length xs
 M:=fun w base ok xs cs=>∃ v,cs = [v]∧S d e w base ok v xs
 K_len:=by
  rintro w x cs ⟨A,c,rfl,_⟩
  rfl
 K_one:=by
  rintro w x cs ⟨A,c,rfl,_⟩ u hu;rw [List.mem_singleton.1 hu]
  rfl
 K_below:=by
  rintro w w1 x cs hb ⟨A,c,rfl,hl,hr⟩
  exact ⟨A,c,rfl,hl,C_below hr hb⟩
 K_of_M:=by
  rintro w base ok x cs ⟨v,rfl,h⟩;obtain ⟨A,c,rfl,hl,hr⟩:=S_reads h
  exact ⟨A,c,rfl,hl,hr⟩
 M_mono:=by
  rintro w base ok ok' x cs hok ⟨v,rfl,h⟩
  exact ⟨v,rfl,S_mono h hok⟩
 M_bound:=by
  rintro w base ok x cs ⟨v,rfl,h⟩
  exact ⟨v,rfl,S_bound h⟩
 M_move:=by
  rintro w w1 base ok x cs hm ⟨v,rfl,h⟩
  exact ⟨v,rfl,S_move h hm⟩
 M_lower:=by
  rintro w base base' ok x cs hb ⟨v,rfl,h⟩
  exact ⟨v,rfl,S_lower h hb⟩
theorem S_imp {α:Type} {d d':Kd α} (hs:d.sz = d'.sz) (h:∀ w base ok x cs,d.M w base ok x cs → d'.M w base ok x cs) {e:Nat} {w:World} {base:Nat} {ok:Nat → Prop} {v:Value} {xs:List α} (hr:S d e w base ok v xs):S d' e w base ok v xs:=by
 obtain ⟨f,hr⟩:=hr
 exact ⟨f,R_imp (d:=tag f d) (d':=tag f d') hs (fun w base ok x cs hm=>h w base _ x.1 cs hm) hr⟩
theorem mono_sliceS {α β:Type} (e:Nat) {G:Kd α → Kd β} (hG:Mono G):Mono (fun d=>sliceS e (G d)):=by
 refine ⟨fun _ _ _=>rfl,?_,?_⟩
 ·rintro d d' hs h w x cs ⟨A,c,rfl,hl,hr⟩
  exact ⟨A,c,rfl,hl,C_imp (hG.sz d d' hs) (hG.K d d' hs h) hr⟩
 ·rintro d d' hs h w base ok x cs ⟨v,rfl,hr⟩
  exact ⟨v,rfl,S_imp (hG.sz d d' hs) (hG.M d d' hs h) hr⟩
theorem sub_sliceS {α β:Type} {E:List Nat} (e:Nat) {G:Kd α → Kd β} (he:e ∈ E) (hG:Sub G E):Sub (fun d=>sliceS e (G d)) E:=fun d h q hq=>by
 rcases List.mem_cons.1 hq with rfl|hq
 ·exact he
 ·exact hG d h q hq
section
variable {α:Type} {F:Kd α → Kd α} {sz:Nat} {E:List Nat} {hs:∀ n,(upto F sz E n).sz = sz} {hE:∀ n q,q ∈ (upto F sz E n).E → q ∈ E}
theorem fix_S {n:Nat} {e:Nat} {w:World} {base:Nat} {ok:Nat → Prop} {v:Value} {xs:List α} (h:S (upto F sz E n) e w base ok v xs):S (fix F sz E hs hE) e w base ok v xs :=
 S_imp (d':=fix F sz E hs hE) (hs n) (fun _ _ _ _ _ hp=>⟨n,hp⟩) h
theorem fix_S_back (hm:Mono F) {e:Nat} {w:World} {base:Nat} {ok:Nat → Prop} {v:Value} {xs:List α} (h:S (fix F sz E hs hE) e w base ok v xs):∃ n,S (upto F sz E n) e w base ok v xs:=by
 obtain ⟨f,h0,inner,ho,hr⟩:=h;obtain ⟨N,hN⟩:=reps_bounded (R:=fun n (p:α × Nat) c=>(upto F sz E n).M w base (fun k=>(ok k∧some k≠v.ownBlock)∧f k = p.2) p.1 c) (fun n m p c hnm hp=>upto_M_le hm hs hnm hp) hr
 refine ⟨N,f,h0,inner,?_,?_⟩
 ·show w.ownsRow base e (upto F sz E N).sz v _ inner
  rw [hs N];exact ho
 ·show Reps _ (upto F sz E N).sz _ inner
  rw [hs N];exact hN
theorem upto_S_le (hm:Mono F) (hs:∀ n,(upto F sz E n).sz = sz) {n m:Nat} (hnm:n≤m) {e:Nat} {w:World} {base:Nat} {ok:Nat → Prop} {v:Value} {xs:List α} (h:S (upto F sz E n) e w base ok v xs):S (upto F sz E m) e w base ok v xs :=
 S_imp ((hs n).trans (hs m).symm) (fun _ _ _ _ _ hp=>upto_M_le hm hs hnm hp) h
/-- Two kinds of one shape: what holds of the one at each depth holds of the other. -/
theorem upto_imp {F':Kd α → Kd α} (hsz:∀ n,(upto F sz E n).sz = (upto F' sz E n).sz)
  (hM:∀ d d':Kd α,d.sz = d'.sz → (∀ w base ok x cs,d.M w base ok x cs → d'.M w base ok x cs) → ∀ w base ok x cs,(F d).M w base ok x cs → (F' d').M w base ok x cs) :
  ∀ n w base ok x cs,(upto F sz E n).M w base ok x cs → (upto F' sz E n).M w base ok x cs
 | 0,_,_,_,_,_,h=>h
 | n + 1,w,base,ok,x,cs,h=>hM _ _ (hsz n) (upto_imp hsz hM n) w base ok x cs h
end
end Kd
theorem iv_of {n:Nat} {w w':World} (_:Below n w w'):∃ n_:Nat,n_ = n:=⟨n,rfl⟩



/-! ### marks: what a call leaves that writes whole numbers and strings over others in rows that it is handed -/
def SoftV (a b:Value):Prop:=a = b∨(∃ k x y,a = .int k x∧b = .int k y)∨(∃ x y,a = .string x∧b = .string y)
theorem SoftV.refl (a:Value):SoftV a a:=.inl rfl
theorem SoftV.int (k:IntKind) (x y:Int):SoftV (.int k x) (.int k y):=.inr (.inl ⟨k,x,y,rfl,rfl⟩)
theorem SoftV.string (x y:ByteArray):SoftV (.string x) (.string y):=.inr (.inr ⟨x,y,rfl,rfl⟩)
theorem SoftV.trans {a b c:Value} (h:SoftV a b) (k:SoftV b c):SoftV a c:=by
 rcases h with rfl|⟨t,x,y,rfl,rfl⟩|⟨x,y,rfl,rfl⟩
 ·exact k
 ·rcases k with rfl|⟨t',x',y',e,rfl⟩|⟨x',y',e,_⟩
  ·exact SoftV.int _ _ _
  ·injection e with e1 e2
   subst e1
   exact SoftV.int _ _ _
  ·cases e
 ·rcases k with rfl|⟨t',x',y',e,_⟩|⟨x',y',e,rfl⟩
  ·exact SoftV.string _ _
  ·cases e
  ·exact SoftV.string _ _
theorem SoftV.of_int {k:IntKind} {x:Int} {b:Value} (h:SoftV (.int k x) b):∃ y,b = .int k y:=by
 rcases h with rfl|⟨t,x',y,e,rfl⟩|⟨x',y,e,_⟩
 ·exact ⟨_,rfl⟩
 ·injection e with e1 e2
  subst e1
  exact ⟨_,rfl⟩
 ·cases e
theorem SoftV.of_string {x:ByteArray} {b:Value} (h:SoftV (.string x) b):∃ y,b = .string y:=by
 rcases h with rfl|⟨t,x',y,e,_⟩|⟨x',y,e,rfl⟩
 ·exact ⟨_,rfl⟩
 ·cases e
 ·exact ⟨_,rfl⟩
theorem SoftV.of_slice {A:Option Addr} {n c:Nat} {b:Value} (h:SoftV (.slice A n c) b):b = .slice A n c:=by
 rcases h with rfl|⟨t,x',y,e,_⟩|⟨x',y,e,_⟩
 ·rfl
 ·cases e
 ·cases e
/-- A block of a row of one of these types, made from b on. -/
def InRows (b:Nat) (P:Nat → Prop) (E:List Nat) (w:World) (k:Nat):Prop:=b≤k∧P k∧∃ q,q ∈ E∧∃ cells,w.heap[k]? = some (.cells cells q (0,0))
structure Soft (b:Nat) (P:Nat → Prop) (E:List Nat) (w W:World):Prop where
 below:Below b w W
 same:∀ i,i < w.heap.size → ¬ InRows b P E w i → W.heap[i]? = w.heap[i]?
 soft:∀ i,InRows b P E w i → ∀ cells q,w.heap[i]? = some (.cells cells q (0,0)) → ∃ cells':Array Value,W.heap[i]? = some (.cells cells' q (0,0))∧cells'.size = cells.size∧∀ (j:Nat) (v:Value),cells[j]? = some v → ∃ v',cells'[j]? = some v'∧SoftV v v'
section
variable {b:Nat} {P:Nat → Prop} {E:List Nat} {w W W2:World}
theorem Soft.refl (b:Nat) (P:Nat → Prop) (E:List Nat) (w:World):Soft b P E w w:=⟨Below.refl _ _,fun _ _ _=>rfl,fun i _ cells q h=>⟨cells,h,rfl,fun j v hv=>⟨v,hv,SoftV.refl v⟩⟩⟩
theorem Soft.kept (h:Soft b P E w W):Kept w W (InRows b P E w):=⟨h.below.size,h.same⟩
theorem Soft.step (h:Soft b P E w W) (hb:b≤w.heap.size) (k:Below W.heap.size W W2):Soft b P E w W2:=by
 refine ⟨h.below.trans (k.mono (Nat.le_trans hb h.below.size)),fun i hi hn=>?_,fun i hi cells q hc=>?_⟩
 ·rw [k.block i (Nat.lt_of_lt_of_le hi h.below.size)]
  exact h.same i hi hn
 ·obtain ⟨cells',h1,h2⟩:=h.soft i hi cells q hc
  refine ⟨cells',?_,h2⟩
  rw [k.block i (blk_lt h1)]
  exact h1
theorem Soft.lt (_:Soft b P E w W) {g:Nat} (hg:InRows b P E w g):g < w.heap.size:=by
 obtain ⟨_,_,q,_,cells,hc⟩:=hg
 exact blk_lt hc
theorem Soft.set (h:Soft b P E w W) {g j:Nat} (hg:InRows b P E w g) {old new:Value} (ho:W.cell? ⟨g,j,none⟩ = some old) (hv:SoftV old new):Soft b P E w (W.setCell ⟨g,j,none⟩ new):=by
 refine ⟨h.below.setCell hg.1 _,fun i hi hn=>?_,fun i hi cells q hc=>?_⟩
 ·rw [Below.heap_setCell _ _ _ _ (by rintro rfl;exact hn hg)]
  exact h.same i hi hn
 ·by_cases hig:i = g
  ·subst hig
   obtain ⟨cells',h1,h2,h3⟩:=h.soft i hi cells q hc
   refine ⟨cells'.setIfInBounds j new,?_,by simpa using h2,fun l v hl=>?_⟩
   ·simp only [World.setCell]
    first
     | (rw [Array.getElem?_modify,if_pos rfl,h1];rfl)
     | (simp;rw [Array.getElem?_modify,if_pos rfl,h1];rfl)
   ·obtain ⟨v',h4,h5⟩:=h3 l v hl
    by_cases hjl:j = l
    ·subst hjl
     have ho':old = v':=by
      have:W.cell? ⟨i,j,none⟩ = cells'[j]?:=by simp [World.cell?,h1]
      rw [this,h4] at ho
      exact (Option.some.inj ho).symm
     subst ho';have hlt:j < cells'.size:=(Array.getElem?_eq_some_iff.1 h4).1
     exact ⟨new,by simp [Array.getElem?_setIfInBounds,hlt],h5.trans hv⟩
    ·exact ⟨v',by rw [Array.getElem?_setIfInBounds,if_neg hjl];exact h4,h5⟩
  ·obtain ⟨cells',h1,h2⟩:=h.soft i hi cells q hc
   refine ⟨cells',?_,h2⟩
   rw [Below.heap_setCell _ _ _ _ hig]
   exact h1
theorem Soft.cell (h:Soft b P E w W) {g j:Nat} (hg:InRows b P E w g) {v:Value} (hv:w.cell? ⟨g,j,none⟩ = some v):∃ v',W.cell? ⟨g,j,none⟩ = some v'∧SoftV v v':=by
 obtain ⟨hb,hp,q,hq,cells,hc⟩:=hg;obtain ⟨cells',h1,_,h3⟩:=h.soft g ⟨hb,hp,q,hq,cells,hc⟩ cells q hc;have hv2:cells[j]? = some v:=by simpa [World.cell?,hc] using hv
 obtain ⟨v',h4,h5⟩:=h3 j v hv2
 exact ⟨v',by simpa [World.cell?,h1] using h4,h5⟩
theorem Soft.frozen (h:Soft b P E w W) {g:Nat} (hg:InRows b P E w g) (j:Nat):W.frozen? ⟨g,j,none⟩ = false:=by
 obtain ⟨hb,hp,q,hq,cells,hc⟩:=hg;obtain ⟨cells',h1,_⟩:=h.soft g ⟨hb,hp,q,hq,cells,hc⟩ cells q hc
 simp [World.frozen?,h1]
/-- An element of a row of the call's own. -/
theorem R_elem {α:Type} {d:Kd α} {e base:Nat} {ok:Nat → Prop} {v:Value} {xs:List α} (h:d.R e w base ok v xs) (i:Nat) (p:α) (hp:xs[i]? = some p) :
  ∃ g cap cs,v = .slice (some ⟨g,0,none⟩) xs.length cap∧(base≤g∧∃ cells,w.heap[g]? = some (.cells cells e (0,0)))∧cs.length = d.sz∧d.M w base (fun k=>ok k∧some k≠v.ownBlock) p cs∧∀ (j:Nat) (u:Value),cs[j]? = some u → w.cell? ⟨g,i * d.sz + j,none⟩ = some u:=by
 have hlt:i < xs.length:=(List.getElem?_eq_some_iff.1 hp).1;obtain ⟨g,cap,hv,hb,hg,cells,hc⟩:=Kd.R_form h (by omega);obtain ⟨h0,inner,ho,hr⟩:=h;have hM:=hr.2 i p hp
 refine ⟨g,cap,(inner.drop (i * d.sz)).take d.sz,hv,⟨hb,cells,hc⟩,d.K_len (d.K_of_M hM),hM,fun j u hu=>?_⟩
 have hcell:=ho.cells (g:=g) (by rw [hv];rfl) (i * d.sz + j) u (by
  have hj:j < d.sz:=by
   have:=(List.getElem?_eq_some_iff.1 hu).1;rw [d.K_len (d.K_of_M hM)] at this
   exact this
  rw [List.getElem?_take_of_lt hj,List.getElem?_drop] at hu
  exact hu)
 have ea:∀ m:Nat,(⟨g,0,none⟩:Addr).add m = ⟨g,m,none⟩:=by
  intro m
  unfold Addr.add
  split <;> simp_all
 rw [ea] at hcell
 exact hcell
end
/-- A row of other types stays. -/
theorem R_soft {α:Type} {d:Kd α} {e base base':Nat} {P:Nat → Prop} {E:List Nat} {ok:Nat → Prop} {w W:World} {v:Value} {xs:List α} (h:d.R e w base ok v xs) (hk:Kept w W (InRows base' P E w)) (ht:∀ q,q ∈ e :: d.E → q ∉ E):d.R e W base ok v xs:=by
 refine Kd.R_mono (Kd.R_kept (Kd.R_bound h) hk (fun k hk hs=>?_)) (fun _ hk=>hk.1)
 obtain ⟨_,_,_,q,hq,cells,hc⟩:=hk;obtain ⟨_,_,q',hq',cells',hc'⟩:=hs;rw [hc] at hc'
 injection hc' with hc'
 injection hc' with _ hc'
 subst hc'
 exact ht q hq hq'
theorem blk_soft {base':Nat} {P:Nat → Prop} {E:List Nat} {w W:World} {g t:Nat} {cs:Array Value} {fr:Nat × Nat} (hb:w.heap[g]? = some (.cells cs t fr)) (hk:Kept w W (InRows base' P E w)) (ht:t ∉ E):W.heap[g]? = some (.cells cs t fr):=blk_kept hb hk (fun h=>by
 obtain ⟨_,_,q,hq,cells,hc⟩:=h;rw [hb] at hc
 injection hc with hc
 injection hc with _ hc
 subst hc
 exact ht hq)
/-- A row without elements stays where its block does. -/
theorem R_kept_nil {α:Type} {d:Kd α} {e base:Nat} {S ok:Nat → Prop} {w W:World} {v:Value} {xs:List α} (hx:xs = []) (h:d.R e w base ok v xs) (hk:Kept w W S) (hne:∀ k,S k → some k≠v.ownBlock):d.R e W base ok v xs:=by
 subst hx;have h1:d.R e w base (fun k=>ok k∧some k = v.ownBlock) v []:=by
  obtain ⟨h0,inner,ho,hr⟩:=h
  refine ⟨fun k hk=>⟨h0 k hk,hk.symm⟩,inner,ho,hr.1,fun i p hp=>?_⟩
  simp at hp
 exact Kd.R_mono (Kd.R_kept h1 hk (fun k h2 h3=>hne k h3 h2.2)) (fun _ h2=>h2.1)
/-- What holds of an answer, where there is one. -/
def OptAll {α:Type} (P:α → Prop) (o:Option α):Prop:=∀ r,o = some r → P r
theorem OptAll.no {α:Type} (P:α → Prop):OptAll P (none:Option α):=fun _ h=>by cases h
theorem OptAll.so {α:Type} {P:α → Prop} {r:α} (h:P r):OptAll P (some r):=fun _ e=>by cases e;exact h
theorem OptAll.bind {α β:Type} {P:β → Prop} {o:Option α} {f:α → Option β} (h:∀ t,o = some t → OptAll P (f t)):OptAll P (o.bind f):=fun r e=>by
 obtain ⟨t,h1,h2⟩:=Option.bind_eq_some_iff.1 e
 exact h t h1 r h2
theorem OptAll.ite {α:Type} {P:α → Prop} {c:Prop} [Decidable c] {a b:Option α} (h1:OptAll P a) (h2:OptAll P b):OptAll P (if c then a else b):=by
 split
 ·exact h1
 ·exact h2
theorem Soft.between {b:Nat} {P S:Nat → Prop} {E:List Nat} {ws w W:World} (h:Soft b P E ws w) (h':Soft b P E ws W) (hk:Kept w W S):Below b w W :=
 ⟨h'.below.os.trans h.below.os.symm,h'.below.tape.trans h.below.tape.symm,h'.below.output.trans h.below.output.symm,hk.1,fun k hb=>(h'.below.block k hb).trans (h.below.block k hb).symm⟩
theorem Soft.typed {b:Nat} {P:Nat → Prop} {E:List Nat} {ws w:World} (h:Soft b P E ws w) {k t:Nat} {cs:Array Value} {fr:Nat × Nat} (hb:w.heap[k]? = some (.cells cs t fr)) (ht:t ∉ E) : ¬ InRows b P E ws k:=fun hi=>by
 have hi2:=hi;obtain ⟨_,_,q,hq,cells,hc⟩:=hi;obtain ⟨cells',h1,_⟩:=h.soft k hi2 cells q hc;rw [hb] at h1
 injection h1 with h1
 injection h1 with _ h1
 subst h1
 exact ht hq
theorem blk_softS {b:Nat} {P:Nat → Prop} {E:List Nat} {ws w W:World} {g t:Nat} {cs:Array Value} {fr:Nat × Nat} (hs:Soft b P E ws w) (hb:w.heap[g]? = some (.cells cs t fr)) (hk:Kept w W (InRows b P E ws)) (ht:t ∉ E):W.heap[g]? = some (.cells cs t fr):=blk_kept hb hk (hs.typed hb ht)
theorem R_softS {α:Type} {d:Kd α} {e base b:Nat} {P:Nat → Prop} {E:List Nat} {ok:Nat → Prop} {ws w W:World} {v:Value} {xs:List α} (hs:Soft b P E ws w) (h:d.R e w base ok v xs) (hk:Kept w W (InRows b P E ws)) (ht:∀ q,q ∈ e :: d.E → q ∉ E):d.R e W base ok v xs:=by
 refine Kd.R_mono (Kd.R_kept (Kd.R_bound h) hk (fun k hk=>?_)) (fun _ hk=>hk.1)
 obtain ⟨_,_,_,q,hq,cells,hc⟩:=hk
 exact hs.typed hc (ht q hq)


theorem hat_str {P:Program} (w:World) (base:Nat) (t u ty e:TypeId) (i:TypeInfo) (ht:P.underlying t = some (.slice e)) (hu:P.underlying u = some .string) (hi:P.info? e = some i) (hz:i.zero = some (.int .u8 0))
  (hsize:i.size = 1) (hby:i.bytes = 1) (v:Value) (n:Nat) (xs:List Value) (hown:w.ownsRow base e 1 v n xs) (s:ByteArray) (hbytes:n + s.size≤140737488355328) (v1:Value) (w1:World)
  (hr:(Builtin.append_ #[t,u] ty #[v,.string s]).run P w = .ok v1 w1):v1.ownBlock = v.ownBlock∨∃ b,v1.ownBlock = some b∧w.heap.size≤b:=by
 have hxl:xs.length = n:=by simpa using hown.1
 rcases hown.2 with ⟨rfl,rfl⟩|⟨g,cap,cur,rfl,hbg,hg,hnc,hcm,hcs,htake⟩
 ·by_cases hm:s.size = 0
  ·have hf:=Lib.run_firstCells_string (P:=P) w 1 s
   rw [hm] at hf;have hr2:(Builtin.append_ #[t,u] ty #[.slice none 0 0,.string s]).run P w = .ok (.slice none 0 0) w:=by
    simp [Builtin.append_,run_underlying ht,run_underlying hu,sizeOf,typeInfo,hi,hsize,Builtin.lenOf,hm,hf]
   rw [hr2] at hr
   injection hr with hv _
   exact .inl (by rw [← hv])
  ·have hr2:=run_append_nil_string (P:=P) w t u ty e i (.int .u8 0) ht hu hi hz s (by omega) (by omega) (by rw [hby];omega)
   rw [hr2] at hr
   injection hr with hv _
   exact .inr ⟨w.heap.size,by rw [← hv];rfl,Nat.le_refl _⟩
 ·by_cases hroom:n + s.size≤cap
  ·have hcs':cur.size = cap:=by simpa using hcs
   have hr2:=Lib.run_append_room_string (P:=P) w t u ty e i ht hu hi hsize g n cap cur hg s hroom (by omega);rw [hr2] at hr
   injection hr with hv _
   exact .inl (by rw [← hv];rfl)
  ·have holds:∀ j u,xs[j]? = some u → w.cell? ((⟨g,0,none⟩:Addr).add j) = some u:=hown.cells (g:=g) rfl
   have hr2:=Lib.run_append_grow_string (P:=P) w t u ty e i (.int .u8 0) ht hu hi hz ⟨g,0,none⟩ n cap xs (by rw [hsize];simpa using hxl) holds s (by omega) (by omega) (by rw [hby];exact growslice_fits (by omega) (by omega));rw [hr2] at hr
   injection hr with hv _
   exact .inr ⟨w.heap.size,by rw [← hv];rfl,Nat.le_refl _⟩
theorem append_str2 {P:Program} {ops:Array Oper} {rest:List Oper} {o:Oper} {a:Act} {Q:Exit → Act → World → Prop} {w0 W:World} (base:Nat) (hgd:o.guard = none) (s x:Operand) (t u e:TypeId)
  (ho:o.op = .call { callee:=.builtin .append,args:=#[s,x],argTypes:=#[t,u] })
  (ht:P.underlying t = some (.slice e)) (hu:P.underlying u = some .string) (hinfo:(P.info? e).map (fun i=>(i.zero,i.size,i.bytes)) = some (some (.int .u8 0),1,1))
  (v:Value) (xs:List Int) (y:ByteArray) (hs:a.eval s = v) (hx:a.eval x = .string y)
  (HO:W.ownsRow base e 1 v xs.length (nums .u8 xs)) (HB:Below base w0 W) (hbase:base≤W.heap.size) (hl:xs.length + y.size≤140737488355328)
  (h:∀ v1 w1,w1.ownsRow base e 1 v1 (xs ++ bytesOf y).length (nums .u8 (xs ++ bytesOf y)) → Below base w0 w1 → W.grownBy w1 v.ownBlock → (∀ k,v1.ownBlock = some k → v.ownBlock = some k∨W.heap.size≤k) → wpList P ops Q rest (a.put o.dst v1) w1) :
  wpList P ops Q (o :: rest) a W:=by
 obtain ⟨i0,hi,hzz⟩:=Option.map_eq_some_iff.1 hinfo;simp only [Prod.mk.injEq] at hzz;obtain ⟨hz0,hz1,hz2⟩:=hzz
 refine wpList_plain hgd fun K hK=>?_
 obtain ⟨v1,w1,hr,hown,hg,_⟩:=Lib.run_append_own_string (P:=P) W base t u o.type e i0 ht hu hi hz0 hz1 hz2 v xs.length (nums .u8 xs) HO y (by simp only [maxLen];omega) hl hbase;have hat:=hat_str (P:=P) W base t u o.type e i0 ht hu hi hz0 hz1 hz2 v xs.length (nums .u8 xs) HO y hl v1 w1 hr
 unfold Oper.wp execOp
 simp only [ho,resolve,invoke,builtin,Sem.run_bind,Sem.run_pure,Result.andThen_ok,List.map_toArray,List.map_cons,List.map_nil,hs,hx,hr];have hl2:(xs ++ bytesOf y).length = xs.length + y.size:=by rw [List.length_append,bytesOf_length]
 have hc:nums .u8 (xs ++ bytesOf y) = nums .u8 xs ++ Lib.strCells y:=by
  rw [nums_append]
  congr 1
  simp [nums,bytesOf,Lib.strCells]
 refine hK _ _ (h v1 w1 (by rw [hl2,hc];exact hown) (HB.grown hg hbase (own_base HO)) hg (fun k hk=>?_))
 rcases hat with hat|⟨b,hb1,hb2⟩
 ·exact .inl (hat.symm.trans hk)
 ·have hq:=hb1.symm.trans hk
  injection hq with hq
  exact .inr (by omega)

end Go.Proofs.Ytefkjmkmojmllaa.QFnExactGetTerm
