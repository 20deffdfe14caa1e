-- Written by a program of this workplace (print2.py) for this claim, over the print's words.
import Derived.Test.YtjgegnkphkfmoaaProg
import Derived.Below
import Derived.Deep.Draws
import Derived.Deep.AppendLies
import Derived.Maps.AppendAt
import Derived.OwnWalk
import Derived.Laws.BytesArg
import Derived.Laws.MakeOwn
import Derived.Laws.OwnMore
import Derived.Deep.OwnRows
import Derived.Tactics
import Derived.Lib.ConvBytes
import Derived.Laws.Slices
import Derived.WalkKit
import Derived.KernelRfl
import Derived.RowKit3
import Derived.Deep.LoopGhost
import Derived.Deep.QuietTactic
import Derived.BigQuiet
import Derived.WideLaws
import Derived.Deep.DeepCutAuto
import Derived.Deep.CutBlock
import Derived.Deep.RegionHeld3
import Derived.Laws.Rows
import Derived.Lib.AppendStr
import Derived.ArgAppend
import Derived.Laws.IdiomCopy
import Derived.OrdersHeld
import Derived.Laws.BitsLemmas
import Derived.RowKit
import Derived.Lib.SliceRun
import Derived.Test.YtjgegnkphkfmoaaSFnExactExprOkWords
import Derived.Test.YtjgegnkphkfmoaaSFnExactExprOkLast
import Derived.Test.YtjgegnkphkfmoaaSFnExactExprOkTab
import Derived.Test.YtjgegnkphkfmoaaSFnExactExprOkApart
import Derived.Test.YtjgegnkphkfmoaaSFnExactExprOkArr
import Derived.Test.YtjgegnkphkfmoaaSFnExactExprOkFoot
import Derived.Test.YtjgegnkphkfmoaaSFnExactExprOkKept
import Derived.Test.YtjgegnkphkfmoaaSFnExactExprOkShare
import Derived.Test.YtjgegnkphkfmoaaSFnExactExprOkN
import Derived.Laws.StructEq
import Derived.Test.YtjgegnkphkfmoaaSFnExactExprOkRepsOne
import Derived.Test.YtjgegnkphkfmoaaSFnExactExprOkInv
import Derived.Test.YtjgegnkphkfmoaaSFnExactExprOkGuard
import Derived.Test.YtjgegnkphkfmoaaSFnExactExprOkMore
namespace Go.Proofs.Ytjgegnkphkfmoaa.QFnExactExprOk
open Go.RowKit Go.Proofs.YtjgegnkphkfmoaaW.PrintWords Go.Proofs.YtjgegnkphkfmoaaW.PrintLast Go.Proofs.YtjgegnkphkfmoaaW.PrintMore
attribute [local go_sem] max2_int min2_int max_two min_two max_three min_three max_four min_four   -- for this text's walks alone
set_option linter.unusedVariables false
set_option linter.unusedSimpArgs false



def errW:Option Int → Value
 | none=>.nilIface
 | some c=>.iface 0 (.int .i64 c)
theorem errW_none:errW none = .nilIface:=rfl
theorem errW_some (c:Int):errW (some c) = .iface 0 (.int .i64 c):=rfl

theorem info9:(Try.prog.info? 9).map (fun i=>(i.zero,i.size,i.bytes)) = some (some (.string ⟨#[]⟩),1,16):=by kernel_rfl
theorem info31:(Try.prog.info? 31).map (fun i=>(i.zero,i.size,i.bytes)) = some (some (.agg #[(.int .i64 0),(.int .i64 0),(.string ⟨#[]⟩),(.slice none 0 0),(.slice none 0 0)]),5,80):=by kernel_rfl
theorem info53:(Try.prog.info? 53).map (fun i=>(i.zero,i.size,i.bytes)) = some (some (.agg #[(.int .i64 0),(.int .i64 0),(.string ⟨#[]⟩),(.slice none 0 0),(.slice none 0 0),(.int .i64 0),(.int .i64 0),(.string ⟨#[]⟩),(.slice none 0 0),(.slice none 0 0)]),10,160):=by kernel_rfl
-- the values' own types
section
variable {α β:Type} {F:Kd α → Kd α} {G:Kd α → Kd β} {sz:Nat} {E:List Nat} {hs:∀ n,(Kd.upto F sz E n).sz = sz} {hE:∀ n q,q ∈ (Kd.upto F sz E n).E → q ∈ E}
theorem nest_C (hg:Kd.Mono G) {n:Nat} {w:World} {A:Option Addr} {m:Nat} {xs:List β} (h:(G (Kd.upto F sz E n)).C w A m xs):(G (Kd.fix F sz E hs hE)).C w A m xs :=
 Kd.C_imp (hg.sz _ _ (hs n)) (fun w x cs hp=>hg.K _ (Kd.fix F sz E hs hE) (hs n) (fun w x cs hp=>(⟨n,hp⟩:∃ n,(Kd.upto F sz E n).K w x cs)) w x cs hp) h
theorem nest_R (hg:Kd.Mono G) {n:Nat} {e:Nat} {w:World} {base:Nat} {ok:Nat → Prop} {v:Value} {xs:List β} (h:(G (Kd.upto F sz E n)).R e w base ok v xs):(G (Kd.fix F sz E hs hE)).R e w base ok v xs :=
 Kd.R_imp (hg.sz _ _ (hs n)) (fun w base ok x cs hp=>hg.M _ (Kd.fix F sz E hs hE) (hs n) (fun w base ok x cs hp=>(⟨n,hp⟩:∃ n,(Kd.upto F sz E n).M w base ok x cs)) w base ok x cs hp) h
theorem nest_C_le (hm:Kd.Mono F) (hs:∀ n,(Kd.upto F sz E n).sz = sz) (hg:Kd.Mono G) {n m:Nat} (hnm:n≤m) {w:World} {A:Option Addr} {l:Nat} {xs:List β} (h:(G (Kd.upto F sz E n)).C w A l xs):(G (Kd.upto F sz E m)).C w A l xs :=
 Kd.C_imp (hg.sz _ _ (by rw [hs n,hs m])) (fun w x cs hp=>hg.K _ _ (by rw [hs n,hs m]) (fun _ _ _ hp=>Kd.upto_K_le hm hs hnm hp) w x cs hp) h
theorem nest_R_le (hm:Kd.Mono F) (hs:∀ n,(Kd.upto F sz E n).sz = sz) (hg:Kd.Mono G) {n m:Nat} (hnm:n≤m) {e:Nat} {w:World} {base:Nat} {ok:Nat → Prop} {v:Value} {xs:List β} (h:(G (Kd.upto F sz E n)).R e w base ok v xs):(G (Kd.upto F sz E m)).R e w base ok v xs :=
 Kd.R_imp (hg.sz _ _ (by rw [hs n,hs m])) (fun w base ok x cs hp=>hg.M _ _ (by rw [hs n,hs m]) (fun _ _ _ _ _ hp=>Kd.upto_M_le hm hs hnm hp) w base ok x cs hp) h
theorem nest_R_back (hm:Kd.Mono F) (hg:Kd.Mono G) (hb:∀ {w:World} {base:Nat} {ok:Nat → Prop} {x:β} {cs:List Value},(G (Kd.fix F sz E hs hE)).M w base ok x cs → ∃ n,(G (Kd.upto F sz E n)).M w base ok x cs)
  {e:Nat} {w:World} {base:Nat} {ok:Nat → Prop} {v:Value} {xs:List β} (h:(G (Kd.fix F sz E hs hE)).R e w base ok v xs):∃ n,(G (Kd.upto F sz E n)).R e w base ok v xs:=by
 obtain ⟨h0,inner,ho,hr⟩:=h
 have hz:∀ n,(G (Kd.upto F sz E n)).sz = (G (Kd.fix F sz E hs hE)).sz:=fun n=>hg.sz _ _ (hs n)
 obtain ⟨N,hN⟩:=Kd.reps_bounded (R:=fun n p c=>(G (Kd.upto F sz E n)).M w base (fun k=>ok k∧some k≠v.ownBlock) p c) (fun n m p c hnm hp=>hg.M _ _ (by rw [hs n,hs m]) (fun _ _ _ _ _ hp=>Kd.upto_M_le hm hs hnm hp) _ _ _ _ _ hp) (hr.imp_ (fun _ _ hp=>hb hp))
 refine ⟨N,h0,inner,?_,?_⟩
 ·rw [hz N];exact ho
 ·rw [hz N];exact hN
theorem nest_C_back (hm:Kd.Mono F) (hg:Kd.Mono G) (hb:∀ {w:World} {x:β} {cs:List Value},(G (Kd.fix F sz E hs hE)).K w x cs → ∃ n,(G (Kd.upto F sz E n)).K w x cs)
  {w:World} {A:Option Addr} {m:Nat} {xs:List β} (h:(G (Kd.fix F sz E hs hE)).C w A m xs):∃ n,(G (Kd.upto F sz E n)).C w A m xs:=by
 have hz:∀ n,(G (Kd.upto F sz E n)).sz = (G (Kd.fix F sz E hs hE)).sz:=fun n=>hg.sz _ _ (hs n)
 rcases Nat.eq_zero_or_pos m with h0|hpos
 ·subst h0
  exact ⟨0,h.1,h.2.1,fun hp=>absurd hp (Nat.lt_irrefl 0)⟩
 ·obtain ⟨ad,e,hc⟩:=h.2.2 hpos
  obtain ⟨N,hN⟩:=Kd.bounded (P:=fun n j=>∀ p,xs[j]? = some p → ∃ c,c.length = (G (Kd.fix F sz E hs hE)).sz∧(G (Kd.upto F sz E n)).K w p c∧∀ i u,c[i]? = some u → w.cell? (ad.add (j * (G (Kd.fix F sz E hs hE)).sz + i)) = some u)
   (fun n n' j hnm hp p hj=>by
    obtain ⟨c,h1,h2,h3⟩:=hp p hj
    exact ⟨c,h1,hg.K _ _ (by rw [hs n,hs n']) (fun _ _ _ hp=>Kd.upto_K_le hm hs hnm hp) _ _ _ h2,h3⟩) xs.length
   (fun j hj=>by
    obtain ⟨c,h1,h2,h3⟩:=hc j _ (List.getElem?_eq_getElem hj)
    obtain ⟨n,h2⟩:=hb h2
    refine ⟨n,fun p hp=>?_⟩
    rw [List.getElem?_eq_getElem hj] at hp
    injection hp with hp
    rw [← hp]
    exact ⟨c,h1,h2,h3⟩)
  refine ⟨N,h.1,h.2.1,fun _=>⟨ad,e,fun j p hj=>?_⟩⟩
  rw [hz N]
  exact hN j (List.getElem?_eq_some_iff.1 hj).1 p hj
end
/-! #### struct type 25, nested in itself -/
structure P48 (α:Type) where
 f0:α
 f1:α
structure S25 where
 f0:Int
 f1:Int
 f2:ByteArray
 f3:(List S25)
 f4:(List (P48 S25))
abbrev S48:=P48 S25
def z25:S25:=⟨(0:Int),(0:Int),(⟨#[]⟩:ByteArray),([]:List S25),([]:List S48)⟩
def G48 (d:Kd S25):Kd S48:=Kd.iso (Kd.pair d d) (fun x:S48=>(x.f0,x.f1))
theorem monoG48:Kd.Mono G48:=Kd.mono_iso _ (Kd.mono_pair Kd.mono_id Kd.mono_id)
theorem subG48 {E:List Nat} : Kd.Sub G48 E:=Kd.sub_iso _ (Kd.sub_pair Kd.sub_id Kd.sub_id)
def F25 (d:Kd S25):Kd S25:=Kd.iso (Kd.pair (Kd.int .i64) (Kd.pair (Kd.int .i64) (Kd.pair Kd.string (Kd.pair (Kd.slice 25 d) (Kd.slice 48 (G48 d)))))) (fun x:S25=>(x.f0,x.f1,x.f2,x.f3,x.f4))
theorem mono25:Kd.Mono F25:=Kd.mono_iso _ (Kd.mono_pair (Kd.mono_const _) (Kd.mono_pair (Kd.mono_const _) (Kd.mono_pair (Kd.mono_const _) (Kd.mono_pair (Kd.mono_slice 25 Kd.mono_id) (Kd.mono_slice 48 monoG48)))))
theorem sub25:Kd.Sub F25 [25,48]:=Kd.sub_iso _ (Kd.sub_pair (Kd.sub_const _ (by decide)) (Kd.sub_pair (Kd.sub_const _ (by decide)) (Kd.sub_pair (Kd.sub_const _ (by decide)) (Kd.sub_pair (Kd.sub_slice 25 (by decide) Kd.sub_id) (Kd.sub_slice 48 (by decide) subG48)))))
theorem sz25:∀ n,(Kd.upto F25 5 [25,48] n).sz = 5:=Kd.upto_sz (fun _=>rfl)
def k25:Kd S25:=Kd.fix F25 5 [25,48] sz25 (Kd.upto_E sub25)
def k48:Kd S48:=G48 k25
theorem hbK48 {w:World} {x:S48} {cs:List Value} (h:(G48 k25).K w x cs):∃ n,(G48 (Kd.upto F25 5 [25,48] n)).K w x cs:=by
 obtain ⟨c0,c1,rfl,⟨n0,h0⟩,⟨n1,h1⟩⟩:=h
 exact ⟨max n0 n1,c0,c1,rfl,Kd.upto_K_le mono25 sz25 (Nat.le_max_left _ _) h0,Kd.upto_K_le mono25 sz25 (Nat.le_max_right _ _) h1⟩
theorem hbM48 {w:World} {base:Nat} {ok:Nat → Prop} {x:S48} {cs:List Value} (h:(G48 k25).M w base ok x cs):∃ n,(G48 (Kd.upto F25 5 [25,48] n)).M w base ok x cs:=by
 obtain ⟨c0,c1,rfl,⟨n0,h0⟩,⟨n1,h1⟩⟩:=h
 exact ⟨max n0 n1,c0,c1,rfl,Kd.upto_M_le mono25 sz25 (Nat.le_max_left _ _) h0,Kd.upto_M_le mono25 sz25 (Nat.le_max_right _ _) h1⟩
theorem k25_heap:Kd.Heap k25:=Kd.heap_fix (fun _ h_=>Kd.heap_iso _ (Kd.heap_pair (Kd.heap_int .i64) (Kd.heap_pair (Kd.heap_int .i64) (Kd.heap_pair Kd.heap_string (Kd.heap_pair (Kd.heap_slice 25 h_) (Kd.heap_slice 48 (Kd.heap_iso _ (Kd.heap_pair h_ h_))))))))
theorem k25_open {w:World} {x:S25} {cs:List Value} (h:k25.K w x cs):∃ A3 c3 A4 c4,cs = [.int .i64 x.f0,.int .i64 x.f1,.string x.f2,.slice A3 x.f3.length c3,.slice A4 x.f4.length c4]∧x.f3.length≤c3∧k25.C w A3 x.f3.length x.f3∧x.f4.length≤c4∧k48.C w A4 x.f4.length x.f4:=by
 obtain ⟨n,h⟩:=h
 cases n with
 | zero=>exact h.elim
 | succ n =>
  obtain ⟨_,_,rfl,rfl,⟨_,_,rfl,rfl,⟨_,_,rfl,rfl,⟨_,_,rfl,⟨A3,c3,rfl,l3,g3⟩,⟨A4,c4,rfl,l4,g4⟩⟩⟩⟩⟩:=h
  exact ⟨A3,c3,A4,c4,rfl,l3,Kd.fix_C g3,l4,nest_C monoG48 g4⟩
theorem k25_openM {w:World} {base:Nat} {ok:Nat → Prop} {x:S25} {cs:List Value} (h:k25.M w base ok x cs):∃ v3 v4,cs = [.int .i64 x.f0,.int .i64 x.f1,.string x.f2,v3,v4]∧k25.R 25 w base ok v3 x.f3∧k48.R 48 w base ok v4 x.f4:=by
 obtain ⟨n,h⟩:=h
 cases n with
 | zero=>exact h.elim
 | succ n =>
  obtain ⟨_,_,rfl,rfl,⟨_,_,rfl,rfl,⟨_,_,rfl,rfl,⟨_,_,rfl,⟨v3,rfl,g3⟩,⟨v4,rfl,g4⟩⟩⟩⟩⟩:=h
  exact ⟨v3,v4,rfl,Kd.fix_R g3,nest_R monoG48 g4⟩
theorem k25_mk (w:World) (x:S25) {A3:Option Addr} {c3:Nat} (l3:x.f3.length≤c3) (g3:k25.C w A3 x.f3.length x.f3) {A4:Option Addr} {c4:Nat} (l4:x.f4.length≤c4) (g4:k48.C w A4 x.f4.length x.f4):k25.K w x [.int .i64 x.f0,.int .i64 x.f1,.string x.f2,.slice A3 x.f3.length c3,.slice A4 x.f4.length c4]:=by
 obtain ⟨n3,q3⟩:=Kd.fix_C_back mono25 g3
 obtain ⟨n4,q4⟩:=nest_C_back mono25 monoG48 hbK48 g4
 have r3:=Kd.upto_C_le mono25 sz25 (show n3≤(max n3 n4) by omega) q3
 have r4:=nest_C_le mono25 sz25 monoG48 (show n4≤(max n3 n4) by omega) q4
 exact ⟨(max n3 n4) + 1,⟨[.int .i64 x.f0],[.int .i64 x.f1,.string x.f2,.slice A3 x.f3.length c3,.slice A4 x.f4.length c4],rfl,rfl,⟨[.int .i64 x.f1],[.string x.f2,.slice A3 x.f3.length c3,.slice A4 x.f4.length c4],rfl,rfl,⟨[.string x.f2],[.slice A3 x.f3.length c3,.slice A4 x.f4.length c4],rfl,rfl,⟨[.slice A3 x.f3.length c3],[.slice A4 x.f4.length c4],rfl,⟨A3,c3,rfl,l3,r3⟩,⟨A4,c4,rfl,l4,r4⟩⟩⟩⟩⟩⟩
theorem k25_mkM (w:World) (base:Nat) (ok:Nat → Prop) (x:S25) {v3:Value} (g3:k25.R 25 w base ok v3 x.f3) {v4:Value} (g4:k48.R 48 w base ok v4 x.f4):k25.M w base ok x [.int .i64 x.f0,.int .i64 x.f1,.string x.f2,v3,v4]:=by
 obtain ⟨n3,q3⟩:=Kd.fix_R_back mono25 g3
 obtain ⟨n4,q4⟩:=nest_R_back mono25 monoG48 hbM48 g4
 have r3:=Kd.upto_R_le mono25 sz25 (show n3≤(max n3 n4) by omega) q3
 have r4:=nest_R_le mono25 sz25 monoG48 (show n4≤(max n3 n4) by omega) q4
 exact ⟨(max n3 n4) + 1,⟨[.int .i64 x.f0],[.int .i64 x.f1,.string x.f2,v3,v4],rfl,rfl,⟨[.int .i64 x.f1],[.string x.f2,v3,v4],rfl,rfl,⟨[.string x.f2],[v3,v4],rfl,rfl,⟨[v3],[v4],rfl,⟨v3,rfl,r3⟩,⟨v4,rfl,r4⟩⟩⟩⟩⟩⟩
theorem k25_openF {W:World} {ok:Nat → Prop} {x:S25} {cs:List Value} (h:Kd.FK k25 W ok x cs):∃ A3 c3 A4 c4,cs = [.int .i64 x.f0,.int .i64 x.f1,.string x.f2,.slice A3 x.f3.length c3,.slice A4 x.f4.length c4]∧x.f3.length≤c3∧Kd.F k25 W ok A3 x.f3.length x.f3∧x.f4.length≤c4∧Kd.F k48 W ok A4 x.f4.length x.f4:=by
 obtain ⟨A3,c3,A4,c4,rfl,l3,_,l4,_⟩:=k25_open (Kd.FK_now h)
 exact ⟨A3,c3,A4,c4,rfl,l3,(fun W' hW=>by obtain ⟨A3_,c3_,A4_,c4_,he,l3_,g3_,l4_,g4_⟩:=k25_open (h W' hW);injection (Option.some.inj (show some (Value.slice A3 x.f3.length c3) = some (Value.slice A3_ x.f3.length c3_) from congrArg (fun l=>l[3]?) he)) with ha_ _ _;rw [ha_];exact g3_),l4,(fun W' hW=>by obtain ⟨A3_,c3_,A4_,c4_,he,l3_,g3_,l4_,g4_⟩:=k25_open (h W' hW);injection (Option.some.inj (show some (Value.slice A4 x.f4.length c4) = some (Value.slice A4_ x.f4.length c4_) from congrArg (fun l=>l[4]?) he)) with ha_ _ _;rw [ha_];exact g4_)⟩
theorem k25_mkF (W:World) (ok:Nat → Prop) (x:S25) {A3:Option Addr} {c3:Nat} (l3:x.f3.length≤c3) (g3:Kd.F k25 W ok A3 x.f3.length x.f3) {A4:Option Addr} {c4:Nat} (l4:x.f4.length≤c4) (g4:Kd.F k48 W ok A4 x.f4.length x.f4):Kd.FK k25 W ok x [.int .i64 x.f0,.int .i64 x.f1,.string x.f2,.slice A3 x.f3.length c3,.slice A4 x.f4.length c4]:=fun W2 hW=>k25_mk W2 x l3 (g3 W2 hW) l4 (g4 W2 hW)
def rd_T25 (xs:List S25) (i:Int):S25:=xs.getD i.toNat z25
theorem at_T25 {w:World} {A:Option Addr} {n:Nat} {xs:List S25} (h:Kd.C k25 w A n xs) (i:Int) (h0:0≤i) (h1:i < n):∃ ad A3 c3 A4 c4,A = some ad∧w.cell? (ad.add (i.toNat * 5)) = some (.int .i64 (rd_T25 xs i).f0)∧w.cell? ⟨(ad.add (i.toNat * 5)).block,(ad.add (i.toNat * 5)).off + 1,none⟩ = some (.int .i64 (rd_T25 xs i).f1)∧w.cell? ⟨(ad.add (i.toNat * 5)).block,(ad.add (i.toNat * 5)).off + 2,none⟩ = some (.string (rd_T25 xs i).f2)∧w.cell? ⟨(ad.add (i.toNat * 5)).block,(ad.add (i.toNat * 5)).off + 3,none⟩ = some (.slice A3 (rd_T25 xs i).f3.length c3)∧w.cell? ⟨(ad.add (i.toNat * 5)).block,(ad.add (i.toNat * 5)).off + 4,none⟩ = some (.slice A4 (rd_T25 xs i).f4.length c4)∧(rd_T25 xs i).f3.length≤c3∧k25.C w A3 (rd_T25 xs i).f3.length (rd_T25 xs i).f3∧(rd_T25 xs i).f4.length≤c4∧k48.C w A4 (rd_T25 xs i).f4.length (rd_T25 xs i).f4:=by
 obtain ⟨ad,c,e,_,hK,hc0⟩:=Kd.C_get h z25 i h0 h1
 have hc:∀ j u,c[j]? = some u → w.cell? (ad.add (i.toNat * 5 + j)) = some u:=hc0
 obtain ⟨A3,c3,A4,c4,rfl,l3,g3,l4,g4⟩:=k25_open hK
 exact ⟨ad,A3,c3,A4,c4,e,hc 0 _ rfl,by rw [← add_field _ _ 1 (by omega)];exact hc 1 _ rfl,by rw [← add_field _ _ 2 (by omega)];exact hc 2 _ rfl,by rw [← add_field _ _ 3 (by omega)];exact hc 3 _ rfl,by rw [← add_field _ _ 4 (by omega)];exact hc 4 _ rfl,l3,g3,l4,g4⟩

/-! #### struct type 48 -/
def z48:S48:=⟨z25,z25⟩
theorem k48_heap:Kd.Heap k48:=Kd.heap_iso _ (Kd.heap_pair k25_heap k25_heap)
theorem k48_open {w:World} {x:S48} {cs:List Value} (h:k48.K w x cs):∃ A3 c3 A4 c4 A8 c8 A9 c9,cs = [.int .i64 x.f0.f0,.int .i64 x.f0.f1,.string x.f0.f2,.slice A3 x.f0.f3.length c3,.slice A4 x.f0.f4.length c4,.int .i64 x.f1.f0,.int .i64 x.f1.f1,.string x.f1.f2,.slice A8 x.f1.f3.length c8,.slice A9 x.f1.f4.length c9]∧x.f0.f3.length≤c3∧k25.C w A3 x.f0.f3.length x.f0.f3∧x.f0.f4.length≤c4∧k48.C w A4 x.f0.f4.length x.f0.f4∧x.f1.f3.length≤c8∧k25.C w A8 x.f1.f3.length x.f1.f3∧x.f1.f4.length≤c9∧k48.C w A9 x.f1.f4.length x.f1.f4:=by
 obtain ⟨_,_,rfl,s0,s5⟩:=h
 obtain ⟨A3,c3,A4,c4,rfl,l3,g3,l4,g4⟩:=k25_open s0
 obtain ⟨A8,c8,A9,c9,rfl,l8,g8,l9,g9⟩:=k25_open s5
 exact ⟨A3,c3,A4,c4,A8,c8,A9,c9,rfl,l3,g3,l4,g4,l8,g8,l9,g9⟩
theorem k48_openM {w:World} {base:Nat} {ok:Nat → Prop} {x:S48} {cs:List Value} (h:k48.M w base ok x cs):∃ v3 v4 v8 v9,cs = [.int .i64 x.f0.f0,.int .i64 x.f0.f1,.string x.f0.f2,v3,v4,.int .i64 x.f1.f0,.int .i64 x.f1.f1,.string x.f1.f2,v8,v9]∧k25.R 25 w base ok v3 x.f0.f3∧k48.R 48 w base ok v4 x.f0.f4∧k25.R 25 w base ok v8 x.f1.f3∧k48.R 48 w base ok v9 x.f1.f4:=by
 obtain ⟨_,_,rfl,s0,s5⟩:=h
 obtain ⟨v3,v4,rfl,g3,g4⟩:=k25_openM s0
 obtain ⟨v8,v9,rfl,g8,g9⟩:=k25_openM s5
 exact ⟨v3,v4,v8,v9,rfl,g3,g4,g8,g9⟩
theorem k48_mk (w:World) (x:S48) {A3:Option Addr} {c3:Nat} (l3:x.f0.f3.length≤c3) (g3:k25.C w A3 x.f0.f3.length x.f0.f3) {A4:Option Addr} {c4:Nat} (l4:x.f0.f4.length≤c4) (g4:k48.C w A4 x.f0.f4.length x.f0.f4) {A8:Option Addr} {c8:Nat} (l8:x.f1.f3.length≤c8) (g8:k25.C w A8 x.f1.f3.length x.f1.f3) {A9:Option Addr} {c9:Nat} (l9:x.f1.f4.length≤c9) (g9:k48.C w A9 x.f1.f4.length x.f1.f4):k48.K w x [.int .i64 x.f0.f0,.int .i64 x.f0.f1,.string x.f0.f2,.slice A3 x.f0.f3.length c3,.slice A4 x.f0.f4.length c4,.int .i64 x.f1.f0,.int .i64 x.f1.f1,.string x.f1.f2,.slice A8 x.f1.f3.length c8,.slice A9 x.f1.f4.length c9]:=⟨[.int .i64 x.f0.f0,.int .i64 x.f0.f1,.string x.f0.f2,.slice A3 x.f0.f3.length c3,.slice A4 x.f0.f4.length c4],[.int .i64 x.f1.f0,.int .i64 x.f1.f1,.string x.f1.f2,.slice A8 x.f1.f3.length c8,.slice A9 x.f1.f4.length c9],rfl,(k25_mk w x.f0 l3 g3 l4 g4),(k25_mk w x.f1 l8 g8 l9 g9)⟩
theorem k48_mkM (w:World) (base:Nat) (ok:Nat → Prop) (x:S48) {v3:Value} (g3:k25.R 25 w base ok v3 x.f0.f3) {v4:Value} (g4:k48.R 48 w base ok v4 x.f0.f4) {v8:Value} (g8:k25.R 25 w base ok v8 x.f1.f3) {v9:Value} (g9:k48.R 48 w base ok v9 x.f1.f4):k48.M w base ok x [.int .i64 x.f0.f0,.int .i64 x.f0.f1,.string x.f0.f2,v3,v4,.int .i64 x.f1.f0,.int .i64 x.f1.f1,.string x.f1.f2,v8,v9]:=⟨[.int .i64 x.f0.f0,.int .i64 x.f0.f1,.string x.f0.f2,v3,v4],[.int .i64 x.f1.f0,.int .i64 x.f1.f1,.string x.f1.f2,v8,v9],rfl,(k25_mkM w base ok x.f0 g3 g4),(k25_mkM w base ok x.f1 g8 g9)⟩
theorem k48_openF {W:World} {ok:Nat → Prop} {x:S48} {cs:List Value} (h:Kd.FK k48 W ok x cs):∃ A3 c3 A4 c4 A8 c8 A9 c9,cs = [.int .i64 x.f0.f0,.int .i64 x.f0.f1,.string x.f0.f2,.slice A3 x.f0.f3.length c3,.slice A4 x.f0.f4.length c4,.int .i64 x.f1.f0,.int .i64 x.f1.f1,.string x.f1.f2,.slice A8 x.f1.f3.length c8,.slice A9 x.f1.f4.length c9]∧x.f0.f3.length≤c3∧Kd.F k25 W ok A3 x.f0.f3.length x.f0.f3∧x.f0.f4.length≤c4∧Kd.F k48 W ok A4 x.f0.f4.length x.f0.f4∧x.f1.f3.length≤c8∧Kd.F k25 W ok A8 x.f1.f3.length x.f1.f3∧x.f1.f4.length≤c9∧Kd.F k48 W ok A9 x.f1.f4.length x.f1.f4:=by
 obtain ⟨A3,c3,A4,c4,A8,c8,A9,c9,rfl,l3,_,l4,_,l8,_,l9,_⟩:=k48_open (Kd.FK_now h)
 exact ⟨A3,c3,A4,c4,A8,c8,A9,c9,rfl,l3,(fun W' hW=>by obtain ⟨A3_,c3_,A4_,c4_,A8_,c8_,A9_,c9_,he,l3_,g3_,l4_,g4_,l8_,g8_,l9_,g9_⟩:=k48_open (h W' hW);injection (Option.some.inj (show some (Value.slice A3 x.f0.f3.length c3) = some (Value.slice A3_ x.f0.f3.length c3_) from congrArg (fun l=>l[3]?) he)) with ha_ _ _;rw [ha_];exact g3_),l4,(fun W' hW=>by obtain ⟨A3_,c3_,A4_,c4_,A8_,c8_,A9_,c9_,he,l3_,g3_,l4_,g4_,l8_,g8_,l9_,g9_⟩:=k48_open (h W' hW);injection (Option.some.inj (show some (Value.slice A4 x.f0.f4.length c4) = some (Value.slice A4_ x.f0.f4.length c4_) from congrArg (fun l=>l[4]?) he)) with ha_ _ _;rw [ha_];exact g4_),l8,(fun W' hW=>by obtain ⟨A3_,c3_,A4_,c4_,A8_,c8_,A9_,c9_,he,l3_,g3_,l4_,g4_,l8_,g8_,l9_,g9_⟩:=k48_open (h W' hW);injection (Option.some.inj (show some (Value.slice A8 x.f1.f3.length c8) = some (Value.slice A8_ x.f1.f3.length c8_) from congrArg (fun l=>l[8]?) he)) with ha_ _ _;rw [ha_];exact g8_),l9,(fun W' hW=>by obtain ⟨A3_,c3_,A4_,c4_,A8_,c8_,A9_,c9_,he,l3_,g3_,l4_,g4_,l8_,g8_,l9_,g9_⟩:=k48_open (h W' hW);injection (Option.some.inj (show some (Value.slice A9 x.f1.f4.length c9) = some (Value.slice A9_ x.f1.f4.length c9_) from congrArg (fun l=>l[9]?) he)) with ha_ _ _;rw [ha_];exact g9_)⟩
theorem k48_mkF (W:World) (ok:Nat → Prop) (x:S48) {A3:Option Addr} {c3:Nat} (l3:x.f0.f3.length≤c3) (g3:Kd.F k25 W ok A3 x.f0.f3.length x.f0.f3) {A4:Option Addr} {c4:Nat} (l4:x.f0.f4.length≤c4) (g4:Kd.F k48 W ok A4 x.f0.f4.length x.f0.f4) {A8:Option Addr} {c8:Nat} (l8:x.f1.f3.length≤c8) (g8:Kd.F k25 W ok A8 x.f1.f3.length x.f1.f3) {A9:Option Addr} {c9:Nat} (l9:x.f1.f4.length≤c9) (g9:Kd.F k48 W ok A9 x.f1.f4.length x.f1.f4):Kd.FK k48 W ok x [.int .i64 x.f0.f0,.int .i64 x.f0.f1,.string x.f0.f2,.slice A3 x.f0.f3.length c3,.slice A4 x.f0.f4.length c4,.int .i64 x.f1.f0,.int .i64 x.f1.f1,.string x.f1.f2,.slice A8 x.f1.f3.length c8,.slice A9 x.f1.f4.length c9]:=fun W2 hW=>k48_mk W2 x l3 (g3 W2 hW) l4 (g4 W2 hW) l8 (g8 W2 hW) l9 (g9 W2 hW)
def rd_T48 (xs:List S48) (i:Int):S48:=xs.getD i.toNat z48
theorem at_T48 {w:World} {A:Option Addr} {n:Nat} {xs:List S48} (h:Kd.C k48 w A n xs) (i:Int) (h0:0≤i) (h1:i < n):∃ ad A3 c3 A4 c4 A8 c8 A9 c9,A = some ad∧w.cell? (ad.add (i.toNat * 10)) = some (.int .i64 (rd_T48 xs i).f0.f0)∧w.cell? ⟨(ad.add (i.toNat * 10)).block,(ad.add (i.toNat * 10)).off + 1,none⟩ = some (.int .i64 (rd_T48 xs i).f0.f1)∧w.cell? ⟨(ad.add (i.toNat * 10)).block,(ad.add (i.toNat * 10)).off + 2,none⟩ = some (.string (rd_T48 xs i).f0.f2)∧w.cell? ⟨(ad.add (i.toNat * 10)).block,(ad.add (i.toNat * 10)).off + 3,none⟩ = some (.slice A3 (rd_T48 xs i).f0.f3.length c3)∧w.cell? ⟨(ad.add (i.toNat * 10)).block,(ad.add (i.toNat * 10)).off + 4,none⟩ = some (.slice A4 (rd_T48 xs i).f0.f4.length c4)∧w.cell? ⟨(ad.add (i.toNat * 10)).block,(ad.add (i.toNat * 10)).off + 5,none⟩ = some (.int .i64 (rd_T48 xs i).f1.f0)∧w.cell? ⟨(ad.add (i.toNat * 10)).block,(ad.add (i.toNat * 10)).off + 6,none⟩ = some (.int .i64 (rd_T48 xs i).f1.f1)∧w.cell? ⟨(ad.add (i.toNat * 10)).block,(ad.add (i.toNat * 10)).off + 7,none⟩ = some (.string (rd_T48 xs i).f1.f2)∧w.cell? ⟨(ad.add (i.toNat * 10)).block,(ad.add (i.toNat * 10)).off + 8,none⟩ = some (.slice A8 (rd_T48 xs i).f1.f3.length c8)∧w.cell? ⟨(ad.add (i.toNat * 10)).block,(ad.add (i.toNat * 10)).off + 9,none⟩ = some (.slice A9 (rd_T48 xs i).f1.f4.length c9)∧(rd_T48 xs i).f0.f3.length≤c3∧k25.C w A3 (rd_T48 xs i).f0.f3.length (rd_T48 xs i).f0.f3∧(rd_T48 xs i).f0.f4.length≤c4∧k48.C w A4 (rd_T48 xs i).f0.f4.length (rd_T48 xs i).f0.f4∧(rd_T48 xs i).f1.f3.length≤c8∧k25.C w A8 (rd_T48 xs i).f1.f3.length (rd_T48 xs i).f1.f3∧(rd_T48 xs i).f1.f4.length≤c9∧k48.C w A9 (rd_T48 xs i).f1.f4.length (rd_T48 xs i).f1.f4:=by
 obtain ⟨ad,c,e,_,hK,hc0⟩:=Kd.C_get h z48 i h0 h1
 have hc:∀ j u,c[j]? = some u → w.cell? (ad.add (i.toNat * 10 + j)) = some u:=hc0
 obtain ⟨A3,c3,A4,c4,A8,c8,A9,c9,rfl,l3,g3,l4,g4,l8,g8,l9,g9⟩:=k48_open hK
 exact ⟨ad,A3,c3,A4,c4,A8,c8,A9,c9,e,hc 0 _ rfl,by rw [← add_field _ _ 1 (by omega)];exact hc 1 _ rfl,by rw [← add_field _ _ 2 (by omega)];exact hc 2 _ rfl,by rw [← add_field _ _ 3 (by omega)];exact hc 3 _ rfl,by rw [← add_field _ _ 4 (by omega)];exact hc 4 _ rfl,by rw [← add_field _ _ 5 (by omega)];exact hc 5 _ rfl,by rw [← add_field _ _ 6 (by omega)];exact hc 6 _ rfl,by rw [← add_field _ _ 7 (by omega)];exact hc 7 _ rfl,by rw [← add_field _ _ 8 (by omega)];exact hc 8 _ rfl,by rw [← add_field _ _ 9 (by omega)];exact hc 9 _ rfl,l3,g3,l4,g4,l8,g8,l9,g9⟩

/-! #### struct type 31, nested in itself -/
structure P53 (α:Type) where
 f0:α
 f1:α
structure S31 where
 f0:Int
 f1:Int
 f2:ByteArray
 f3:(List S31)
 f4:(List (P53 S31))
abbrev S53:=P53 S31
def z31:S31:=⟨(0:Int),(0:Int),(⟨#[]⟩:ByteArray),([]:List S31),([]:List S53)⟩
def G53 (d:Kd S31):Kd S53:=Kd.iso (Kd.pair d d) (fun x:S53=>(x.f0,x.f1))
theorem monoG53:Kd.Mono G53:=Kd.mono_iso _ (Kd.mono_pair Kd.mono_id Kd.mono_id)
theorem subG53 {E:List Nat} : Kd.Sub G53 E:=Kd.sub_iso _ (Kd.sub_pair Kd.sub_id Kd.sub_id)
def F31 (d:Kd S31):Kd S31:=Kd.iso (Kd.pair (Kd.int .i64) (Kd.pair (Kd.int .i64) (Kd.pair Kd.string (Kd.pair (Kd.slice 31 d) (Kd.slice 53 (G53 d)))))) (fun x:S31=>(x.f0,x.f1,x.f2,x.f3,x.f4))
theorem mono31:Kd.Mono F31:=Kd.mono_iso _ (Kd.mono_pair (Kd.mono_const _) (Kd.mono_pair (Kd.mono_const _) (Kd.mono_pair (Kd.mono_const _) (Kd.mono_pair (Kd.mono_slice 31 Kd.mono_id) (Kd.mono_slice 53 monoG53)))))
theorem sub31:Kd.Sub F31 [31,53]:=Kd.sub_iso _ (Kd.sub_pair (Kd.sub_const _ (by decide)) (Kd.sub_pair (Kd.sub_const _ (by decide)) (Kd.sub_pair (Kd.sub_const _ (by decide)) (Kd.sub_pair (Kd.sub_slice 31 (by decide) Kd.sub_id) (Kd.sub_slice 53 (by decide) subG53)))))
theorem sz31:∀ n,(Kd.upto F31 5 [31,53] n).sz = 5:=Kd.upto_sz (fun _=>rfl)
def k31:Kd S31:=Kd.fix F31 5 [31,53] sz31 (Kd.upto_E sub31)
def k53:Kd S53:=G53 k31
theorem hbK53 {w:World} {x:S53} {cs:List Value} (h:(G53 k31).K w x cs):∃ n,(G53 (Kd.upto F31 5 [31,53] n)).K w x cs:=by
 obtain ⟨c0,c1,rfl,⟨n0,h0⟩,⟨n1,h1⟩⟩:=h
 exact ⟨max n0 n1,c0,c1,rfl,Kd.upto_K_le mono31 sz31 (Nat.le_max_left _ _) h0,Kd.upto_K_le mono31 sz31 (Nat.le_max_right _ _) h1⟩
theorem hbM53 {w:World} {base:Nat} {ok:Nat → Prop} {x:S53} {cs:List Value} (h:(G53 k31).M w base ok x cs):∃ n,(G53 (Kd.upto F31 5 [31,53] n)).M w base ok x cs:=by
 obtain ⟨c0,c1,rfl,⟨n0,h0⟩,⟨n1,h1⟩⟩:=h
 exact ⟨max n0 n1,c0,c1,rfl,Kd.upto_M_le mono31 sz31 (Nat.le_max_left _ _) h0,Kd.upto_M_le mono31 sz31 (Nat.le_max_right _ _) h1⟩
theorem k31_heap:Kd.Heap k31:=Kd.heap_fix (fun _ h_=>Kd.heap_iso _ (Kd.heap_pair (Kd.heap_int .i64) (Kd.heap_pair (Kd.heap_int .i64) (Kd.heap_pair Kd.heap_string (Kd.heap_pair (Kd.heap_slice 31 h_) (Kd.heap_slice 53 (Kd.heap_iso _ (Kd.heap_pair h_ h_))))))))
theorem k31_open {w:World} {x:S31} {cs:List Value} (h:k31.K w x cs):∃ A3 c3 A4 c4,cs = [.int .i64 x.f0,.int .i64 x.f1,.string x.f2,.slice A3 x.f3.length c3,.slice A4 x.f4.length c4]∧x.f3.length≤c3∧k31.C w A3 x.f3.length x.f3∧x.f4.length≤c4∧k53.C w A4 x.f4.length x.f4:=by
 obtain ⟨n,h⟩:=h
 cases n with
 | zero=>exact h.elim
 | succ n =>
  obtain ⟨_,_,rfl,rfl,⟨_,_,rfl,rfl,⟨_,_,rfl,rfl,⟨_,_,rfl,⟨A3,c3,rfl,l3,g3⟩,⟨A4,c4,rfl,l4,g4⟩⟩⟩⟩⟩:=h
  exact ⟨A3,c3,A4,c4,rfl,l3,Kd.fix_C g3,l4,nest_C monoG53 g4⟩
theorem k31_openM {w:World} {base:Nat} {ok:Nat → Prop} {x:S31} {cs:List Value} (h:k31.M w base ok x cs):∃ v3 v4,cs = [.int .i64 x.f0,.int .i64 x.f1,.string x.f2,v3,v4]∧k31.R 31 w base ok v3 x.f3∧k53.R 53 w base ok v4 x.f4:=by
 obtain ⟨n,h⟩:=h
 cases n with
 | zero=>exact h.elim
 | succ n =>
  obtain ⟨_,_,rfl,rfl,⟨_,_,rfl,rfl,⟨_,_,rfl,rfl,⟨_,_,rfl,⟨v3,rfl,g3⟩,⟨v4,rfl,g4⟩⟩⟩⟩⟩:=h
  exact ⟨v3,v4,rfl,Kd.fix_R g3,nest_R monoG53 g4⟩
theorem k31_mk (w:World) (x:S31) {A3:Option Addr} {c3:Nat} (l3:x.f3.length≤c3) (g3:k31.C w A3 x.f3.length x.f3) {A4:Option Addr} {c4:Nat} (l4:x.f4.length≤c4) (g4:k53.C w A4 x.f4.length x.f4):k31.K w x [.int .i64 x.f0,.int .i64 x.f1,.string x.f2,.slice A3 x.f3.length c3,.slice A4 x.f4.length c4]:=by
 obtain ⟨n3,q3⟩:=Kd.fix_C_back mono31 g3
 obtain ⟨n4,q4⟩:=nest_C_back mono31 monoG53 hbK53 g4
 have r3:=Kd.upto_C_le mono31 sz31 (show n3≤(max n3 n4) by omega) q3
 have r4:=nest_C_le mono31 sz31 monoG53 (show n4≤(max n3 n4) by omega) q4
 exact ⟨(max n3 n4) + 1,⟨[.int .i64 x.f0],[.int .i64 x.f1,.string x.f2,.slice A3 x.f3.length c3,.slice A4 x.f4.length c4],rfl,rfl,⟨[.int .i64 x.f1],[.string x.f2,.slice A3 x.f3.length c3,.slice A4 x.f4.length c4],rfl,rfl,⟨[.string x.f2],[.slice A3 x.f3.length c3,.slice A4 x.f4.length c4],rfl,rfl,⟨[.slice A3 x.f3.length c3],[.slice A4 x.f4.length c4],rfl,⟨A3,c3,rfl,l3,r3⟩,⟨A4,c4,rfl,l4,r4⟩⟩⟩⟩⟩⟩
theorem k31_mkM (w:World) (base:Nat) (ok:Nat → Prop) (x:S31) {v3:Value} (g3:k31.R 31 w base ok v3 x.f3) {v4:Value} (g4:k53.R 53 w base ok v4 x.f4):k31.M w base ok x [.int .i64 x.f0,.int .i64 x.f1,.string x.f2,v3,v4]:=by
 obtain ⟨n3,q3⟩:=Kd.fix_R_back mono31 g3
 obtain ⟨n4,q4⟩:=nest_R_back mono31 monoG53 hbM53 g4
 have r3:=Kd.upto_R_le mono31 sz31 (show n3≤(max n3 n4) by omega) q3
 have r4:=nest_R_le mono31 sz31 monoG53 (show n4≤(max n3 n4) by omega) q4
 exact ⟨(max n3 n4) + 1,⟨[.int .i64 x.f0],[.int .i64 x.f1,.string x.f2,v3,v4],rfl,rfl,⟨[.int .i64 x.f1],[.string x.f2,v3,v4],rfl,rfl,⟨[.string x.f2],[v3,v4],rfl,rfl,⟨[v3],[v4],rfl,⟨v3,rfl,r3⟩,⟨v4,rfl,r4⟩⟩⟩⟩⟩⟩
theorem k31_openF {W:World} {ok:Nat → Prop} {x:S31} {cs:List Value} (h:Kd.FK k31 W ok x cs):∃ A3 c3 A4 c4,cs = [.int .i64 x.f0,.int .i64 x.f1,.string x.f2,.slice A3 x.f3.length c3,.slice A4 x.f4.length c4]∧x.f3.length≤c3∧Kd.F k31 W ok A3 x.f3.length x.f3∧x.f4.length≤c4∧Kd.F k53 W ok A4 x.f4.length x.f4:=by
 obtain ⟨A3,c3,A4,c4,rfl,l3,_,l4,_⟩:=k31_open (Kd.FK_now h)
 exact ⟨A3,c3,A4,c4,rfl,l3,(fun W' hW=>by obtain ⟨A3_,c3_,A4_,c4_,he,l3_,g3_,l4_,g4_⟩:=k31_open (h W' hW);injection (Option.some.inj (show some (Value.slice A3 x.f3.length c3) = some (Value.slice A3_ x.f3.length c3_) from congrArg (fun l=>l[3]?) he)) with ha_ _ _;rw [ha_];exact g3_),l4,(fun W' hW=>by obtain ⟨A3_,c3_,A4_,c4_,he,l3_,g3_,l4_,g4_⟩:=k31_open (h W' hW);injection (Option.some.inj (show some (Value.slice A4 x.f4.length c4) = some (Value.slice A4_ x.f4.length c4_) from congrArg (fun l=>l[4]?) he)) with ha_ _ _;rw [ha_];exact g4_)⟩
theorem k31_mkF (W:World) (ok:Nat → Prop) (x:S31) {A3:Option Addr} {c3:Nat} (l3:x.f3.length≤c3) (g3:Kd.F k31 W ok A3 x.f3.length x.f3) {A4:Option Addr} {c4:Nat} (l4:x.f4.length≤c4) (g4:Kd.F k53 W ok A4 x.f4.length x.f4):Kd.FK k31 W ok x [.int .i64 x.f0,.int .i64 x.f1,.string x.f2,.slice A3 x.f3.length c3,.slice A4 x.f4.length c4]:=fun W2 hW=>k31_mk W2 x l3 (g3 W2 hW) l4 (g4 W2 hW)
def rd_T31 (xs:List S31) (i:Int):S31:=xs.getD i.toNat z31
theorem at_T31 {w:World} {A:Option Addr} {n:Nat} {xs:List S31} (h:Kd.C k31 w A n xs) (i:Int) (h0:0≤i) (h1:i < n):∃ ad A3 c3 A4 c4,A = some ad∧w.cell? (ad.add (i.toNat * 5)) = some (.int .i64 (rd_T31 xs i).f0)∧w.cell? ⟨(ad.add (i.toNat * 5)).block,(ad.add (i.toNat * 5)).off + 1,none⟩ = some (.int .i64 (rd_T31 xs i).f1)∧w.cell? ⟨(ad.add (i.toNat * 5)).block,(ad.add (i.toNat * 5)).off + 2,none⟩ = some (.string (rd_T31 xs i).f2)∧w.cell? ⟨(ad.add (i.toNat * 5)).block,(ad.add (i.toNat * 5)).off + 3,none⟩ = some (.slice A3 (rd_T31 xs i).f3.length c3)∧w.cell? ⟨(ad.add (i.toNat * 5)).block,(ad.add (i.toNat * 5)).off + 4,none⟩ = some (.slice A4 (rd_T31 xs i).f4.length c4)∧(rd_T31 xs i).f3.length≤c3∧k31.C w A3 (rd_T31 xs i).f3.length (rd_T31 xs i).f3∧(rd_T31 xs i).f4.length≤c4∧k53.C w A4 (rd_T31 xs i).f4.length (rd_T31 xs i).f4:=by
 obtain ⟨ad,c,e,_,hK,hc0⟩:=Kd.C_get h z31 i h0 h1
 have hc:∀ j u,c[j]? = some u → w.cell? (ad.add (i.toNat * 5 + j)) = some u:=hc0
 obtain ⟨A3,c3,A4,c4,rfl,l3,g3,l4,g4⟩:=k31_open hK
 exact ⟨ad,A3,c3,A4,c4,e,hc 0 _ rfl,by rw [← add_field _ _ 1 (by omega)];exact hc 1 _ rfl,by rw [← add_field _ _ 2 (by omega)];exact hc 2 _ rfl,by rw [← add_field _ _ 3 (by omega)];exact hc 3 _ rfl,by rw [← add_field _ _ 4 (by omega)];exact hc 4 _ rfl,l3,g3,l4,g4⟩

/-! #### struct type 53 -/
def z53:S53:=⟨z31,z31⟩
theorem k53_heap:Kd.Heap k53:=Kd.heap_iso _ (Kd.heap_pair k31_heap k31_heap)
theorem k53_open {w:World} {x:S53} {cs:List Value} (h:k53.K w x cs):∃ A3 c3 A4 c4 A8 c8 A9 c9,cs = [.int .i64 x.f0.f0,.int .i64 x.f0.f1,.string x.f0.f2,.slice A3 x.f0.f3.length c3,.slice A4 x.f0.f4.length c4,.int .i64 x.f1.f0,.int .i64 x.f1.f1,.string x.f1.f2,.slice A8 x.f1.f3.length c8,.slice A9 x.f1.f4.length c9]∧x.f0.f3.length≤c3∧k31.C w A3 x.f0.f3.length x.f0.f3∧x.f0.f4.length≤c4∧k53.C w A4 x.f0.f4.length x.f0.f4∧x.f1.f3.length≤c8∧k31.C w A8 x.f1.f3.length x.f1.f3∧x.f1.f4.length≤c9∧k53.C w A9 x.f1.f4.length x.f1.f4:=by
 obtain ⟨_,_,rfl,s0,s5⟩:=h
 obtain ⟨A3,c3,A4,c4,rfl,l3,g3,l4,g4⟩:=k31_open s0
 obtain ⟨A8,c8,A9,c9,rfl,l8,g8,l9,g9⟩:=k31_open s5
 exact ⟨A3,c3,A4,c4,A8,c8,A9,c9,rfl,l3,g3,l4,g4,l8,g8,l9,g9⟩
theorem k53_openM {w:World} {base:Nat} {ok:Nat → Prop} {x:S53} {cs:List Value} (h:k53.M w base ok x cs):∃ v3 v4 v8 v9,cs = [.int .i64 x.f0.f0,.int .i64 x.f0.f1,.string x.f0.f2,v3,v4,.int .i64 x.f1.f0,.int .i64 x.f1.f1,.string x.f1.f2,v8,v9]∧k31.R 31 w base ok v3 x.f0.f3∧k53.R 53 w base ok v4 x.f0.f4∧k31.R 31 w base ok v8 x.f1.f3∧k53.R 53 w base ok v9 x.f1.f4:=by
 obtain ⟨_,_,rfl,s0,s5⟩:=h
 obtain ⟨v3,v4,rfl,g3,g4⟩:=k31_openM s0
 obtain ⟨v8,v9,rfl,g8,g9⟩:=k31_openM s5
 exact ⟨v3,v4,v8,v9,rfl,g3,g4,g8,g9⟩
theorem k53_mk (w:World) (x:S53) {A3:Option Addr} {c3:Nat} (l3:x.f0.f3.length≤c3) (g3:k31.C w A3 x.f0.f3.length x.f0.f3) {A4:Option Addr} {c4:Nat} (l4:x.f0.f4.length≤c4) (g4:k53.C w A4 x.f0.f4.length x.f0.f4) {A8:Option Addr} {c8:Nat} (l8:x.f1.f3.length≤c8) (g8:k31.C w A8 x.f1.f3.length x.f1.f3) {A9:Option Addr} {c9:Nat} (l9:x.f1.f4.length≤c9) (g9:k53.C w A9 x.f1.f4.length x.f1.f4):k53.K w x [.int .i64 x.f0.f0,.int .i64 x.f0.f1,.string x.f0.f2,.slice A3 x.f0.f3.length c3,.slice A4 x.f0.f4.length c4,.int .i64 x.f1.f0,.int .i64 x.f1.f1,.string x.f1.f2,.slice A8 x.f1.f3.length c8,.slice A9 x.f1.f4.length c9]:=⟨[.int .i64 x.f0.f0,.int .i64 x.f0.f1,.string x.f0.f2,.slice A3 x.f0.f3.length c3,.slice A4 x.f0.f4.length c4],[.int .i64 x.f1.f0,.int .i64 x.f1.f1,.string x.f1.f2,.slice A8 x.f1.f3.length c8,.slice A9 x.f1.f4.length c9],rfl,(k31_mk w x.f0 l3 g3 l4 g4),(k31_mk w x.f1 l8 g8 l9 g9)⟩
theorem k53_mkM (w:World) (base:Nat) (ok:Nat → Prop) (x:S53) {v3:Value} (g3:k31.R 31 w base ok v3 x.f0.f3) {v4:Value} (g4:k53.R 53 w base ok v4 x.f0.f4) {v8:Value} (g8:k31.R 31 w base ok v8 x.f1.f3) {v9:Value} (g9:k53.R 53 w base ok v9 x.f1.f4):k53.M w base ok x [.int .i64 x.f0.f0,.int .i64 x.f0.f1,.string x.f0.f2,v3,v4,.int .i64 x.f1.f0,.int .i64 x.f1.f1,.string x.f1.f2,v8,v9]:=⟨[.int .i64 x.f0.f0,.int .i64 x.f0.f1,.string x.f0.f2,v3,v4],[.int .i64 x.f1.f0,.int .i64 x.f1.f1,.string x.f1.f2,v8,v9],rfl,(k31_mkM w base ok x.f0 g3 g4),(k31_mkM w base ok x.f1 g8 g9)⟩
theorem k53_openF {W:World} {ok:Nat → Prop} {x:S53} {cs:List Value} (h:Kd.FK k53 W ok x cs):∃ A3 c3 A4 c4 A8 c8 A9 c9,cs = [.int .i64 x.f0.f0,.int .i64 x.f0.f1,.string x.f0.f2,.slice A3 x.f0.f3.length c3,.slice A4 x.f0.f4.length c4,.int .i64 x.f1.f0,.int .i64 x.f1.f1,.string x.f1.f2,.slice A8 x.f1.f3.length c8,.slice A9 x.f1.f4.length c9]∧x.f0.f3.length≤c3∧Kd.F k31 W ok A3 x.f0.f3.length x.f0.f3∧x.f0.f4.length≤c4∧Kd.F k53 W ok A4 x.f0.f4.length x.f0.f4∧x.f1.f3.length≤c8∧Kd.F k31 W ok A8 x.f1.f3.length x.f1.f3∧x.f1.f4.length≤c9∧Kd.F k53 W ok A9 x.f1.f4.length x.f1.f4:=by
 obtain ⟨A3,c3,A4,c4,A8,c8,A9,c9,rfl,l3,_,l4,_,l8,_,l9,_⟩:=k53_open (Kd.FK_now h)
 exact ⟨A3,c3,A4,c4,A8,c8,A9,c9,rfl,l3,(fun W' hW=>by obtain ⟨A3_,c3_,A4_,c4_,A8_,c8_,A9_,c9_,he,l3_,g3_,l4_,g4_,l8_,g8_,l9_,g9_⟩:=k53_open (h W' hW);injection (Option.some.inj (show some (Value.slice A3 x.f0.f3.length c3) = some (Value.slice A3_ x.f0.f3.length c3_) from congrArg (fun l=>l[3]?) he)) with ha_ _ _;rw [ha_];exact g3_),l4,(fun W' hW=>by obtain ⟨A3_,c3_,A4_,c4_,A8_,c8_,A9_,c9_,he,l3_,g3_,l4_,g4_,l8_,g8_,l9_,g9_⟩:=k53_open (h W' hW);injection (Option.some.inj (show some (Value.slice A4 x.f0.f4.length c4) = some (Value.slice A4_ x.f0.f4.length c4_) from congrArg (fun l=>l[4]?) he)) with ha_ _ _;rw [ha_];exact g4_),l8,(fun W' hW=>by obtain ⟨A3_,c3_,A4_,c4_,A8_,c8_,A9_,c9_,he,l3_,g3_,l4_,g4_,l8_,g8_,l9_,g9_⟩:=k53_open (h W' hW);injection (Option.some.inj (show some (Value.slice A8 x.f1.f3.length c8) = some (Value.slice A8_ x.f1.f3.length c8_) from congrArg (fun l=>l[8]?) he)) with ha_ _ _;rw [ha_];exact g8_),l9,(fun W' hW=>by obtain ⟨A3_,c3_,A4_,c4_,A8_,c8_,A9_,c9_,he,l3_,g3_,l4_,g4_,l8_,g8_,l9_,g9_⟩:=k53_open (h W' hW);injection (Option.some.inj (show some (Value.slice A9 x.f1.f4.length c9) = some (Value.slice A9_ x.f1.f4.length c9_) from congrArg (fun l=>l[9]?) he)) with ha_ _ _;rw [ha_];exact g9_)⟩
theorem k53_mkF (W:World) (ok:Nat → Prop) (x:S53) {A3:Option Addr} {c3:Nat} (l3:x.f0.f3.length≤c3) (g3:Kd.F k31 W ok A3 x.f0.f3.length x.f0.f3) {A4:Option Addr} {c4:Nat} (l4:x.f0.f4.length≤c4) (g4:Kd.F k53 W ok A4 x.f0.f4.length x.f0.f4) {A8:Option Addr} {c8:Nat} (l8:x.f1.f3.length≤c8) (g8:Kd.F k31 W ok A8 x.f1.f3.length x.f1.f3) {A9:Option Addr} {c9:Nat} (l9:x.f1.f4.length≤c9) (g9:Kd.F k53 W ok A9 x.f1.f4.length x.f1.f4):Kd.FK k53 W ok x [.int .i64 x.f0.f0,.int .i64 x.f0.f1,.string x.f0.f2,.slice A3 x.f0.f3.length c3,.slice A4 x.f0.f4.length c4,.int .i64 x.f1.f0,.int .i64 x.f1.f1,.string x.f1.f2,.slice A8 x.f1.f3.length c8,.slice A9 x.f1.f4.length c9]:=fun W2 hW=>k53_mk W2 x l3 (g3 W2 hW) l4 (g4 W2 hW) l8 (g8 W2 hW) l9 (g9 W2 hW)
def rd_T53 (xs:List S53) (i:Int):S53:=xs.getD i.toNat z53
theorem at_T53 {w:World} {A:Option Addr} {n:Nat} {xs:List S53} (h:Kd.C k53 w A n xs) (i:Int) (h0:0≤i) (h1:i < n):∃ ad A3 c3 A4 c4 A8 c8 A9 c9,A = some ad∧w.cell? (ad.add (i.toNat * 10)) = some (.int .i64 (rd_T53 xs i).f0.f0)∧w.cell? ⟨(ad.add (i.toNat * 10)).block,(ad.add (i.toNat * 10)).off + 1,none⟩ = some (.int .i64 (rd_T53 xs i).f0.f1)∧w.cell? ⟨(ad.add (i.toNat * 10)).block,(ad.add (i.toNat * 10)).off + 2,none⟩ = some (.string (rd_T53 xs i).f0.f2)∧w.cell? ⟨(ad.add (i.toNat * 10)).block,(ad.add (i.toNat * 10)).off + 3,none⟩ = some (.slice A3 (rd_T53 xs i).f0.f3.length c3)∧w.cell? ⟨(ad.add (i.toNat * 10)).block,(ad.add (i.toNat * 10)).off + 4,none⟩ = some (.slice A4 (rd_T53 xs i).f0.f4.length c4)∧w.cell? ⟨(ad.add (i.toNat * 10)).block,(ad.add (i.toNat * 10)).off + 5,none⟩ = some (.int .i64 (rd_T53 xs i).f1.f0)∧w.cell? ⟨(ad.add (i.toNat * 10)).block,(ad.add (i.toNat * 10)).off + 6,none⟩ = some (.int .i64 (rd_T53 xs i).f1.f1)∧w.cell? ⟨(ad.add (i.toNat * 10)).block,(ad.add (i.toNat * 10)).off + 7,none⟩ = some (.string (rd_T53 xs i).f1.f2)∧w.cell? ⟨(ad.add (i.toNat * 10)).block,(ad.add (i.toNat * 10)).off + 8,none⟩ = some (.slice A8 (rd_T53 xs i).f1.f3.length c8)∧w.cell? ⟨(ad.add (i.toNat * 10)).block,(ad.add (i.toNat * 10)).off + 9,none⟩ = some (.slice A9 (rd_T53 xs i).f1.f4.length c9)∧(rd_T53 xs i).f0.f3.length≤c3∧k31.C w A3 (rd_T53 xs i).f0.f3.length (rd_T53 xs i).f0.f3∧(rd_T53 xs i).f0.f4.length≤c4∧k53.C w A4 (rd_T53 xs i).f0.f4.length (rd_T53 xs i).f0.f4∧(rd_T53 xs i).f1.f3.length≤c8∧k31.C w A8 (rd_T53 xs i).f1.f3.length (rd_T53 xs i).f1.f3∧(rd_T53 xs i).f1.f4.length≤c9∧k53.C w A9 (rd_T53 xs i).f1.f4.length (rd_T53 xs i).f1.f4:=by
 obtain ⟨ad,c,e,_,hK,hc0⟩:=Kd.C_get h z53 i h0 h1
 have hc:∀ j u,c[j]? = some u → w.cell? (ad.add (i.toNat * 10 + j)) = some u:=hc0
 obtain ⟨A3,c3,A4,c4,A8,c8,A9,c9,rfl,l3,g3,l4,g4,l8,g8,l9,g9⟩:=k53_open hK
 exact ⟨ad,A3,c3,A4,c4,A8,c8,A9,c9,e,hc 0 _ rfl,by rw [← add_field _ _ 1 (by omega)];exact hc 1 _ rfl,by rw [← add_field _ _ 2 (by omega)];exact hc 2 _ rfl,by rw [← add_field _ _ 3 (by omega)];exact hc 3 _ rfl,by rw [← add_field _ _ 4 (by omega)];exact hc 4 _ rfl,by rw [← add_field _ _ 5 (by omega)];exact hc 5 _ rfl,by rw [← add_field _ _ 6 (by omega)];exact hc 6 _ rfl,by rw [← add_field _ _ 7 (by omega)];exact hc 7 _ rfl,by rw [← add_field _ _ 8 (by omega)];exact hc 8 _ rfl,by rw [← add_field _ _ 9 (by omega)];exact hc 9 _ rfl,l3,g3,l4,g4,l8,g8,l9,g9⟩

mutual
def wf25:S25 → Prop
 | ⟨x0,x1,x2,x3,x4⟩=>((Lit.int .i64 x0).wf = true)∧((Lit.int .i64 x1).wf = true)∧(x2.size≤maxLen)∧(x3.length≤maxLen∧wfl25 x3)∧(x4.length≤maxLen∧wfl48 x4)
def wfl25:List S25 → Prop
 | []=>True
 | x :: r=>wf25 x∧wfl25 r
def wf48:P48 S25 → Prop
 | ⟨x0,x1⟩=>wf25 x0∧wf25 x1
def wfl48:List (P48 S25) → Prop
 | []=>True
 | x :: r=>wf48 x∧wfl48 r
end
theorem wfl25_iff:∀ l:List S25,wfl25 l ↔ ∀ x ∈ l,wf25 x
 | []=>by simp [wfl25]
 | x :: r=>by simp [wfl25,wfl25_iff r]
theorem wfl48_iff:∀ l:List S48,wfl48 l ↔ ∀ x ∈ l,wf48 x
 | []=>by simp [wfl48]
 | x :: r=>by simp [wfl48,wfl48_iff r]
theorem eta25 (x:S25):(⟨x.f0,x.f1,x.f2,x.f3,x.f4⟩:S25) = x:=by cases x;rfl
theorem eta48 (x:S48):(⟨x.f0,x.f1⟩:S48) = x:=by cases x;rfl
theorem isEmpty_ne (l:List UInt8):(!l.isEmpty) = (l != []):=by cases l <;> rfl
theorem isEmpty_be (l:List UInt8):l.isEmpty = (l == []):=by cases l <;> rfl





end Go.Proofs.Ytjgegnkphkfmoaa.QFnExactExprOk
