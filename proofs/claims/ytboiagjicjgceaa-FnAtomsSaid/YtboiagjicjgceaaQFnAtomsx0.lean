-- Written by a program of this workplace (print2.py) for this claim, over the print's words.
import Derived.Test.YtboiagjicjgceaaProg
import Derived.Shelf.Strings.Search1
import Derived.Below
import Derived.Deep.Draws
import Derived.Deep.AppendLies
import Derived.Maps.AppendAt
import Derived.OwnWalk
import Derived.Laws.BytesArg
import Derived.Laws.MakeOwn
import Derived.Laws.OwnMore
import Derived.Deep.OwnRows
import Derived.Tactics
import Derived.Lib.ConvBytes
import Derived.Laws.Slices
import Derived.WalkKit
import Derived.KernelRfl
import Derived.RowKit3
import Derived.Deep.LoopGhost
import Derived.Deep.QuietTactic
import Derived.BigQuiet
import Derived.WideLaws
import Derived.Deep.DeepCutAuto
import Derived.Deep.CutBlock
import Derived.Deep.RegionHeld3
import Derived.Laws.Rows
import Derived.Lib.AppendStr
import Derived.ArgAppend
import Derived.Laws.IdiomCopy
import Derived.OrdersHeld
import Derived.Laws.BitsLemmas
import Derived.RowKit
import Derived.Lib.SliceRun
import Derived.Test.YtboiagjicjgceaaSFnAtomsWords
import Derived.Test.YtboiagjicjgceaaSFnAtomsLast
import Derived.Test.YtboiagjicjgceaaSFnAtomsTab
import Derived.Test.YtboiagjicjgceaaSFnAtomsApart
import Derived.Test.YtboiagjicjgceaaSFnAtomsArr
import Derived.Test.YtboiagjicjgceaaSFnAtomsFoot
import Derived.Test.YtboiagjicjgceaaSFnAtomsKept
import Derived.Test.YtboiagjicjgceaaSFnAtomsShare
import Derived.Test.YtboiagjicjgceaaSFnAtomsN
import Derived.Laws.StructEq
import Derived.Test.YtboiagjicjgceaaSFnAtomsRepsOne
import Derived.Test.YtboiagjicjgceaaSFnAtomsInv
import Derived.Test.YtboiagjicjgceaaSFnAtomsGuard
import Derived.Test.YtboiagjicjgceaaSFnAtomsMore
namespace Go.Proofs.Ytboiagjicjgceaa.QFnAtoms
open Go.RowKit Go.Proofs.YtboiagjicjgceaaW.PrintWords Go.Proofs.YtboiagjicjgceaaW.PrintLast Go.Proofs.YtboiagjicjgceaaW.PrintMore
attribute [local go_sem] max2_int min2_int max_two min_two max_three min_three max_four min_four   -- for this text's walks alone
set_option linter.unusedVariables false
set_option linter.unusedSimpArgs false



def errW : Option Int → Value
  | none => .nilIface
  | some c => .iface 0 (.int .i64 c)
theorem errW_none : errW none = .nilIface := rfl
theorem errW_some (c : Int) : errW (some c) = .iface 0 (.int .i64 c) := rfl

theorem info9 : (Try.prog.info? 9).map (fun i => (i.zero,i.size,i.bytes)) = some (some (.string ⟨#[]⟩),1,16) := by kernel_rfl
-- the values' own types
section
variable {α β : Type} {F : Kd α → Kd α} {G : Kd α → Kd β} {sz : Nat} {E : List Nat} {hs : ∀ n,(Kd.upto F sz E n).sz = sz} {hE : ∀ n q,q ∈ (Kd.upto F sz E n).E → q ∈ E}
theorem nest_C (hg : Kd.Mono G) {n : Nat} {w : World} {A : Option Addr} {m : Nat} {xs : List β} (h : (G (Kd.upto F sz E n)).C w A m xs) : (G (Kd.fix F sz E hs hE)).C w A m xs :=
  Kd.C_imp (hg.sz _ _ (hs n)) (fun w x cs hp => hg.K _ (Kd.fix F sz E hs hE) (hs n) (fun w x cs hp => (⟨n,hp⟩ : ∃ n,(Kd.upto F sz E n).K w x cs)) w x cs hp) h
theorem nest_R (hg : Kd.Mono G) {n : Nat} {e : Nat} {w : World} {base : Nat} {ok : Nat → Prop} {v : Value} {xs : List β} (h : (G (Kd.upto F sz E n)).R e w base ok v xs) : (G (Kd.fix F sz E hs hE)).R e w base ok v xs :=
  Kd.R_imp (hg.sz _ _ (hs n)) (fun w base ok x cs hp => hg.M _ (Kd.fix F sz E hs hE) (hs n) (fun w base ok x cs hp => (⟨n,hp⟩ : ∃ n,(Kd.upto F sz E n).M w base ok x cs)) w base ok x cs hp) h
theorem nest_C_le (hm : Kd.Mono F) (hs : ∀ n,(Kd.upto F sz E n).sz = sz) (hg : Kd.Mono G) {n m : Nat} (hnm : n ≤ m) {w : World} {A : Option Addr} {l : Nat} {xs : List β} (h : (G (Kd.upto F sz E n)).C w A l xs) : (G (Kd.upto F sz E m)).C w A l xs :=
  Kd.C_imp (hg.sz _ _ (by rw [hs n,hs m])) (fun w x cs hp => hg.K _ _ (by rw [hs n,hs m]) (fun _ _ _ hp => Kd.upto_K_le hm hs hnm hp) w x cs hp) h
theorem nest_R_le (hm : Kd.Mono F) (hs : ∀ n,(Kd.upto F sz E n).sz = sz) (hg : Kd.Mono G) {n m : Nat} (hnm : n ≤ m) {e : Nat} {w : World} {base : Nat} {ok : Nat → Prop} {v : Value} {xs : List β} (h : (G (Kd.upto F sz E n)).R e w base ok v xs) : (G (Kd.upto F sz E m)).R e w base ok v xs :=
  Kd.R_imp (hg.sz _ _ (by rw [hs n,hs m])) (fun w base ok x cs hp => hg.M _ _ (by rw [hs n,hs m]) (fun _ _ _ _ _ hp => Kd.upto_M_le hm hs hnm hp) w base ok x cs hp) h
theorem nest_R_back (hm : Kd.Mono F) (hg : Kd.Mono G) (hb : ∀ {w : World} {base : Nat} {ok : Nat → Prop} {x : β} {cs : List Value},(G (Kd.fix F sz E hs hE)).M w base ok x cs → ∃ n,(G (Kd.upto F sz E n)).M w base ok x cs)
    {e : Nat} {w : World} {base : Nat} {ok : Nat → Prop} {v : Value} {xs : List β} (h : (G (Kd.fix F sz E hs hE)).R e w base ok v xs) : ∃ n,(G (Kd.upto F sz E n)).R e w base ok v xs := by
  obtain ⟨h0,inner,ho,hr⟩ := h
  have hz : ∀ n,(G (Kd.upto F sz E n)).sz = (G (Kd.fix F sz E hs hE)).sz := fun n => hg.sz _ _ (hs n)
  obtain ⟨N,hN⟩ := Kd.reps_bounded (R := fun n p c => (G (Kd.upto F sz E n)).M w base (fun k => ok k ∧ some k ≠ v.ownBlock) p c) (fun n m p c hnm hp => hg.M _ _ (by rw [hs n,hs m]) (fun _ _ _ _ _ hp => Kd.upto_M_le hm hs hnm hp) _ _ _ _ _ hp) (hr.imp_ (fun _ _ hp => hb hp))
  refine ⟨N,h0,inner,?_,?_⟩
  · rw [hz N];exact ho
  · rw [hz N];exact hN
theorem nest_C_back (hm : Kd.Mono F) (hg : Kd.Mono G) (hb : ∀ {w : World} {x : β} {cs : List Value},(G (Kd.fix F sz E hs hE)).K w x cs → ∃ n,(G (Kd.upto F sz E n)).K w x cs)
    {w : World} {A : Option Addr} {m : Nat} {xs : List β} (h : (G (Kd.fix F sz E hs hE)).C w A m xs) : ∃ n,(G (Kd.upto F sz E n)).C w A m xs := by
  have hz : ∀ n,(G (Kd.upto F sz E n)).sz = (G (Kd.fix F sz E hs hE)).sz := fun n => hg.sz _ _ (hs n)
  rcases Nat.eq_zero_or_pos m with h0 | hpos
  · subst h0
    exact ⟨0,h.1,h.2.1,fun hp => absurd hp (Nat.lt_irrefl 0)⟩
  · obtain ⟨ad,e,hc⟩ := h.2.2 hpos
    obtain ⟨N,hN⟩ := Kd.bounded (P := fun n j => ∀ p,xs[j]? = some p → ∃ c,c.length = (G (Kd.fix F sz E hs hE)).sz ∧ (G (Kd.upto F sz E n)).K w p c ∧ ∀ i u,c[i]? = some u → w.cell? (ad.add (j * (G (Kd.fix F sz E hs hE)).sz + i)) = some u)
      (fun n n' j hnm hp p hj => by
        obtain ⟨c,h1,h2,h3⟩ := hp p hj
        exact ⟨c,h1,hg.K _ _ (by rw [hs n,hs n']) (fun _ _ _ hp => Kd.upto_K_le hm hs hnm hp) _ _ _ h2,h3⟩) xs.length
      (fun j hj => by
        obtain ⟨c,h1,h2,h3⟩ := hc j _ (List.getElem?_eq_getElem hj)
        obtain ⟨n,h2⟩ := hb h2
        refine ⟨n,fun p hp => ?_⟩
        rw [List.getElem?_eq_getElem hj] at hp
        injection hp with hp
        rw [← hp]
        exact ⟨c,h1,h2,h3⟩)
    refine ⟨N,h.1,h.2.1,fun _ => ⟨ad,e,fun j p hj => ?_⟩⟩
    rw [hz N]
    exact hN j (List.getElem?_eq_some_iff.1 hj).1 p hj
end
/-! #### struct type 29, nested in itself -/
structure S29 where
  f0 : Int
  f1 : Int
  f2 : ByteArray
  f3 : (List S29)
def z29 : S29 := ⟨(0 : Int),(0 : Int),(⟨#[]⟩ : ByteArray),([] : List S29)⟩
def F29 (d : Kd S29) : Kd S29 := Kd.iso (Kd.pair (Kd.int .i64) (Kd.pair (Kd.int .i64) (Kd.pair Kd.string (Kd.slice 29 d)))) (fun x : S29 => (x.f0,x.f1,x.f2,x.f3))
theorem mono29 : Kd.Mono F29 := Kd.mono_iso _ (Kd.mono_pair (Kd.mono_const _) (Kd.mono_pair (Kd.mono_const _) (Kd.mono_pair (Kd.mono_const _) (Kd.mono_slice 29 Kd.mono_id))))
theorem sub29 : Kd.Sub F29 [29] := Kd.sub_iso _ (Kd.sub_pair (Kd.sub_const _ (by decide)) (Kd.sub_pair (Kd.sub_const _ (by decide)) (Kd.sub_pair (Kd.sub_const _ (by decide)) (Kd.sub_slice 29 (by decide) Kd.sub_id))))
theorem sz29 : ∀ n,(Kd.upto F29 4 [29] n).sz = 4 := Kd.upto_sz (fun _ => rfl)
def k29 : Kd S29 := Kd.fix F29 4 [29] sz29 (Kd.upto_E sub29)
theorem k29_heap : Kd.Heap k29 := Kd.heap_fix (fun _ h_ => Kd.heap_iso _ (Kd.heap_pair (Kd.heap_int .i64) (Kd.heap_pair (Kd.heap_int .i64) (Kd.heap_pair Kd.heap_string (Kd.heap_slice 29 h_)))))
theorem k29_open {w : World} {x : S29} {cs : List Value} (h : k29.K w x cs) : ∃ A3 c3,cs = [.int .i64 x.f0,.int .i64 x.f1,.string x.f2,.slice A3 x.f3.length c3] ∧ x.f3.length ≤ c3 ∧ k29.C w A3 x.f3.length x.f3 := by
  obtain ⟨n,h⟩ := h
  cases n with
  | zero => exact h.elim
  | succ n =>
    obtain ⟨_,_,rfl,rfl,⟨_,_,rfl,rfl,⟨_,_,rfl,rfl,⟨A3,c3,rfl,l3,g3⟩⟩⟩⟩ := h
    exact ⟨A3,c3,rfl,l3,Kd.fix_C g3⟩
theorem k29_openM {w : World} {base : Nat} {ok : Nat → Prop} {x : S29} {cs : List Value} (h : k29.M w base ok x cs) : ∃ v3,cs = [.int .i64 x.f0,.int .i64 x.f1,.string x.f2,v3] ∧ k29.R 29 w base ok v3 x.f3 := by
  obtain ⟨n,h⟩ := h
  cases n with
  | zero => exact h.elim
  | succ n =>
    obtain ⟨_,_,rfl,rfl,⟨_,_,rfl,rfl,⟨_,_,rfl,rfl,⟨v3,rfl,g3⟩⟩⟩⟩ := h
    exact ⟨v3,rfl,Kd.fix_R g3⟩
theorem k29_mk (w : World) (x : S29) {A3 : Option Addr} {c3 : Nat} (l3 : x.f3.length ≤ c3) (g3 : k29.C w A3 x.f3.length x.f3) : k29.K w x [.int .i64 x.f0,.int .i64 x.f1,.string x.f2,.slice A3 x.f3.length c3] := by
  obtain ⟨n3,q3⟩ := Kd.fix_C_back mono29 g3
  have r3 := Kd.upto_C_le mono29 sz29 (show n3 ≤ n3 by omega) q3
  exact ⟨n3 + 1,⟨[.int .i64 x.f0],[.int .i64 x.f1,.string x.f2,.slice A3 x.f3.length c3],rfl,rfl,⟨[.int .i64 x.f1],[.string x.f2,.slice A3 x.f3.length c3],rfl,rfl,⟨[.string x.f2],[.slice A3 x.f3.length c3],rfl,rfl,⟨A3,c3,rfl,l3,r3⟩⟩⟩⟩⟩
theorem k29_mkM (w : World) (base : Nat) (ok : Nat → Prop) (x : S29) {v3 : Value} (g3 : k29.R 29 w base ok v3 x.f3) : k29.M w base ok x [.int .i64 x.f0,.int .i64 x.f1,.string x.f2,v3] := by
  obtain ⟨n3,q3⟩ := Kd.fix_R_back mono29 g3
  have r3 := Kd.upto_R_le mono29 sz29 (show n3 ≤ n3 by omega) q3
  exact ⟨n3 + 1,⟨[.int .i64 x.f0],[.int .i64 x.f1,.string x.f2,v3],rfl,rfl,⟨[.int .i64 x.f1],[.string x.f2,v3],rfl,rfl,⟨[.string x.f2],[v3],rfl,rfl,⟨v3,rfl,r3⟩⟩⟩⟩⟩
theorem k29_openF {W : World} {ok : Nat → Prop} {x : S29} {cs : List Value} (h : Kd.FK k29 W ok x cs) : ∃ A3 c3,cs = [.int .i64 x.f0,.int .i64 x.f1,.string x.f2,.slice A3 x.f3.length c3] ∧ x.f3.length ≤ c3 ∧ Kd.F k29 W ok A3 x.f3.length x.f3 := by
  obtain ⟨A3,c3,rfl,l3,_⟩ := k29_open (Kd.FK_now h)
  exact ⟨A3,c3,rfl,l3,(fun W' hW => by obtain ⟨A3_,c3_,he,l3_,g3_⟩ := k29_open (h W' hW);injection (Option.some.inj (show some (Value.slice A3 x.f3.length c3) = some (Value.slice A3_ x.f3.length c3_) from congrArg (fun l => l[3]?) he)) with ha_ _ _;rw [ha_];exact g3_)⟩
theorem k29_mkF (W : World) (ok : Nat → Prop) (x : S29) {A3 : Option Addr} {c3 : Nat} (l3 : x.f3.length ≤ c3) (g3 : Kd.F k29 W ok A3 x.f3.length x.f3) : Kd.FK k29 W ok x [.int .i64 x.f0,.int .i64 x.f1,.string x.f2,.slice A3 x.f3.length c3] := fun W2 hW => k29_mk W2 x l3 (g3 W2 hW)
def rd_T29 (xs : List S29) (i : Int) : S29 := xs.getD i.toNat z29
theorem at_T29 {w : World} {A : Option Addr} {n : Nat} {xs : List S29} (h : Kd.C k29 w A n xs) (i : Int) (h0 : 0 ≤ i) (h1 : i < n) : ∃ ad A3 c3,A = some ad ∧ w.cell? (ad.add (i.toNat * 4)) = some (.int .i64 (rd_T29 xs i).f0) ∧ w.cell? ⟨(ad.add (i.toNat * 4)).block,(ad.add (i.toNat * 4)).off + 1,none⟩ = some (.int .i64 (rd_T29 xs i).f1) ∧ w.cell? ⟨(ad.add (i.toNat * 4)).block,(ad.add (i.toNat * 4)).off + 2,none⟩ = some (.string (rd_T29 xs i).f2) ∧ w.cell? ⟨(ad.add (i.toNat * 4)).block,(ad.add (i.toNat * 4)).off + 3,none⟩ = some (.slice A3 (rd_T29 xs i).f3.length c3) ∧ (rd_T29 xs i).f3.length ≤ c3 ∧ k29.C w A3 (rd_T29 xs i).f3.length (rd_T29 xs i).f3 := by
  obtain ⟨ad,c,e,_,hK,hc0⟩ := Kd.C_get h z29 i h0 h1
  have hc : ∀ j u,c[j]? = some u → w.cell? (ad.add (i.toNat * 4 + j)) = some u := hc0
  obtain ⟨A3,c3,rfl,l3,g3⟩ := k29_open hK
  exact ⟨ad,A3,c3,e,hc 0 _ rfl,by rw [← add_field _ _ 1 (by omega)];exact hc 1 _ rfl,by rw [← add_field _ _ 2 (by omega)];exact hc 2 _ rfl,by rw [← add_field _ _ 3 (by omega)];exact hc 3 _ rfl,l3,g3⟩

/-! #### struct type 37, nested in itself -/
structure P59 (α : Type) where
  f0 : α
  f1 : α
structure S37 where
  f0 : Int
  f1 : Int
  f2 : ByteArray
  f3 : (List S37)
  f4 : (List (P59 S37))
abbrev S59 := P59 S37
def z37 : S37 := ⟨(0 : Int),(0 : Int),(⟨#[]⟩ : ByteArray),([] : List S37),([] : List S59)⟩
def G59 (d : Kd S37) : Kd S59 := Kd.iso (Kd.pair d d) (fun x : S59 => (x.f0,x.f1))
theorem monoG59 : Kd.Mono G59 := Kd.mono_iso _ (Kd.mono_pair Kd.mono_id Kd.mono_id)
theorem subG59 {E : List Nat} : Kd.Sub G59 E := Kd.sub_iso _ (Kd.sub_pair Kd.sub_id Kd.sub_id)
def F37 (d : Kd S37) : Kd S37 := Kd.iso (Kd.pair (Kd.int .i64) (Kd.pair (Kd.int .i64) (Kd.pair Kd.string (Kd.pair (Kd.slice 37 d) (Kd.slice 59 (G59 d)))))) (fun x : S37 => (x.f0,x.f1,x.f2,x.f3,x.f4))
theorem mono37 : Kd.Mono F37 := Kd.mono_iso _ (Kd.mono_pair (Kd.mono_const _) (Kd.mono_pair (Kd.mono_const _) (Kd.mono_pair (Kd.mono_const _) (Kd.mono_pair (Kd.mono_slice 37 Kd.mono_id) (Kd.mono_slice 59 monoG59)))))
theorem sub37 : Kd.Sub F37 [37,59] := Kd.sub_iso _ (Kd.sub_pair (Kd.sub_const _ (by decide)) (Kd.sub_pair (Kd.sub_const _ (by decide)) (Kd.sub_pair (Kd.sub_const _ (by decide)) (Kd.sub_pair (Kd.sub_slice 37 (by decide) Kd.sub_id) (Kd.sub_slice 59 (by decide) subG59)))))
theorem sz37 : ∀ n,(Kd.upto F37 5 [37,59] n).sz = 5 := Kd.upto_sz (fun _ => rfl)
def k37 : Kd S37 := Kd.fix F37 5 [37,59] sz37 (Kd.upto_E sub37)
def k59 : Kd S59 := G59 k37
theorem hbK59 {w : World} {x : S59} {cs : List Value} (h : (G59 k37).K w x cs) : ∃ n,(G59 (Kd.upto F37 5 [37,59] n)).K w x cs := by
  obtain ⟨c0,c1,rfl,⟨n0,h0⟩,⟨n1,h1⟩⟩ := h
  exact ⟨max n0 n1,c0,c1,rfl,Kd.upto_K_le mono37 sz37 (Nat.le_max_left _ _) h0,Kd.upto_K_le mono37 sz37 (Nat.le_max_right _ _) h1⟩
theorem hbM59 {w : World} {base : Nat} {ok : Nat → Prop} {x : S59} {cs : List Value} (h : (G59 k37).M w base ok x cs) : ∃ n,(G59 (Kd.upto F37 5 [37,59] n)).M w base ok x cs := by
  obtain ⟨c0,c1,rfl,⟨n0,h0⟩,⟨n1,h1⟩⟩ := h
  exact ⟨max n0 n1,c0,c1,rfl,Kd.upto_M_le mono37 sz37 (Nat.le_max_left _ _) h0,Kd.upto_M_le mono37 sz37 (Nat.le_max_right _ _) h1⟩
theorem k37_heap : Kd.Heap k37 := Kd.heap_fix (fun _ h_ => Kd.heap_iso _ (Kd.heap_pair (Kd.heap_int .i64) (Kd.heap_pair (Kd.heap_int .i64) (Kd.heap_pair Kd.heap_string (Kd.heap_pair (Kd.heap_slice 37 h_) (Kd.heap_slice 59 (Kd.heap_iso _ (Kd.heap_pair h_ h_))))))))
theorem k37_open {w : World} {x : S37} {cs : List Value} (h : k37.K w x cs) : ∃ A3 c3 A4 c4,cs = [.int .i64 x.f0,.int .i64 x.f1,.string x.f2,.slice A3 x.f3.length c3,.slice A4 x.f4.length c4] ∧ x.f3.length ≤ c3 ∧ k37.C w A3 x.f3.length x.f3 ∧ x.f4.length ≤ c4 ∧ k59.C w A4 x.f4.length x.f4 := by
  obtain ⟨n,h⟩ := h
  cases n with
  | zero => exact h.elim
  | succ n =>
    obtain ⟨_,_,rfl,rfl,⟨_,_,rfl,rfl,⟨_,_,rfl,rfl,⟨_,_,rfl,⟨A3,c3,rfl,l3,g3⟩,⟨A4,c4,rfl,l4,g4⟩⟩⟩⟩⟩ := h
    exact ⟨A3,c3,A4,c4,rfl,l3,Kd.fix_C g3,l4,nest_C monoG59 g4⟩
theorem k37_openM {w : World} {base : Nat} {ok : Nat → Prop} {x : S37} {cs : List Value} (h : k37.M w base ok x cs) : ∃ v3 v4,cs = [.int .i64 x.f0,.int .i64 x.f1,.string x.f2,v3,v4] ∧ k37.R 37 w base ok v3 x.f3 ∧ k59.R 59 w base ok v4 x.f4 := by
  obtain ⟨n,h⟩ := h
  cases n with
  | zero => exact h.elim
  | succ n =>
    obtain ⟨_,_,rfl,rfl,⟨_,_,rfl,rfl,⟨_,_,rfl,rfl,⟨_,_,rfl,⟨v3,rfl,g3⟩,⟨v4,rfl,g4⟩⟩⟩⟩⟩ := h
    exact ⟨v3,v4,rfl,Kd.fix_R g3,nest_R monoG59 g4⟩
theorem k37_mk (w : World) (x : S37) {A3 : Option Addr} {c3 : Nat} (l3 : x.f3.length ≤ c3) (g3 : k37.C w A3 x.f3.length x.f3) {A4 : Option Addr} {c4 : Nat} (l4 : x.f4.length ≤ c4) (g4 : k59.C w A4 x.f4.length x.f4) : k37.K w x [.int .i64 x.f0,.int .i64 x.f1,.string x.f2,.slice A3 x.f3.length c3,.slice A4 x.f4.length c4] := by
  obtain ⟨n3,q3⟩ := Kd.fix_C_back mono37 g3
  obtain ⟨n4,q4⟩ := nest_C_back mono37 monoG59 hbK59 g4
  have r3 := Kd.upto_C_le mono37 sz37 (show n3 ≤ (max n3 n4) by omega) q3
  have r4 := nest_C_le mono37 sz37 monoG59 (show n4 ≤ (max n3 n4) by omega) q4
  exact ⟨(max n3 n4) + 1,⟨[.int .i64 x.f0],[.int .i64 x.f1,.string x.f2,.slice A3 x.f3.length c3,.slice A4 x.f4.length c4],rfl,rfl,⟨[.int .i64 x.f1],[.string x.f2,.slice A3 x.f3.length c3,.slice A4 x.f4.length c4],rfl,rfl,⟨[.string x.f2],[.slice A3 x.f3.length c3,.slice A4 x.f4.length c4],rfl,rfl,⟨[.slice A3 x.f3.length c3],[.slice A4 x.f4.length c4],rfl,⟨A3,c3,rfl,l3,r3⟩,⟨A4,c4,rfl,l4,r4⟩⟩⟩⟩⟩⟩
theorem k37_mkM (w : World) (base : Nat) (ok : Nat → Prop) (x : S37) {v3 : Value} (g3 : k37.R 37 w base ok v3 x.f3) {v4 : Value} (g4 : k59.R 59 w base ok v4 x.f4) : k37.M w base ok x [.int .i64 x.f0,.int .i64 x.f1,.string x.f2,v3,v4] := by
  obtain ⟨n3,q3⟩ := Kd.fix_R_back mono37 g3
  obtain ⟨n4,q4⟩ := nest_R_back mono37 monoG59 hbM59 g4
  have r3 := Kd.upto_R_le mono37 sz37 (show n3 ≤ (max n3 n4) by omega) q3
  have r4 := nest_R_le mono37 sz37 monoG59 (show n4 ≤ (max n3 n4) by omega) q4
  exact ⟨(max n3 n4) + 1,⟨[.int .i64 x.f0],[.int .i64 x.f1,.string x.f2,v3,v4],rfl,rfl,⟨[.int .i64 x.f1],[.string x.f2,v3,v4],rfl,rfl,⟨[.string x.f2],[v3,v4],rfl,rfl,⟨[v3],[v4],rfl,⟨v3,rfl,r3⟩,⟨v4,rfl,r4⟩⟩⟩⟩⟩⟩
theorem k37_openF {W : World} {ok : Nat → Prop} {x : S37} {cs : List Value} (h : Kd.FK k37 W ok x cs) : ∃ A3 c3 A4 c4,cs = [.int .i64 x.f0,.int .i64 x.f1,.string x.f2,.slice A3 x.f3.length c3,.slice A4 x.f4.length c4] ∧ x.f3.length ≤ c3 ∧ Kd.F k37 W ok A3 x.f3.length x.f3 ∧ x.f4.length ≤ c4 ∧ Kd.F k59 W ok A4 x.f4.length x.f4 := by
  obtain ⟨A3,c3,A4,c4,rfl,l3,_,l4,_⟩ := k37_open (Kd.FK_now h)
  exact ⟨A3,c3,A4,c4,rfl,l3,(fun W' hW => by obtain ⟨A3_,c3_,A4_,c4_,he,l3_,g3_,l4_,g4_⟩ := k37_open (h W' hW);injection (Option.some.inj (show some (Value.slice A3 x.f3.length c3) = some (Value.slice A3_ x.f3.length c3_) from congrArg (fun l => l[3]?) he)) with ha_ _ _;rw [ha_];exact g3_),l4,(fun W' hW => by obtain ⟨A3_,c3_,A4_,c4_,he,l3_,g3_,l4_,g4_⟩ := k37_open (h W' hW);injection (Option.some.inj (show some (Value.slice A4 x.f4.length c4) = some (Value.slice A4_ x.f4.length c4_) from congrArg (fun l => l[4]?) he)) with ha_ _ _;rw [ha_];exact g4_)⟩
theorem k37_mkF (W : World) (ok : Nat → Prop) (x : S37) {A3 : Option Addr} {c3 : Nat} (l3 : x.f3.length ≤ c3) (g3 : Kd.F k37 W ok A3 x.f3.length x.f3) {A4 : Option Addr} {c4 : Nat} (l4 : x.f4.length ≤ c4) (g4 : Kd.F k59 W ok A4 x.f4.length x.f4) : Kd.FK k37 W ok x [.int .i64 x.f0,.int .i64 x.f1,.string x.f2,.slice A3 x.f3.length c3,.slice A4 x.f4.length c4] := fun W2 hW => k37_mk W2 x l3 (g3 W2 hW) l4 (g4 W2 hW)
def rd_T37 (xs : List S37) (i : Int) : S37 := xs.getD i.toNat z37
theorem at_T37 {w : World} {A : Option Addr} {n : Nat} {xs : List S37} (h : Kd.C k37 w A n xs) (i : Int) (h0 : 0 ≤ i) (h1 : i < n) : ∃ ad A3 c3 A4 c4,A = some ad ∧ w.cell? (ad.add (i.toNat * 5)) = some (.int .i64 (rd_T37 xs i).f0) ∧ w.cell? ⟨(ad.add (i.toNat * 5)).block,(ad.add (i.toNat * 5)).off + 1,none⟩ = some (.int .i64 (rd_T37 xs i).f1) ∧ w.cell? ⟨(ad.add (i.toNat * 5)).block,(ad.add (i.toNat * 5)).off + 2,none⟩ = some (.string (rd_T37 xs i).f2) ∧ w.cell? ⟨(ad.add (i.toNat * 5)).block,(ad.add (i.toNat * 5)).off + 3,none⟩ = some (.slice A3 (rd_T37 xs i).f3.length c3) ∧ w.cell? ⟨(ad.add (i.toNat * 5)).block,(ad.add (i.toNat * 5)).off + 4,none⟩ = some (.slice A4 (rd_T37 xs i).f4.length c4) ∧ (rd_T37 xs i).f3.length ≤ c3 ∧ k37.C w A3 (rd_T37 xs i).f3.length (rd_T37 xs i).f3 ∧ (rd_T37 xs i).f4.length ≤ c4 ∧ k59.C w A4 (rd_T37 xs i).f4.length (rd_T37 xs i).f4 := by
  obtain ⟨ad,c,e,_,hK,hc0⟩ := Kd.C_get h z37 i h0 h1
  have hc : ∀ j u,c[j]? = some u → w.cell? (ad.add (i.toNat * 5 + j)) = some u := hc0
  obtain ⟨A3,c3,A4,c4,rfl,l3,g3,l4,g4⟩ := k37_open hK
  exact ⟨ad,A3,c3,A4,c4,e,hc 0 _ rfl,by rw [← add_field _ _ 1 (by omega)];exact hc 1 _ rfl,by rw [← add_field _ _ 2 (by omega)];exact hc 2 _ rfl,by rw [← add_field _ _ 3 (by omega)];exact hc 3 _ rfl,by rw [← add_field _ _ 4 (by omega)];exact hc 4 _ rfl,l3,g3,l4,g4⟩

/-! #### struct type 59 -/
def z59 : S59 := ⟨z37,z37⟩
theorem k59_heap : Kd.Heap k59 := Kd.heap_iso _ (Kd.heap_pair k37_heap k37_heap)
theorem k59_open {w : World} {x : S59} {cs : List Value} (h : k59.K w x cs) : ∃ A3 c3 A4 c4 A8 c8 A9 c9,cs = [.int .i64 x.f0.f0,.int .i64 x.f0.f1,.string x.f0.f2,.slice A3 x.f0.f3.length c3,.slice A4 x.f0.f4.length c4,.int .i64 x.f1.f0,.int .i64 x.f1.f1,.string x.f1.f2,.slice A8 x.f1.f3.length c8,.slice A9 x.f1.f4.length c9] ∧ x.f0.f3.length ≤ c3 ∧ k37.C w A3 x.f0.f3.length x.f0.f3 ∧ x.f0.f4.length ≤ c4 ∧ k59.C w A4 x.f0.f4.length x.f0.f4 ∧ x.f1.f3.length ≤ c8 ∧ k37.C w A8 x.f1.f3.length x.f1.f3 ∧ x.f1.f4.length ≤ c9 ∧ k59.C w A9 x.f1.f4.length x.f1.f4 := by
  obtain ⟨_,_,rfl,s0,s5⟩ := h
  obtain ⟨A3,c3,A4,c4,rfl,l3,g3,l4,g4⟩ := k37_open s0
  obtain ⟨A8,c8,A9,c9,rfl,l8,g8,l9,g9⟩ := k37_open s5
  exact ⟨A3,c3,A4,c4,A8,c8,A9,c9,rfl,l3,g3,l4,g4,l8,g8,l9,g9⟩
theorem k59_openM {w : World} {base : Nat} {ok : Nat → Prop} {x : S59} {cs : List Value} (h : k59.M w base ok x cs) : ∃ v3 v4 v8 v9,cs = [.int .i64 x.f0.f0,.int .i64 x.f0.f1,.string x.f0.f2,v3,v4,.int .i64 x.f1.f0,.int .i64 x.f1.f1,.string x.f1.f2,v8,v9] ∧ k37.R 37 w base ok v3 x.f0.f3 ∧ k59.R 59 w base ok v4 x.f0.f4 ∧ k37.R 37 w base ok v8 x.f1.f3 ∧ k59.R 59 w base ok v9 x.f1.f4 := by
  obtain ⟨_,_,rfl,s0,s5⟩ := h
  obtain ⟨v3,v4,rfl,g3,g4⟩ := k37_openM s0
  obtain ⟨v8,v9,rfl,g8,g9⟩ := k37_openM s5
  exact ⟨v3,v4,v8,v9,rfl,g3,g4,g8,g9⟩
theorem k59_mk (w : World) (x : S59) {A3 : Option Addr} {c3 : Nat} (l3 : x.f0.f3.length ≤ c3) (g3 : k37.C w A3 x.f0.f3.length x.f0.f3) {A4 : Option Addr} {c4 : Nat} (l4 : x.f0.f4.length ≤ c4) (g4 : k59.C w A4 x.f0.f4.length x.f0.f4) {A8 : Option Addr} {c8 : Nat} (l8 : x.f1.f3.length ≤ c8) (g8 : k37.C w A8 x.f1.f3.length x.f1.f3) {A9 : Option Addr} {c9 : Nat} (l9 : x.f1.f4.length ≤ c9) (g9 : k59.C w A9 x.f1.f4.length x.f1.f4) : k59.K w x [.int .i64 x.f0.f0,.int .i64 x.f0.f1,.string x.f0.f2,.slice A3 x.f0.f3.length c3,.slice A4 x.f0.f4.length c4,.int .i64 x.f1.f0,.int .i64 x.f1.f1,.string x.f1.f2,.slice A8 x.f1.f3.length c8,.slice A9 x.f1.f4.length c9] := ⟨[.int .i64 x.f0.f0,.int .i64 x.f0.f1,.string x.f0.f2,.slice A3 x.f0.f3.length c3,.slice A4 x.f0.f4.length c4],[.int .i64 x.f1.f0,.int .i64 x.f1.f1,.string x.f1.f2,.slice A8 x.f1.f3.length c8,.slice A9 x.f1.f4.length c9],rfl,(k37_mk w x.f0 l3 g3 l4 g4),(k37_mk w x.f1 l8 g8 l9 g9)⟩
theorem k59_mkM (w : World) (base : Nat) (ok : Nat → Prop) (x : S59) {v3 : Value} (g3 : k37.R 37 w base ok v3 x.f0.f3) {v4 : Value} (g4 : k59.R 59 w base ok v4 x.f0.f4) {v8 : Value} (g8 : k37.R 37 w base ok v8 x.f1.f3) {v9 : Value} (g9 : k59.R 59 w base ok v9 x.f1.f4) : k59.M w base ok x [.int .i64 x.f0.f0,.int .i64 x.f0.f1,.string x.f0.f2,v3,v4,.int .i64 x.f1.f0,.int .i64 x.f1.f1,.string x.f1.f2,v8,v9] := ⟨[.int .i64 x.f0.f0,.int .i64 x.f0.f1,.string x.f0.f2,v3,v4],[.int .i64 x.f1.f0,.int .i64 x.f1.f1,.string x.f1.f2,v8,v9],rfl,(k37_mkM w base ok x.f0 g3 g4),(k37_mkM w base ok x.f1 g8 g9)⟩
theorem k59_openF {W : World} {ok : Nat → Prop} {x : S59} {cs : List Value} (h : Kd.FK k59 W ok x cs) : ∃ A3 c3 A4 c4 A8 c8 A9 c9,cs = [.int .i64 x.f0.f0,.int .i64 x.f0.f1,.string x.f0.f2,.slice A3 x.f0.f3.length c3,.slice A4 x.f0.f4.length c4,.int .i64 x.f1.f0,.int .i64 x.f1.f1,.string x.f1.f2,.slice A8 x.f1.f3.length c8,.slice A9 x.f1.f4.length c9] ∧ x.f0.f3.length ≤ c3 ∧ Kd.F k37 W ok A3 x.f0.f3.length x.f0.f3 ∧ x.f0.f4.length ≤ c4 ∧ Kd.F k59 W ok A4 x.f0.f4.length x.f0.f4 ∧ x.f1.f3.length ≤ c8 ∧ Kd.F k37 W ok A8 x.f1.f3.length x.f1.f3 ∧ x.f1.f4.length ≤ c9 ∧ Kd.F k59 W ok A9 x.f1.f4.length x.f1.f4 := by
  obtain ⟨A3,c3,A4,c4,A8,c8,A9,c9,rfl,l3,_,l4,_,l8,_,l9,_⟩ := k59_open (Kd.FK_now h)
  exact ⟨A3,c3,A4,c4,A8,c8,A9,c9,rfl,l3,(fun W' hW => by obtain ⟨A3_,c3_,A4_,c4_,A8_,c8_,A9_,c9_,he,l3_,g3_,l4_,g4_,l8_,g8_,l9_,g9_⟩ := k59_open (h W' hW);injection (Option.some.inj (show some (Value.slice A3 x.f0.f3.length c3) = some (Value.slice A3_ x.f0.f3.length c3_) from congrArg (fun l => l[3]?) he)) with ha_ _ _;rw [ha_];exact g3_),l4,(fun W' hW => by obtain ⟨A3_,c3_,A4_,c4_,A8_,c8_,A9_,c9_,he,l3_,g3_,l4_,g4_,l8_,g8_,l9_,g9_⟩ := k59_open (h W' hW);injection (Option.some.inj (show some (Value.slice A4 x.f0.f4.length c4) = some (Value.slice A4_ x.f0.f4.length c4_) from congrArg (fun l => l[4]?) he)) with ha_ _ _;rw [ha_];exact g4_),l8,(fun W' hW => by obtain ⟨A3_,c3_,A4_,c4_,A8_,c8_,A9_,c9_,he,l3_,g3_,l4_,g4_,l8_,g8_,l9_,g9_⟩ := k59_open (h W' hW);injection (Option.some.inj (show some (Value.slice A8 x.f1.f3.length c8) = some (Value.slice A8_ x.f1.f3.length c8_) from congrArg (fun l => l[8]?) he)) with ha_ _ _;rw [ha_];exact g8_),l9,(fun W' hW => by obtain ⟨A3_,c3_,A4_,c4_,A8_,c8_,A9_,c9_,he,l3_,g3_,l4_,g4_,l8_,g8_,l9_,g9_⟩ := k59_open (h W' hW);injection (Option.some.inj (show some (Value.slice A9 x.f1.f4.length c9) = some (Value.slice A9_ x.f1.f4.length c9_) from congrArg (fun l => l[9]?) he)) with ha_ _ _;rw [ha_];exact g9_)⟩
theorem k59_mkF (W : World) (ok : Nat → Prop) (x : S59) {A3 : Option Addr} {c3 : Nat} (l3 : x.f0.f3.length ≤ c3) (g3 : Kd.F k37 W ok A3 x.f0.f3.length x.f0.f3) {A4 : Option Addr} {c4 : Nat} (l4 : x.f0.f4.length ≤ c4) (g4 : Kd.F k59 W ok A4 x.f0.f4.length x.f0.f4) {A8 : Option Addr} {c8 : Nat} (l8 : x.f1.f3.length ≤ c8) (g8 : Kd.F k37 W ok A8 x.f1.f3.length x.f1.f3) {A9 : Option Addr} {c9 : Nat} (l9 : x.f1.f4.length ≤ c9) (g9 : Kd.F k59 W ok A9 x.f1.f4.length x.f1.f4) : Kd.FK k59 W ok x [.int .i64 x.f0.f0,.int .i64 x.f0.f1,.string x.f0.f2,.slice A3 x.f0.f3.length c3,.slice A4 x.f0.f4.length c4,.int .i64 x.f1.f0,.int .i64 x.f1.f1,.string x.f1.f2,.slice A8 x.f1.f3.length c8,.slice A9 x.f1.f4.length c9] := fun W2 hW => k59_mk W2 x l3 (g3 W2 hW) l4 (g4 W2 hW) l8 (g8 W2 hW) l9 (g9 W2 hW)
def rd_T59 (xs : List S59) (i : Int) : S59 := xs.getD i.toNat z59
theorem at_T59 {w : World} {A : Option Addr} {n : Nat} {xs : List S59} (h : Kd.C k59 w A n xs) (i : Int) (h0 : 0 ≤ i) (h1 : i < n) : ∃ ad A3 c3 A4 c4 A8 c8 A9 c9,A = some ad ∧ w.cell? (ad.add (i.toNat * 10)) = some (.int .i64 (rd_T59 xs i).f0.f0) ∧ w.cell? ⟨(ad.add (i.toNat * 10)).block,(ad.add (i.toNat * 10)).off + 1,none⟩ = some (.int .i64 (rd_T59 xs i).f0.f1) ∧ w.cell? ⟨(ad.add (i.toNat * 10)).block,(ad.add (i.toNat * 10)).off + 2,none⟩ = some (.string (rd_T59 xs i).f0.f2) ∧ w.cell? ⟨(ad.add (i.toNat * 10)).block,(ad.add (i.toNat * 10)).off + 3,none⟩ = some (.slice A3 (rd_T59 xs i).f0.f3.length c3) ∧ w.cell? ⟨(ad.add (i.toNat * 10)).block,(ad.add (i.toNat * 10)).off + 4,none⟩ = some (.slice A4 (rd_T59 xs i).f0.f4.length c4) ∧ w.cell? ⟨(ad.add (i.toNat * 10)).block,(ad.add (i.toNat * 10)).off + 5,none⟩ = some (.int .i64 (rd_T59 xs i).f1.f0) ∧ w.cell? ⟨(ad.add (i.toNat * 10)).block,(ad.add (i.toNat * 10)).off + 6,none⟩ = some (.int .i64 (rd_T59 xs i).f1.f1) ∧ w.cell? ⟨(ad.add (i.toNat * 10)).block,(ad.add (i.toNat * 10)).off + 7,none⟩ = some (.string (rd_T59 xs i).f1.f2) ∧ w.cell? ⟨(ad.add (i.toNat * 10)).block,(ad.add (i.toNat * 10)).off + 8,none⟩ = some (.slice A8 (rd_T59 xs i).f1.f3.length c8) ∧ w.cell? ⟨(ad.add (i.toNat * 10)).block,(ad.add (i.toNat * 10)).off + 9,none⟩ = some (.slice A9 (rd_T59 xs i).f1.f4.length c9) ∧ (rd_T59 xs i).f0.f3.length ≤ c3 ∧ k37.C w A3 (rd_T59 xs i).f0.f3.length (rd_T59 xs i).f0.f3 ∧ (rd_T59 xs i).f0.f4.length ≤ c4 ∧ k59.C w A4 (rd_T59 xs i).f0.f4.length (rd_T59 xs i).f0.f4 ∧ (rd_T59 xs i).f1.f3.length ≤ c8 ∧ k37.C w A8 (rd_T59 xs i).f1.f3.length (rd_T59 xs i).f1.f3 ∧ (rd_T59 xs i).f1.f4.length ≤ c9 ∧ k59.C w A9 (rd_T59 xs i).f1.f4.length (rd_T59 xs i).f1.f4 := by
  obtain ⟨ad,c,e,_,hK,hc0⟩ := Kd.C_get h z59 i h0 h1
  have hc : ∀ j u,c[j]? = some u → w.cell? (ad.add (i.toNat * 10 + j)) = some u := hc0
  obtain ⟨A3,c3,A4,c4,A8,c8,A9,c9,rfl,l3,g3,l4,g4,l8,g8,l9,g9⟩ := k59_open hK
  exact ⟨ad,A3,c3,A4,c4,A8,c8,A9,c9,e,hc 0 _ rfl,by rw [← add_field _ _ 1 (by omega)];exact hc 1 _ rfl,by rw [← add_field _ _ 2 (by omega)];exact hc 2 _ rfl,by rw [← add_field _ _ 3 (by omega)];exact hc 3 _ rfl,by rw [← add_field _ _ 4 (by omega)];exact hc 4 _ rfl,by rw [← add_field _ _ 5 (by omega)];exact hc 5 _ rfl,by rw [← add_field _ _ 6 (by omega)];exact hc 6 _ rfl,by rw [← add_field _ _ 7 (by omega)];exact hc 7 _ rfl,by rw [← add_field _ _ 8 (by omega)];exact hc 8 _ rfl,by rw [← add_field _ _ 9 (by omega)];exact hc 9 _ rfl,l3,g3,l4,g4,l8,g8,l9,g9⟩


theorem isEmpty_ne (l : List UInt8) : (!l.isEmpty) = (l != []) := by cases l <;> rfl
theorem isEmpty_be (l : List UInt8) : l.isEmpty = (l == []) := by cases l <;> rfl





end Go.Proofs.Ytboiagjicjgceaa.QFnAtoms
