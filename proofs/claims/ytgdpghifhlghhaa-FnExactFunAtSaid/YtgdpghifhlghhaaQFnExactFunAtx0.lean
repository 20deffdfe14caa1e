-- Written by a program of this workplace (print2.py) for this claim, over the print's words.
import Derived.Test.YtgdpghifhlghhaaProg
import Derived.Below
import Derived.Deep.Draws
import Derived.Deep.AppendLies
import Derived.Maps.AppendAt
import Derived.OwnWalk
import Derived.Laws.BytesArg
import Derived.Laws.MakeOwn
import Derived.Laws.OwnMore
import Derived.Deep.OwnRows
import Derived.Tactics
import Derived.Lib.ConvBytes
import Derived.Laws.Slices
import Derived.WalkKit
import Derived.KernelRfl
import Derived.RowKit3
import Derived.Deep.LoopGhost
import Derived.Deep.QuietTactic
import Derived.BigQuiet
import Derived.WideLaws
import Derived.Deep.DeepCutAuto
import Derived.Deep.CutBlock
import Derived.Deep.RegionHeld3
import Derived.Laws.Rows
import Derived.Lib.AppendStr
import Derived.ArgAppend
import Derived.Laws.IdiomCopy
import Derived.OrdersHeld
import Derived.Laws.BitsLemmas
import Derived.RowKit
import Derived.Lib.SliceRun
import Derived.Test.YtgdpghifhlghhaaWWords
import Derived.Test.YtgdpghifhlghhaaWLast
import Derived.Test.YtgdpghifhlghhaaWTab
import Derived.Test.YtgdpghifhlghhaaWFour
import Derived.Test.YtgdpghifhlghhaaWQPut
import Derived.Test.YtgdpghifhlghhaaWApart
import Derived.Test.YtgdpghifhlghhaaWArr
import Derived.Test.YtgdpghifhlghhaaWZeros
import Derived.Test.YtgdpghifhlghhaaWFoot
import Derived.Test.YtgdpghifhlghhaaWKept
import Derived.Test.YtgdpghifhlghhaaWShare
import Derived.Test.YtgdpghifhlghhaaWN
import Derived.Test.YtgdpghifhlghhaaWFootNe
import Derived.Test.YtgdpghifhlghhaaWAt
import Derived.Test.YtgdpghifhlghhaaWEqStruct
import Derived.Test.YtgdpghifhlghhaaWRepsOne
import Derived.Test.YtgdpghifhlghhaaWInv
import Derived.Test.YtgdpghifhlghhaaWInvWords
import Derived.Test.YtgdpghifhlghhaaWGuard
import Derived.Test.YtgdpghifhlghhaaWNEv
import Derived.Test.YtgdpghifhlghhaaWMore
namespace Go.Proofs.Ytgdpghifhlghhaa.QFnExactFunAt
open Go.RowKit Go.Proofs.YtgdpghifhlghhaaW.PrintWords Go.Proofs.YtgdpghifhlghhaaW.PrintLast Go.Proofs.YtgdpghifhlghhaaW.PrintMore
attribute [local go_sem] max2_int min2_int max_two min_two max_three min_three max_four min_four   -- for this text's walks alone
set_option linter.unusedVariables false
set_option linter.unusedSimpArgs false



def errW : Option Int → Value
  | none => .nilIface
  | some c => .iface 0 (.int .i64 c)
theorem errW_none : errW none = .nilIface := rfl
theorem errW_some (c : Int) : errW (some c) = .iface 0 (.int .i64 c) := rfl

theorem info9 : (Try.prog.info? 9).map (fun i => (i.zero, i.size, i.bytes)) = some (some (.string ⟨#[]⟩), 1, 16) := by kernel_rfl
theorem info38 : (Try.prog.info? 38).map (fun i => (i.zero, i.size, i.bytes)) = some (some (.agg #[(.int .i64 0), (.int .i64 0), (.string ⟨#[]⟩), (.slice none 0 0), (.slice none 0 0)]), 5, 80) := by kernel_rfl
theorem info40 : (Try.prog.info? 40).map (fun i => (i.zero, i.size, i.bytes)) = some (some (.agg #[(.string ⟨#[]⟩), (.slice none 0 0), (.int .i64 0), (.int .i64 0), (.string ⟨#[]⟩), (.slice none 0 0), (.slice none 0 0)]), 7, 120) := by kernel_rfl
theorem info70 : (Try.prog.info? 70).map (fun i => (i.zero, i.size, i.bytes)) = some (some (.agg #[(.int .i64 0), (.int .i64 0), (.string ⟨#[]⟩), (.slice none 0 0), (.slice none 0 0), (.int .i64 0), (.int .i64 0), (.string ⟨#[]⟩), (.slice none 0 0), (.slice none 0 0)]), 10, 160) := by kernel_rfl
-- the values' own types
section
variable {α β : Type} {F : Kd α → Kd α} {G : Kd α → Kd β} {sz : Nat} {E : List Nat} {hs : ∀ n, (Kd.upto F sz E n).sz = sz} {hE : ∀ n q, q ∈ (Kd.upto F sz E n).E → q ∈ E}
theorem nest_C (hg : Kd.Mono G) {n : Nat} {w : World} {A : Option Addr} {m : Nat} {xs : List β} (h : (G (Kd.upto F sz E n)).C w A m xs) : (G (Kd.fix F sz E hs hE)).C w A m xs :=
  Kd.C_imp (hg.sz _ _ (hs n)) (fun w x cs hp => hg.K _ (Kd.fix F sz E hs hE) (hs n) (fun w x cs hp => (⟨n, hp⟩ : ∃ n, (Kd.upto F sz E n).K w x cs)) w x cs hp) h
theorem nest_R (hg : Kd.Mono G) {n : Nat} {e : Nat} {w : World} {base : Nat} {ok : Nat → Prop} {v : Value} {xs : List β} (h : (G (Kd.upto F sz E n)).R e w base ok v xs) : (G (Kd.fix F sz E hs hE)).R e w base ok v xs :=
  Kd.R_imp (hg.sz _ _ (hs n)) (fun w base ok x cs hp => hg.M _ (Kd.fix F sz E hs hE) (hs n) (fun w base ok x cs hp => (⟨n, hp⟩ : ∃ n, (Kd.upto F sz E n).M w base ok x cs)) w base ok x cs hp) h
theorem nest_C_le (hm : Kd.Mono F) (hs : ∀ n, (Kd.upto F sz E n).sz = sz) (hg : Kd.Mono G) {n m : Nat} (hnm : n ≤ m) {w : World} {A : Option Addr} {l : Nat} {xs : List β} (h : (G (Kd.upto F sz E n)).C w A l xs) : (G (Kd.upto F sz E m)).C w A l xs :=
  Kd.C_imp (hg.sz _ _ (by rw [hs n, hs m])) (fun w x cs hp => hg.K _ _ (by rw [hs n, hs m]) (fun _ _ _ hp => Kd.upto_K_le hm hs hnm hp) w x cs hp) h
theorem nest_R_le (hm : Kd.Mono F) (hs : ∀ n, (Kd.upto F sz E n).sz = sz) (hg : Kd.Mono G) {n m : Nat} (hnm : n ≤ m) {e : Nat} {w : World} {base : Nat} {ok : Nat → Prop} {v : Value} {xs : List β} (h : (G (Kd.upto F sz E n)).R e w base ok v xs) : (G (Kd.upto F sz E m)).R e w base ok v xs :=
  Kd.R_imp (hg.sz _ _ (by rw [hs n, hs m])) (fun w base ok x cs hp => hg.M _ _ (by rw [hs n, hs m]) (fun _ _ _ _ _ hp => Kd.upto_M_le hm hs hnm hp) w base ok x cs hp) h
theorem nest_R_back (hm : Kd.Mono F) (hg : Kd.Mono G) (hb : ∀ {w : World} {base : Nat} {ok : Nat → Prop} {x : β} {cs : List Value}, (G (Kd.fix F sz E hs hE)).M w base ok x cs → ∃ n, (G (Kd.upto F sz E n)).M w base ok x cs)
    {e : Nat} {w : World} {base : Nat} {ok : Nat → Prop} {v : Value} {xs : List β} (h : (G (Kd.fix F sz E hs hE)).R e w base ok v xs) : ∃ n, (G (Kd.upto F sz E n)).R e w base ok v xs := by
  obtain ⟨h0, inner, ho, hr⟩ := h
  have hz : ∀ n, (G (Kd.upto F sz E n)).sz = (G (Kd.fix F sz E hs hE)).sz := fun n => hg.sz _ _ (hs n)
  obtain ⟨N, hN⟩ := Kd.reps_bounded (R := fun n p c => (G (Kd.upto F sz E n)).M w base (fun k => ok k ∧ some k ≠ v.ownBlock) p c) (fun n m p c hnm hp => hg.M _ _ (by rw [hs n, hs m]) (fun _ _ _ _ _ hp => Kd.upto_M_le hm hs hnm hp) _ _ _ _ _ hp) (hr.imp_ (fun _ _ hp => hb hp))
  refine ⟨N, h0, inner, ?_, ?_⟩
  · rw [hz N]; exact ho
  · rw [hz N]; exact hN
theorem nest_C_back (hm : Kd.Mono F) (hg : Kd.Mono G) (hb : ∀ {w : World} {x : β} {cs : List Value}, (G (Kd.fix F sz E hs hE)).K w x cs → ∃ n, (G (Kd.upto F sz E n)).K w x cs)
    {w : World} {A : Option Addr} {m : Nat} {xs : List β} (h : (G (Kd.fix F sz E hs hE)).C w A m xs) : ∃ n, (G (Kd.upto F sz E n)).C w A m xs := by
  have hz : ∀ n, (G (Kd.upto F sz E n)).sz = (G (Kd.fix F sz E hs hE)).sz := fun n => hg.sz _ _ (hs n)
  rcases Nat.eq_zero_or_pos m with h0 | hpos
  · subst h0
    exact ⟨0, h.1, h.2.1, fun hp => absurd hp (Nat.lt_irrefl 0)⟩
  · obtain ⟨ad, e, hc⟩ := h.2.2 hpos
    obtain ⟨N, hN⟩ := Kd.bounded (P := fun n j => ∀ p, xs[j]? = some p → ∃ c, c.length = (G (Kd.fix F sz E hs hE)).sz ∧ (G (Kd.upto F sz E n)).K w p c ∧ ∀ i u, c[i]? = some u → w.cell? (ad.add (j * (G (Kd.fix F sz E hs hE)).sz + i)) = some u)
      (fun n n' j hnm hp p hj => by
        obtain ⟨c, h1, h2, h3⟩ := hp p hj
        exact ⟨c, h1, hg.K _ _ (by rw [hs n, hs n']) (fun _ _ _ hp => Kd.upto_K_le hm hs hnm hp) _ _ _ h2, h3⟩) xs.length
      (fun j hj => by
        obtain ⟨c, h1, h2, h3⟩ := hc j _ (List.getElem?_eq_getElem hj)
        obtain ⟨n, h2⟩ := hb h2
        refine ⟨n, fun p hp => ?_⟩
        rw [List.getElem?_eq_getElem hj] at hp
        injection hp with hp
        rw [← hp]
        exact ⟨c, h1, h2, h3⟩)
    refine ⟨N, h.1, h.2.1, fun _ => ⟨ad, e, fun j p hj => ?_⟩⟩
    rw [hz N]
    exact hN j (List.getElem?_eq_some_iff.1 hj).1 p hj
end
/-! #### struct type 49, nested in itself -/
structure P68 (α : Type) where
  f0 : α
  f1 : α
structure S49 where
  f0 : Int
  f1 : Int
  f2 : ByteArray
  f3 : (List S49)
  f4 : (List (P68 S49))
abbrev S68 := P68 S49
def z49 : S49 := ⟨(0 : Int), (0 : Int), (⟨#[]⟩ : ByteArray), ([] : List S49), ([] : List S68)⟩
def G68 (d : Kd S49) : Kd S68 := Kd.iso (Kd.pair d d) (fun x : S68 => (x.f0, x.f1))
theorem monoG68 : Kd.Mono G68 := Kd.mono_iso _ (Kd.mono_pair Kd.mono_id Kd.mono_id)
theorem subG68 {E : List Nat} : Kd.Sub G68 E := Kd.sub_iso _ (Kd.sub_pair Kd.sub_id Kd.sub_id)
def F49 (d : Kd S49) : Kd S49 := Kd.iso (Kd.pair (Kd.int .i64) (Kd.pair (Kd.int .i64) (Kd.pair Kd.string (Kd.pair (Kd.slice 49 d) (Kd.slice 68 (G68 d)))))) (fun x : S49 => (x.f0, x.f1, x.f2, x.f3, x.f4))
theorem mono49 : Kd.Mono F49 := Kd.mono_iso _ (Kd.mono_pair (Kd.mono_const _) (Kd.mono_pair (Kd.mono_const _) (Kd.mono_pair (Kd.mono_const _) (Kd.mono_pair (Kd.mono_slice 49 Kd.mono_id) (Kd.mono_slice 68 monoG68)))))
theorem sub49 : Kd.Sub F49 [49, 68] := Kd.sub_iso _ (Kd.sub_pair (Kd.sub_const _ (by decide)) (Kd.sub_pair (Kd.sub_const _ (by decide)) (Kd.sub_pair (Kd.sub_const _ (by decide)) (Kd.sub_pair (Kd.sub_slice 49 (by decide) Kd.sub_id) (Kd.sub_slice 68 (by decide) subG68)))))
theorem sz49 : ∀ n, (Kd.upto F49 5 [49, 68] n).sz = 5 := Kd.upto_sz (fun _ => rfl)
def k49 : Kd S49 := Kd.fix F49 5 [49, 68] sz49 (Kd.upto_E sub49)
def k68 : Kd S68 := G68 k49
theorem hbK68 {w : World} {x : S68} {cs : List Value} (h : (G68 k49).K w x cs) : ∃ n, (G68 (Kd.upto F49 5 [49, 68] n)).K w x cs := by
  obtain ⟨c0, c1, rfl, ⟨n0, h0⟩, ⟨n1, h1⟩⟩ := h
  exact ⟨max n0 n1, c0, c1, rfl, Kd.upto_K_le mono49 sz49 (Nat.le_max_left _ _) h0, Kd.upto_K_le mono49 sz49 (Nat.le_max_right _ _) h1⟩
theorem hbM68 {w : World} {base : Nat} {ok : Nat → Prop} {x : S68} {cs : List Value} (h : (G68 k49).M w base ok x cs) : ∃ n, (G68 (Kd.upto F49 5 [49, 68] n)).M w base ok x cs := by
  obtain ⟨c0, c1, rfl, ⟨n0, h0⟩, ⟨n1, h1⟩⟩ := h
  exact ⟨max n0 n1, c0, c1, rfl, Kd.upto_M_le mono49 sz49 (Nat.le_max_left _ _) h0, Kd.upto_M_le mono49 sz49 (Nat.le_max_right _ _) h1⟩
theorem k49_open {w : World} {x : S49} {cs : List Value} (h : k49.K w x cs) : ∃ A3 c3 A4 c4, cs = [.int .i64 x.f0, .int .i64 x.f1, .string x.f2, .slice A3 x.f3.length c3, .slice A4 x.f4.length c4] ∧ x.f3.length ≤ c3 ∧ k49.C w A3 x.f3.length x.f3 ∧ x.f4.length ≤ c4 ∧ k68.C w A4 x.f4.length x.f4 := by
  obtain ⟨n, h⟩ := h
  cases n with
  | zero => exact h.elim
  | succ n =>
    obtain ⟨_, _, rfl, rfl, ⟨_, _, rfl, rfl, ⟨_, _, rfl, rfl, ⟨_, _, rfl, ⟨A3, c3, rfl, l3, g3⟩, ⟨A4, c4, rfl, l4, g4⟩⟩⟩⟩⟩ := h
    exact ⟨A3, c3, A4, c4, rfl, l3, Kd.fix_C g3, l4, nest_C monoG68 g4⟩
theorem k49_openM {w : World} {base : Nat} {ok : Nat → Prop} {x : S49} {cs : List Value} (h : k49.M w base ok x cs) : ∃ v3 v4, cs = [.int .i64 x.f0, .int .i64 x.f1, .string x.f2, v3, v4] ∧ k49.R 49 w base ok v3 x.f3 ∧ k68.R 68 w base ok v4 x.f4 := by
  obtain ⟨n, h⟩ := h
  cases n with
  | zero => exact h.elim
  | succ n =>
    obtain ⟨_, _, rfl, rfl, ⟨_, _, rfl, rfl, ⟨_, _, rfl, rfl, ⟨_, _, rfl, ⟨v3, rfl, g3⟩, ⟨v4, rfl, g4⟩⟩⟩⟩⟩ := h
    exact ⟨v3, v4, rfl, Kd.fix_R g3, nest_R monoG68 g4⟩
theorem k49_mk (w : World) (x : S49) {A3 : Option Addr} {c3 : Nat} (l3 : x.f3.length ≤ c3) (g3 : k49.C w A3 x.f3.length x.f3) {A4 : Option Addr} {c4 : Nat} (l4 : x.f4.length ≤ c4) (g4 : k68.C w A4 x.f4.length x.f4) : k49.K w x [.int .i64 x.f0, .int .i64 x.f1, .string x.f2, .slice A3 x.f3.length c3, .slice A4 x.f4.length c4] := by
  obtain ⟨n3, q3⟩ := Kd.fix_C_back mono49 g3
  obtain ⟨n4, q4⟩ := nest_C_back mono49 monoG68 hbK68 g4
  have r3 := Kd.upto_C_le mono49 sz49 (show n3 ≤ (max n3 n4) by omega) q3
  have r4 := nest_C_le mono49 sz49 monoG68 (show n4 ≤ (max n3 n4) by omega) q4
  exact ⟨(max n3 n4) + 1, ⟨[.int .i64 x.f0], [.int .i64 x.f1, .string x.f2, .slice A3 x.f3.length c3, .slice A4 x.f4.length c4], rfl, rfl, ⟨[.int .i64 x.f1], [.string x.f2, .slice A3 x.f3.length c3, .slice A4 x.f4.length c4], rfl, rfl, ⟨[.string x.f2], [.slice A3 x.f3.length c3, .slice A4 x.f4.length c4], rfl, rfl, ⟨[.slice A3 x.f3.length c3], [.slice A4 x.f4.length c4], rfl, ⟨A3, c3, rfl, l3, r3⟩, ⟨A4, c4, rfl, l4, r4⟩⟩⟩⟩⟩⟩
theorem k49_mkM (w : World) (base : Nat) (ok : Nat → Prop) (x : S49) {v3 : Value} (g3 : k49.R 49 w base ok v3 x.f3) {v4 : Value} (g4 : k68.R 68 w base ok v4 x.f4) : k49.M w base ok x [.int .i64 x.f0, .int .i64 x.f1, .string x.f2, v3, v4] := by
  obtain ⟨n3, q3⟩ := Kd.fix_R_back mono49 g3
  obtain ⟨n4, q4⟩ := nest_R_back mono49 monoG68 hbM68 g4
  have r3 := Kd.upto_R_le mono49 sz49 (show n3 ≤ (max n3 n4) by omega) q3
  have r4 := nest_R_le mono49 sz49 monoG68 (show n4 ≤ (max n3 n4) by omega) q4
  exact ⟨(max n3 n4) + 1, ⟨[.int .i64 x.f0], [.int .i64 x.f1, .string x.f2, v3, v4], rfl, rfl, ⟨[.int .i64 x.f1], [.string x.f2, v3, v4], rfl, rfl, ⟨[.string x.f2], [v3, v4], rfl, rfl, ⟨[v3], [v4], rfl, ⟨v3, rfl, r3⟩, ⟨v4, rfl, r4⟩⟩⟩⟩⟩⟩
def rd_T49 (xs : List S49) (i : Int) : S49 := xs.getD i.toNat z49
theorem at_T49 {w : World} {A : Option Addr} {n : Nat} {xs : List S49} (h : Kd.C k49 w A n xs) (i : Int) (h0 : 0 ≤ i) (h1 : i < n) : ∃ ad A3 c3 A4 c4, A = some ad ∧ w.cell? (ad.add (i.toNat * 5)) = some (.int .i64 (rd_T49 xs i).f0) ∧ w.cell? ⟨(ad.add (i.toNat * 5)).block, (ad.add (i.toNat * 5)).off + 1, none⟩ = some (.int .i64 (rd_T49 xs i).f1) ∧ w.cell? ⟨(ad.add (i.toNat * 5)).block, (ad.add (i.toNat * 5)).off + 2, none⟩ = some (.string (rd_T49 xs i).f2) ∧ w.cell? ⟨(ad.add (i.toNat * 5)).block, (ad.add (i.toNat * 5)).off + 3, none⟩ = some (.slice A3 (rd_T49 xs i).f3.length c3) ∧ w.cell? ⟨(ad.add (i.toNat * 5)).block, (ad.add (i.toNat * 5)).off + 4, none⟩ = some (.slice A4 (rd_T49 xs i).f4.length c4) ∧ (rd_T49 xs i).f3.length ≤ c3 ∧ k49.C w A3 (rd_T49 xs i).f3.length (rd_T49 xs i).f3 ∧ (rd_T49 xs i).f4.length ≤ c4 ∧ k68.C w A4 (rd_T49 xs i).f4.length (rd_T49 xs i).f4 := by
  obtain ⟨ad, c, e, _, hK, hc0⟩ := Kd.C_get h z49 i h0 h1
  have hc : ∀ j u, c[j]? = some u → w.cell? (ad.add (i.toNat * 5 + j)) = some u := hc0
  obtain ⟨A3, c3, A4, c4, rfl, l3, g3, l4, g4⟩ := k49_open hK
  exact ⟨ad, A3, c3, A4, c4, e, hc 0 _ rfl, by rw [← add_field _ _ 1 (by omega)]; exact hc 1 _ rfl, by rw [← add_field _ _ 2 (by omega)]; exact hc 2 _ rfl, by rw [← add_field _ _ 3 (by omega)]; exact hc 3 _ rfl, by rw [← add_field _ _ 4 (by omega)]; exact hc 4 _ rfl, l3, g3, l4, g4⟩

/-! #### struct type 68 -/
def z68 : S68 := ⟨z49, z49⟩
theorem k68_open {w : World} {x : S68} {cs : List Value} (h : k68.K w x cs) : ∃ A3 c3 A4 c4 A8 c8 A9 c9, cs = [.int .i64 x.f0.f0, .int .i64 x.f0.f1, .string x.f0.f2, .slice A3 x.f0.f3.length c3, .slice A4 x.f0.f4.length c4, .int .i64 x.f1.f0, .int .i64 x.f1.f1, .string x.f1.f2, .slice A8 x.f1.f3.length c8, .slice A9 x.f1.f4.length c9] ∧ x.f0.f3.length ≤ c3 ∧ k49.C w A3 x.f0.f3.length x.f0.f3 ∧ x.f0.f4.length ≤ c4 ∧ k68.C w A4 x.f0.f4.length x.f0.f4 ∧ x.f1.f3.length ≤ c8 ∧ k49.C w A8 x.f1.f3.length x.f1.f3 ∧ x.f1.f4.length ≤ c9 ∧ k68.C w A9 x.f1.f4.length x.f1.f4 := by
  obtain ⟨_, _, rfl, s0, s5⟩ := h
  obtain ⟨A3, c3, A4, c4, rfl, l3, g3, l4, g4⟩ := k49_open s0
  obtain ⟨A8, c8, A9, c9, rfl, l8, g8, l9, g9⟩ := k49_open s5
  exact ⟨A3, c3, A4, c4, A8, c8, A9, c9, rfl, l3, g3, l4, g4, l8, g8, l9, g9⟩
theorem k68_openM {w : World} {base : Nat} {ok : Nat → Prop} {x : S68} {cs : List Value} (h : k68.M w base ok x cs) : ∃ v3 v4 v8 v9, cs = [.int .i64 x.f0.f0, .int .i64 x.f0.f1, .string x.f0.f2, v3, v4, .int .i64 x.f1.f0, .int .i64 x.f1.f1, .string x.f1.f2, v8, v9] ∧ k49.R 49 w base ok v3 x.f0.f3 ∧ k68.R 68 w base ok v4 x.f0.f4 ∧ k49.R 49 w base ok v8 x.f1.f3 ∧ k68.R 68 w base ok v9 x.f1.f4 := by
  obtain ⟨_, _, rfl, s0, s5⟩ := h
  obtain ⟨v3, v4, rfl, g3, g4⟩ := k49_openM s0
  obtain ⟨v8, v9, rfl, g8, g9⟩ := k49_openM s5
  exact ⟨v3, v4, v8, v9, rfl, g3, g4, g8, g9⟩
theorem k68_mk (w : World) (x : S68) {A3 : Option Addr} {c3 : Nat} (l3 : x.f0.f3.length ≤ c3) (g3 : k49.C w A3 x.f0.f3.length x.f0.f3) {A4 : Option Addr} {c4 : Nat} (l4 : x.f0.f4.length ≤ c4) (g4 : k68.C w A4 x.f0.f4.length x.f0.f4) {A8 : Option Addr} {c8 : Nat} (l8 : x.f1.f3.length ≤ c8) (g8 : k49.C w A8 x.f1.f3.length x.f1.f3) {A9 : Option Addr} {c9 : Nat} (l9 : x.f1.f4.length ≤ c9) (g9 : k68.C w A9 x.f1.f4.length x.f1.f4) : k68.K w x [.int .i64 x.f0.f0, .int .i64 x.f0.f1, .string x.f0.f2, .slice A3 x.f0.f3.length c3, .slice A4 x.f0.f4.length c4, .int .i64 x.f1.f0, .int .i64 x.f1.f1, .string x.f1.f2, .slice A8 x.f1.f3.length c8, .slice A9 x.f1.f4.length c9] := ⟨[.int .i64 x.f0.f0, .int .i64 x.f0.f1, .string x.f0.f2, .slice A3 x.f0.f3.length c3, .slice A4 x.f0.f4.length c4], [.int .i64 x.f1.f0, .int .i64 x.f1.f1, .string x.f1.f2, .slice A8 x.f1.f3.length c8, .slice A9 x.f1.f4.length c9], rfl, (k49_mk w x.f0 l3 g3 l4 g4), (k49_mk w x.f1 l8 g8 l9 g9)⟩
theorem k68_mkM (w : World) (base : Nat) (ok : Nat → Prop) (x : S68) {v3 : Value} (g3 : k49.R 49 w base ok v3 x.f0.f3) {v4 : Value} (g4 : k68.R 68 w base ok v4 x.f0.f4) {v8 : Value} (g8 : k49.R 49 w base ok v8 x.f1.f3) {v9 : Value} (g9 : k68.R 68 w base ok v9 x.f1.f4) : k68.M w base ok x [.int .i64 x.f0.f0, .int .i64 x.f0.f1, .string x.f0.f2, v3, v4, .int .i64 x.f1.f0, .int .i64 x.f1.f1, .string x.f1.f2, v8, v9] := ⟨[.int .i64 x.f0.f0, .int .i64 x.f0.f1, .string x.f0.f2, v3, v4], [.int .i64 x.f1.f0, .int .i64 x.f1.f1, .string x.f1.f2, v8, v9], rfl, (k49_mkM w base ok x.f0 g3 g4), (k49_mkM w base ok x.f1 g8 g9)⟩
def rd_T68 (xs : List S68) (i : Int) : S68 := xs.getD i.toNat z68
theorem at_T68 {w : World} {A : Option Addr} {n : Nat} {xs : List S68} (h : Kd.C k68 w A n xs) (i : Int) (h0 : 0 ≤ i) (h1 : i < n) : ∃ ad A3 c3 A4 c4 A8 c8 A9 c9, A = some ad ∧ w.cell? (ad.add (i.toNat * 10)) = some (.int .i64 (rd_T68 xs i).f0.f0) ∧ w.cell? ⟨(ad.add (i.toNat * 10)).block, (ad.add (i.toNat * 10)).off + 1, none⟩ = some (.int .i64 (rd_T68 xs i).f0.f1) ∧ w.cell? ⟨(ad.add (i.toNat * 10)).block, (ad.add (i.toNat * 10)).off + 2, none⟩ = some (.string (rd_T68 xs i).f0.f2) ∧ w.cell? ⟨(ad.add (i.toNat * 10)).block, (ad.add (i.toNat * 10)).off + 3, none⟩ = some (.slice A3 (rd_T68 xs i).f0.f3.length c3) ∧ w.cell? ⟨(ad.add (i.toNat * 10)).block, (ad.add (i.toNat * 10)).off + 4, none⟩ = some (.slice A4 (rd_T68 xs i).f0.f4.length c4) ∧ w.cell? ⟨(ad.add (i.toNat * 10)).block, (ad.add (i.toNat * 10)).off + 5, none⟩ = some (.int .i64 (rd_T68 xs i).f1.f0) ∧ w.cell? ⟨(ad.add (i.toNat * 10)).block, (ad.add (i.toNat * 10)).off + 6, none⟩ = some (.int .i64 (rd_T68 xs i).f1.f1) ∧ w.cell? ⟨(ad.add (i.toNat * 10)).block, (ad.add (i.toNat * 10)).off + 7, none⟩ = some (.string (rd_T68 xs i).f1.f2) ∧ w.cell? ⟨(ad.add (i.toNat * 10)).block, (ad.add (i.toNat * 10)).off + 8, none⟩ = some (.slice A8 (rd_T68 xs i).f1.f3.length c8) ∧ w.cell? ⟨(ad.add (i.toNat * 10)).block, (ad.add (i.toNat * 10)).off + 9, none⟩ = some (.slice A9 (rd_T68 xs i).f1.f4.length c9) ∧ (rd_T68 xs i).f0.f3.length ≤ c3 ∧ k49.C w A3 (rd_T68 xs i).f0.f3.length (rd_T68 xs i).f0.f3 ∧ (rd_T68 xs i).f0.f4.length ≤ c4 ∧ k68.C w A4 (rd_T68 xs i).f0.f4.length (rd_T68 xs i).f0.f4 ∧ (rd_T68 xs i).f1.f3.length ≤ c8 ∧ k49.C w A8 (rd_T68 xs i).f1.f3.length (rd_T68 xs i).f1.f3 ∧ (rd_T68 xs i).f1.f4.length ≤ c9 ∧ k68.C w A9 (rd_T68 xs i).f1.f4.length (rd_T68 xs i).f1.f4 := by
  obtain ⟨ad, c, e, _, hK, hc0⟩ := Kd.C_get h z68 i h0 h1
  have hc : ∀ j u, c[j]? = some u → w.cell? (ad.add (i.toNat * 10 + j)) = some u := hc0
  obtain ⟨A3, c3, A4, c4, A8, c8, A9, c9, rfl, l3, g3, l4, g4, l8, g8, l9, g9⟩ := k68_open hK
  exact ⟨ad, A3, c3, A4, c4, A8, c8, A9, c9, e, hc 0 _ rfl, by rw [← add_field _ _ 1 (by omega)]; exact hc 1 _ rfl, by rw [← add_field _ _ 2 (by omega)]; exact hc 2 _ rfl, by rw [← add_field _ _ 3 (by omega)]; exact hc 3 _ rfl, by rw [← add_field _ _ 4 (by omega)]; exact hc 4 _ rfl, by rw [← add_field _ _ 5 (by omega)]; exact hc 5 _ rfl, by rw [← add_field _ _ 6 (by omega)]; exact hc 6 _ rfl, by rw [← add_field _ _ 7 (by omega)]; exact hc 7 _ rfl, by rw [← add_field _ _ 8 (by omega)]; exact hc 8 _ rfl, by rw [← add_field _ _ 9 (by omega)]; exact hc 9 _ rfl, l3, g3, l4, g4, l8, g8, l9, g9⟩

def rd_L4 (xs : List (List ByteArray)) (i : Int) : (List ByteArray) := xs.getD i.toNat ([] : List ByteArray)
theorem at_L4 {w : World} {A : Option Addr} {n : Nat} {xs : List (List ByteArray)} (h : Kd.C (Kd.slice 9 Kd.string) w A n xs) (i : Int) (h0 : 0 ≤ i) (h1 : i < n) : ∃ ad A0 c0, A = some ad ∧ w.cell? (ad.add i.toNat) = some (.slice A0 (rd_L4 xs i).length c0) ∧ (rd_L4 xs i).length ≤ c0 ∧ Kd.string.C w A0 (rd_L4 xs i).length (rd_L4 xs i) := by
  obtain ⟨ad, c, e, _, hK, hc0⟩ := Kd.C_get h ([] : List ByteArray) i h0 h1
  have hc : ∀ j u, c[j]? = some u → w.cell? (ad.add (i.toNat * 1 + j)) = some u := hc0
  obtain ⟨A0, c0, rfl, l0, g0⟩ := hK
  exact ⟨ad, A0, c0, e, by have hq := hc 0 _ rfl; rwa [Nat.mul_one, Nat.add_zero] at hq, l0, g0⟩

/-! #### struct type 51 -/
structure S51 where
  f0 : ByteArray
  f1 : (List ByteArray)
  f2 : S49
def z51 : S51 := ⟨(⟨#[]⟩ : ByteArray), ([] : List ByteArray), z49⟩
def k51 : Kd S51 := Kd.iso (Kd.pair Kd.string (Kd.pair (Kd.slice 9 Kd.string) k49)) (fun x : S51 => (x.f0, x.f1, x.f2))
theorem k51_open {w : World} {x : S51} {cs : List Value} (h : k51.K w x cs) : ∃ A1 c1 A5 c5 A6 c6, cs = [.string x.f0, .slice A1 x.f1.length c1, .int .i64 x.f2.f0, .int .i64 x.f2.f1, .string x.f2.f2, .slice A5 x.f2.f3.length c5, .slice A6 x.f2.f4.length c6] ∧ x.f1.length ≤ c1 ∧ Kd.string.C w A1 x.f1.length x.f1 ∧ x.f2.f3.length ≤ c5 ∧ k49.C w A5 x.f2.f3.length x.f2.f3 ∧ x.f2.f4.length ≤ c6 ∧ k68.C w A6 x.f2.f4.length x.f2.f4 := by
  obtain ⟨_, _, rfl, rfl, ⟨_, _, rfl, ⟨A1, c1, rfl, l1, g1⟩, s2⟩⟩ := h
  obtain ⟨A5, c5, A6, c6, rfl, l5, g5, l6, g6⟩ := k49_open s2
  exact ⟨A1, c1, A5, c5, A6, c6, rfl, l1, g1, l5, g5, l6, g6⟩
theorem k51_openM {w : World} {base : Nat} {ok : Nat → Prop} {x : S51} {cs : List Value} (h : k51.M w base ok x cs) : ∃ v1 v5 v6, cs = [.string x.f0, v1, .int .i64 x.f2.f0, .int .i64 x.f2.f1, .string x.f2.f2, v5, v6] ∧ Kd.string.R 9 w base ok v1 x.f1 ∧ k49.R 49 w base ok v5 x.f2.f3 ∧ k68.R 68 w base ok v6 x.f2.f4 := by
  obtain ⟨_, _, rfl, rfl, ⟨_, _, rfl, ⟨v1, rfl, g1⟩, s2⟩⟩ := h
  obtain ⟨v5, v6, rfl, g5, g6⟩ := k49_openM s2
  exact ⟨v1, v5, v6, rfl, g1, g5, g6⟩
theorem k51_mk (w : World) (x : S51) {A1 : Option Addr} {c1 : Nat} (l1 : x.f1.length ≤ c1) (g1 : Kd.string.C w A1 x.f1.length x.f1) {A5 : Option Addr} {c5 : Nat} (l5 : x.f2.f3.length ≤ c5) (g5 : k49.C w A5 x.f2.f3.length x.f2.f3) {A6 : Option Addr} {c6 : Nat} (l6 : x.f2.f4.length ≤ c6) (g6 : k68.C w A6 x.f2.f4.length x.f2.f4) : k51.K w x [.string x.f0, .slice A1 x.f1.length c1, .int .i64 x.f2.f0, .int .i64 x.f2.f1, .string x.f2.f2, .slice A5 x.f2.f3.length c5, .slice A6 x.f2.f4.length c6] := ⟨[.string x.f0], [.slice A1 x.f1.length c1, .int .i64 x.f2.f0, .int .i64 x.f2.f1, .string x.f2.f2, .slice A5 x.f2.f3.length c5, .slice A6 x.f2.f4.length c6], rfl, rfl, ⟨[.slice A1 x.f1.length c1], [.int .i64 x.f2.f0, .int .i64 x.f2.f1, .string x.f2.f2, .slice A5 x.f2.f3.length c5, .slice A6 x.f2.f4.length c6], rfl, ⟨A1, c1, rfl, l1, g1⟩, (k49_mk w x.f2 l5 g5 l6 g6)⟩⟩
theorem k51_mkM (w : World) (base : Nat) (ok : Nat → Prop) (x : S51) {v1 : Value} (g1 : Kd.string.R 9 w base ok v1 x.f1) {v5 : Value} (g5 : k49.R 49 w base ok v5 x.f2.f3) {v6 : Value} (g6 : k68.R 68 w base ok v6 x.f2.f4) : k51.M w base ok x [.string x.f0, v1, .int .i64 x.f2.f0, .int .i64 x.f2.f1, .string x.f2.f2, v5, v6] := ⟨[.string x.f0], [v1, .int .i64 x.f2.f0, .int .i64 x.f2.f1, .string x.f2.f2, v5, v6], rfl, rfl, ⟨[v1], [.int .i64 x.f2.f0, .int .i64 x.f2.f1, .string x.f2.f2, v5, v6], rfl, ⟨v1, rfl, g1⟩, (k49_mkM w base ok x.f2 g5 g6)⟩⟩
def rd_T51 (xs : List S51) (i : Int) : S51 := xs.getD i.toNat z51
theorem at_T51 {w : World} {A : Option Addr} {n : Nat} {xs : List S51} (h : Kd.C k51 w A n xs) (i : Int) (h0 : 0 ≤ i) (h1 : i < n) : ∃ ad A1 c1 A5 c5 A6 c6, A = some ad ∧ w.cell? (ad.add (i.toNat * 7)) = some (.string (rd_T51 xs i).f0) ∧ w.cell? ⟨(ad.add (i.toNat * 7)).block, (ad.add (i.toNat * 7)).off + 1, none⟩ = some (.slice A1 (rd_T51 xs i).f1.length c1) ∧ w.cell? ⟨(ad.add (i.toNat * 7)).block, (ad.add (i.toNat * 7)).off + 2, none⟩ = some (.int .i64 (rd_T51 xs i).f2.f0) ∧ w.cell? ⟨(ad.add (i.toNat * 7)).block, (ad.add (i.toNat * 7)).off + 3, none⟩ = some (.int .i64 (rd_T51 xs i).f2.f1) ∧ w.cell? ⟨(ad.add (i.toNat * 7)).block, (ad.add (i.toNat * 7)).off + 4, none⟩ = some (.string (rd_T51 xs i).f2.f2) ∧ w.cell? ⟨(ad.add (i.toNat * 7)).block, (ad.add (i.toNat * 7)).off + 5, none⟩ = some (.slice A5 (rd_T51 xs i).f2.f3.length c5) ∧ w.cell? ⟨(ad.add (i.toNat * 7)).block, (ad.add (i.toNat * 7)).off + 6, none⟩ = some (.slice A6 (rd_T51 xs i).f2.f4.length c6) ∧ (rd_T51 xs i).f1.length ≤ c1 ∧ Kd.string.C w A1 (rd_T51 xs i).f1.length (rd_T51 xs i).f1 ∧ (rd_T51 xs i).f2.f3.length ≤ c5 ∧ k49.C w A5 (rd_T51 xs i).f2.f3.length (rd_T51 xs i).f2.f3 ∧ (rd_T51 xs i).f2.f4.length ≤ c6 ∧ k68.C w A6 (rd_T51 xs i).f2.f4.length (rd_T51 xs i).f2.f4 := by
  obtain ⟨ad, c, e, _, hK, hc0⟩ := Kd.C_get h z51 i h0 h1
  have hc : ∀ j u, c[j]? = some u → w.cell? (ad.add (i.toNat * 7 + j)) = some u := hc0
  obtain ⟨A1, c1, A5, c5, A6, c6, rfl, l1, g1, l5, g5, l6, g6⟩ := k51_open hK
  exact ⟨ad, A1, c1, A5, c5, A6, c6, e, hc 0 _ rfl, by rw [← add_field _ _ 1 (by omega)]; exact hc 1 _ rfl, by rw [← add_field _ _ 2 (by omega)]; exact hc 2 _ rfl, by rw [← add_field _ _ 3 (by omega)]; exact hc 3 _ rfl, by rw [← add_field _ _ 4 (by omega)]; exact hc 4 _ rfl, by rw [← add_field _ _ 5 (by omega)]; exact hc 5 _ rfl, by rw [← add_field _ _ 6 (by omega)]; exact hc 6 _ rfl, l1, g1, l5, g5, l6, g6⟩

/-! #### struct type 38, nested in itself -/
structure P70 (α : Type) where
  f0 : α
  f1 : α
structure S38 where
  f0 : Int
  f1 : Int
  f2 : ByteArray
  f3 : (List S38)
  f4 : (List (P70 S38))
abbrev S70 := P70 S38
def z38 : S38 := ⟨(0 : Int), (0 : Int), (⟨#[]⟩ : ByteArray), ([] : List S38), ([] : List S70)⟩
def G70 (d : Kd S38) : Kd S70 := Kd.iso (Kd.pair d d) (fun x : S70 => (x.f0, x.f1))
theorem monoG70 : Kd.Mono G70 := Kd.mono_iso _ (Kd.mono_pair Kd.mono_id Kd.mono_id)
theorem subG70 {E : List Nat} : Kd.Sub G70 E := Kd.sub_iso _ (Kd.sub_pair Kd.sub_id Kd.sub_id)
def F38 (d : Kd S38) : Kd S38 := Kd.iso (Kd.pair (Kd.int .i64) (Kd.pair (Kd.int .i64) (Kd.pair Kd.string (Kd.pair (Kd.slice 38 d) (Kd.slice 70 (G70 d)))))) (fun x : S38 => (x.f0, x.f1, x.f2, x.f3, x.f4))
theorem mono38 : Kd.Mono F38 := Kd.mono_iso _ (Kd.mono_pair (Kd.mono_const _) (Kd.mono_pair (Kd.mono_const _) (Kd.mono_pair (Kd.mono_const _) (Kd.mono_pair (Kd.mono_slice 38 Kd.mono_id) (Kd.mono_slice 70 monoG70)))))
theorem sub38 : Kd.Sub F38 [38, 70] := Kd.sub_iso _ (Kd.sub_pair (Kd.sub_const _ (by decide)) (Kd.sub_pair (Kd.sub_const _ (by decide)) (Kd.sub_pair (Kd.sub_const _ (by decide)) (Kd.sub_pair (Kd.sub_slice 38 (by decide) Kd.sub_id) (Kd.sub_slice 70 (by decide) subG70)))))
theorem sz38 : ∀ n, (Kd.upto F38 5 [38, 70] n).sz = 5 := Kd.upto_sz (fun _ => rfl)
def k38 : Kd S38 := Kd.fix F38 5 [38, 70] sz38 (Kd.upto_E sub38)
def k70 : Kd S70 := G70 k38
theorem hbK70 {w : World} {x : S70} {cs : List Value} (h : (G70 k38).K w x cs) : ∃ n, (G70 (Kd.upto F38 5 [38, 70] n)).K w x cs := by
  obtain ⟨c0, c1, rfl, ⟨n0, h0⟩, ⟨n1, h1⟩⟩ := h
  exact ⟨max n0 n1, c0, c1, rfl, Kd.upto_K_le mono38 sz38 (Nat.le_max_left _ _) h0, Kd.upto_K_le mono38 sz38 (Nat.le_max_right _ _) h1⟩
theorem hbM70 {w : World} {base : Nat} {ok : Nat → Prop} {x : S70} {cs : List Value} (h : (G70 k38).M w base ok x cs) : ∃ n, (G70 (Kd.upto F38 5 [38, 70] n)).M w base ok x cs := by
  obtain ⟨c0, c1, rfl, ⟨n0, h0⟩, ⟨n1, h1⟩⟩ := h
  exact ⟨max n0 n1, c0, c1, rfl, Kd.upto_M_le mono38 sz38 (Nat.le_max_left _ _) h0, Kd.upto_M_le mono38 sz38 (Nat.le_max_right _ _) h1⟩
theorem k38_open {w : World} {x : S38} {cs : List Value} (h : k38.K w x cs) : ∃ A3 c3 A4 c4, cs = [.int .i64 x.f0, .int .i64 x.f1, .string x.f2, .slice A3 x.f3.length c3, .slice A4 x.f4.length c4] ∧ x.f3.length ≤ c3 ∧ k38.C w A3 x.f3.length x.f3 ∧ x.f4.length ≤ c4 ∧ k70.C w A4 x.f4.length x.f4 := by
  obtain ⟨n, h⟩ := h
  cases n with
  | zero => exact h.elim
  | succ n =>
    obtain ⟨_, _, rfl, rfl, ⟨_, _, rfl, rfl, ⟨_, _, rfl, rfl, ⟨_, _, rfl, ⟨A3, c3, rfl, l3, g3⟩, ⟨A4, c4, rfl, l4, g4⟩⟩⟩⟩⟩ := h
    exact ⟨A3, c3, A4, c4, rfl, l3, Kd.fix_C g3, l4, nest_C monoG70 g4⟩
theorem k38_openM {w : World} {base : Nat} {ok : Nat → Prop} {x : S38} {cs : List Value} (h : k38.M w base ok x cs) : ∃ v3 v4, cs = [.int .i64 x.f0, .int .i64 x.f1, .string x.f2, v3, v4] ∧ k38.R 38 w base ok v3 x.f3 ∧ k70.R 70 w base ok v4 x.f4 := by
  obtain ⟨n, h⟩ := h
  cases n with
  | zero => exact h.elim
  | succ n =>
    obtain ⟨_, _, rfl, rfl, ⟨_, _, rfl, rfl, ⟨_, _, rfl, rfl, ⟨_, _, rfl, ⟨v3, rfl, g3⟩, ⟨v4, rfl, g4⟩⟩⟩⟩⟩ := h
    exact ⟨v3, v4, rfl, Kd.fix_R g3, nest_R monoG70 g4⟩
theorem k38_mk (w : World) (x : S38) {A3 : Option Addr} {c3 : Nat} (l3 : x.f3.length ≤ c3) (g3 : k38.C w A3 x.f3.length x.f3) {A4 : Option Addr} {c4 : Nat} (l4 : x.f4.length ≤ c4) (g4 : k70.C w A4 x.f4.length x.f4) : k38.K w x [.int .i64 x.f0, .int .i64 x.f1, .string x.f2, .slice A3 x.f3.length c3, .slice A4 x.f4.length c4] := by
  obtain ⟨n3, q3⟩ := Kd.fix_C_back mono38 g3
  obtain ⟨n4, q4⟩ := nest_C_back mono38 monoG70 hbK70 g4
  have r3 := Kd.upto_C_le mono38 sz38 (show n3 ≤ (max n3 n4) by omega) q3
  have r4 := nest_C_le mono38 sz38 monoG70 (show n4 ≤ (max n3 n4) by omega) q4
  exact ⟨(max n3 n4) + 1, ⟨[.int .i64 x.f0], [.int .i64 x.f1, .string x.f2, .slice A3 x.f3.length c3, .slice A4 x.f4.length c4], rfl, rfl, ⟨[.int .i64 x.f1], [.string x.f2, .slice A3 x.f3.length c3, .slice A4 x.f4.length c4], rfl, rfl, ⟨[.string x.f2], [.slice A3 x.f3.length c3, .slice A4 x.f4.length c4], rfl, rfl, ⟨[.slice A3 x.f3.length c3], [.slice A4 x.f4.length c4], rfl, ⟨A3, c3, rfl, l3, r3⟩, ⟨A4, c4, rfl, l4, r4⟩⟩⟩⟩⟩⟩
theorem k38_mkM (w : World) (base : Nat) (ok : Nat → Prop) (x : S38) {v3 : Value} (g3 : k38.R 38 w base ok v3 x.f3) {v4 : Value} (g4 : k70.R 70 w base ok v4 x.f4) : k38.M w base ok x [.int .i64 x.f0, .int .i64 x.f1, .string x.f2, v3, v4] := by
  obtain ⟨n3, q3⟩ := Kd.fix_R_back mono38 g3
  obtain ⟨n4, q4⟩ := nest_R_back mono38 monoG70 hbM70 g4
  have r3 := Kd.upto_R_le mono38 sz38 (show n3 ≤ (max n3 n4) by omega) q3
  have r4 := nest_R_le mono38 sz38 monoG70 (show n4 ≤ (max n3 n4) by omega) q4
  exact ⟨(max n3 n4) + 1, ⟨[.int .i64 x.f0], [.int .i64 x.f1, .string x.f2, v3, v4], rfl, rfl, ⟨[.int .i64 x.f1], [.string x.f2, v3, v4], rfl, rfl, ⟨[.string x.f2], [v3, v4], rfl, rfl, ⟨[v3], [v4], rfl, ⟨v3, rfl, r3⟩, ⟨v4, rfl, r4⟩⟩⟩⟩⟩⟩
def rd_T38 (xs : List S38) (i : Int) : S38 := xs.getD i.toNat z38
theorem at_T38 {w : World} {A : Option Addr} {n : Nat} {xs : List S38} (h : Kd.C k38 w A n xs) (i : Int) (h0 : 0 ≤ i) (h1 : i < n) : ∃ ad A3 c3 A4 c4, A = some ad ∧ w.cell? (ad.add (i.toNat * 5)) = some (.int .i64 (rd_T38 xs i).f0) ∧ w.cell? ⟨(ad.add (i.toNat * 5)).block, (ad.add (i.toNat * 5)).off + 1, none⟩ = some (.int .i64 (rd_T38 xs i).f1) ∧ w.cell? ⟨(ad.add (i.toNat * 5)).block, (ad.add (i.toNat * 5)).off + 2, none⟩ = some (.string (rd_T38 xs i).f2) ∧ w.cell? ⟨(ad.add (i.toNat * 5)).block, (ad.add (i.toNat * 5)).off + 3, none⟩ = some (.slice A3 (rd_T38 xs i).f3.length c3) ∧ w.cell? ⟨(ad.add (i.toNat * 5)).block, (ad.add (i.toNat * 5)).off + 4, none⟩ = some (.slice A4 (rd_T38 xs i).f4.length c4) ∧ (rd_T38 xs i).f3.length ≤ c3 ∧ k38.C w A3 (rd_T38 xs i).f3.length (rd_T38 xs i).f3 ∧ (rd_T38 xs i).f4.length ≤ c4 ∧ k70.C w A4 (rd_T38 xs i).f4.length (rd_T38 xs i).f4 := by
  obtain ⟨ad, c, e, _, hK, hc0⟩ := Kd.C_get h z38 i h0 h1
  have hc : ∀ j u, c[j]? = some u → w.cell? (ad.add (i.toNat * 5 + j)) = some u := hc0
  obtain ⟨A3, c3, A4, c4, rfl, l3, g3, l4, g4⟩ := k38_open hK
  exact ⟨ad, A3, c3, A4, c4, e, hc 0 _ rfl, by rw [← add_field _ _ 1 (by omega)]; exact hc 1 _ rfl, by rw [← add_field _ _ 2 (by omega)]; exact hc 2 _ rfl, by rw [← add_field _ _ 3 (by omega)]; exact hc 3 _ rfl, by rw [← add_field _ _ 4 (by omega)]; exact hc 4 _ rfl, l3, g3, l4, g4⟩

/-! #### struct type 70 -/
def z70 : S70 := ⟨z38, z38⟩
theorem k70_open {w : World} {x : S70} {cs : List Value} (h : k70.K w x cs) : ∃ A3 c3 A4 c4 A8 c8 A9 c9, cs = [.int .i64 x.f0.f0, .int .i64 x.f0.f1, .string x.f0.f2, .slice A3 x.f0.f3.length c3, .slice A4 x.f0.f4.length c4, .int .i64 x.f1.f0, .int .i64 x.f1.f1, .string x.f1.f2, .slice A8 x.f1.f3.length c8, .slice A9 x.f1.f4.length c9] ∧ x.f0.f3.length ≤ c3 ∧ k38.C w A3 x.f0.f3.length x.f0.f3 ∧ x.f0.f4.length ≤ c4 ∧ k70.C w A4 x.f0.f4.length x.f0.f4 ∧ x.f1.f3.length ≤ c8 ∧ k38.C w A8 x.f1.f3.length x.f1.f3 ∧ x.f1.f4.length ≤ c9 ∧ k70.C w A9 x.f1.f4.length x.f1.f4 := by
  obtain ⟨_, _, rfl, s0, s5⟩ := h
  obtain ⟨A3, c3, A4, c4, rfl, l3, g3, l4, g4⟩ := k38_open s0
  obtain ⟨A8, c8, A9, c9, rfl, l8, g8, l9, g9⟩ := k38_open s5
  exact ⟨A3, c3, A4, c4, A8, c8, A9, c9, rfl, l3, g3, l4, g4, l8, g8, l9, g9⟩
theorem k70_openM {w : World} {base : Nat} {ok : Nat → Prop} {x : S70} {cs : List Value} (h : k70.M w base ok x cs) : ∃ v3 v4 v8 v9, cs = [.int .i64 x.f0.f0, .int .i64 x.f0.f1, .string x.f0.f2, v3, v4, .int .i64 x.f1.f0, .int .i64 x.f1.f1, .string x.f1.f2, v8, v9] ∧ k38.R 38 w base ok v3 x.f0.f3 ∧ k70.R 70 w base ok v4 x.f0.f4 ∧ k38.R 38 w base ok v8 x.f1.f3 ∧ k70.R 70 w base ok v9 x.f1.f4 := by
  obtain ⟨_, _, rfl, s0, s5⟩ := h
  obtain ⟨v3, v4, rfl, g3, g4⟩ := k38_openM s0
  obtain ⟨v8, v9, rfl, g8, g9⟩ := k38_openM s5
  exact ⟨v3, v4, v8, v9, rfl, g3, g4, g8, g9⟩
theorem k70_mk (w : World) (x : S70) {A3 : Option Addr} {c3 : Nat} (l3 : x.f0.f3.length ≤ c3) (g3 : k38.C w A3 x.f0.f3.length x.f0.f3) {A4 : Option Addr} {c4 : Nat} (l4 : x.f0.f4.length ≤ c4) (g4 : k70.C w A4 x.f0.f4.length x.f0.f4) {A8 : Option Addr} {c8 : Nat} (l8 : x.f1.f3.length ≤ c8) (g8 : k38.C w A8 x.f1.f3.length x.f1.f3) {A9 : Option Addr} {c9 : Nat} (l9 : x.f1.f4.length ≤ c9) (g9 : k70.C w A9 x.f1.f4.length x.f1.f4) : k70.K w x [.int .i64 x.f0.f0, .int .i64 x.f0.f1, .string x.f0.f2, .slice A3 x.f0.f3.length c3, .slice A4 x.f0.f4.length c4, .int .i64 x.f1.f0, .int .i64 x.f1.f1, .string x.f1.f2, .slice A8 x.f1.f3.length c8, .slice A9 x.f1.f4.length c9] := ⟨[.int .i64 x.f0.f0, .int .i64 x.f0.f1, .string x.f0.f2, .slice A3 x.f0.f3.length c3, .slice A4 x.f0.f4.length c4], [.int .i64 x.f1.f0, .int .i64 x.f1.f1, .string x.f1.f2, .slice A8 x.f1.f3.length c8, .slice A9 x.f1.f4.length c9], rfl, (k38_mk w x.f0 l3 g3 l4 g4), (k38_mk w x.f1 l8 g8 l9 g9)⟩
theorem k70_mkM (w : World) (base : Nat) (ok : Nat → Prop) (x : S70) {v3 : Value} (g3 : k38.R 38 w base ok v3 x.f0.f3) {v4 : Value} (g4 : k70.R 70 w base ok v4 x.f0.f4) {v8 : Value} (g8 : k38.R 38 w base ok v8 x.f1.f3) {v9 : Value} (g9 : k70.R 70 w base ok v9 x.f1.f4) : k70.M w base ok x [.int .i64 x.f0.f0, .int .i64 x.f0.f1, .string x.f0.f2, v3, v4, .int .i64 x.f1.f0, .int .i64 x.f1.f1, .string x.f1.f2, v8, v9] := ⟨[.int .i64 x.f0.f0, .int .i64 x.f0.f1, .string x.f0.f2, v3, v4], [.int .i64 x.f1.f0, .int .i64 x.f1.f1, .string x.f1.f2, v8, v9], rfl, (k38_mkM w base ok x.f0 g3 g4), (k38_mkM w base ok x.f1 g8 g9)⟩
def rd_T70 (xs : List S70) (i : Int) : S70 := xs.getD i.toNat z70
theorem at_T70 {w : World} {A : Option Addr} {n : Nat} {xs : List S70} (h : Kd.C k70 w A n xs) (i : Int) (h0 : 0 ≤ i) (h1 : i < n) : ∃ ad A3 c3 A4 c4 A8 c8 A9 c9, A = some ad ∧ w.cell? (ad.add (i.toNat * 10)) = some (.int .i64 (rd_T70 xs i).f0.f0) ∧ w.cell? ⟨(ad.add (i.toNat * 10)).block, (ad.add (i.toNat * 10)).off + 1, none⟩ = some (.int .i64 (rd_T70 xs i).f0.f1) ∧ w.cell? ⟨(ad.add (i.toNat * 10)).block, (ad.add (i.toNat * 10)).off + 2, none⟩ = some (.string (rd_T70 xs i).f0.f2) ∧ w.cell? ⟨(ad.add (i.toNat * 10)).block, (ad.add (i.toNat * 10)).off + 3, none⟩ = some (.slice A3 (rd_T70 xs i).f0.f3.length c3) ∧ w.cell? ⟨(ad.add (i.toNat * 10)).block, (ad.add (i.toNat * 10)).off + 4, none⟩ = some (.slice A4 (rd_T70 xs i).f0.f4.length c4) ∧ w.cell? ⟨(ad.add (i.toNat * 10)).block, (ad.add (i.toNat * 10)).off + 5, none⟩ = some (.int .i64 (rd_T70 xs i).f1.f0) ∧ w.cell? ⟨(ad.add (i.toNat * 10)).block, (ad.add (i.toNat * 10)).off + 6, none⟩ = some (.int .i64 (rd_T70 xs i).f1.f1) ∧ w.cell? ⟨(ad.add (i.toNat * 10)).block, (ad.add (i.toNat * 10)).off + 7, none⟩ = some (.string (rd_T70 xs i).f1.f2) ∧ w.cell? ⟨(ad.add (i.toNat * 10)).block, (ad.add (i.toNat * 10)).off + 8, none⟩ = some (.slice A8 (rd_T70 xs i).f1.f3.length c8) ∧ w.cell? ⟨(ad.add (i.toNat * 10)).block, (ad.add (i.toNat * 10)).off + 9, none⟩ = some (.slice A9 (rd_T70 xs i).f1.f4.length c9) ∧ (rd_T70 xs i).f0.f3.length ≤ c3 ∧ k38.C w A3 (rd_T70 xs i).f0.f3.length (rd_T70 xs i).f0.f3 ∧ (rd_T70 xs i).f0.f4.length ≤ c4 ∧ k70.C w A4 (rd_T70 xs i).f0.f4.length (rd_T70 xs i).f0.f4 ∧ (rd_T70 xs i).f1.f3.length ≤ c8 ∧ k38.C w A8 (rd_T70 xs i).f1.f3.length (rd_T70 xs i).f1.f3 ∧ (rd_T70 xs i).f1.f4.length ≤ c9 ∧ k70.C w A9 (rd_T70 xs i).f1.f4.length (rd_T70 xs i).f1.f4 := by
  obtain ⟨ad, c, e, _, hK, hc0⟩ := Kd.C_get h z70 i h0 h1
  have hc : ∀ j u, c[j]? = some u → w.cell? (ad.add (i.toNat * 10 + j)) = some u := hc0
  obtain ⟨A3, c3, A4, c4, A8, c8, A9, c9, rfl, l3, g3, l4, g4, l8, g8, l9, g9⟩ := k70_open hK
  exact ⟨ad, A3, c3, A4, c4, A8, c8, A9, c9, e, hc 0 _ rfl, by rw [← add_field _ _ 1 (by omega)]; exact hc 1 _ rfl, by rw [← add_field _ _ 2 (by omega)]; exact hc 2 _ rfl, by rw [← add_field _ _ 3 (by omega)]; exact hc 3 _ rfl, by rw [← add_field _ _ 4 (by omega)]; exact hc 4 _ rfl, by rw [← add_field _ _ 5 (by omega)]; exact hc 5 _ rfl, by rw [← add_field _ _ 6 (by omega)]; exact hc 6 _ rfl, by rw [← add_field _ _ 7 (by omega)]; exact hc 7 _ rfl, by rw [← add_field _ _ 8 (by omega)]; exact hc 8 _ rfl, by rw [← add_field _ _ 9 (by omega)]; exact hc 9 _ rfl, l3, g3, l4, g4, l8, g8, l9, g9⟩

/-! #### struct type 40 -/
structure S40 where
  f0 : ByteArray
  f1 : (List ByteArray)
  f2 : S38
def z40 : S40 := ⟨(⟨#[]⟩ : ByteArray), ([] : List ByteArray), z38⟩
def k40 : Kd S40 := Kd.iso (Kd.pair Kd.string (Kd.pair (Kd.slice 9 Kd.string) k38)) (fun x : S40 => (x.f0, x.f1, x.f2))
theorem k40_open {w : World} {x : S40} {cs : List Value} (h : k40.K w x cs) : ∃ A1 c1 A5 c5 A6 c6, cs = [.string x.f0, .slice A1 x.f1.length c1, .int .i64 x.f2.f0, .int .i64 x.f2.f1, .string x.f2.f2, .slice A5 x.f2.f3.length c5, .slice A6 x.f2.f4.length c6] ∧ x.f1.length ≤ c1 ∧ Kd.string.C w A1 x.f1.length x.f1 ∧ x.f2.f3.length ≤ c5 ∧ k38.C w A5 x.f2.f3.length x.f2.f3 ∧ x.f2.f4.length ≤ c6 ∧ k70.C w A6 x.f2.f4.length x.f2.f4 := by
  obtain ⟨_, _, rfl, rfl, ⟨_, _, rfl, ⟨A1, c1, rfl, l1, g1⟩, s2⟩⟩ := h
  obtain ⟨A5, c5, A6, c6, rfl, l5, g5, l6, g6⟩ := k38_open s2
  exact ⟨A1, c1, A5, c5, A6, c6, rfl, l1, g1, l5, g5, l6, g6⟩
theorem k40_openM {w : World} {base : Nat} {ok : Nat → Prop} {x : S40} {cs : List Value} (h : k40.M w base ok x cs) : ∃ v1 v5 v6, cs = [.string x.f0, v1, .int .i64 x.f2.f0, .int .i64 x.f2.f1, .string x.f2.f2, v5, v6] ∧ Kd.string.R 9 w base ok v1 x.f1 ∧ k38.R 38 w base ok v5 x.f2.f3 ∧ k70.R 70 w base ok v6 x.f2.f4 := by
  obtain ⟨_, _, rfl, rfl, ⟨_, _, rfl, ⟨v1, rfl, g1⟩, s2⟩⟩ := h
  obtain ⟨v5, v6, rfl, g5, g6⟩ := k38_openM s2
  exact ⟨v1, v5, v6, rfl, g1, g5, g6⟩
theorem k40_mk (w : World) (x : S40) {A1 : Option Addr} {c1 : Nat} (l1 : x.f1.length ≤ c1) (g1 : Kd.string.C w A1 x.f1.length x.f1) {A5 : Option Addr} {c5 : Nat} (l5 : x.f2.f3.length ≤ c5) (g5 : k38.C w A5 x.f2.f3.length x.f2.f3) {A6 : Option Addr} {c6 : Nat} (l6 : x.f2.f4.length ≤ c6) (g6 : k70.C w A6 x.f2.f4.length x.f2.f4) : k40.K w x [.string x.f0, .slice A1 x.f1.length c1, .int .i64 x.f2.f0, .int .i64 x.f2.f1, .string x.f2.f2, .slice A5 x.f2.f3.length c5, .slice A6 x.f2.f4.length c6] := ⟨[.string x.f0], [.slice A1 x.f1.length c1, .int .i64 x.f2.f0, .int .i64 x.f2.f1, .string x.f2.f2, .slice A5 x.f2.f3.length c5, .slice A6 x.f2.f4.length c6], rfl, rfl, ⟨[.slice A1 x.f1.length c1], [.int .i64 x.f2.f0, .int .i64 x.f2.f1, .string x.f2.f2, .slice A5 x.f2.f3.length c5, .slice A6 x.f2.f4.length c6], rfl, ⟨A1, c1, rfl, l1, g1⟩, (k38_mk w x.f2 l5 g5 l6 g6)⟩⟩
theorem k40_mkM (w : World) (base : Nat) (ok : Nat → Prop) (x : S40) {v1 : Value} (g1 : Kd.string.R 9 w base ok v1 x.f1) {v5 : Value} (g5 : k38.R 38 w base ok v5 x.f2.f3) {v6 : Value} (g6 : k70.R 70 w base ok v6 x.f2.f4) : k40.M w base ok x [.string x.f0, v1, .int .i64 x.f2.f0, .int .i64 x.f2.f1, .string x.f2.f2, v5, v6] := ⟨[.string x.f0], [v1, .int .i64 x.f2.f0, .int .i64 x.f2.f1, .string x.f2.f2, v5, v6], rfl, rfl, ⟨[v1], [.int .i64 x.f2.f0, .int .i64 x.f2.f1, .string x.f2.f2, v5, v6], rfl, ⟨v1, rfl, g1⟩, (k38_mkM w base ok x.f2 g5 g6)⟩⟩
def rd_T40 (xs : List S40) (i : Int) : S40 := xs.getD i.toNat z40
theorem at_T40 {w : World} {A : Option Addr} {n : Nat} {xs : List S40} (h : Kd.C k40 w A n xs) (i : Int) (h0 : 0 ≤ i) (h1 : i < n) : ∃ ad A1 c1 A5 c5 A6 c6, A = some ad ∧ w.cell? (ad.add (i.toNat * 7)) = some (.string (rd_T40 xs i).f0) ∧ w.cell? ⟨(ad.add (i.toNat * 7)).block, (ad.add (i.toNat * 7)).off + 1, none⟩ = some (.slice A1 (rd_T40 xs i).f1.length c1) ∧ w.cell? ⟨(ad.add (i.toNat * 7)).block, (ad.add (i.toNat * 7)).off + 2, none⟩ = some (.int .i64 (rd_T40 xs i).f2.f0) ∧ w.cell? ⟨(ad.add (i.toNat * 7)).block, (ad.add (i.toNat * 7)).off + 3, none⟩ = some (.int .i64 (rd_T40 xs i).f2.f1) ∧ w.cell? ⟨(ad.add (i.toNat * 7)).block, (ad.add (i.toNat * 7)).off + 4, none⟩ = some (.string (rd_T40 xs i).f2.f2) ∧ w.cell? ⟨(ad.add (i.toNat * 7)).block, (ad.add (i.toNat * 7)).off + 5, none⟩ = some (.slice A5 (rd_T40 xs i).f2.f3.length c5) ∧ w.cell? ⟨(ad.add (i.toNat * 7)).block, (ad.add (i.toNat * 7)).off + 6, none⟩ = some (.slice A6 (rd_T40 xs i).f2.f4.length c6) ∧ (rd_T40 xs i).f1.length ≤ c1 ∧ Kd.string.C w A1 (rd_T40 xs i).f1.length (rd_T40 xs i).f1 ∧ (rd_T40 xs i).f2.f3.length ≤ c5 ∧ k38.C w A5 (rd_T40 xs i).f2.f3.length (rd_T40 xs i).f2.f3 ∧ (rd_T40 xs i).f2.f4.length ≤ c6 ∧ k70.C w A6 (rd_T40 xs i).f2.f4.length (rd_T40 xs i).f2.f4 := by
  obtain ⟨ad, c, e, _, hK, hc0⟩ := Kd.C_get h z40 i h0 h1
  have hc : ∀ j u, c[j]? = some u → w.cell? (ad.add (i.toNat * 7 + j)) = some u := hc0
  obtain ⟨A1, c1, A5, c5, A6, c6, rfl, l1, g1, l5, g5, l6, g6⟩ := k40_open hK
  exact ⟨ad, A1, c1, A5, c5, A6, c6, e, hc 0 _ rfl, by rw [← add_field _ _ 1 (by omega)]; exact hc 1 _ rfl, by rw [← add_field _ _ 2 (by omega)]; exact hc 2 _ rfl, by rw [← add_field _ _ 3 (by omega)]; exact hc 3 _ rfl, by rw [← add_field _ _ 4 (by omega)]; exact hc 4 _ rfl, by rw [← add_field _ _ 5 (by omega)]; exact hc 5 _ rfl, by rw [← add_field _ _ 6 (by omega)]; exact hc 6 _ rfl, l1, g1, l5, g5, l6, g6⟩

def rd_L9 (xs : List (List S51)) (i : Int) : (List S51) := xs.getD i.toNat ([] : List S51)
theorem at_L9 {w : World} {A : Option Addr} {n : Nat} {xs : List (List S51)} (h : Kd.C (Kd.slice 51 k51) w A n xs) (i : Int) (h0 : 0 ≤ i) (h1 : i < n) : ∃ ad A0 c0, A = some ad ∧ w.cell? (ad.add i.toNat) = some (.slice A0 (rd_L9 xs i).length c0) ∧ (rd_L9 xs i).length ≤ c0 ∧ k51.C w A0 (rd_L9 xs i).length (rd_L9 xs i) := by
  obtain ⟨ad, c, e, _, hK, hc0⟩ := Kd.C_get h ([] : List S51) i h0 h1
  have hc : ∀ j u, c[j]? = some u → w.cell? (ad.add (i.toNat * 1 + j)) = some u := hc0
  obtain ⟨A0, c0, rfl, l0, g0⟩ := hK
  exact ⟨ad, A0, c0, e, by have hq := hc 0 _ rfl; rwa [Nat.mul_one, Nat.add_zero] at hq, l0, g0⟩

/-! #### struct type 24 -/
structure S24 where
  f0 : (List S51)
def z24 : S24 := ⟨([] : List S51)⟩
def k24 : Kd S24 := Kd.iso (Kd.slice 51 k51) (fun x : S24 => x.f0)
theorem k24_open {w : World} {x : S24} {cs : List Value} (h : k24.K w x cs) : ∃ A0 c0, cs = [.slice A0 x.f0.length c0] ∧ x.f0.length ≤ c0 ∧ k51.C w A0 x.f0.length x.f0 := by
  obtain ⟨A0, c0, rfl, l0, g0⟩ := h
  exact ⟨A0, c0, rfl, l0, g0⟩
theorem k24_openM {w : World} {base : Nat} {ok : Nat → Prop} {x : S24} {cs : List Value} (h : k24.M w base ok x cs) : ∃ v0, cs = [v0] ∧ k51.R 51 w base ok v0 x.f0 := by
  obtain ⟨v0, rfl, g0⟩ := h
  exact ⟨v0, rfl, g0⟩
theorem k24_mk (w : World) (x : S24) {A0 : Option Addr} {c0 : Nat} (l0 : x.f0.length ≤ c0) (g0 : k51.C w A0 x.f0.length x.f0) : k24.K w x [.slice A0 x.f0.length c0] := ⟨A0, c0, rfl, l0, g0⟩
theorem k24_mkM (w : World) (base : Nat) (ok : Nat → Prop) (x : S24) {v0 : Value} (g0 : k51.R 51 w base ok v0 x.f0) : k24.M w base ok x [v0] := ⟨v0, rfl, g0⟩
def rd_T24 (xs : List S24) (i : Int) : S24 := xs.getD i.toNat z24
theorem at_T24 {w : World} {A : Option Addr} {n : Nat} {xs : List S24} (h : Kd.C k24 w A n xs) (i : Int) (h0 : 0 ≤ i) (h1 : i < n) : ∃ ad A0 c0, A = some ad ∧ w.cell? (ad.add i.toNat) = some (.slice A0 (rd_T24 xs i).f0.length c0) ∧ (rd_T24 xs i).f0.length ≤ c0 ∧ k51.C w A0 (rd_T24 xs i).f0.length (rd_T24 xs i).f0 := by
  obtain ⟨ad, c, e, _, hK, hc0⟩ := Kd.C_get h z24 i h0 h1
  have hc : ∀ j u, c[j]? = some u → w.cell? (ad.add (i.toNat * 1 + j)) = some u := hc0
  obtain ⟨A0, c0, rfl, l0, g0⟩ := k24_open hK
  exact ⟨ad, A0, c0, e, by have hq := hc 0 _ rfl; rwa [Nat.mul_one, Nat.add_zero] at hq, l0, g0⟩

mutual
def wf49 : S49 → Prop
  | ⟨x0, x1, x2, x3, x4⟩ => ((Lit.int .i64 x0).wf = true) ∧ ((Lit.int .i64 x1).wf = true) ∧ (x2.size ≤ maxLen) ∧ (x3.length ≤ maxLen ∧ wfl49 x3) ∧ (x4.length ≤ maxLen ∧ wfl68 x4)
def wfl49 : List S49 → Prop
  | [] => True
  | x :: r => wf49 x ∧ wfl49 r
def wf68 : P68 S49 → Prop
  | ⟨x0, x1⟩ => wf49 x0 ∧ wf49 x1
def wfl68 : List (P68 S49) → Prop
  | [] => True
  | x :: r => wf68 x ∧ wfl68 r
end
theorem wfl49_iff : ∀ l : List S49, wfl49 l ↔ ∀ x ∈ l, wf49 x
  | [] => by simp [wfl49]
  | x :: r => by simp [wfl49, wfl49_iff r]
theorem wfl68_iff : ∀ l : List S68, wfl68 l ↔ ∀ x ∈ l, wf68 x
  | [] => by simp [wfl68]
  | x :: r => by simp [wfl68, wfl68_iff r]
def wf51 : S51 → Prop
  | ⟨x0, x1, x2⟩ => (x0.size ≤ maxLen) ∧ (x1.length ≤ maxLen ∧ ∀ x_ ∈ x1, x_.size ≤ maxLen) ∧ (wf49 x2)
def wf24 : S24 → Prop
  | ⟨x0⟩ => (x0.length ≤ maxLen ∧ ∀ x_ ∈ x0, wf51 x_)
theorem eta24 (x : S24) : (⟨x.f0⟩ : S24) = x := by cases x; rfl
theorem eta51 (x : S51) : (⟨x.f0, x.f1, x.f2⟩ : S51) = x := by cases x; rfl
theorem eta49 (x : S49) : (⟨x.f0, x.f1, x.f2, x.f3, x.f4⟩ : S49) = x := by cases x; rfl
theorem eta68 (x : S68) : (⟨x.f0, x.f1⟩ : S68) = x := by cases x; rfl
theorem isEmpty_ne (l : List UInt8) : (!l.isEmpty) = (l != []) := by cases l <;> rfl
theorem isEmpty_be (l : List UInt8) : l.isEmpty = (l == []) := by cases l <;> rfl





end Go.Proofs.Ytgdpghifhlghhaa.QFnExactFunAt
