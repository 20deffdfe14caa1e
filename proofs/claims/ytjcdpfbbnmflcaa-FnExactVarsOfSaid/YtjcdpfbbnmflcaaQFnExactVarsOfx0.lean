-- Written by a program of this workplace (print2.py) for this claim, over the print's words.
import Derived.Test.YtjcdpfbbnmflcaaProg
import Derived.Below
import Derived.Deep.Draws
import Derived.Deep.AppendLies
import Derived.Maps.AppendAt
import Derived.OwnWalk
import Derived.Laws.BytesArg
import Derived.Laws.MakeOwn
import Derived.Laws.OwnMore
import Derived.Deep.OwnRows
import Derived.Tactics
import Derived.Lib.ConvBytes
import Derived.Laws.Slices
import Derived.WalkKit
import Derived.KernelRfl
import Derived.RowKit3
import Derived.Deep.LoopGhost
import Derived.Deep.QuietTactic
import Derived.BigQuiet
import Derived.WideLaws
import Derived.Deep.DeepCutAuto
import Derived.Deep.CutBlock
import Derived.Deep.RegionHeld3
import Derived.Laws.Rows
import Derived.Lib.AppendStr
import Derived.ArgAppend
import Derived.Laws.IdiomCopy
import Derived.OrdersHeld
import Derived.Laws.BitsLemmas
import Derived.RowKit
import Derived.Lib.SliceRun
import Derived.Test.YtjcdpfbbnmflcaaWWords
import Derived.Test.YtjcdpfbbnmflcaaWLast
import Derived.Test.YtjcdpfbbnmflcaaWTab
import Derived.Test.YtjcdpfbbnmflcaaWFour
import Derived.Test.YtjcdpfbbnmflcaaWQPut
import Derived.Test.YtjcdpfbbnmflcaaWApart
import Derived.Test.YtjcdpfbbnmflcaaWArr
import Derived.Test.YtjcdpfbbnmflcaaWZeros
import Derived.Test.YtjcdpfbbnmflcaaWFoot
import Derived.Test.YtjcdpfbbnmflcaaWKept
import Derived.Test.YtjcdpfbbnmflcaaWShare
import Derived.Test.YtjcdpfbbnmflcaaWN
import Derived.Test.YtjcdpfbbnmflcaaWFootNe
import Derived.Test.YtjcdpfbbnmflcaaWAt
import Derived.Test.YtjcdpfbbnmflcaaWEqStruct
import Derived.Test.YtjcdpfbbnmflcaaWRepsOne
import Derived.Test.YtjcdpfbbnmflcaaWInv
import Derived.Test.YtjcdpfbbnmflcaaWInvWords
import Derived.Test.YtjcdpfbbnmflcaaWGuard
import Derived.Test.YtjcdpfbbnmflcaaWNEv
import Derived.Test.YtjcdpfbbnmflcaaWMore
namespace Go.Proofs.Ytjcdpfbbnmflcaa.QFnExactVarsOf
open Go.RowKit Go.Proofs.YtjcdpfbbnmflcaaW.PrintWords Go.Proofs.YtjcdpfbbnmflcaaW.PrintLast Go.Proofs.YtjcdpfbbnmflcaaW.PrintMore
attribute [local go_sem] max2_int min2_int max_two min_two max_three min_three max_four min_four   -- for this text's walks alone
set_option linter.unusedVariables false
set_option linter.unusedSimpArgs false



def errW : Option Int → Value
  | none => .nilIface
  | some c => .iface 0 (.int .i64 c)
theorem errW_none : errW none = .nilIface := rfl
theorem errW_some (c : Int) : errW (some c) = .iface 0 (.int .i64 c) := rfl

theorem info5 : (Try.prog.info? 5).map (fun i => (i.zero, i.size, i.bytes)) = some (some (.int .u8 0), 1, 1) := by kernel_rfl
theorem info9 : (Try.prog.info? 9).map (fun i => (i.zero, i.size, i.bytes)) = some (some (.string ⟨#[]⟩), 1, 16) := by kernel_rfl
theorem info37 : (Try.prog.info? 37).map (fun i => (i.zero, i.size, i.bytes)) = some (some (.agg #[(.int .i64 0), (.int .i64 0), (.string ⟨#[]⟩), (.slice none 0 0), (.slice none 0 0)]), 5, 80) := by kernel_rfl
theorem info55 : (Try.prog.info? 55).map (fun i => (i.zero, i.size, i.bytes)) = some (some (.agg #[(.int .i64 0), (.int .i64 0), (.string ⟨#[]⟩), (.slice none 0 0), (.slice none 0 0), (.int .i64 0), (.int .i64 0), (.string ⟨#[]⟩), (.slice none 0 0), (.slice none 0 0)]), 10, 160) := by kernel_rfl
-- the values' own types
section
variable {α β : Type} {F : Kd α → Kd α} {G : Kd α → Kd β} {sz : Nat} {E : List Nat} {hs : ∀ n, (Kd.upto F sz E n).sz = sz} {hE : ∀ n q, q ∈ (Kd.upto F sz E n).E → q ∈ E}
theorem nest_C (hg : Kd.Mono G) {n : Nat} {w : World} {A : Option Addr} {m : Nat} {xs : List β} (h : (G (Kd.upto F sz E n)).C w A m xs) : (G (Kd.fix F sz E hs hE)).C w A m xs :=
  Kd.C_imp (hg.sz _ _ (hs n)) (fun w x cs hp => hg.K _ (Kd.fix F sz E hs hE) (hs n) (fun w x cs hp => (⟨n, hp⟩ : ∃ n, (Kd.upto F sz E n).K w x cs)) w x cs hp) h
theorem nest_R (hg : Kd.Mono G) {n : Nat} {e : Nat} {w : World} {base : Nat} {ok : Nat → Prop} {v : Value} {xs : List β} (h : (G (Kd.upto F sz E n)).R e w base ok v xs) : (G (Kd.fix F sz E hs hE)).R e w base ok v xs :=
  Kd.R_imp (hg.sz _ _ (hs n)) (fun w base ok x cs hp => hg.M _ (Kd.fix F sz E hs hE) (hs n) (fun w base ok x cs hp => (⟨n, hp⟩ : ∃ n, (Kd.upto F sz E n).M w base ok x cs)) w base ok x cs hp) h
theorem nest_C_le (hm : Kd.Mono F) (hs : ∀ n, (Kd.upto F sz E n).sz = sz) (hg : Kd.Mono G) {n m : Nat} (hnm : n ≤ m) {w : World} {A : Option Addr} {l : Nat} {xs : List β} (h : (G (Kd.upto F sz E n)).C w A l xs) : (G (Kd.upto F sz E m)).C w A l xs :=
  Kd.C_imp (hg.sz _ _ (by rw [hs n, hs m])) (fun w x cs hp => hg.K _ _ (by rw [hs n, hs m]) (fun _ _ _ hp => Kd.upto_K_le hm hs hnm hp) w x cs hp) h
theorem nest_R_le (hm : Kd.Mono F) (hs : ∀ n, (Kd.upto F sz E n).sz = sz) (hg : Kd.Mono G) {n m : Nat} (hnm : n ≤ m) {e : Nat} {w : World} {base : Nat} {ok : Nat → Prop} {v : Value} {xs : List β} (h : (G (Kd.upto F sz E n)).R e w base ok v xs) : (G (Kd.upto F sz E m)).R e w base ok v xs :=
  Kd.R_imp (hg.sz _ _ (by rw [hs n, hs m])) (fun w base ok x cs hp => hg.M _ _ (by rw [hs n, hs m]) (fun _ _ _ _ _ hp => Kd.upto_M_le hm hs hnm hp) w base ok x cs hp) h
theorem nest_R_back (hm : Kd.Mono F) (hg : Kd.Mono G) (hb : ∀ {w : World} {base : Nat} {ok : Nat → Prop} {x : β} {cs : List Value}, (G (Kd.fix F sz E hs hE)).M w base ok x cs → ∃ n, (G (Kd.upto F sz E n)).M w base ok x cs)
    {e : Nat} {w : World} {base : Nat} {ok : Nat → Prop} {v : Value} {xs : List β} (h : (G (Kd.fix F sz E hs hE)).R e w base ok v xs) : ∃ n, (G (Kd.upto F sz E n)).R e w base ok v xs := by
  obtain ⟨h0, inner, ho, hr⟩ := h
  have hz : ∀ n, (G (Kd.upto F sz E n)).sz = (G (Kd.fix F sz E hs hE)).sz := fun n => hg.sz _ _ (hs n)
  obtain ⟨N, hN⟩ := Kd.reps_bounded (R := fun n p c => (G (Kd.upto F sz E n)).M w base (fun k => ok k ∧ some k ≠ v.ownBlock) p c) (fun n m p c hnm hp => hg.M _ _ (by rw [hs n, hs m]) (fun _ _ _ _ _ hp => Kd.upto_M_le hm hs hnm hp) _ _ _ _ _ hp) (hr.imp_ (fun _ _ hp => hb hp))
  refine ⟨N, h0, inner, ?_, ?_⟩
  · rw [hz N]; exact ho
  · rw [hz N]; exact hN
theorem nest_C_back (hm : Kd.Mono F) (hg : Kd.Mono G) (hb : ∀ {w : World} {x : β} {cs : List Value}, (G (Kd.fix F sz E hs hE)).K w x cs → ∃ n, (G (Kd.upto F sz E n)).K w x cs)
    {w : World} {A : Option Addr} {m : Nat} {xs : List β} (h : (G (Kd.fix F sz E hs hE)).C w A m xs) : ∃ n, (G (Kd.upto F sz E n)).C w A m xs := by
  have hz : ∀ n, (G (Kd.upto F sz E n)).sz = (G (Kd.fix F sz E hs hE)).sz := fun n => hg.sz _ _ (hs n)
  rcases Nat.eq_zero_or_pos m with h0 | hpos
  · subst h0
    exact ⟨0, h.1, h.2.1, fun hp => absurd hp (Nat.lt_irrefl 0)⟩
  · obtain ⟨ad, e, hc⟩ := h.2.2 hpos
    obtain ⟨N, hN⟩ := Kd.bounded (P := fun n j => ∀ p, xs[j]? = some p → ∃ c, c.length = (G (Kd.fix F sz E hs hE)).sz ∧ (G (Kd.upto F sz E n)).K w p c ∧ ∀ i u, c[i]? = some u → w.cell? (ad.add (j * (G (Kd.fix F sz E hs hE)).sz + i)) = some u)
      (fun n n' j hnm hp p hj => by
        obtain ⟨c, h1, h2, h3⟩ := hp p hj
        exact ⟨c, h1, hg.K _ _ (by rw [hs n, hs n']) (fun _ _ _ hp => Kd.upto_K_le hm hs hnm hp) _ _ _ h2, h3⟩) xs.length
      (fun j hj => by
        obtain ⟨c, h1, h2, h3⟩ := hc j _ (List.getElem?_eq_getElem hj)
        obtain ⟨n, h2⟩ := hb h2
        refine ⟨n, fun p hp => ?_⟩
        rw [List.getElem?_eq_getElem hj] at hp
        injection hp with hp
        rw [← hp]
        exact ⟨c, h1, h2, h3⟩)
    refine ⟨N, h.1, h.2.1, fun _ => ⟨ad, e, fun j p hj => ?_⟩⟩
    rw [hz N]
    exact hN j (List.getElem?_eq_some_iff.1 hj).1 p hj
end
/-! #### struct type 41, nested in itself -/
structure P144 (α : Type) where
  f0 : α
  f1 : α
structure S41 where
  f0 : Int
  f1 : Int
  f2 : ByteArray
  f3 : (List S41)
  f4 : (List (P144 S41))
abbrev S144 := P144 S41
def z41 : S41 := ⟨(0 : Int), (0 : Int), (⟨#[]⟩ : ByteArray), ([] : List S41), ([] : List S144)⟩
def G144 (d : Kd S41) : Kd S144 := Kd.iso (Kd.pair d d) (fun x : S144 => (x.f0, x.f1))
theorem monoG144 : Kd.Mono G144 := Kd.mono_iso _ (Kd.mono_pair Kd.mono_id Kd.mono_id)
theorem subG144 {E : List Nat} : Kd.Sub G144 E := Kd.sub_iso _ (Kd.sub_pair Kd.sub_id Kd.sub_id)
def F41 (d : Kd S41) : Kd S41 := Kd.iso (Kd.pair (Kd.int .i64) (Kd.pair (Kd.int .i64) (Kd.pair Kd.string (Kd.pair (Kd.slice 41 d) (Kd.slice 144 (G144 d)))))) (fun x : S41 => (x.f0, x.f1, x.f2, x.f3, x.f4))
theorem mono41 : Kd.Mono F41 := Kd.mono_iso _ (Kd.mono_pair (Kd.mono_const _) (Kd.mono_pair (Kd.mono_const _) (Kd.mono_pair (Kd.mono_const _) (Kd.mono_pair (Kd.mono_slice 41 Kd.mono_id) (Kd.mono_slice 144 monoG144)))))
theorem sub41 : Kd.Sub F41 [41, 144] := Kd.sub_iso _ (Kd.sub_pair (Kd.sub_const _ (by decide)) (Kd.sub_pair (Kd.sub_const _ (by decide)) (Kd.sub_pair (Kd.sub_const _ (by decide)) (Kd.sub_pair (Kd.sub_slice 41 (by decide) Kd.sub_id) (Kd.sub_slice 144 (by decide) subG144)))))
theorem sz41 : ∀ n, (Kd.upto F41 5 [41, 144] n).sz = 5 := Kd.upto_sz (fun _ => rfl)
def k41 : Kd S41 := Kd.fix F41 5 [41, 144] sz41 (Kd.upto_E sub41)
def k144 : Kd S144 := G144 k41
theorem hbK144 {w : World} {x : S144} {cs : List Value} (h : (G144 k41).K w x cs) : ∃ n, (G144 (Kd.upto F41 5 [41, 144] n)).K w x cs := by
  obtain ⟨c0, c1, rfl, ⟨n0, h0⟩, ⟨n1, h1⟩⟩ := h
  exact ⟨max n0 n1, c0, c1, rfl, Kd.upto_K_le mono41 sz41 (Nat.le_max_left _ _) h0, Kd.upto_K_le mono41 sz41 (Nat.le_max_right _ _) h1⟩
theorem hbM144 {w : World} {base : Nat} {ok : Nat → Prop} {x : S144} {cs : List Value} (h : (G144 k41).M w base ok x cs) : ∃ n, (G144 (Kd.upto F41 5 [41, 144] n)).M w base ok x cs := by
  obtain ⟨c0, c1, rfl, ⟨n0, h0⟩, ⟨n1, h1⟩⟩ := h
  exact ⟨max n0 n1, c0, c1, rfl, Kd.upto_M_le mono41 sz41 (Nat.le_max_left _ _) h0, Kd.upto_M_le mono41 sz41 (Nat.le_max_right _ _) h1⟩
theorem k41_open {w : World} {x : S41} {cs : List Value} (h : k41.K w x cs) : ∃ A3 c3 A4 c4, cs = [.int .i64 x.f0, .int .i64 x.f1, .string x.f2, .slice A3 x.f3.length c3, .slice A4 x.f4.length c4] ∧ x.f3.length ≤ c3 ∧ k41.C w A3 x.f3.length x.f3 ∧ x.f4.length ≤ c4 ∧ k144.C w A4 x.f4.length x.f4 := by
  obtain ⟨n, h⟩ := h
  cases n with
  | zero => exact h.elim
  | succ n =>
    obtain ⟨_, _, rfl, rfl, ⟨_, _, rfl, rfl, ⟨_, _, rfl, rfl, ⟨_, _, rfl, ⟨A3, c3, rfl, l3, g3⟩, ⟨A4, c4, rfl, l4, g4⟩⟩⟩⟩⟩ := h
    exact ⟨A3, c3, A4, c4, rfl, l3, Kd.fix_C g3, l4, nest_C monoG144 g4⟩
theorem k41_openM {w : World} {base : Nat} {ok : Nat → Prop} {x : S41} {cs : List Value} (h : k41.M w base ok x cs) : ∃ v3 v4, cs = [.int .i64 x.f0, .int .i64 x.f1, .string x.f2, v3, v4] ∧ k41.R 41 w base ok v3 x.f3 ∧ k144.R 144 w base ok v4 x.f4 := by
  obtain ⟨n, h⟩ := h
  cases n with
  | zero => exact h.elim
  | succ n =>
    obtain ⟨_, _, rfl, rfl, ⟨_, _, rfl, rfl, ⟨_, _, rfl, rfl, ⟨_, _, rfl, ⟨v3, rfl, g3⟩, ⟨v4, rfl, g4⟩⟩⟩⟩⟩ := h
    exact ⟨v3, v4, rfl, Kd.fix_R g3, nest_R monoG144 g4⟩
theorem k41_mk (w : World) (x : S41) {A3 : Option Addr} {c3 : Nat} (l3 : x.f3.length ≤ c3) (g3 : k41.C w A3 x.f3.length x.f3) {A4 : Option Addr} {c4 : Nat} (l4 : x.f4.length ≤ c4) (g4 : k144.C w A4 x.f4.length x.f4) : k41.K w x [.int .i64 x.f0, .int .i64 x.f1, .string x.f2, .slice A3 x.f3.length c3, .slice A4 x.f4.length c4] := by
  obtain ⟨n3, q3⟩ := Kd.fix_C_back mono41 g3
  obtain ⟨n4, q4⟩ := nest_C_back mono41 monoG144 hbK144 g4
  have r3 := Kd.upto_C_le mono41 sz41 (show n3 ≤ (max n3 n4) by omega) q3
  have r4 := nest_C_le mono41 sz41 monoG144 (show n4 ≤ (max n3 n4) by omega) q4
  exact ⟨(max n3 n4) + 1, ⟨[.int .i64 x.f0], [.int .i64 x.f1, .string x.f2, .slice A3 x.f3.length c3, .slice A4 x.f4.length c4], rfl, rfl, ⟨[.int .i64 x.f1], [.string x.f2, .slice A3 x.f3.length c3, .slice A4 x.f4.length c4], rfl, rfl, ⟨[.string x.f2], [.slice A3 x.f3.length c3, .slice A4 x.f4.length c4], rfl, rfl, ⟨[.slice A3 x.f3.length c3], [.slice A4 x.f4.length c4], rfl, ⟨A3, c3, rfl, l3, r3⟩, ⟨A4, c4, rfl, l4, r4⟩⟩⟩⟩⟩⟩
theorem k41_mkM (w : World) (base : Nat) (ok : Nat → Prop) (x : S41) {v3 : Value} (g3 : k41.R 41 w base ok v3 x.f3) {v4 : Value} (g4 : k144.R 144 w base ok v4 x.f4) : k41.M w base ok x [.int .i64 x.f0, .int .i64 x.f1, .string x.f2, v3, v4] := by
  obtain ⟨n3, q3⟩ := Kd.fix_R_back mono41 g3
  obtain ⟨n4, q4⟩ := nest_R_back mono41 monoG144 hbM144 g4
  have r3 := Kd.upto_R_le mono41 sz41 (show n3 ≤ (max n3 n4) by omega) q3
  have r4 := nest_R_le mono41 sz41 monoG144 (show n4 ≤ (max n3 n4) by omega) q4
  exact ⟨(max n3 n4) + 1, ⟨[.int .i64 x.f0], [.int .i64 x.f1, .string x.f2, v3, v4], rfl, rfl, ⟨[.int .i64 x.f1], [.string x.f2, v3, v4], rfl, rfl, ⟨[.string x.f2], [v3, v4], rfl, rfl, ⟨[v3], [v4], rfl, ⟨v3, rfl, r3⟩, ⟨v4, rfl, r4⟩⟩⟩⟩⟩⟩
def rd_T41 (xs : List S41) (i : Int) : S41 := xs.getD i.toNat z41
theorem at_T41 {w : World} {A : Option Addr} {n : Nat} {xs : List S41} (h : Kd.C k41 w A n xs) (i : Int) (h0 : 0 ≤ i) (h1 : i < n) : ∃ ad A3 c3 A4 c4, A = some ad ∧ w.cell? (ad.add (i.toNat * 5)) = some (.int .i64 (rd_T41 xs i).f0) ∧ w.cell? ⟨(ad.add (i.toNat * 5)).block, (ad.add (i.toNat * 5)).off + 1, none⟩ = some (.int .i64 (rd_T41 xs i).f1) ∧ w.cell? ⟨(ad.add (i.toNat * 5)).block, (ad.add (i.toNat * 5)).off + 2, none⟩ = some (.string (rd_T41 xs i).f2) ∧ w.cell? ⟨(ad.add (i.toNat * 5)).block, (ad.add (i.toNat * 5)).off + 3, none⟩ = some (.slice A3 (rd_T41 xs i).f3.length c3) ∧ w.cell? ⟨(ad.add (i.toNat * 5)).block, (ad.add (i.toNat * 5)).off + 4, none⟩ = some (.slice A4 (rd_T41 xs i).f4.length c4) ∧ (rd_T41 xs i).f3.length ≤ c3 ∧ k41.C w A3 (rd_T41 xs i).f3.length (rd_T41 xs i).f3 ∧ (rd_T41 xs i).f4.length ≤ c4 ∧ k144.C w A4 (rd_T41 xs i).f4.length (rd_T41 xs i).f4 := by
  obtain ⟨ad, c, e, _, hK, hc0⟩ := Kd.C_get h z41 i h0 h1
  have hc : ∀ j u, c[j]? = some u → w.cell? (ad.add (i.toNat * 5 + j)) = some u := hc0
  obtain ⟨A3, c3, A4, c4, rfl, l3, g3, l4, g4⟩ := k41_open hK
  exact ⟨ad, A3, c3, A4, c4, e, hc 0 _ rfl, by rw [← add_field _ _ 1 (by omega)]; exact hc 1 _ rfl, by rw [← add_field _ _ 2 (by omega)]; exact hc 2 _ rfl, by rw [← add_field _ _ 3 (by omega)]; exact hc 3 _ rfl, by rw [← add_field _ _ 4 (by omega)]; exact hc 4 _ rfl, l3, g3, l4, g4⟩

/-! #### struct type 144 -/
def z144 : S144 := ⟨z41, z41⟩
theorem k144_open {w : World} {x : S144} {cs : List Value} (h : k144.K w x cs) : ∃ A3 c3 A4 c4 A8 c8 A9 c9, cs = [.int .i64 x.f0.f0, .int .i64 x.f0.f1, .string x.f0.f2, .slice A3 x.f0.f3.length c3, .slice A4 x.f0.f4.length c4, .int .i64 x.f1.f0, .int .i64 x.f1.f1, .string x.f1.f2, .slice A8 x.f1.f3.length c8, .slice A9 x.f1.f4.length c9] ∧ x.f0.f3.length ≤ c3 ∧ k41.C w A3 x.f0.f3.length x.f0.f3 ∧ x.f0.f4.length ≤ c4 ∧ k144.C w A4 x.f0.f4.length x.f0.f4 ∧ x.f1.f3.length ≤ c8 ∧ k41.C w A8 x.f1.f3.length x.f1.f3 ∧ x.f1.f4.length ≤ c9 ∧ k144.C w A9 x.f1.f4.length x.f1.f4 := by
  obtain ⟨_, _, rfl, s0, s5⟩ := h
  obtain ⟨A3, c3, A4, c4, rfl, l3, g3, l4, g4⟩ := k41_open s0
  obtain ⟨A8, c8, A9, c9, rfl, l8, g8, l9, g9⟩ := k41_open s5
  exact ⟨A3, c3, A4, c4, A8, c8, A9, c9, rfl, l3, g3, l4, g4, l8, g8, l9, g9⟩
theorem k144_openM {w : World} {base : Nat} {ok : Nat → Prop} {x : S144} {cs : List Value} (h : k144.M w base ok x cs) : ∃ v3 v4 v8 v9, cs = [.int .i64 x.f0.f0, .int .i64 x.f0.f1, .string x.f0.f2, v3, v4, .int .i64 x.f1.f0, .int .i64 x.f1.f1, .string x.f1.f2, v8, v9] ∧ k41.R 41 w base ok v3 x.f0.f3 ∧ k144.R 144 w base ok v4 x.f0.f4 ∧ k41.R 41 w base ok v8 x.f1.f3 ∧ k144.R 144 w base ok v9 x.f1.f4 := by
  obtain ⟨_, _, rfl, s0, s5⟩ := h
  obtain ⟨v3, v4, rfl, g3, g4⟩ := k41_openM s0
  obtain ⟨v8, v9, rfl, g8, g9⟩ := k41_openM s5
  exact ⟨v3, v4, v8, v9, rfl, g3, g4, g8, g9⟩
theorem k144_mk (w : World) (x : S144) {A3 : Option Addr} {c3 : Nat} (l3 : x.f0.f3.length ≤ c3) (g3 : k41.C w A3 x.f0.f3.length x.f0.f3) {A4 : Option Addr} {c4 : Nat} (l4 : x.f0.f4.length ≤ c4) (g4 : k144.C w A4 x.f0.f4.length x.f0.f4) {A8 : Option Addr} {c8 : Nat} (l8 : x.f1.f3.length ≤ c8) (g8 : k41.C w A8 x.f1.f3.length x.f1.f3) {A9 : Option Addr} {c9 : Nat} (l9 : x.f1.f4.length ≤ c9) (g9 : k144.C w A9 x.f1.f4.length x.f1.f4) : k144.K w x [.int .i64 x.f0.f0, .int .i64 x.f0.f1, .string x.f0.f2, .slice A3 x.f0.f3.length c3, .slice A4 x.f0.f4.length c4, .int .i64 x.f1.f0, .int .i64 x.f1.f1, .string x.f1.f2, .slice A8 x.f1.f3.length c8, .slice A9 x.f1.f4.length c9] := ⟨[.int .i64 x.f0.f0, .int .i64 x.f0.f1, .string x.f0.f2, .slice A3 x.f0.f3.length c3, .slice A4 x.f0.f4.length c4], [.int .i64 x.f1.f0, .int .i64 x.f1.f1, .string x.f1.f2, .slice A8 x.f1.f3.length c8, .slice A9 x.f1.f4.length c9], rfl, (k41_mk w x.f0 l3 g3 l4 g4), (k41_mk w x.f1 l8 g8 l9 g9)⟩
theorem k144_mkM (w : World) (base : Nat) (ok : Nat → Prop) (x : S144) {v3 : Value} (g3 : k41.R 41 w base ok v3 x.f0.f3) {v4 : Value} (g4 : k144.R 144 w base ok v4 x.f0.f4) {v8 : Value} (g8 : k41.R 41 w base ok v8 x.f1.f3) {v9 : Value} (g9 : k144.R 144 w base ok v9 x.f1.f4) : k144.M w base ok x [.int .i64 x.f0.f0, .int .i64 x.f0.f1, .string x.f0.f2, v3, v4, .int .i64 x.f1.f0, .int .i64 x.f1.f1, .string x.f1.f2, v8, v9] := ⟨[.int .i64 x.f0.f0, .int .i64 x.f0.f1, .string x.f0.f2, v3, v4], [.int .i64 x.f1.f0, .int .i64 x.f1.f1, .string x.f1.f2, v8, v9], rfl, (k41_mkM w base ok x.f0 g3 g4), (k41_mkM w base ok x.f1 g8 g9)⟩
def rd_T144 (xs : List S144) (i : Int) : S144 := xs.getD i.toNat z144
theorem at_T144 {w : World} {A : Option Addr} {n : Nat} {xs : List S144} (h : Kd.C k144 w A n xs) (i : Int) (h0 : 0 ≤ i) (h1 : i < n) : ∃ ad A3 c3 A4 c4 A8 c8 A9 c9, A = some ad ∧ w.cell? (ad.add (i.toNat * 10)) = some (.int .i64 (rd_T144 xs i).f0.f0) ∧ w.cell? ⟨(ad.add (i.toNat * 10)).block, (ad.add (i.toNat * 10)).off + 1, none⟩ = some (.int .i64 (rd_T144 xs i).f0.f1) ∧ w.cell? ⟨(ad.add (i.toNat * 10)).block, (ad.add (i.toNat * 10)).off + 2, none⟩ = some (.string (rd_T144 xs i).f0.f2) ∧ w.cell? ⟨(ad.add (i.toNat * 10)).block, (ad.add (i.toNat * 10)).off + 3, none⟩ = some (.slice A3 (rd_T144 xs i).f0.f3.length c3) ∧ w.cell? ⟨(ad.add (i.toNat * 10)).block, (ad.add (i.toNat * 10)).off + 4, none⟩ = some (.slice A4 (rd_T144 xs i).f0.f4.length c4) ∧ w.cell? ⟨(ad.add (i.toNat * 10)).block, (ad.add (i.toNat * 10)).off + 5, none⟩ = some (.int .i64 (rd_T144 xs i).f1.f0) ∧ w.cell? ⟨(ad.add (i.toNat * 10)).block, (ad.add (i.toNat * 10)).off + 6, none⟩ = some (.int .i64 (rd_T144 xs i).f1.f1) ∧ w.cell? ⟨(ad.add (i.toNat * 10)).block, (ad.add (i.toNat * 10)).off + 7, none⟩ = some (.string (rd_T144 xs i).f1.f2) ∧ w.cell? ⟨(ad.add (i.toNat * 10)).block, (ad.add (i.toNat * 10)).off + 8, none⟩ = some (.slice A8 (rd_T144 xs i).f1.f3.length c8) ∧ w.cell? ⟨(ad.add (i.toNat * 10)).block, (ad.add (i.toNat * 10)).off + 9, none⟩ = some (.slice A9 (rd_T144 xs i).f1.f4.length c9) ∧ (rd_T144 xs i).f0.f3.length ≤ c3 ∧ k41.C w A3 (rd_T144 xs i).f0.f3.length (rd_T144 xs i).f0.f3 ∧ (rd_T144 xs i).f0.f4.length ≤ c4 ∧ k144.C w A4 (rd_T144 xs i).f0.f4.length (rd_T144 xs i).f0.f4 ∧ (rd_T144 xs i).f1.f3.length ≤ c8 ∧ k41.C w A8 (rd_T144 xs i).f1.f3.length (rd_T144 xs i).f1.f3 ∧ (rd_T144 xs i).f1.f4.length ≤ c9 ∧ k144.C w A9 (rd_T144 xs i).f1.f4.length (rd_T144 xs i).f1.f4 := by
  obtain ⟨ad, c, e, _, hK, hc0⟩ := Kd.C_get h z144 i h0 h1
  have hc : ∀ j u, c[j]? = some u → w.cell? (ad.add (i.toNat * 10 + j)) = some u := hc0
  obtain ⟨A3, c3, A4, c4, A8, c8, A9, c9, rfl, l3, g3, l4, g4, l8, g8, l9, g9⟩ := k144_open hK
  exact ⟨ad, A3, c3, A4, c4, A8, c8, A9, c9, e, hc 0 _ rfl, by rw [← add_field _ _ 1 (by omega)]; exact hc 1 _ rfl, by rw [← add_field _ _ 2 (by omega)]; exact hc 2 _ rfl, by rw [← add_field _ _ 3 (by omega)]; exact hc 3 _ rfl, by rw [← add_field _ _ 4 (by omega)]; exact hc 4 _ rfl, by rw [← add_field _ _ 5 (by omega)]; exact hc 5 _ rfl, by rw [← add_field _ _ 6 (by omega)]; exact hc 6 _ rfl, by rw [← add_field _ _ 7 (by omega)]; exact hc 7 _ rfl, by rw [← add_field _ _ 8 (by omega)]; exact hc 8 _ rfl, by rw [← add_field _ _ 9 (by omega)]; exact hc 9 _ rfl, l3, g3, l4, g4, l8, g8, l9, g9⟩

/-! #### struct type 37, nested in itself -/
structure P55 (α : Type) where
  f0 : α
  f1 : α
structure S37 where
  f0 : Int
  f1 : Int
  f2 : ByteArray
  f3 : (List S37)
  f4 : (List (P55 S37))
abbrev S55 := P55 S37
def z37 : S37 := ⟨(0 : Int), (0 : Int), (⟨#[]⟩ : ByteArray), ([] : List S37), ([] : List S55)⟩
def G55 (d : Kd S37) : Kd S55 := Kd.iso (Kd.pair d d) (fun x : S55 => (x.f0, x.f1))
theorem monoG55 : Kd.Mono G55 := Kd.mono_iso _ (Kd.mono_pair Kd.mono_id Kd.mono_id)
theorem subG55 {E : List Nat} : Kd.Sub G55 E := Kd.sub_iso _ (Kd.sub_pair Kd.sub_id Kd.sub_id)
def F37 (d : Kd S37) : Kd S37 := Kd.iso (Kd.pair (Kd.int .i64) (Kd.pair (Kd.int .i64) (Kd.pair Kd.string (Kd.pair (Kd.slice 37 d) (Kd.slice 55 (G55 d)))))) (fun x : S37 => (x.f0, x.f1, x.f2, x.f3, x.f4))
theorem mono37 : Kd.Mono F37 := Kd.mono_iso _ (Kd.mono_pair (Kd.mono_const _) (Kd.mono_pair (Kd.mono_const _) (Kd.mono_pair (Kd.mono_const _) (Kd.mono_pair (Kd.mono_slice 37 Kd.mono_id) (Kd.mono_slice 55 monoG55)))))
theorem sub37 : Kd.Sub F37 [37, 55] := Kd.sub_iso _ (Kd.sub_pair (Kd.sub_const _ (by decide)) (Kd.sub_pair (Kd.sub_const _ (by decide)) (Kd.sub_pair (Kd.sub_const _ (by decide)) (Kd.sub_pair (Kd.sub_slice 37 (by decide) Kd.sub_id) (Kd.sub_slice 55 (by decide) subG55)))))
theorem sz37 : ∀ n, (Kd.upto F37 5 [37, 55] n).sz = 5 := Kd.upto_sz (fun _ => rfl)
def k37 : Kd S37 := Kd.fix F37 5 [37, 55] sz37 (Kd.upto_E sub37)
def k55 : Kd S55 := G55 k37
theorem hbK55 {w : World} {x : S55} {cs : List Value} (h : (G55 k37).K w x cs) : ∃ n, (G55 (Kd.upto F37 5 [37, 55] n)).K w x cs := by
  obtain ⟨c0, c1, rfl, ⟨n0, h0⟩, ⟨n1, h1⟩⟩ := h
  exact ⟨max n0 n1, c0, c1, rfl, Kd.upto_K_le mono37 sz37 (Nat.le_max_left _ _) h0, Kd.upto_K_le mono37 sz37 (Nat.le_max_right _ _) h1⟩
theorem hbM55 {w : World} {base : Nat} {ok : Nat → Prop} {x : S55} {cs : List Value} (h : (G55 k37).M w base ok x cs) : ∃ n, (G55 (Kd.upto F37 5 [37, 55] n)).M w base ok x cs := by
  obtain ⟨c0, c1, rfl, ⟨n0, h0⟩, ⟨n1, h1⟩⟩ := h
  exact ⟨max n0 n1, c0, c1, rfl, Kd.upto_M_le mono37 sz37 (Nat.le_max_left _ _) h0, Kd.upto_M_le mono37 sz37 (Nat.le_max_right _ _) h1⟩
theorem k37_open {w : World} {x : S37} {cs : List Value} (h : k37.K w x cs) : ∃ A3 c3 A4 c4, cs = [.int .i64 x.f0, .int .i64 x.f1, .string x.f2, .slice A3 x.f3.length c3, .slice A4 x.f4.length c4] ∧ x.f3.length ≤ c3 ∧ k37.C w A3 x.f3.length x.f3 ∧ x.f4.length ≤ c4 ∧ k55.C w A4 x.f4.length x.f4 := by
  obtain ⟨n, h⟩ := h
  cases n with
  | zero => exact h.elim
  | succ n =>
    obtain ⟨_, _, rfl, rfl, ⟨_, _, rfl, rfl, ⟨_, _, rfl, rfl, ⟨_, _, rfl, ⟨A3, c3, rfl, l3, g3⟩, ⟨A4, c4, rfl, l4, g4⟩⟩⟩⟩⟩ := h
    exact ⟨A3, c3, A4, c4, rfl, l3, Kd.fix_C g3, l4, nest_C monoG55 g4⟩
theorem k37_openM {w : World} {base : Nat} {ok : Nat → Prop} {x : S37} {cs : List Value} (h : k37.M w base ok x cs) : ∃ v3 v4, cs = [.int .i64 x.f0, .int .i64 x.f1, .string x.f2, v3, v4] ∧ k37.R 37 w base ok v3 x.f3 ∧ k55.R 55 w base ok v4 x.f4 := by
  obtain ⟨n, h⟩ := h
  cases n with
  | zero => exact h.elim
  | succ n =>
    obtain ⟨_, _, rfl, rfl, ⟨_, _, rfl, rfl, ⟨_, _, rfl, rfl, ⟨_, _, rfl, ⟨v3, rfl, g3⟩, ⟨v4, rfl, g4⟩⟩⟩⟩⟩ := h
    exact ⟨v3, v4, rfl, Kd.fix_R g3, nest_R monoG55 g4⟩
theorem k37_mk (w : World) (x : S37) {A3 : Option Addr} {c3 : Nat} (l3 : x.f3.length ≤ c3) (g3 : k37.C w A3 x.f3.length x.f3) {A4 : Option Addr} {c4 : Nat} (l4 : x.f4.length ≤ c4) (g4 : k55.C w A4 x.f4.length x.f4) : k37.K w x [.int .i64 x.f0, .int .i64 x.f1, .string x.f2, .slice A3 x.f3.length c3, .slice A4 x.f4.length c4] := by
  obtain ⟨n3, q3⟩ := Kd.fix_C_back mono37 g3
  obtain ⟨n4, q4⟩ := nest_C_back mono37 monoG55 hbK55 g4
  have r3 := Kd.upto_C_le mono37 sz37 (show n3 ≤ (max n3 n4) by omega) q3
  have r4 := nest_C_le mono37 sz37 monoG55 (show n4 ≤ (max n3 n4) by omega) q4
  exact ⟨(max n3 n4) + 1, ⟨[.int .i64 x.f0], [.int .i64 x.f1, .string x.f2, .slice A3 x.f3.length c3, .slice A4 x.f4.length c4], rfl, rfl, ⟨[.int .i64 x.f1], [.string x.f2, .slice A3 x.f3.length c3, .slice A4 x.f4.length c4], rfl, rfl, ⟨[.string x.f2], [.slice A3 x.f3.length c3, .slice A4 x.f4.length c4], rfl, rfl, ⟨[.slice A3 x.f3.length c3], [.slice A4 x.f4.length c4], rfl, ⟨A3, c3, rfl, l3, r3⟩, ⟨A4, c4, rfl, l4, r4⟩⟩⟩⟩⟩⟩
theorem k37_mkM (w : World) (base : Nat) (ok : Nat → Prop) (x : S37) {v3 : Value} (g3 : k37.R 37 w base ok v3 x.f3) {v4 : Value} (g4 : k55.R 55 w base ok v4 x.f4) : k37.M w base ok x [.int .i64 x.f0, .int .i64 x.f1, .string x.f2, v3, v4] := by
  obtain ⟨n3, q3⟩ := Kd.fix_R_back mono37 g3
  obtain ⟨n4, q4⟩ := nest_R_back mono37 monoG55 hbM55 g4
  have r3 := Kd.upto_R_le mono37 sz37 (show n3 ≤ (max n3 n4) by omega) q3
  have r4 := nest_R_le mono37 sz37 monoG55 (show n4 ≤ (max n3 n4) by omega) q4
  exact ⟨(max n3 n4) + 1, ⟨[.int .i64 x.f0], [.int .i64 x.f1, .string x.f2, v3, v4], rfl, rfl, ⟨[.int .i64 x.f1], [.string x.f2, v3, v4], rfl, rfl, ⟨[.string x.f2], [v3, v4], rfl, rfl, ⟨[v3], [v4], rfl, ⟨v3, rfl, r3⟩, ⟨v4, rfl, r4⟩⟩⟩⟩⟩⟩
def rd_T37 (xs : List S37) (i : Int) : S37 := xs.getD i.toNat z37
theorem at_T37 {w : World} {A : Option Addr} {n : Nat} {xs : List S37} (h : Kd.C k37 w A n xs) (i : Int) (h0 : 0 ≤ i) (h1 : i < n) : ∃ ad A3 c3 A4 c4, A = some ad ∧ w.cell? (ad.add (i.toNat * 5)) = some (.int .i64 (rd_T37 xs i).f0) ∧ w.cell? ⟨(ad.add (i.toNat * 5)).block, (ad.add (i.toNat * 5)).off + 1, none⟩ = some (.int .i64 (rd_T37 xs i).f1) ∧ w.cell? ⟨(ad.add (i.toNat * 5)).block, (ad.add (i.toNat * 5)).off + 2, none⟩ = some (.string (rd_T37 xs i).f2) ∧ w.cell? ⟨(ad.add (i.toNat * 5)).block, (ad.add (i.toNat * 5)).off + 3, none⟩ = some (.slice A3 (rd_T37 xs i).f3.length c3) ∧ w.cell? ⟨(ad.add (i.toNat * 5)).block, (ad.add (i.toNat * 5)).off + 4, none⟩ = some (.slice A4 (rd_T37 xs i).f4.length c4) ∧ (rd_T37 xs i).f3.length ≤ c3 ∧ k37.C w A3 (rd_T37 xs i).f3.length (rd_T37 xs i).f3 ∧ (rd_T37 xs i).f4.length ≤ c4 ∧ k55.C w A4 (rd_T37 xs i).f4.length (rd_T37 xs i).f4 := by
  obtain ⟨ad, c, e, _, hK, hc0⟩ := Kd.C_get h z37 i h0 h1
  have hc : ∀ j u, c[j]? = some u → w.cell? (ad.add (i.toNat * 5 + j)) = some u := hc0
  obtain ⟨A3, c3, A4, c4, rfl, l3, g3, l4, g4⟩ := k37_open hK
  exact ⟨ad, A3, c3, A4, c4, e, hc 0 _ rfl, by rw [← add_field _ _ 1 (by omega)]; exact hc 1 _ rfl, by rw [← add_field _ _ 2 (by omega)]; exact hc 2 _ rfl, by rw [← add_field _ _ 3 (by omega)]; exact hc 3 _ rfl, by rw [← add_field _ _ 4 (by omega)]; exact hc 4 _ rfl, l3, g3, l4, g4⟩

/-! #### struct type 55 -/
def z55 : S55 := ⟨z37, z37⟩
theorem k55_open {w : World} {x : S55} {cs : List Value} (h : k55.K w x cs) : ∃ A3 c3 A4 c4 A8 c8 A9 c9, cs = [.int .i64 x.f0.f0, .int .i64 x.f0.f1, .string x.f0.f2, .slice A3 x.f0.f3.length c3, .slice A4 x.f0.f4.length c4, .int .i64 x.f1.f0, .int .i64 x.f1.f1, .string x.f1.f2, .slice A8 x.f1.f3.length c8, .slice A9 x.f1.f4.length c9] ∧ x.f0.f3.length ≤ c3 ∧ k37.C w A3 x.f0.f3.length x.f0.f3 ∧ x.f0.f4.length ≤ c4 ∧ k55.C w A4 x.f0.f4.length x.f0.f4 ∧ x.f1.f3.length ≤ c8 ∧ k37.C w A8 x.f1.f3.length x.f1.f3 ∧ x.f1.f4.length ≤ c9 ∧ k55.C w A9 x.f1.f4.length x.f1.f4 := by
  obtain ⟨_, _, rfl, s0, s5⟩ := h
  obtain ⟨A3, c3, A4, c4, rfl, l3, g3, l4, g4⟩ := k37_open s0
  obtain ⟨A8, c8, A9, c9, rfl, l8, g8, l9, g9⟩ := k37_open s5
  exact ⟨A3, c3, A4, c4, A8, c8, A9, c9, rfl, l3, g3, l4, g4, l8, g8, l9, g9⟩
theorem k55_openM {w : World} {base : Nat} {ok : Nat → Prop} {x : S55} {cs : List Value} (h : k55.M w base ok x cs) : ∃ v3 v4 v8 v9, cs = [.int .i64 x.f0.f0, .int .i64 x.f0.f1, .string x.f0.f2, v3, v4, .int .i64 x.f1.f0, .int .i64 x.f1.f1, .string x.f1.f2, v8, v9] ∧ k37.R 37 w base ok v3 x.f0.f3 ∧ k55.R 55 w base ok v4 x.f0.f4 ∧ k37.R 37 w base ok v8 x.f1.f3 ∧ k55.R 55 w base ok v9 x.f1.f4 := by
  obtain ⟨_, _, rfl, s0, s5⟩ := h
  obtain ⟨v3, v4, rfl, g3, g4⟩ := k37_openM s0
  obtain ⟨v8, v9, rfl, g8, g9⟩ := k37_openM s5
  exact ⟨v3, v4, v8, v9, rfl, g3, g4, g8, g9⟩
theorem k55_mk (w : World) (x : S55) {A3 : Option Addr} {c3 : Nat} (l3 : x.f0.f3.length ≤ c3) (g3 : k37.C w A3 x.f0.f3.length x.f0.f3) {A4 : Option Addr} {c4 : Nat} (l4 : x.f0.f4.length ≤ c4) (g4 : k55.C w A4 x.f0.f4.length x.f0.f4) {A8 : Option Addr} {c8 : Nat} (l8 : x.f1.f3.length ≤ c8) (g8 : k37.C w A8 x.f1.f3.length x.f1.f3) {A9 : Option Addr} {c9 : Nat} (l9 : x.f1.f4.length ≤ c9) (g9 : k55.C w A9 x.f1.f4.length x.f1.f4) : k55.K w x [.int .i64 x.f0.f0, .int .i64 x.f0.f1, .string x.f0.f2, .slice A3 x.f0.f3.length c3, .slice A4 x.f0.f4.length c4, .int .i64 x.f1.f0, .int .i64 x.f1.f1, .string x.f1.f2, .slice A8 x.f1.f3.length c8, .slice A9 x.f1.f4.length c9] := ⟨[.int .i64 x.f0.f0, .int .i64 x.f0.f1, .string x.f0.f2, .slice A3 x.f0.f3.length c3, .slice A4 x.f0.f4.length c4], [.int .i64 x.f1.f0, .int .i64 x.f1.f1, .string x.f1.f2, .slice A8 x.f1.f3.length c8, .slice A9 x.f1.f4.length c9], rfl, (k37_mk w x.f0 l3 g3 l4 g4), (k37_mk w x.f1 l8 g8 l9 g9)⟩
theorem k55_mkM (w : World) (base : Nat) (ok : Nat → Prop) (x : S55) {v3 : Value} (g3 : k37.R 37 w base ok v3 x.f0.f3) {v4 : Value} (g4 : k55.R 55 w base ok v4 x.f0.f4) {v8 : Value} (g8 : k37.R 37 w base ok v8 x.f1.f3) {v9 : Value} (g9 : k55.R 55 w base ok v9 x.f1.f4) : k55.M w base ok x [.int .i64 x.f0.f0, .int .i64 x.f0.f1, .string x.f0.f2, v3, v4, .int .i64 x.f1.f0, .int .i64 x.f1.f1, .string x.f1.f2, v8, v9] := ⟨[.int .i64 x.f0.f0, .int .i64 x.f0.f1, .string x.f0.f2, v3, v4], [.int .i64 x.f1.f0, .int .i64 x.f1.f1, .string x.f1.f2, v8, v9], rfl, (k37_mkM w base ok x.f0 g3 g4), (k37_mkM w base ok x.f1 g8 g9)⟩
def rd_T55 (xs : List S55) (i : Int) : S55 := xs.getD i.toNat z55
theorem at_T55 {w : World} {A : Option Addr} {n : Nat} {xs : List S55} (h : Kd.C k55 w A n xs) (i : Int) (h0 : 0 ≤ i) (h1 : i < n) : ∃ ad A3 c3 A4 c4 A8 c8 A9 c9, A = some ad ∧ w.cell? (ad.add (i.toNat * 10)) = some (.int .i64 (rd_T55 xs i).f0.f0) ∧ w.cell? ⟨(ad.add (i.toNat * 10)).block, (ad.add (i.toNat * 10)).off + 1, none⟩ = some (.int .i64 (rd_T55 xs i).f0.f1) ∧ w.cell? ⟨(ad.add (i.toNat * 10)).block, (ad.add (i.toNat * 10)).off + 2, none⟩ = some (.string (rd_T55 xs i).f0.f2) ∧ w.cell? ⟨(ad.add (i.toNat * 10)).block, (ad.add (i.toNat * 10)).off + 3, none⟩ = some (.slice A3 (rd_T55 xs i).f0.f3.length c3) ∧ w.cell? ⟨(ad.add (i.toNat * 10)).block, (ad.add (i.toNat * 10)).off + 4, none⟩ = some (.slice A4 (rd_T55 xs i).f0.f4.length c4) ∧ w.cell? ⟨(ad.add (i.toNat * 10)).block, (ad.add (i.toNat * 10)).off + 5, none⟩ = some (.int .i64 (rd_T55 xs i).f1.f0) ∧ w.cell? ⟨(ad.add (i.toNat * 10)).block, (ad.add (i.toNat * 10)).off + 6, none⟩ = some (.int .i64 (rd_T55 xs i).f1.f1) ∧ w.cell? ⟨(ad.add (i.toNat * 10)).block, (ad.add (i.toNat * 10)).off + 7, none⟩ = some (.string (rd_T55 xs i).f1.f2) ∧ w.cell? ⟨(ad.add (i.toNat * 10)).block, (ad.add (i.toNat * 10)).off + 8, none⟩ = some (.slice A8 (rd_T55 xs i).f1.f3.length c8) ∧ w.cell? ⟨(ad.add (i.toNat * 10)).block, (ad.add (i.toNat * 10)).off + 9, none⟩ = some (.slice A9 (rd_T55 xs i).f1.f4.length c9) ∧ (rd_T55 xs i).f0.f3.length ≤ c3 ∧ k37.C w A3 (rd_T55 xs i).f0.f3.length (rd_T55 xs i).f0.f3 ∧ (rd_T55 xs i).f0.f4.length ≤ c4 ∧ k55.C w A4 (rd_T55 xs i).f0.f4.length (rd_T55 xs i).f0.f4 ∧ (rd_T55 xs i).f1.f3.length ≤ c8 ∧ k37.C w A8 (rd_T55 xs i).f1.f3.length (rd_T55 xs i).f1.f3 ∧ (rd_T55 xs i).f1.f4.length ≤ c9 ∧ k55.C w A9 (rd_T55 xs i).f1.f4.length (rd_T55 xs i).f1.f4 := by
  obtain ⟨ad, c, e, _, hK, hc0⟩ := Kd.C_get h z55 i h0 h1
  have hc : ∀ j u, c[j]? = some u → w.cell? (ad.add (i.toNat * 10 + j)) = some u := hc0
  obtain ⟨A3, c3, A4, c4, A8, c8, A9, c9, rfl, l3, g3, l4, g4, l8, g8, l9, g9⟩ := k55_open hK
  exact ⟨ad, A3, c3, A4, c4, A8, c8, A9, c9, e, hc 0 _ rfl, by rw [← add_field _ _ 1 (by omega)]; exact hc 1 _ rfl, by rw [← add_field _ _ 2 (by omega)]; exact hc 2 _ rfl, by rw [← add_field _ _ 3 (by omega)]; exact hc 3 _ rfl, by rw [← add_field _ _ 4 (by omega)]; exact hc 4 _ rfl, by rw [← add_field _ _ 5 (by omega)]; exact hc 5 _ rfl, by rw [← add_field _ _ 6 (by omega)]; exact hc 6 _ rfl, by rw [← add_field _ _ 7 (by omega)]; exact hc 7 _ rfl, by rw [← add_field _ _ 8 (by omega)]; exact hc 8 _ rfl, by rw [← add_field _ _ 9 (by omega)]; exact hc 9 _ rfl, l3, g3, l4, g4, l8, g8, l9, g9⟩

def rd_L7 (xs : List (List S55)) (i : Int) : (List S55) := xs.getD i.toNat ([] : List S55)
theorem at_L7 {w : World} {A : Option Addr} {n : Nat} {xs : List (List S55)} (h : Kd.C (Kd.slice 55 k55) w A n xs) (i : Int) (h0 : 0 ≤ i) (h1 : i < n) : ∃ ad A0 c0, A = some ad ∧ w.cell? (ad.add i.toNat) = some (.slice A0 (rd_L7 xs i).length c0) ∧ (rd_L7 xs i).length ≤ c0 ∧ k55.C w A0 (rd_L7 xs i).length (rd_L7 xs i) := by
  obtain ⟨ad, c, e, _, hK, hc0⟩ := Kd.C_get h ([] : List S55) i h0 h1
  have hc : ∀ j u, c[j]? = some u → w.cell? (ad.add (i.toNat * 1 + j)) = some u := hc0
  obtain ⟨A0, c0, rfl, l0, g0⟩ := hK
  exact ⟨ad, A0, c0, e, by have hq := hc 0 _ rfl; rwa [Nat.mul_one, Nat.add_zero] at hq, l0, g0⟩

def rd_L8 (xs : List (List S37)) (i : Int) : (List S37) := xs.getD i.toNat ([] : List S37)
theorem at_L8 {w : World} {A : Option Addr} {n : Nat} {xs : List (List S37)} (h : Kd.C (Kd.slice 37 k37) w A n xs) (i : Int) (h0 : 0 ≤ i) (h1 : i < n) : ∃ ad A0 c0, A = some ad ∧ w.cell? (ad.add i.toNat) = some (.slice A0 (rd_L8 xs i).length c0) ∧ (rd_L8 xs i).length ≤ c0 ∧ k37.C w A0 (rd_L8 xs i).length (rd_L8 xs i) := by
  obtain ⟨ad, c, e, _, hK, hc0⟩ := Kd.C_get h ([] : List S37) i h0 h1
  have hc : ∀ j u, c[j]? = some u → w.cell? (ad.add (i.toNat * 1 + j)) = some u := hc0
  obtain ⟨A0, c0, rfl, l0, g0⟩ := hK
  exact ⟨ad, A0, c0, e, by have hq := hc 0 _ rfl; rwa [Nat.mul_one, Nat.add_zero] at hq, l0, g0⟩

mutual
def wf41 : S41 → Prop
  | ⟨x0, x1, x2, x3, x4⟩ => ((Lit.int .i64 x0).wf = true) ∧ ((Lit.int .i64 x1).wf = true) ∧ (x2.size ≤ maxLen) ∧ (x3.length ≤ maxLen ∧ wfl41 x3) ∧ (x4.length ≤ maxLen ∧ wfl144 x4)
def wfl41 : List S41 → Prop
  | [] => True
  | x :: r => wf41 x ∧ wfl41 r
def wf144 : P144 S41 → Prop
  | ⟨x0, x1⟩ => wf41 x0 ∧ wf41 x1
def wfl144 : List (P144 S41) → Prop
  | [] => True
  | x :: r => wf144 x ∧ wfl144 r
end
theorem wfl41_iff : ∀ l : List S41, wfl41 l ↔ ∀ x ∈ l, wf41 x
  | [] => by simp [wfl41]
  | x :: r => by simp [wfl41, wfl41_iff r]
theorem wfl144_iff : ∀ l : List S144, wfl144 l ↔ ∀ x ∈ l, wf144 x
  | [] => by simp [wfl144]
  | x :: r => by simp [wfl144, wfl144_iff r]
theorem eta41 (x : S41) : (⟨x.f0, x.f1, x.f2, x.f3, x.f4⟩ : S41) = x := by cases x; rfl
theorem eta144 (x : S144) : (⟨x.f0, x.f1⟩ : S144) = x := by cases x; rfl
theorem isEmpty_ne (l : List UInt8) : (!l.isEmpty) = (l != []) := by cases l <;> rfl
theorem isEmpty_be (l : List UInt8) : l.isEmpty = (l == []) := by cases l <;> rfl

/-! ### marks: what a call leaves that writes whole numbers and strings over others in rows that it is handed -/
def SoftV (a b : Value) : Prop := a = b ∨ (∃ k x y, a = .int k x ∧ b = .int k y) ∨ (∃ x y, a = .string x ∧ b = .string y)
theorem SoftV.refl (a : Value) : SoftV a a := .inl rfl
theorem SoftV.int (k : IntKind) (x y : Int) : SoftV (.int k x) (.int k y) := .inr (.inl ⟨k, x, y, rfl, rfl⟩)
theorem SoftV.string (x y : ByteArray) : SoftV (.string x) (.string y) := .inr (.inr ⟨x, y, rfl, rfl⟩)
theorem SoftV.trans {a b c : Value} (h : SoftV a b) (k : SoftV b c) : SoftV a c := by
  rcases h with rfl | ⟨t, x, y, rfl, rfl⟩ | ⟨x, y, rfl, rfl⟩
  · exact k
  · rcases k with rfl | ⟨t', x', y', e, rfl⟩ | ⟨x', y', e, _⟩
    · exact SoftV.int _ _ _
    · injection e with e1 e2
      subst e1
      exact SoftV.int _ _ _
    · cases e
  · rcases k with rfl | ⟨t', x', y', e, _⟩ | ⟨x', y', e, rfl⟩
    · exact SoftV.string _ _
    · cases e
    · exact SoftV.string _ _
theorem SoftV.of_int {k : IntKind} {x : Int} {b : Value} (h : SoftV (.int k x) b) : ∃ y, b = .int k y := by
  rcases h with rfl | ⟨t, x', y, e, rfl⟩ | ⟨x', y, e, _⟩
  · exact ⟨_, rfl⟩
  · injection e with e1 e2
    subst e1
    exact ⟨_, rfl⟩
  · cases e
theorem SoftV.of_string {x : ByteArray} {b : Value} (h : SoftV (.string x) b) : ∃ y, b = .string y := by
  rcases h with rfl | ⟨t, x', y, e, _⟩ | ⟨x', y, e, rfl⟩
  · exact ⟨_, rfl⟩
  · cases e
  · exact ⟨_, rfl⟩
theorem SoftV.of_slice {A : Option Addr} {n c : Nat} {b : Value} (h : SoftV (.slice A n c) b) : b = .slice A n c := by
  rcases h with rfl | ⟨t, x', y, e, _⟩ | ⟨x', y, e, _⟩
  · rfl
  · cases e
  · cases e
/-- A block of a row of one of these types, made from b on. -/
def InRows (b : Nat) (E : List Nat) (w : World) (k : Nat) : Prop := b ≤ k ∧ ∃ q, q ∈ E ∧ ∃ cells, w.heap[k]? = some (.cells cells q (0, 0))
structure Soft (b : Nat) (E : List Nat) (w W : World) : Prop where
  below : Below b w W
  same : ∀ i, i < w.heap.size → ¬ InRows b E w i → W.heap[i]? = w.heap[i]?
  soft : ∀ i, InRows b E w i → ∀ cells q, w.heap[i]? = some (.cells cells q (0, 0)) → ∃ cells' : Array Value, W.heap[i]? = some (.cells cells' q (0, 0)) ∧ cells'.size = cells.size ∧ ∀ (j : Nat) (v : Value), cells[j]? = some v → ∃ v', cells'[j]? = some v' ∧ SoftV v v'
section
variable {b : Nat} {E : List Nat} {w W W2 : World}
theorem Soft.refl (b : Nat) (E : List Nat) (w : World) : Soft b E w w := ⟨Below.refl _ _, fun _ _ _ => rfl, fun i _ cells q h => ⟨cells, h, rfl, fun j v hv => ⟨v, hv, SoftV.refl v⟩⟩⟩
theorem Soft.kept (h : Soft b E w W) : Kept w W (InRows b E w) := ⟨h.below.size, h.same⟩
theorem Soft.step (h : Soft b E w W) (hb : b ≤ w.heap.size) (k : Below W.heap.size W W2) : Soft b E w W2 := by
  refine ⟨h.below.trans (k.mono (Nat.le_trans hb h.below.size)), fun i hi hn => ?_, fun i hi cells q hc => ?_⟩
  · rw [k.block i (Nat.lt_of_lt_of_le hi h.below.size)]
    exact h.same i hi hn
  · obtain ⟨cells', h1, h2⟩ := h.soft i hi cells q hc
    refine ⟨cells', ?_, h2⟩
    rw [k.block i (blk_lt h1)]
    exact h1
theorem Soft.lt (_ : Soft b E w W) {g : Nat} (hg : InRows b E w g) : g < w.heap.size := by
  obtain ⟨_, q, _, cells, hc⟩ := hg
  exact blk_lt hc
theorem Soft.set (h : Soft b E w W) {g j : Nat} (hg : InRows b E w g) {old new : Value} (ho : W.cell? ⟨g, j, none⟩ = some old) (hv : SoftV old new) : Soft b E w (W.setCell ⟨g, j, none⟩ new) := by
  refine ⟨h.below.setCell hg.1 _, fun i hi hn => ?_, fun i hi cells q hc => ?_⟩
  · rw [Below.heap_setCell _ _ _ _ (by rintro rfl; exact hn hg)]
    exact h.same i hi hn
  · by_cases hig : i = g
    · subst hig
      obtain ⟨cells', h1, h2, h3⟩ := h.soft i hi cells q hc
      refine ⟨cells'.setIfInBounds j new, ?_, by simpa using h2, fun l v hl => ?_⟩
      · simp only [World.setCell]
        first
          | (rw [Array.getElem?_modify, if_pos rfl, h1]; rfl)
          | (simp; rw [Array.getElem?_modify, if_pos rfl, h1]; rfl)
      · obtain ⟨v', h4, h5⟩ := h3 l v hl
        by_cases hjl : j = l
        · subst hjl
          have ho' : old = v' := by
            have : W.cell? ⟨i, j, none⟩ = cells'[j]? := by simp [World.cell?, h1]
            rw [this, h4] at ho
            exact (Option.some.inj ho).symm
          subst ho'
          have hlt : j < cells'.size := (Array.getElem?_eq_some_iff.1 h4).1
          exact ⟨new, by simp [Array.getElem?_setIfInBounds, hlt], h5.trans hv⟩
        · exact ⟨v', by rw [Array.getElem?_setIfInBounds, if_neg hjl]; exact h4, h5⟩
    · obtain ⟨cells', h1, h2⟩ := h.soft i hi cells q hc
      refine ⟨cells', ?_, h2⟩
      rw [Below.heap_setCell _ _ _ _ hig]
      exact h1
theorem Soft.cell (h : Soft b E w W) {g j : Nat} (hg : InRows b E w g) {v : Value} (hv : w.cell? ⟨g, j, none⟩ = some v) : ∃ v', W.cell? ⟨g, j, none⟩ = some v' ∧ SoftV v v' := by
  obtain ⟨hb, q, hq, cells, hc⟩ := hg
  obtain ⟨cells', h1, _, h3⟩ := h.soft g ⟨hb, q, hq, cells, hc⟩ cells q hc
  have hv2 : cells[j]? = some v := by simpa [World.cell?, hc] using hv
  obtain ⟨v', h4, h5⟩ := h3 j v hv2
  exact ⟨v', by simpa [World.cell?, h1] using h4, h5⟩
theorem Soft.frozen (h : Soft b E w W) {g : Nat} (hg : InRows b E w g) (j : Nat) : W.frozen? ⟨g, j, none⟩ = false := by
  obtain ⟨hb, q, hq, cells, hc⟩ := hg
  obtain ⟨cells', h1, _⟩ := h.soft g ⟨hb, q, hq, cells, hc⟩ cells q hc
  simp [World.frozen?, h1]
/-- An element of a row of the call's own. -/
theorem R_elem {α : Type} {d : Kd α} {e base : Nat} {ok : Nat → Prop} {v : Value} {xs : List α} (h : d.R e w base ok v xs) (i : Nat) (p : α) (hp : xs[i]? = some p) :
    ∃ g cap cs, v = .slice (some ⟨g, 0, none⟩) xs.length cap ∧ (base ≤ g ∧ ∃ cells, w.heap[g]? = some (.cells cells e (0, 0))) ∧ cs.length = d.sz ∧ d.M w base (fun k => ok k ∧ some k ≠ v.ownBlock) p cs ∧ ∀ (j : Nat) (u : Value), cs[j]? = some u → w.cell? ⟨g, i * d.sz + j, none⟩ = some u := by
  have hlt : i < xs.length := (List.getElem?_eq_some_iff.1 hp).1
  obtain ⟨g, cap, hv, hb, hg, cells, hc⟩ := Kd.R_form h (by omega)
  obtain ⟨h0, inner, ho, hr⟩ := h
  have hM := hr.2 i p hp
  refine ⟨g, cap, (inner.drop (i * d.sz)).take d.sz, hv, ⟨hb, cells, hc⟩, d.K_len (d.K_of_M hM), hM, fun j u hu => ?_⟩
  have hcell := ho.cells (g := g) (by rw [hv]; rfl) (i * d.sz + j) u (by
    have hj : j < d.sz := by
      have := (List.getElem?_eq_some_iff.1 hu).1
      rw [d.K_len (d.K_of_M hM)] at this
      exact this
    rw [List.getElem?_take_of_lt hj, List.getElem?_drop] at hu
    exact hu)
  have ea : ∀ m : Nat, (⟨g, 0, none⟩ : Addr).add m = ⟨g, m, none⟩ := by
    intro m
    unfold Addr.add
    split <;> simp_all
  rw [ea] at hcell
  exact hcell
end
/-- A row of other types stays. -/
theorem R_soft {α : Type} {d : Kd α} {e base base' : Nat} {E : List Nat} {ok : Nat → Prop} {w W : World} {v : Value} {xs : List α} (h : d.R e w base ok v xs) (hk : Kept w W (InRows base' E w)) (ht : ∀ q, q ∈ e :: d.E → q ∉ E) : d.R e W base ok v xs := by
  refine Kd.R_mono (Kd.R_kept (Kd.R_bound h) hk (fun k hk hs => ?_)) (fun _ hk => hk.1)
  obtain ⟨_, _, _, q, hq, cells, hc⟩ := hk
  obtain ⟨_, q', hq', cells', hc'⟩ := hs
  rw [hc] at hc'
  injection hc' with hc'
  injection hc' with _ hc'
  subst hc'
  exact ht q hq hq'
theorem blk_soft {base' : Nat} {E : List Nat} {w W : World} {g t : Nat} {cs : Array Value} {fr : Nat × Nat} (hb : w.heap[g]? = some (.cells cs t fr)) (hk : Kept w W (InRows base' E w)) (ht : t ∉ E) : W.heap[g]? = some (.cells cs t fr) := blk_kept hb hk (fun h => by
  obtain ⟨_, q, hq, cells, hc⟩ := h
  rw [hb] at hc
  injection hc with hc
  injection hc with _ hc
  subst hc
  exact ht hq)



end Go.Proofs.Ytjcdpfbbnmflcaa.QFnExactVarsOf
