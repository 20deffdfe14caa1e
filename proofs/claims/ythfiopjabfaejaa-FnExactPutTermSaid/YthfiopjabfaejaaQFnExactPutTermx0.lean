-- Written by a program of this workplace (print2.py) for this claim, over the print's words.
import Derived.Test.YthfiopjabfaejaaProg
import Derived.Below
import Derived.Deep.Draws
import Derived.Deep.AppendLies
import Derived.Maps.AppendAt
import Derived.OwnWalk
import Derived.Laws.BytesArg
import Derived.Laws.MakeOwn
import Derived.Laws.OwnMore
import Derived.Deep.OwnRows
import Derived.Tactics
import Derived.Lib.ConvBytes
import Derived.Laws.Slices
import Derived.WalkKit
import Derived.KernelRfl
import Derived.RowKit3
import Derived.Deep.LoopGhost
import Derived.Deep.QuietTactic
import Derived.BigQuiet
import Derived.WideLaws
import Derived.Deep.DeepCutAuto
import Derived.Deep.CutBlock
import Derived.Deep.RegionHeld3
import Derived.Laws.Rows
import Derived.Lib.AppendStr
import Derived.ArgAppend
import Derived.Laws.IdiomCopy
import Derived.OrdersHeld
import Derived.Laws.BitsLemmas
import Derived.RowKit
import Derived.Lib.SliceRun
import Derived.Test.YthfiopjabfaejaaWWords
import Derived.Test.YthfiopjabfaejaaWLast
import Derived.Test.YthfiopjabfaejaaWTab
import Derived.Test.YthfiopjabfaejaaWFour
import Derived.Test.YthfiopjabfaejaaWQPut
import Derived.Test.YthfiopjabfaejaaWApart
import Derived.Test.YthfiopjabfaejaaWArr
import Derived.Test.YthfiopjabfaejaaWZeros
import Derived.Test.YthfiopjabfaejaaWFoot
import Derived.Test.YthfiopjabfaejaaWKept
import Derived.Test.YthfiopjabfaejaaWShare
import Derived.Test.YthfiopjabfaejaaWN
import Derived.Test.YthfiopjabfaejaaWFootNe
import Derived.Test.YthfiopjabfaejaaWAt
import Derived.Test.YthfiopjabfaejaaWEqStruct
import Derived.Test.YthfiopjabfaejaaWRepsOne
import Derived.Test.YthfiopjabfaejaaWInv
import Derived.Test.YthfiopjabfaejaaWInvWords
import Derived.Test.YthfiopjabfaejaaWGuard
import Derived.Test.YthfiopjabfaejaaWNEv
import Derived.Test.YthfiopjabfaejaaWMore
namespace Go.Proofs.Ythfiopjabfaejaa.QFnExactPutTerm
open Go.RowKit Go.Proofs.YthfiopjabfaejaaW.PrintWords Go.Proofs.YthfiopjabfaejaaW.PrintLast Go.Proofs.YthfiopjabfaejaaW.PrintMore
attribute [local go_sem] max2_int min2_int max_two min_two max_three min_three max_four min_four   -- for this text's walks alone
set_option linter.unusedVariables false
set_option linter.unusedSimpArgs false



def errW : Option Int → Value
  | none => .nilIface
  | some c => .iface 0 (.int .i64 c)
theorem errW_none : errW none = .nilIface := rfl
theorem errW_some (c : Int) : errW (some c) = .iface 0 (.int .i64 c) := rfl

theorem info5 : (Try.prog.info? 5).map (fun i => (i.zero, i.size, i.bytes)) = some (some (.int .u8 0), 1, 1) := by kernel_rfl
theorem info46 : (Try.prog.info? 46).map (fun i => (i.zero, i.size, i.bytes)) = some (some (.agg #[(.int .i64 0), (.int .i64 0), (.string ⟨#[]⟩), (.slice none 0 0)]), 4, 56) := by kernel_rfl
-- the values' own types
/-! #### struct type 41, nested in itself -/
structure S41 where
  f0 : Int
  f1 : Int
  f2 : ByteArray
  f3 : (List S41)
def z41 : S41 := ⟨(0 : Int), (0 : Int), (⟨#[]⟩ : ByteArray), ([] : List S41)⟩
def F41 (d : Kd S41) : Kd S41 := Kd.iso (Kd.pair (Kd.int .i64) (Kd.pair (Kd.int .i64) (Kd.pair Kd.string (Kd.slice 41 d)))) (fun x : S41 => (x.f0, x.f1, x.f2, x.f3))
theorem mono41 : Kd.Mono F41 := Kd.mono_iso _ (Kd.mono_pair (Kd.mono_const _) (Kd.mono_pair (Kd.mono_const _) (Kd.mono_pair (Kd.mono_const _) (Kd.mono_slice 41 Kd.mono_id))))
theorem sub41 : Kd.Sub F41 [41] := Kd.sub_iso _ (Kd.sub_pair (Kd.sub_const _ (by decide)) (Kd.sub_pair (Kd.sub_const _ (by decide)) (Kd.sub_pair (Kd.sub_const _ (by decide)) (Kd.sub_slice 41 (by decide) Kd.sub_id))))
theorem sz41 : ∀ n, (Kd.upto F41 4 [41] n).sz = 4 := Kd.upto_sz (fun _ => rfl)
def k41 : Kd S41 := Kd.fix F41 4 [41] sz41 (Kd.upto_E sub41)
theorem k41_heap : Kd.Heap k41 := Kd.heap_fix (fun _ h_ => Kd.heap_iso _ (Kd.heap_pair (Kd.heap_int .i64) (Kd.heap_pair (Kd.heap_int .i64) (Kd.heap_pair Kd.heap_string (Kd.heap_slice 41 h_)))))
theorem k41_open {w : World} {x : S41} {cs : List Value} (h : k41.K w x cs) : ∃ A3 c3, cs = [.int .i64 x.f0, .int .i64 x.f1, .string x.f2, .slice A3 x.f3.length c3] ∧ x.f3.length ≤ c3 ∧ k41.C w A3 x.f3.length x.f3 := by
  obtain ⟨n, h⟩ := h
  cases n with
  | zero => exact h.elim
  | succ n =>
    obtain ⟨_, _, rfl, rfl, ⟨_, _, rfl, rfl, ⟨_, _, rfl, rfl, ⟨A3, c3, rfl, l3, g3⟩⟩⟩⟩ := h
    exact ⟨A3, c3, rfl, l3, Kd.fix_C g3⟩
theorem k41_openM {w : World} {base : Nat} {ok : Nat → Prop} {x : S41} {cs : List Value} (h : k41.M w base ok x cs) : ∃ v3, cs = [.int .i64 x.f0, .int .i64 x.f1, .string x.f2, v3] ∧ k41.R 41 w base ok v3 x.f3 := by
  obtain ⟨n, h⟩ := h
  cases n with
  | zero => exact h.elim
  | succ n =>
    obtain ⟨_, _, rfl, rfl, ⟨_, _, rfl, rfl, ⟨_, _, rfl, rfl, ⟨v3, rfl, g3⟩⟩⟩⟩ := h
    exact ⟨v3, rfl, Kd.fix_R g3⟩
theorem k41_mk (w : World) (x : S41) {A3 : Option Addr} {c3 : Nat} (l3 : x.f3.length ≤ c3) (g3 : k41.C w A3 x.f3.length x.f3) : k41.K w x [.int .i64 x.f0, .int .i64 x.f1, .string x.f2, .slice A3 x.f3.length c3] := by
  obtain ⟨n3, q3⟩ := Kd.fix_C_back mono41 g3
  have r3 := Kd.upto_C_le mono41 sz41 (show n3 ≤ n3 by omega) q3
  exact ⟨n3 + 1, ⟨[.int .i64 x.f0], [.int .i64 x.f1, .string x.f2, .slice A3 x.f3.length c3], rfl, rfl, ⟨[.int .i64 x.f1], [.string x.f2, .slice A3 x.f3.length c3], rfl, rfl, ⟨[.string x.f2], [.slice A3 x.f3.length c3], rfl, rfl, ⟨A3, c3, rfl, l3, r3⟩⟩⟩⟩⟩
theorem k41_mkM (w : World) (base : Nat) (ok : Nat → Prop) (x : S41) {v3 : Value} (g3 : k41.R 41 w base ok v3 x.f3) : k41.M w base ok x [.int .i64 x.f0, .int .i64 x.f1, .string x.f2, v3] := by
  obtain ⟨n3, q3⟩ := Kd.fix_R_back mono41 g3
  have r3 := Kd.upto_R_le mono41 sz41 (show n3 ≤ n3 by omega) q3
  exact ⟨n3 + 1, ⟨[.int .i64 x.f0], [.int .i64 x.f1, .string x.f2, v3], rfl, rfl, ⟨[.int .i64 x.f1], [.string x.f2, v3], rfl, rfl, ⟨[.string x.f2], [v3], rfl, rfl, ⟨v3, rfl, r3⟩⟩⟩⟩⟩
theorem k41_openF {W : World} {ok : Nat → Prop} {x : S41} {cs : List Value} (h : Kd.FK k41 W ok x cs) : ∃ A3 c3, cs = [.int .i64 x.f0, .int .i64 x.f1, .string x.f2, .slice A3 x.f3.length c3] ∧ x.f3.length ≤ c3 ∧ Kd.F k41 W ok A3 x.f3.length x.f3 := by
  obtain ⟨A3, c3, rfl, l3, _⟩ := k41_open (Kd.FK_now h)
  exact ⟨A3, c3, rfl, l3, (fun W' hW => by obtain ⟨A3_, c3_, he, l3_, g3_⟩ := k41_open (h W' hW); injection (Option.some.inj (show some (Value.slice A3 x.f3.length c3) = some (Value.slice A3_ x.f3.length c3_) from congrArg (fun l => l[3]?) he)) with ha_ _ _; rw [ha_]; exact g3_)⟩
theorem k41_mkF (W : World) (ok : Nat → Prop) (x : S41) {A3 : Option Addr} {c3 : Nat} (l3 : x.f3.length ≤ c3) (g3 : Kd.F k41 W ok A3 x.f3.length x.f3) : Kd.FK k41 W ok x [.int .i64 x.f0, .int .i64 x.f1, .string x.f2, .slice A3 x.f3.length c3] := fun W2 hW => k41_mk W2 x l3 (g3 W2 hW)
def rd_T41 (xs : List S41) (i : Int) : S41 := xs.getD i.toNat z41
theorem at_T41 {w : World} {A : Option Addr} {n : Nat} {xs : List S41} (h : Kd.C k41 w A n xs) (i : Int) (h0 : 0 ≤ i) (h1 : i < n) : ∃ ad A3 c3, A = some ad ∧ w.cell? (ad.add (i.toNat * 4)) = some (.int .i64 (rd_T41 xs i).f0) ∧ w.cell? ⟨(ad.add (i.toNat * 4)).block, (ad.add (i.toNat * 4)).off + 1, none⟩ = some (.int .i64 (rd_T41 xs i).f1) ∧ w.cell? ⟨(ad.add (i.toNat * 4)).block, (ad.add (i.toNat * 4)).off + 2, none⟩ = some (.string (rd_T41 xs i).f2) ∧ w.cell? ⟨(ad.add (i.toNat * 4)).block, (ad.add (i.toNat * 4)).off + 3, none⟩ = some (.slice A3 (rd_T41 xs i).f3.length c3) ∧ (rd_T41 xs i).f3.length ≤ c3 ∧ k41.C w A3 (rd_T41 xs i).f3.length (rd_T41 xs i).f3 := by
  obtain ⟨ad, c, e, _, hK, hc0⟩ := Kd.C_get h z41 i h0 h1
  have hc : ∀ j u, c[j]? = some u → w.cell? (ad.add (i.toNat * 4 + j)) = some u := hc0
  obtain ⟨A3, c3, rfl, l3, g3⟩ := k41_open hK
  exact ⟨ad, A3, c3, e, hc 0 _ rfl, by rw [← add_field _ _ 1 (by omega)]; exact hc 1 _ rfl, by rw [← add_field _ _ 2 (by omega)]; exact hc 2 _ rfl, by rw [← add_field _ _ 3 (by omega)]; exact hc 3 _ rfl, l3, g3⟩

/-! #### struct type 46, nested in itself -/
structure S46 where
  f0 : Int
  f1 : Int
  f2 : ByteArray
  f3 : (List S46)
def z46 : S46 := ⟨(0 : Int), (0 : Int), (⟨#[]⟩ : ByteArray), ([] : List S46)⟩
def F46 (d : Kd S46) : Kd S46 := Kd.iso (Kd.pair (Kd.int .i64) (Kd.pair (Kd.int .i64) (Kd.pair Kd.string (Kd.slice 46 d)))) (fun x : S46 => (x.f0, x.f1, x.f2, x.f3))
theorem mono46 : Kd.Mono F46 := Kd.mono_iso _ (Kd.mono_pair (Kd.mono_const _) (Kd.mono_pair (Kd.mono_const _) (Kd.mono_pair (Kd.mono_const _) (Kd.mono_slice 46 Kd.mono_id))))
theorem sub46 : Kd.Sub F46 [46] := Kd.sub_iso _ (Kd.sub_pair (Kd.sub_const _ (by decide)) (Kd.sub_pair (Kd.sub_const _ (by decide)) (Kd.sub_pair (Kd.sub_const _ (by decide)) (Kd.sub_slice 46 (by decide) Kd.sub_id))))
theorem sz46 : ∀ n, (Kd.upto F46 4 [46] n).sz = 4 := Kd.upto_sz (fun _ => rfl)
def k46 : Kd S46 := Kd.fix F46 4 [46] sz46 (Kd.upto_E sub46)
theorem k46_heap : Kd.Heap k46 := Kd.heap_fix (fun _ h_ => Kd.heap_iso _ (Kd.heap_pair (Kd.heap_int .i64) (Kd.heap_pair (Kd.heap_int .i64) (Kd.heap_pair Kd.heap_string (Kd.heap_slice 46 h_)))))
theorem k46_open {w : World} {x : S46} {cs : List Value} (h : k46.K w x cs) : ∃ A3 c3, cs = [.int .i64 x.f0, .int .i64 x.f1, .string x.f2, .slice A3 x.f3.length c3] ∧ x.f3.length ≤ c3 ∧ k46.C w A3 x.f3.length x.f3 := by
  obtain ⟨n, h⟩ := h
  cases n with
  | zero => exact h.elim
  | succ n =>
    obtain ⟨_, _, rfl, rfl, ⟨_, _, rfl, rfl, ⟨_, _, rfl, rfl, ⟨A3, c3, rfl, l3, g3⟩⟩⟩⟩ := h
    exact ⟨A3, c3, rfl, l3, Kd.fix_C g3⟩
theorem k46_openM {w : World} {base : Nat} {ok : Nat → Prop} {x : S46} {cs : List Value} (h : k46.M w base ok x cs) : ∃ v3, cs = [.int .i64 x.f0, .int .i64 x.f1, .string x.f2, v3] ∧ k46.R 46 w base ok v3 x.f3 := by
  obtain ⟨n, h⟩ := h
  cases n with
  | zero => exact h.elim
  | succ n =>
    obtain ⟨_, _, rfl, rfl, ⟨_, _, rfl, rfl, ⟨_, _, rfl, rfl, ⟨v3, rfl, g3⟩⟩⟩⟩ := h
    exact ⟨v3, rfl, Kd.fix_R g3⟩
theorem k46_mk (w : World) (x : S46) {A3 : Option Addr} {c3 : Nat} (l3 : x.f3.length ≤ c3) (g3 : k46.C w A3 x.f3.length x.f3) : k46.K w x [.int .i64 x.f0, .int .i64 x.f1, .string x.f2, .slice A3 x.f3.length c3] := by
  obtain ⟨n3, q3⟩ := Kd.fix_C_back mono46 g3
  have r3 := Kd.upto_C_le mono46 sz46 (show n3 ≤ n3 by omega) q3
  exact ⟨n3 + 1, ⟨[.int .i64 x.f0], [.int .i64 x.f1, .string x.f2, .slice A3 x.f3.length c3], rfl, rfl, ⟨[.int .i64 x.f1], [.string x.f2, .slice A3 x.f3.length c3], rfl, rfl, ⟨[.string x.f2], [.slice A3 x.f3.length c3], rfl, rfl, ⟨A3, c3, rfl, l3, r3⟩⟩⟩⟩⟩
theorem k46_mkM (w : World) (base : Nat) (ok : Nat → Prop) (x : S46) {v3 : Value} (g3 : k46.R 46 w base ok v3 x.f3) : k46.M w base ok x [.int .i64 x.f0, .int .i64 x.f1, .string x.f2, v3] := by
  obtain ⟨n3, q3⟩ := Kd.fix_R_back mono46 g3
  have r3 := Kd.upto_R_le mono46 sz46 (show n3 ≤ n3 by omega) q3
  exact ⟨n3 + 1, ⟨[.int .i64 x.f0], [.int .i64 x.f1, .string x.f2, v3], rfl, rfl, ⟨[.int .i64 x.f1], [.string x.f2, v3], rfl, rfl, ⟨[.string x.f2], [v3], rfl, rfl, ⟨v3, rfl, r3⟩⟩⟩⟩⟩
theorem k46_openF {W : World} {ok : Nat → Prop} {x : S46} {cs : List Value} (h : Kd.FK k46 W ok x cs) : ∃ A3 c3, cs = [.int .i64 x.f0, .int .i64 x.f1, .string x.f2, .slice A3 x.f3.length c3] ∧ x.f3.length ≤ c3 ∧ Kd.F k46 W ok A3 x.f3.length x.f3 := by
  obtain ⟨A3, c3, rfl, l3, _⟩ := k46_open (Kd.FK_now h)
  exact ⟨A3, c3, rfl, l3, (fun W' hW => by obtain ⟨A3_, c3_, he, l3_, g3_⟩ := k46_open (h W' hW); injection (Option.some.inj (show some (Value.slice A3 x.f3.length c3) = some (Value.slice A3_ x.f3.length c3_) from congrArg (fun l => l[3]?) he)) with ha_ _ _; rw [ha_]; exact g3_)⟩
theorem k46_mkF (W : World) (ok : Nat → Prop) (x : S46) {A3 : Option Addr} {c3 : Nat} (l3 : x.f3.length ≤ c3) (g3 : Kd.F k46 W ok A3 x.f3.length x.f3) : Kd.FK k46 W ok x [.int .i64 x.f0, .int .i64 x.f1, .string x.f2, .slice A3 x.f3.length c3] := fun W2 hW => k46_mk W2 x l3 (g3 W2 hW)
def rd_T46 (xs : List S46) (i : Int) : S46 := xs.getD i.toNat z46
theorem at_T46 {w : World} {A : Option Addr} {n : Nat} {xs : List S46} (h : Kd.C k46 w A n xs) (i : Int) (h0 : 0 ≤ i) (h1 : i < n) : ∃ ad A3 c3, A = some ad ∧ w.cell? (ad.add (i.toNat * 4)) = some (.int .i64 (rd_T46 xs i).f0) ∧ w.cell? ⟨(ad.add (i.toNat * 4)).block, (ad.add (i.toNat * 4)).off + 1, none⟩ = some (.int .i64 (rd_T46 xs i).f1) ∧ w.cell? ⟨(ad.add (i.toNat * 4)).block, (ad.add (i.toNat * 4)).off + 2, none⟩ = some (.string (rd_T46 xs i).f2) ∧ w.cell? ⟨(ad.add (i.toNat * 4)).block, (ad.add (i.toNat * 4)).off + 3, none⟩ = some (.slice A3 (rd_T46 xs i).f3.length c3) ∧ (rd_T46 xs i).f3.length ≤ c3 ∧ k46.C w A3 (rd_T46 xs i).f3.length (rd_T46 xs i).f3 := by
  obtain ⟨ad, c, e, _, hK, hc0⟩ := Kd.C_get h z46 i h0 h1
  have hc : ∀ j u, c[j]? = some u → w.cell? (ad.add (i.toNat * 4 + j)) = some u := hc0
  obtain ⟨A3, c3, rfl, l3, g3⟩ := k46_open hK
  exact ⟨ad, A3, c3, e, hc 0 _ rfl, by rw [← add_field _ _ 1 (by omega)]; exact hc 1 _ rfl, by rw [← add_field _ _ 2 (by omega)]; exact hc 2 _ rfl, by rw [← add_field _ _ 3 (by omega)]; exact hc 3 _ rfl, l3, g3⟩

def rd_L5 (xs : List (List S46)) (i : Int) : (List S46) := xs.getD i.toNat ([] : List S46)
theorem at_L5 {w : World} {A : Option Addr} {n : Nat} {xs : List (List S46)} (h : Kd.C (Kd.slice 46 k46) w A n xs) (i : Int) (h0 : 0 ≤ i) (h1 : i < n) : ∃ ad A0 c0, A = some ad ∧ w.cell? (ad.add i.toNat) = some (.slice A0 (rd_L5 xs i).length c0) ∧ (rd_L5 xs i).length ≤ c0 ∧ k46.C w A0 (rd_L5 xs i).length (rd_L5 xs i) := by
  obtain ⟨ad, c, e, _, hK, hc0⟩ := Kd.C_get h ([] : List S46) i h0 h1
  have hc : ∀ j u, c[j]? = some u → w.cell? (ad.add (i.toNat * 1 + j)) = some u := hc0
  obtain ⟨A0, c0, rfl, l0, g0⟩ := hK
  exact ⟨ad, A0, c0, e, by have hq := hc 0 _ rfl; rwa [Nat.mul_one, Nat.add_zero] at hq, l0, g0⟩

mutual
def wf41 : S41 → Prop
  | ⟨x0, x1, x2, x3⟩ => ((Lit.int .i64 x0).wf = true) ∧ ((Lit.int .i64 x1).wf = true) ∧ (x2.size ≤ maxLen) ∧ (x3.length ≤ maxLen ∧ wfl41 x3)
def wfl41 : List S41 → Prop
  | [] => True
  | x :: r => wf41 x ∧ wfl41 r
end
theorem wfl41_iff : ∀ l : List S41, wfl41 l ↔ ∀ x ∈ l, wf41 x
  | [] => by simp [wfl41]
  | x :: r => by simp [wfl41, wfl41_iff r]
theorem eta41 (x : S41) : (⟨x.f0, x.f1, x.f2, x.f3⟩ : S41) = x := by cases x; rfl
theorem isEmpty_ne (l : List UInt8) : (!l.isEmpty) = (l != []) := by cases l <;> rfl
theorem isEmpty_be (l : List UInt8) : l.isEmpty = (l == []) := by cases l <;> rfl

/-! ### marks: what a call leaves that writes whole numbers and strings over others in rows that it is handed -/
def SoftV (a b : Value) : Prop := a = b ∨ (∃ k x y, a = .int k x ∧ b = .int k y) ∨ (∃ x y, a = .string x ∧ b = .string y)
theorem SoftV.refl (a : Value) : SoftV a a := .inl rfl
theorem SoftV.int (k : IntKind) (x y : Int) : SoftV (.int k x) (.int k y) := .inr (.inl ⟨k, x, y, rfl, rfl⟩)
theorem SoftV.string (x y : ByteArray) : SoftV (.string x) (.string y) := .inr (.inr ⟨x, y, rfl, rfl⟩)
theorem SoftV.trans {a b c : Value} (h : SoftV a b) (k : SoftV b c) : SoftV a c := by
  rcases h with rfl | ⟨t, x, y, rfl, rfl⟩ | ⟨x, y, rfl, rfl⟩
  · exact k
  · rcases k with rfl | ⟨t', x', y', e, rfl⟩ | ⟨x', y', e, _⟩
    · exact SoftV.int _ _ _
    · injection e with e1 e2
      subst e1
      exact SoftV.int _ _ _
    · cases e
  · rcases k with rfl | ⟨t', x', y', e, _⟩ | ⟨x', y', e, rfl⟩
    · exact SoftV.string _ _
    · cases e
    · exact SoftV.string _ _
theorem SoftV.of_int {k : IntKind} {x : Int} {b : Value} (h : SoftV (.int k x) b) : ∃ y, b = .int k y := by
  rcases h with rfl | ⟨t, x', y, e, rfl⟩ | ⟨x', y, e, _⟩
  · exact ⟨_, rfl⟩
  · injection e with e1 e2
    subst e1
    exact ⟨_, rfl⟩
  · cases e
theorem SoftV.of_string {x : ByteArray} {b : Value} (h : SoftV (.string x) b) : ∃ y, b = .string y := by
  rcases h with rfl | ⟨t, x', y, e, _⟩ | ⟨x', y, e, rfl⟩
  · exact ⟨_, rfl⟩
  · cases e
  · exact ⟨_, rfl⟩
theorem SoftV.of_slice {A : Option Addr} {n c : Nat} {b : Value} (h : SoftV (.slice A n c) b) : b = .slice A n c := by
  rcases h with rfl | ⟨t, x', y, e, _⟩ | ⟨x', y, e, _⟩
  · rfl
  · cases e
  · cases e
/-- A block of a row of one of these types, made from b on. -/
def InRows (b : Nat) (E : List Nat) (w : World) (k : Nat) : Prop := b ≤ k ∧ ∃ q, q ∈ E ∧ ∃ cells, w.heap[k]? = some (.cells cells q (0, 0))
structure Soft (b : Nat) (E : List Nat) (w W : World) : Prop where
  below : Below b w W
  same : ∀ i, i < w.heap.size → ¬ InRows b E w i → W.heap[i]? = w.heap[i]?
  soft : ∀ i, InRows b E w i → ∀ cells q, w.heap[i]? = some (.cells cells q (0, 0)) → ∃ cells' : Array Value, W.heap[i]? = some (.cells cells' q (0, 0)) ∧ cells'.size = cells.size ∧ ∀ (j : Nat) (v : Value), cells[j]? = some v → ∃ v', cells'[j]? = some v' ∧ SoftV v v'
section
variable {b : Nat} {E : List Nat} {w W W2 : World}
theorem Soft.refl (b : Nat) (E : List Nat) (w : World) : Soft b E w w := ⟨Below.refl _ _, fun _ _ _ => rfl, fun i _ cells q h => ⟨cells, h, rfl, fun j v hv => ⟨v, hv, SoftV.refl v⟩⟩⟩
theorem Soft.kept (h : Soft b E w W) : Kept w W (InRows b E w) := ⟨h.below.size, h.same⟩
theorem Soft.step (h : Soft b E w W) (hb : b ≤ w.heap.size) (k : Below W.heap.size W W2) : Soft b E w W2 := by
  refine ⟨h.below.trans (k.mono (Nat.le_trans hb h.below.size)), fun i hi hn => ?_, fun i hi cells q hc => ?_⟩
  · rw [k.block i (Nat.lt_of_lt_of_le hi h.below.size)]
    exact h.same i hi hn
  · obtain ⟨cells', h1, h2⟩ := h.soft i hi cells q hc
    refine ⟨cells', ?_, h2⟩
    rw [k.block i (blk_lt h1)]
    exact h1
theorem Soft.lt (_ : Soft b E w W) {g : Nat} (hg : InRows b E w g) : g < w.heap.size := by
  obtain ⟨_, q, _, cells, hc⟩ := hg
  exact blk_lt hc
theorem Soft.set (h : Soft b E w W) {g j : Nat} (hg : InRows b E w g) {old new : Value} (ho : W.cell? ⟨g, j, none⟩ = some old) (hv : SoftV old new) : Soft b E w (W.setCell ⟨g, j, none⟩ new) := by
  refine ⟨h.below.setCell hg.1 _, fun i hi hn => ?_, fun i hi cells q hc => ?_⟩
  · rw [Below.heap_setCell _ _ _ _ (by rintro rfl; exact hn hg)]
    exact h.same i hi hn
  · by_cases hig : i = g
    · subst hig
      obtain ⟨cells', h1, h2, h3⟩ := h.soft i hi cells q hc
      refine ⟨cells'.setIfInBounds j new, ?_, by simpa using h2, fun l v hl => ?_⟩
      · simp only [World.setCell]
        first
          | (rw [Array.getElem?_modify, if_pos rfl, h1]; rfl)
          | (simp; rw [Array.getElem?_modify, if_pos rfl, h1]; rfl)
      · obtain ⟨v', h4, h5⟩ := h3 l v hl
        by_cases hjl : j = l
        · subst hjl
          have ho' : old = v' := by
            have : W.cell? ⟨i, j, none⟩ = cells'[j]? := by simp [World.cell?, h1]
            rw [this, h4] at ho
            exact (Option.some.inj ho).symm
          subst ho'
          have hlt : j < cells'.size := (Array.getElem?_eq_some_iff.1 h4).1
          exact ⟨new, by simp [Array.getElem?_setIfInBounds, hlt], h5.trans hv⟩
        · exact ⟨v', by rw [Array.getElem?_setIfInBounds, if_neg hjl]; exact h4, h5⟩
    · obtain ⟨cells', h1, h2⟩ := h.soft i hi cells q hc
      refine ⟨cells', ?_, h2⟩
      rw [Below.heap_setCell _ _ _ _ hig]
      exact h1
theorem Soft.cell (h : Soft b E w W) {g j : Nat} (hg : InRows b E w g) {v : Value} (hv : w.cell? ⟨g, j, none⟩ = some v) : ∃ v', W.cell? ⟨g, j, none⟩ = some v' ∧ SoftV v v' := by
  obtain ⟨hb, q, hq, cells, hc⟩ := hg
  obtain ⟨cells', h1, _, h3⟩ := h.soft g ⟨hb, q, hq, cells, hc⟩ cells q hc
  have hv2 : cells[j]? = some v := by simpa [World.cell?, hc] using hv
  obtain ⟨v', h4, h5⟩ := h3 j v hv2
  exact ⟨v', by simpa [World.cell?, h1] using h4, h5⟩
theorem Soft.frozen (h : Soft b E w W) {g : Nat} (hg : InRows b E w g) (j : Nat) : W.frozen? ⟨g, j, none⟩ = false := by
  obtain ⟨hb, q, hq, cells, hc⟩ := hg
  obtain ⟨cells', h1, _⟩ := h.soft g ⟨hb, q, hq, cells, hc⟩ cells q hc
  simp [World.frozen?, h1]
/-- An element of a row of the call's own. -/
theorem R_elem {α : Type} {d : Kd α} {e base : Nat} {ok : Nat → Prop} {v : Value} {xs : List α} (h : d.R e w base ok v xs) (i : Nat) (p : α) (hp : xs[i]? = some p) :
    ∃ g cap cs, v = .slice (some ⟨g, 0, none⟩) xs.length cap ∧ (base ≤ g ∧ ∃ cells, w.heap[g]? = some (.cells cells e (0, 0))) ∧ cs.length = d.sz ∧ d.M w base (fun k => ok k ∧ some k ≠ v.ownBlock) p cs ∧ ∀ (j : Nat) (u : Value), cs[j]? = some u → w.cell? ⟨g, i * d.sz + j, none⟩ = some u := by
  have hlt : i < xs.length := (List.getElem?_eq_some_iff.1 hp).1
  obtain ⟨g, cap, hv, hb, hg, cells, hc⟩ := Kd.R_form h (by omega)
  obtain ⟨h0, inner, ho, hr⟩ := h
  have hM := hr.2 i p hp
  refine ⟨g, cap, (inner.drop (i * d.sz)).take d.sz, hv, ⟨hb, cells, hc⟩, d.K_len (d.K_of_M hM), hM, fun j u hu => ?_⟩
  have hcell := ho.cells (g := g) (by rw [hv]; rfl) (i * d.sz + j) u (by
    have hj : j < d.sz := by
      have := (List.getElem?_eq_some_iff.1 hu).1
      rw [d.K_len (d.K_of_M hM)] at this
      exact this
    rw [List.getElem?_take_of_lt hj, List.getElem?_drop] at hu
    exact hu)
  have ea : ∀ m : Nat, (⟨g, 0, none⟩ : Addr).add m = ⟨g, m, none⟩ := by
    intro m
    unfold Addr.add
    split <;> simp_all
  rw [ea] at hcell
  exact hcell
end
/-- A row of other types stays. -/
theorem R_soft {α : Type} {d : Kd α} {e base base' : Nat} {E : List Nat} {ok : Nat → Prop} {w W : World} {v : Value} {xs : List α} (h : d.R e w base ok v xs) (hk : Kept w W (InRows base' E w)) (ht : ∀ q, q ∈ e :: d.E → q ∉ E) : d.R e W base ok v xs := by
  refine Kd.R_mono (Kd.R_kept (Kd.R_bound h) hk (fun k hk hs => ?_)) (fun _ hk => hk.1)
  obtain ⟨_, _, _, q, hq, cells, hc⟩ := hk
  obtain ⟨_, q', hq', cells', hc'⟩ := hs
  rw [hc] at hc'
  injection hc' with hc'
  injection hc' with _ hc'
  subst hc'
  exact ht q hq hq'
theorem blk_soft {base' : Nat} {E : List Nat} {w W : World} {g t : Nat} {cs : Array Value} {fr : Nat × Nat} (hb : w.heap[g]? = some (.cells cs t fr)) (hk : Kept w W (InRows base' E w)) (ht : t ∉ E) : W.heap[g]? = some (.cells cs t fr) := blk_kept hb hk (fun h => by
  obtain ⟨_, q, hq, cells, hc⟩ := h
  rw [hb] at hc
  injection hc with hc
  injection hc with _ hc
  subst hc
  exact ht hq)


theorem hat_str {P : Program} (w : World) (base : Nat) (t u ty e : TypeId) (i : TypeInfo) (ht : P.underlying t = some (.slice e)) (hu : P.underlying u = some .string) (hi : P.info? e = some i) (hz : i.zero = some (.int .u8 0))
    (hsize : i.size = 1) (hby : i.bytes = 1) (v : Value) (n : Nat) (xs : List Value) (hown : w.ownsRow base e 1 v n xs) (s : ByteArray) (hbytes : n + s.size ≤ 140737488355328) (v1 : Value) (w1 : World)
    (hr : (Builtin.append_ #[t, u] ty #[v, .string s]).run P w = .ok v1 w1) : v1.ownBlock = v.ownBlock ∨ ∃ b, v1.ownBlock = some b ∧ w.heap.size ≤ b := by
  have hxl : xs.length = n := by simpa using hown.1
  rcases hown.2 with ⟨rfl, rfl⟩ | ⟨g, cap, cur, rfl, hbg, hg, hnc, hcm, hcs, htake⟩
  · by_cases hm : s.size = 0
    · have hf := Lib.run_firstCells_string (P := P) w 1 s
      rw [hm] at hf
      have hr2 : (Builtin.append_ #[t, u] ty #[.slice none 0 0, .string s]).run P w = .ok (.slice none 0 0) w := by
        simp [Builtin.append_, run_underlying ht, run_underlying hu, sizeOf, typeInfo, hi, hsize, Builtin.lenOf, hm, hf]
      rw [hr2] at hr
      injection hr with hv _
      exact .inl (by rw [← hv])
    · have hr2 := run_append_nil_string (P := P) w t u ty e i (.int .u8 0) ht hu hi hz s (by omega) (by omega) (by rw [hby]; omega)
      rw [hr2] at hr
      injection hr with hv _
      exact .inr ⟨w.heap.size, by rw [← hv]; rfl, Nat.le_refl _⟩
  · by_cases hroom : n + s.size ≤ cap
    · have hcs' : cur.size = cap := by simpa using hcs
      have hr2 := Lib.run_append_room_string (P := P) w t u ty e i ht hu hi hsize g n cap cur hg s hroom (by omega)
      rw [hr2] at hr
      injection hr with hv _
      exact .inl (by rw [← hv]; rfl)
    · have holds : ∀ j u, xs[j]? = some u → w.cell? ((⟨g, 0, none⟩ : Addr).add j) = some u := hown.cells (g := g) rfl
      have hr2 := Lib.run_append_grow_string (P := P) w t u ty e i (.int .u8 0) ht hu hi hz ⟨g, 0, none⟩ n cap xs (by rw [hsize]; simpa using hxl) holds s (by omega) (by omega) (by rw [hby]; exact growslice_fits (by omega) (by omega))
      rw [hr2] at hr
      injection hr with hv _
      exact .inr ⟨w.heap.size, by rw [← hv]; rfl, Nat.le_refl _⟩
theorem append_str2 {P : Program} {ops : Array Oper} {rest : List Oper} {o : Oper} {a : Act} {Q : Exit → Act → World → Prop} {w0 W : World} (base : Nat) (hgd : o.guard = none) (s x : Operand) (t u e : TypeId)
    (ho : o.op = .call { callee := .builtin .append, args := #[s, x], argTypes := #[t, u] })
    (ht : P.underlying t = some (.slice e)) (hu : P.underlying u = some .string) (hinfo : (P.info? e).map (fun i => (i.zero, i.size, i.bytes)) = some (some (.int .u8 0), 1, 1))
    (v : Value) (xs : List Int) (y : ByteArray) (hs : a.eval s = v) (hx : a.eval x = .string y)
    (HO : W.ownsRow base e 1 v xs.length (nums .u8 xs)) (HB : Below base w0 W) (hbase : base ≤ W.heap.size) (hl : xs.length + y.size ≤ 140737488355328)
    (h : ∀ v1 w1, w1.ownsRow base e 1 v1 (xs ++ bytesOf y).length (nums .u8 (xs ++ bytesOf y)) → Below base w0 w1 → W.grownBy w1 v.ownBlock → (∀ k, v1.ownBlock = some k → v.ownBlock = some k ∨ W.heap.size ≤ k) → wpList P ops Q rest (a.put o.dst v1) w1) :
    wpList P ops Q (o :: rest) a W := by
  obtain ⟨i0, hi, hzz⟩ := Option.map_eq_some_iff.1 hinfo
  simp only [Prod.mk.injEq] at hzz
  obtain ⟨hz0, hz1, hz2⟩ := hzz
  refine wpList_plain hgd fun K hK => ?_
  obtain ⟨v1, w1, hr, hown, hg, _⟩ := Lib.run_append_own_string (P := P) W base t u o.type e i0 ht hu hi hz0 hz1 hz2 v xs.length (nums .u8 xs) HO y (by simp only [maxLen]; omega) hl hbase
  have hat := hat_str (P := P) W base t u o.type e i0 ht hu hi hz0 hz1 hz2 v xs.length (nums .u8 xs) HO y hl v1 w1 hr
  unfold Oper.wp execOp
  simp only [ho, resolve, invoke, builtin, Sem.run_bind, Sem.run_pure, Result.andThen_ok, List.map_toArray, List.map_cons, List.map_nil, hs, hx, hr]
  have hl2 : (xs ++ bytesOf y).length = xs.length + y.size := by rw [List.length_append, bytesOf_length]
  have hc : nums .u8 (xs ++ bytesOf y) = nums .u8 xs ++ Lib.strCells y := by
    rw [nums_append]
    congr 1
    simp [nums, bytesOf, Lib.strCells]
  refine hK _ _ (h v1 w1 (by rw [hl2, hc]; exact hown) (HB.grown hg hbase (own_base HO)) hg (fun k hk => ?_))
  rcases hat with hat | ⟨b, hb1, hb2⟩
  · exact .inl (hat.symm.trans hk)
  · have hq := hb1.symm.trans hk
    injection hq with hq
    exact .inr (by omega)

end Go.Proofs.Ythfiopjabfaejaa.QFnExactPutTerm
