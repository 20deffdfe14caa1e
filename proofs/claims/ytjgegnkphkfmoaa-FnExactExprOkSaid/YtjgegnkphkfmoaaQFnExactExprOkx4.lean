-- Written by a program of this workplace (print2.py) for this claim, over the print's words.
import Derived.Test.YtjgegnkphkfmoaaQFnExactExprOkx0
namespace Go.Proofs.Ytjgegnkphkfmoaa.QFnExactExprOk
open Go.RowKit Go.Proofs.YtjgegnkphkfmoaaW.PrintWords Go.Proofs.YtjgegnkphkfmoaaW.PrintLast Go.Proofs.YtjgegnkphkfmoaaW.PrintMore
attribute [local go_sem] max2_int min2_int max_two min_two max_three min_three max_four min_four   -- for this text's walks alone
set_option linter.unusedVariables false
set_option linter.unusedSimpArgs false

/-! ### spec_l4Has: function 29 -/
def spec_l4Has.l0:Nat → List ByteArray → ByteArray → Int → Option (Bool)
 | 0,_,_,_=>none
 | k + 1,x0,x1,x5=>if x5 < (x0.length:Int) then (if 0≤x5 then (if (rdOf ByteArray.empty x0 x5).toList = x1.toList then (some true) else (spec_l4Has.l0 k x0 x1 (wrap64 (x5 + 1)))) else (none)) else (some false)
def spec_l4Has.f (k:Nat) (l0:List ByteArray) (a1:ByteArray):Option (Bool):=spec_l4Has.l0 k l0 a1 0
theorem spec_l4Has.mono_l:∀ k,(∀ y0 y1 y2,LeO (spec_l4Has.l0 k y0 y1 y2) (spec_l4Has.l0 (k + 1) y0 y1 y2))
 | 0=>fun _ _ _ r h=>by simp [spec_l4Has.l0] at h
 | k + 1=>by
  have ih0:=spec_l4Has.mono_l k
  ·intro y0 y1 y2
   unfold spec_l4Has.l0
   repeat' first
   | (with_reducible exact ih0 _ _ _)
   | (with_reducible exact LeO.refl _)
   | (with_reducible exact LeO.none _)
   | (with_reducible refine LeO.ite ?_ ?_)
   | (with_reducible refine LeO.bind ?_ (fun _=>?_))
   | exact ih0 _ _ _
   | exact LeO.none _
   | refine LeO.ite ?_ ?_
   | refine LeO.bind ?_ (fun _=>?_)
theorem spec_l4Has.mono:∀ a0 a1 k,LeO (spec_l4Has.f k a0 a1) (spec_l4Has.f (k + 1) a0 a1):=by
 intro a0 a1 k
 have ih0:=spec_l4Has.mono_l k
 unfold spec_l4Has.f
 repeat' first
   | (with_reducible exact ih0 _ _ _)
   | (with_reducible exact LeO.refl _)
   | (with_reducible exact LeO.none _)
   | (with_reducible refine LeO.ite ?_ ?_)
   | (with_reducible refine LeO.bind ?_ (fun _=>?_))
   | exact ih0 _ _ _
   | exact LeO.none _
   | refine LeO.ite ?_ ?_
   | refine LeO.bind ?_ (fun _=>?_)
set_option maxHeartbeats 8000000 in
set_option maxRecDepth 100000 in
theorem spec_l4Has.calls (k:Nat) (A0:Option Addr) (c0:Nat) (l0:List ByteArray) (a1:ByteArray) (r:Bool) (w:World) (hr0:Kd.C Kd.string w A0 l0.length l0) (hc0:l0.length≤c0) (h:spec_l4Has.f k l0 a1 = some r) :
  Calls Try.prog 29 #[.slice A0 l0.length c0,.string a1] w fun e w'=>e = .returned (.bool r)∧Drawn0 w w':=by
 have HR0:=Aside0.mk hr0
 have HC0:=Aside0.mk hc0
 clear hr0 hc0
 have H:(spec_l4Has.l0 k l0 a1 0) = some r:=h
 clear h
 have H':=Aside0.mk H
 clear H
 go_enter Try.func29,Try.ntmps29
 go_wp2
 go_loopg [5] k (fun kq v5 w'=>∃ (x5_1:Int),v5 = .int .i64 x5_1∧Aside0 (spec_l4Has.l0 kq l0 a1 x5_1 = some r)∧Aside0 (kq≤k)∧Drawn0 w w')
 case atStart=>exact ⟨(0),(by first|rfl|(simp;done)|(simp [*];done)),H',⟨Nat.le_refl _⟩,by repeat (first|exact Drawn0.refl _|apply Drawn0.step)⟩
 case round =>
  clear H'
  try clear c2
  try clear p2
  obtain ⟨x5_1,rfl,HA,HK1,⟨m1,rfl⟩⟩:=hrel
  cases gk with
  | zero=>exact absurd HA.out (by simp [spec_l4Has.l0])
  | succ k1 =>
   have H:=HA.out
   clear HA
   simp only [spec_l4Has.l0] at H
   by_cases c3:x5_1 < (l0.length:Int)
   ·rw [if_pos c3] at H
    have c3b0:decide (x5_1 < (l0.length:Int)) = true:=decide_eq_true c3
    clear c3
    by_cases c4:0≤x5_1
    ·rw [if_pos c4] at H
     have c4b0:decide (0≤x5_1) = true:=decide_eq_true c4
     clear c4
     by_cases c5:(rdOf ByteArray.empty l0 x5_1).toList = a1.toList
     ·rw [if_pos c5] at H
      have c5b0:((rdOf ByteArray.empty l0 x5_1).toList == a1.toList) = true:=beq_iff_eq.mpr c5
      have c5b1:((rdOf ByteArray.empty l0 x5_1).toList != a1.toList) = false:=bne_eq_false_iff_eq.mpr c5
      clear c5
      obtain rfl:=Option.some.inj H
      have p131:0≤(x5_1:Int):=of_decide_eq_true (by first|(with_reducible assumption)|assumption)
      have q131:x5_1 < (l0.length:Int):=of_decide_eq_true (by first|(with_reducible assumption)|assumption)
      obtain ⟨ad131,e131,hx131_0⟩:=Kd.at_string HR0.out x5_1 p131 q131
      cases e131
      replace p131:=eq_true p131
      replace q131:=eq_true q131
      go_wp2
      go_ret
      exact ⟨by first|rfl|(simp;done)|(simp [*];done),by repeat (first|exact Drawn0.refl _|apply Drawn0.step)⟩
     ·rw [if_neg c5] at H
      have c5b0:((rdOf ByteArray.empty l0 x5_1).toList == a1.toList) = false:=beq_eq_false_iff_ne.mpr c5
      have c5b1:((rdOf ByteArray.empty l0 x5_1).toList != a1.toList) = true:=bne_iff_ne.mpr c5
      have H':=Aside0.mk H
      clear H
      have p131:0≤(x5_1:Int):=of_decide_eq_true (by first|(with_reducible assumption)|assumption)
      have q131:x5_1 < (l0.length:Int):=of_decide_eq_true (by first|(with_reducible assumption)|assumption)
      obtain ⟨ad131,e131,hx131_0⟩:=Kd.at_string HR0.out x5_1 p131 q131
      cases e131
      replace p131:=eq_true p131
      replace q131:=eq_true q131
      go_wp2
      go_roundg k1
      case measure=>have:=HK1.out;omega
      case rel=>exact ⟨(wrap64 (x5_1 + 1)),(by first|rfl|(simp;done)|(simp [*];done)),H',⟨by have:=HK1.out;omega⟩,by repeat (first|exact Drawn0.refl _|apply Drawn0.step)⟩
    ·rw [if_neg c4] at H
     exact absurd H (by simp)
   ·rw [if_neg c3] at H
    have c3b0:decide (x5_1 < (l0.length:Int)) = false:=decide_eq_false c3
    clear c3
    obtain rfl:=Option.some.inj H
    go_wp2
    go_ret
    exact ⟨by first|rfl|(simp;done)|(simp [*];done),by repeat (first|exact Drawn0.refl _|apply Drawn0.step)⟩

/-! ### spec_l4Once: function 19 -/
def spec_l4Once.l0:Nat → List ByteArray → Int → Option (Bool)
 | 0,_,_=>none
 | k + 1,x0,x3=>if x3 < (x0.length:Int) then (if 0≤x3 then (if x3≤(x0.length:Int) then ((spec_l4Has.f k (x0.take (x3:Int).toNat) (rdOf ByteArray.empty x0 x3)).bind fun t137=>(if t137 = true then (some false) else (spec_l4Once.l0 k x0 (wrap64 (x3 + 1))))) else (none)) else (none)) else (some true)
def spec_l4Once.f (k:Nat) (l0:List ByteArray):Option (Bool):=spec_l4Once.l0 k l0 0
theorem spec_l4Once.mono_l:∀ k,(∀ y0 y1,LeO (spec_l4Once.l0 k y0 y1) (spec_l4Once.l0 (k + 1) y0 y1))
 | 0=>fun _ _ r h=>by simp [spec_l4Once.l0] at h
 | k + 1=>by
  have ih0:=spec_l4Once.mono_l k
  ·intro y0 y1
   unfold spec_l4Once.l0
   repeat' first
   | (with_reducible exact ih0 _ _)
   | (with_reducible exact spec_l4Has.mono _ _ _)
   | (with_reducible exact LeO.refl _)
   | (with_reducible exact LeO.none _)
   | (with_reducible refine LeO.ite ?_ ?_)
   | (with_reducible refine LeO.bind ?_ (fun _=>?_))
   | exact ih0 _ _
   | exact spec_l4Has.mono _ _ _
   | exact LeO.none _
   | refine LeO.ite ?_ ?_
   | refine LeO.bind ?_ (fun _=>?_)
theorem spec_l4Once.mono:∀ a0 k,LeO (spec_l4Once.f k a0) (spec_l4Once.f (k + 1) a0):=by
 intro a0 k
 have ih0:=spec_l4Once.mono_l k
 unfold spec_l4Once.f
 repeat' first
   | (with_reducible exact ih0 _ _)
   | (with_reducible exact spec_l4Has.mono _ _ _)
   | (with_reducible exact LeO.refl _)
   | (with_reducible exact LeO.none _)
   | (with_reducible refine LeO.ite ?_ ?_)
   | (with_reducible refine LeO.bind ?_ (fun _=>?_))
   | exact ih0 _ _
   | exact spec_l4Has.mono _ _ _
   | exact LeO.none _
   | refine LeO.ite ?_ ?_
   | refine LeO.bind ?_ (fun _=>?_)
set_option maxHeartbeats 8000000 in
set_option maxRecDepth 100000 in
theorem spec_l4Once.calls (k:Nat) (A0:Option Addr) (c0:Nat) (l0:List ByteArray) (r:Bool) (w:World) (hr0:Kd.C Kd.string w A0 l0.length l0) (hc0:l0.length≤c0) (h:spec_l4Once.f k l0 = some r) :
  Calls Try.prog 19 #[.slice A0 l0.length c0] w fun e w'=>e = .returned (.bool r)∧Drawn0 w w':=by
 have HR0:=Aside0.mk hr0
 have HC0:=Aside0.mk hc0
 clear hr0 hc0
 have H:(spec_l4Once.l0 k l0 0) = some r:=h
 clear h
 have H':=Aside0.mk H
 clear H
 go_enter Try.func19,Try.ntmps19
 go_wp2
 repeat (go_quiet (fail);try go_wp2)
 go_loopg [3] k (fun kq v3 w'=>∃ (x3_1:Int),v3 = .int .i64 x3_1∧Aside0 (spec_l4Once.l0 kq l0 x3_1 = some r)∧Aside0 (kq≤k)∧Drawn0 w w')
 case atStart=>exact ⟨(0),(by first|rfl|(simp;done)|(simp [*];done)),H',⟨Nat.le_refl _⟩,by repeat (first|exact Drawn0.refl _|apply Drawn0.step)⟩
 case round =>
  clear H'
  try clear c1
  obtain ⟨x3_1,rfl,HA,HK1,⟨m1,rfl⟩⟩:=hrel
  cases gk with
  | zero=>exact absurd HA.out (by simp [spec_l4Once.l0])
  | succ k1 =>
   have H:=HA.out
   clear HA
   simp only [spec_l4Once.l0] at H
   by_cases c2:x3_1 < (l0.length:Int)
   ·rw [if_pos c2] at H
    have c2b0:decide (x3_1 < (l0.length:Int)) = true:=decide_eq_true c2
    clear c2
    by_cases c3:0≤x3_1
    ·rw [if_pos c3] at H
     have c3b0:=eq_true c3
     have c3b1:decide (0≤x3_1) = true:=decide_eq_true c3
     clear c3
     by_cases c4:x3_1≤(l0.length:Int)
     ·rw [if_pos c4] at H
      have c4b0:=eq_true c4
      have c4b1:decide (x3_1≤(l0.length:Int)) = true:=decide_eq_true c4
      clear c4
      obtain ⟨y132,hy132⟩:∃ y_:List ByteArray,y_ = (l0.take (x3_1:Int).toNat):=⟨_,rfl⟩
      replace H:((spec_l4Has.f k1 y132 (rdOf ByteArray.empty l0 x3_1)).bind fun t137=>(if t137 = true then (some false) else (spec_l4Once.l0 k1 l0 (wrap64 (x3_1 + 1))))) = some r:=by first|(rw [hy132];with_reducible exact H)|(have H2_:=(Option.bind_some _ _).symm.trans H;rw [hy132];with_reducible exact H2_)|(have H2_:=(Option.bind_some _ _).symm.trans H;with_reducible exact H2_)|with_reducible exact H|(rw [hy132];exact H)|exact H
      have Ny132:=Aside0.mk hy132
      clear hy132
      replace H:=Option.bind_eq_some_iff.mp H
      obtain ⟨t137,A50,H⟩:=H
      replace H:(if t137 = true then (some false) else (spec_l4Once.l0 k1 l0 (wrap64 (x3_1 + 1)))) = some r:=H
      have A5:=Aside0.mk A50
      clear A50
      by_cases c6:t137 = true
      ·subst c6
       have H1:(some false) = some r:=by rw [if_pos rfl] at H;exact H
       clear H
       have H:=H1
       clear H1
       obtain rfl:=Option.some.inj H
       have q7:(x3_1:Int)≤((l0.length:Int):Int):=of_decide_eq_true (by first|(with_reducible assumption)|assumption)
       obtain ⟨i07,hi07,_,hsz7,_⟩:=info_parts info9
       have hroom7:l0.length≤c0:=HC0.out
       have hC7:Kd.C Kd.string _ A0 l0.length l0:=HR0.out
       have hcut7:=cut_to (P:=Try.prog) 40 9 .i64 Try.underlying40 hi07 A0 l0.length c0 x3_1 (of_decide_eq_true (by first|(with_reducible assumption)|assumption)) q7 hroom7
       have hr7:=Kd.C_take (m:=(x3_1:Int).toNat) hC7 (by omega)
       have hy7:y132.length = (x3_1:Int).toNat:=(by rw [Ny132.out,List.length_take];omega)
       rw [← Ny132.out] at hr7
       rw [← hy7] at hcut7
       have HR135:=Aside0.mk hr7
       have HC135:=Aside0.mk (show y132.length≤c0 from by omega)
       clear hr7 hC7 hroom7 hi07 hsz7
       have KY7:=Aside0.mk hy7
       clear hy7
       replace q7:=eq_true q7
       have p136:0≤(x3_1:Int):=of_decide_eq_true (by first|(with_reducible assumption)|assumption)
       have q136:x3_1 < (l0.length:Int):=of_decide_eq_true (by first|(with_reducible assumption)|assumption)
       obtain ⟨ad136,e136,hx136_0⟩:=Kd.at_string HR0.out x3_1 p136 q136
       cases e136
       replace p136:=eq_true p136
       replace q136:=eq_true q136
       go_wp2_with (first|(go_at_call 29;(with_reducible refine (spec_l4Has.calls k1 _ _ y132 (rdOf ByteArray.empty l0 x3_1) true _ ?side1 ?side2 A5.out).mono ?_);(case side1=>repeat (first|exact HR135.out|(with_reducible refine Kd.C_alloc ?_ _)|(with_reducible refine Kd.C_drewN ?_ _)|(with_reducible refine Kd.C_drew ?_)));(case side2=>exact HC135.out);rintro e w' ⟨rfl,⟨nd,rfl⟩⟩;(try first|exact ⟨rfl,_,World.drewN_drewN _ _ _⟩|exact ⟨rfl,_,Eq.trans (World.drewN_drewN _ _ _) (congrArg (World.drewN _) (Nat.add_assoc _ _ _))⟩)))
       repeat (go_quiet (first|(go_at_call 29;(with_reducible refine (spec_l4Has.calls k1 _ _ y132 (rdOf ByteArray.empty l0 x3_1) true _ ?side1 ?side2 A5.out).mono ?_);(case side1=>repeat (first|exact HR135.out|(with_reducible refine Kd.C_alloc ?_ _)|(with_reducible refine Kd.C_drewN ?_ _)|(with_reducible refine Kd.C_drew ?_)));(case side2=>exact HC135.out);rintro e w' ⟨rfl,⟨nd,rfl⟩⟩;(try first|exact ⟨rfl,_,World.drewN_drewN _ _ _⟩|exact ⟨rfl,_,Eq.trans (World.drewN_drewN _ _ _) (congrArg (World.drewN _) (Nat.add_assoc _ _ _))⟩)));try go_wp2_with (first|(go_at_call 29;(with_reducible refine (spec_l4Has.calls k1 _ _ y132 (rdOf ByteArray.empty l0 x3_1) true _ ?side1 ?side2 A5.out).mono ?_);(case side1=>repeat (first|exact HR135.out|(with_reducible refine Kd.C_alloc ?_ _)|(with_reducible refine Kd.C_drewN ?_ _)|(with_reducible refine Kd.C_drew ?_)));(case side2=>exact HC135.out);rintro e w' ⟨rfl,⟨nd,rfl⟩⟩;(try first|exact ⟨rfl,_,World.drewN_drewN _ _ _⟩|exact ⟨rfl,_,Eq.trans (World.drewN_drewN _ _ _) (congrArg (World.drewN _) (Nat.add_assoc _ _ _))⟩))))
       go_ret
       exact ⟨by first|rfl|(simp;done)|(simp [*];done),by repeat (first|exact Drawn0.refl _|apply Drawn0.step)⟩
      ·replace c6:=Bool.eq_false_iff.mpr c6
       subst c6
       have H1:(spec_l4Once.l0 k1 l0 (wrap64 (x3_1 + 1))) = some r:=by rw [if_neg (show ¬ (false = true) by decide)] at H;exact H
       clear H
       have H:=H1
       clear H1
       have H':=Aside0.mk H
       clear H
       have q8:(x3_1:Int)≤((l0.length:Int):Int):=of_decide_eq_true (by first|(with_reducible assumption)|assumption)
       obtain ⟨i08,hi08,_,hsz8,_⟩:=info_parts info9
       have hroom8:l0.length≤c0:=HC0.out
       have hC8:Kd.C Kd.string _ A0 l0.length l0:=HR0.out
       have hcut8:=cut_to (P:=Try.prog) 40 9 .i64 Try.underlying40 hi08 A0 l0.length c0 x3_1 (of_decide_eq_true (by first|(with_reducible assumption)|assumption)) q8 hroom8
       have hr8:=Kd.C_take (m:=(x3_1:Int).toNat) hC8 (by omega)
       have hy8:y132.length = (x3_1:Int).toNat:=(by rw [Ny132.out,List.length_take];omega)
       rw [← Ny132.out] at hr8
       rw [← hy8] at hcut8
       have HR135:=Aside0.mk hr8
       have HC135:=Aside0.mk (show y132.length≤c0 from by omega)
       clear hr8 hC8 hroom8 hi08 hsz8
       have KY8:=Aside0.mk hy8
       clear hy8
       replace q8:=eq_true q8
       have p136:0≤(x3_1:Int):=of_decide_eq_true (by first|(with_reducible assumption)|assumption)
       have q136:x3_1 < (l0.length:Int):=of_decide_eq_true (by first|(with_reducible assumption)|assumption)
       obtain ⟨ad136,e136,hx136_0⟩:=Kd.at_string HR0.out x3_1 p136 q136
       cases e136
       replace p136:=eq_true p136
       replace q136:=eq_true q136
       go_wp2_with (first|(go_at_call 29;(with_reducible refine (spec_l4Has.calls k1 _ _ y132 (rdOf ByteArray.empty l0 x3_1) false _ ?side1 ?side2 A5.out).mono ?_);(case side1=>repeat (first|exact HR135.out|(with_reducible refine Kd.C_alloc ?_ _)|(with_reducible refine Kd.C_drewN ?_ _)|(with_reducible refine Kd.C_drew ?_)));(case side2=>exact HC135.out);rintro e w' ⟨rfl,⟨nd,rfl⟩⟩;(try first|exact ⟨rfl,_,World.drewN_drewN _ _ _⟩|exact ⟨rfl,_,Eq.trans (World.drewN_drewN _ _ _) (congrArg (World.drewN _) (Nat.add_assoc _ _ _))⟩)))
       repeat (go_quiet (first|(go_at_call 29;(with_reducible refine (spec_l4Has.calls k1 _ _ y132 (rdOf ByteArray.empty l0 x3_1) false _ ?side1 ?side2 A5.out).mono ?_);(case side1=>repeat (first|exact HR135.out|(with_reducible refine Kd.C_alloc ?_ _)|(with_reducible refine Kd.C_drewN ?_ _)|(with_reducible refine Kd.C_drew ?_)));(case side2=>exact HC135.out);rintro e w' ⟨rfl,⟨nd,rfl⟩⟩;(try first|exact ⟨rfl,_,World.drewN_drewN _ _ _⟩|exact ⟨rfl,_,Eq.trans (World.drewN_drewN _ _ _) (congrArg (World.drewN _) (Nat.add_assoc _ _ _))⟩)));try go_wp2_with (first|(go_at_call 29;(with_reducible refine (spec_l4Has.calls k1 _ _ y132 (rdOf ByteArray.empty l0 x3_1) false _ ?side1 ?side2 A5.out).mono ?_);(case side1=>repeat (first|exact HR135.out|(with_reducible refine Kd.C_alloc ?_ _)|(with_reducible refine Kd.C_drewN ?_ _)|(with_reducible refine Kd.C_drew ?_)));(case side2=>exact HC135.out);rintro e w' ⟨rfl,⟨nd,rfl⟩⟩;(try first|exact ⟨rfl,_,World.drewN_drewN _ _ _⟩|exact ⟨rfl,_,Eq.trans (World.drewN_drewN _ _ _) (congrArg (World.drewN _) (Nat.add_assoc _ _ _))⟩))))
       go_roundg k1
       case measure=>have:=HK1.out;omega
       case rel=>exact ⟨(wrap64 (x3_1 + 1)),(by first|rfl|(simp;done)|(simp [*];done)),H',⟨by have:=HK1.out;omega⟩,by repeat (first|exact Drawn0.refl _|apply Drawn0.step)⟩
     ·rw [if_neg c4] at H
      exact absurd H (by simp)
    ·rw [if_neg c3] at H
     exact absurd H (by simp)
   ·rw [if_neg c2] at H
    have c2b0:decide (x3_1 < (l0.length:Int)) = false:=decide_eq_false c2
    clear c2
    obtain rfl:=Option.some.inj H
    go_wp2
    repeat (go_quiet (fail);try go_wp2)
    go_ret
    exact ⟨by first|rfl|(simp;done)|(simp [*];done),by repeat (first|exact Drawn0.refl _|apply Drawn0.step)⟩

/-! ### spec_VarsOf: function 20 -/
mutual
def spec_VarsOf.l0:Nat → List ByteArray → Int → Int → Int → ByteArray → List (S31) → List (S53) → Option (List ByteArray)
 | 0,_,_,_,_,_,_,_=>none
 | k + 1,x3,x4,x139000,x139001,x139002,x139003,x139004=>if x4 < (x139003.length:Int) then (if 0≤x4 then ((spec_VarsOf.f k ((rd_T31 x139003 x4).f0) ((rd_T31 x139003 x4).f1) ((rd_T31 x139003 x4).f2) ((rd_T31 x139003 x4).f3) ((rd_T31 x139003 x4).f4)).bind fun t146=>(if x3.length + t146.length < 8796093022208 then (spec_VarsOf.l0 k (x3 ++ t146) (wrap64 (x4 + 1)) x139000 x139001 x139002 x139003 x139004) else (none))) else (none)) else (some x3)
def spec_VarsOf.f:Nat → Int → Int → ByteArray → List (S31) → List (S53) → Option (List ByteArray)
 | 0,_,_,_,_,_=>none
 | k + 1,a0_0,a0_1,a0_2,l0_3,l0_4=>(some (([]:List ByteArray):List ByteArray)).bind fun y139=>(if a0_0 = 3 then (if a0_2.toList = ([95]:List UInt8) then (some y139) else (if y139.length < 8796093022208 then (some (y139 ++ [a0_2])) else (none))) else (spec_VarsOf.l0 k y139 0 a0_0 a0_1 a0_2 l0_3 l0_4))
end
theorem spec_VarsOf.mono_l:∀ k,(∀ y0 y1 y2 y3 y4,LeO (spec_VarsOf.f k y0 y1 y2 y3 y4) (spec_VarsOf.f (k + 1) y0 y1 y2 y3 y4))∧(∀ y0 y1 y2 y3 y4 y5 y6,LeO (spec_VarsOf.l0 k y0 y1 y2 y3 y4 y5 y6) (spec_VarsOf.l0 (k + 1) y0 y1 y2 y3 y4 y5 y6))
 | 0=>⟨fun _ _ _ _ _ r h=>by simp [spec_VarsOf.f] at h,fun _ _ _ _ _ _ _ r h=>by simp [spec_VarsOf.l0] at h⟩
 | k + 1=>by
  obtain ⟨ih0,ih1⟩:=spec_VarsOf.mono_l k
  refine ⟨?_,?_⟩
  ·intro y0 y1 y2 y3 y4
   unfold spec_VarsOf.f
   repeat' first
   | (with_reducible exact ih0 _ _ _ _ _)
   | (with_reducible exact ih1 _ _ _ _ _ _ _)
   | (with_reducible exact LeO.refl _)
   | (with_reducible exact LeO.none _)
   | (with_reducible refine LeO.ite ?_ ?_)
   | (with_reducible refine LeO.bind ?_ (fun _=>?_))
   | exact ih0 _ _ _ _ _
   | exact ih1 _ _ _ _ _ _ _
   | exact LeO.none _
   | refine LeO.ite ?_ ?_
   | refine LeO.bind ?_ (fun _=>?_)
  ·intro y0 y1 y2 y3 y4 y5 y6
   unfold spec_VarsOf.l0
   repeat' first
   | (with_reducible exact ih0 _ _ _ _ _)
   | (with_reducible exact ih1 _ _ _ _ _ _ _)
   | (with_reducible exact LeO.refl _)
   | (with_reducible exact LeO.none _)
   | (with_reducible refine LeO.ite ?_ ?_)
   | (with_reducible refine LeO.bind ?_ (fun _=>?_))
   | exact ih0 _ _ _ _ _
   | exact ih1 _ _ _ _ _ _ _
   | exact LeO.none _
   | refine LeO.ite ?_ ?_
   | refine LeO.bind ?_ (fun _=>?_)
theorem spec_VarsOf.mono:∀ a0 a1 a2 a3 a4 k,LeO (spec_VarsOf.f k a0 a1 a2 a3 a4) (spec_VarsOf.f (k + 1) a0 a1 a2 a3 a4):=by
 intro a0 a1 a2 a3 a4 k
 obtain ⟨ih0,ih1⟩:=spec_VarsOf.mono_l k
 exact ih0 a0 a1 a2 a3 a4
set_option maxHeartbeats 8000000 in
set_option maxRecDepth 100000 in
theorem spec_VarsOf.calls (k:Nat):∀ (a0_0:Int) (a0_1:Int) (a0_2:ByteArray) (A0_3:Option Addr) (c0_3:Nat) (l0_3:List (S31)) (A0_4:Option Addr) (c0_4:Nat) (l0_4:List (S53)) (r:List ByteArray) (w:World) (hr0_3:Kd.C k31 w A0_3 l0_3.length l0_3) (hc0_3:l0_3.length≤c0_3) (hr0_4:Kd.C k53 w A0_4 l0_4.length l0_4) (hc0_4:l0_4.length≤c0_4) (h:spec_VarsOf.f k a0_0 a0_1 a0_2 l0_3 l0_4 = some r),
  Calls Try.prog 20 #[.agg #[.int .i64 a0_0,.int .i64 a0_1,.string a0_2,.slice A0_3 l0_3.length c0_3,.slice A0_4 l0_4.length c0_4]] w fun e w'=>∃ v0_:Value,e = .returned (v0_)∧Kd.R Kd.string 9 w' w.heap.size (fun _=>True) v0_ r∧Below w.heap.size w w':=by
 induction k using Nat.strongRecOn with
 | _ k ih =>
 intro a0_0 a0_1 a0_2 A0_3 c0_3 l0_3 A0_4 c0_4 l0_4 r w hr0_3 hc0_3 hr0_4 hc0_4 h
 cases k with
 | zero=>exact absurd h (by simp [spec_VarsOf.f])
 | succ k =>
 simp only [spec_VarsOf.f] at h
 have hu31:=Try.underlying31
 have HR0_3:=Aside0.mk hr0_3
 have HC0_3:=Aside0.mk hc0_3
 clear hr0_3 hc0_3
 have HR0_4:=Aside0.mk hr0_4
 have HC0_4:=Aside0.mk hc0_4
 clear hr0_4 hc0_4
 have HB:=Aside0.mk (Below.refl w.heap.size w)
 have H:((some (([]:List ByteArray):List ByteArray)).bind fun y139=>(if a0_0 = 3 then (if a0_2.toList = ([95]:List UInt8) then (some y139) else (if y139.length < 8796093022208 then (some (y139 ++ [a0_2])) else (none))) else (spec_VarsOf.l0 k y139 0 a0_0 a0_1 a0_2 l0_3 l0_4))) = some r:=h
 clear h
 obtain ⟨y139,hy139⟩:∃ y_:List ByteArray,y_ = (([]:List ByteArray)):=⟨_,rfl⟩
 replace H:(if a0_0 = 3 then (if a0_2.toList = ([95]:List UInt8) then (some y139) else (if y139.length < 8796093022208 then (some (y139 ++ [a0_2])) else (none))) else (spec_VarsOf.l0 k y139 0 a0_0 a0_1 a0_2 l0_3 l0_4)) = some r:=by first|(rw [hy139];with_reducible exact H)|(have H2_:=(Option.bind_some _ _).symm.trans H;rw [hy139];with_reducible exact H2_)|(have H2_:=(Option.bind_some _ _).symm.trans H;with_reducible exact H2_)|with_reducible exact H|(rw [hy139];exact H)|exact H
 have Ny139:=Aside0.mk hy139
 clear hy139
 by_cases c2:a0_0 = 3
 ·rw [if_pos c2] at H
  have c2b0:(a0_0 == 3) = true:=beq_iff_eq.mpr c2
  have c2b1:(a0_0 != 3) = false:=bne_eq_false_iff_eq.mpr c2
  clear c2
  by_cases c3:a0_2.toList = ([95]:List UInt8)
  ·rw [if_pos c3] at H
   have c3b0:(a0_2.toList == ([95]:List UInt8)) = true:=beq_iff_eq.mpr c3
   have c3b1:(a0_2.toList != ([95]:List UInt8)) = false:=bne_eq_false_iff_eq.mpr c3
   clear c3
   obtain rfl:=Option.some.inj H
   go_enter Try.func20,Try.ntmps20
   go_wp2_with (first|((with_reducible refine gate_dst (N:=1) rfl ?_);refine box_event ?hg (N:=1) ?hd (cs:=#[.int .i64 a0_0,.int .i64 a0_1,.string a0_2,.slice A0_3 l0_3.length c0_3,.slice A0_4 l0_4.length c0_4]) (t:=31) ?hr ?_;(case hd=>rfl);(case hg=>rfl);(case hr=>first|(go_simp;done)|(go_simp;rfl));intro gb138 hg w4 hbox hb;have n0_:=Aside0.mk (below_step (by repeat (first|(with_reducible first|exact HB.out|apply below_alloc|apply pw_below_drewN|apply below_drew1)|exact HB.out)) hb);have n1_:=Aside0.mk (hbox);have n2_:=Aside0.mk ((by rw [hg];exact (below_size (by repeat (first|(with_reducible first|exact HB.out|apply below_alloc|apply pw_below_drewN|apply below_drew1)|exact HB.out))):w.heap.size≤gb138));have n3_:=Aside0.mk ((by rw [hg];exact (below_size (by repeat (first|(with_reducible first|exact HB.out|apply below_alloc|apply pw_below_drewN|apply below_drew1)|exact HB.out))):w.heap.size≤gb138));clear HB;have HB:=n0_;have BK138:=n1_;have GW138:=n2_;have GE138:=n3_;clear n0_ n1_ n2_ n3_;clear hb hbox hg)|((with_reducible refine gate_dst (N:=5) rfl ?_);refine Kd.R_lit Kd.string _ 9 ?hg (N:=5) ?hd (xs:=([]:List ByteArray)) (inner:=[]) (ok:=fun _=>True) (okp:=fun _=>True) ?hr ?hp (fun _ hk=>hk) trivial (Below.refl _ _) (Nat.le_refl _) (by simp) ?_;(case hd=>rfl);(case hg=>rfl);(case hr=>first|(go_simp;done)|(go_simp;rfl));(case hp=>exact (Reps.none _ _));intro v140 w5 ho6 hb hg_ hnew_;clear hg_ hnew_;(first|rw [← Ny139.out] at ho6|(simp only [Int.reduceToNat] at ho6;rw [← Ny139.out] at ho6));have n0_:=Aside0.mk (Kd.R_lower ho6 (below_size (by repeat (first|(with_reducible first|exact HB.out|apply below_alloc|apply pw_below_drewN|apply below_drew1|refine below_set ?_ GE138.out)|exact HB.out))));have n1_:=Aside0.mk (blk_below (g:=gb138) (o:=.cells #[.int .i64 a0_0,.int .i64 a0_1,.string a0_2,.slice A0_3 l0_3.length c0_3,.slice A0_4 l0_4.length c0_4] 31 (0,0)) (by (with_reducible repeat (first|refine blk_drewN ?_ _|refine blk_drew ?_|refine blk_alloc ?_ _));exact BK138.out) hb);have n2_:=Aside0.mk (below_step (by repeat (first|(with_reducible first|exact HB.out|apply below_alloc|apply pw_below_drewN|apply below_drew1|refine below_set ?_ GE138.out)|exact HB.out)) hb);clear BK138;clear HB;have HO141:=n0_;have BK138:=n1_;have HB:=n2_;clear n0_ n1_ n2_;clear hb ho6;have hcz7_0:w5.cell? ⟨gb138,0,none⟩ = some (.int .i64 a0_0):=(blk_cell BK138.out 0).trans rfl;have hcz7_1:w5.cell? ⟨gb138,1,none⟩ = some (.int .i64 a0_1):=(blk_cell BK138.out 1).trans rfl;have hcz7_2:w5.cell? ⟨gb138,2,none⟩ = some (.string a0_2):=(blk_cell BK138.out 2).trans rfl;have hcz7_3:w5.cell? ⟨gb138,3,none⟩ = some (.slice A0_3 l0_3.length c0_3):=(blk_cell BK138.out 3).trans rfl;have hcz7_4:w5.cell? ⟨gb138,4,none⟩ = some (.slice A0_4 l0_4.length c0_4):=(blk_cell BK138.out 4).trans rfl;have hfz7_0:=blk_frozen BK138.out 0;have hfz7_1:=blk_frozen BK138.out 1;have hfz7_2:=blk_frozen BK138.out 2;have hfz7_3:=blk_frozen BK138.out 3;have hfz7_4:=blk_frozen BK138.out 4))
   go_ret
   exact ⟨_,by first|rfl|(simp [*,errW_none,errW_some] <;> rfl),by (with_reducible repeat (first|apply Kd.R_alloc|apply Kd.R_drewN|apply Kd.R_drew));exact HO141.out,by repeat (first|(with_reducible first|exact HB.out|apply below_alloc|apply pw_below_drewN|apply below_drew1|refine below_set ?_ GE138.out)|exact HB.out)⟩
  ·rw [if_neg c3] at H
   have c3b0:(a0_2.toList == ([95]:List UInt8)) = false:=beq_eq_false_iff_ne.mpr c3
   have c3b1:(a0_2.toList != ([95]:List UInt8)) = true:=bne_iff_ne.mpr c3
   by_cases c8:y139.length < 8796093022208
   ·rw [if_pos c8] at H
    have LMc8:=Aside0.mk c8
    clear c8
    obtain ⟨y142,hy142⟩:∃ y_:List ByteArray,y_ = (y139 ++ [a0_2]):=⟨_,rfl⟩
    replace H:(some y142) = some r:=by first|(rw [hy142];with_reducible exact H)|(have H2_:=(Option.bind_some _ _).symm.trans H;rw [hy142];with_reducible exact H2_)|(have H2_:=(Option.bind_some _ _).symm.trans H;with_reducible exact H2_)|with_reducible exact H|(rw [hy142];exact H)|exact H
    have Ny142:=Aside0.mk hy142
    clear hy142
    obtain rfl:=Option.some.inj H
    go_enter Try.func20,Try.ntmps20
    go_wp2_with (first|((with_reducible refine gate_dst (N:=1) rfl ?_);refine box_event ?hg (N:=1) ?hd (cs:=#[.int .i64 a0_0,.int .i64 a0_1,.string a0_2,.slice A0_3 l0_3.length c0_3,.slice A0_4 l0_4.length c0_4]) (t:=31) ?hr ?_;(case hd=>rfl);(case hg=>rfl);(case hr=>first|(go_simp;done)|(go_simp;rfl));intro gb138 hg w9 hbox hb;have n0_:=Aside0.mk (below_step (by repeat (first|(with_reducible first|exact HB.out|apply below_alloc|apply pw_below_drewN|apply below_drew1)|exact HB.out)) hb);have n1_:=Aside0.mk (hbox);have n2_:=Aside0.mk ((by rw [hg];exact (below_size (by repeat (first|(with_reducible first|exact HB.out|apply below_alloc|apply pw_below_drewN|apply below_drew1)|exact HB.out))):w.heap.size≤gb138));have n3_:=Aside0.mk ((by rw [hg];exact (below_size (by repeat (first|(with_reducible first|exact HB.out|apply below_alloc|apply pw_below_drewN|apply below_drew1)|exact HB.out))):w.heap.size≤gb138));clear HB;have HB:=n0_;have BK138:=n1_;have GW138:=n2_;have GE138:=n3_;clear n0_ n1_ n2_ n3_;clear hb hbox hg)|((with_reducible refine gate_dst (N:=5) rfl ?_);refine Kd.R_lit Kd.string _ 9 ?hg (N:=5) ?hd (xs:=([]:List ByteArray)) (inner:=[]) (ok:=fun _=>True) (okp:=fun _=>True) ?hr ?hp (fun _ hk=>hk) trivial (Below.refl _ _) (Nat.le_refl _) (by simp) ?_;(case hd=>rfl);(case hg=>rfl);(case hr=>first|(go_simp;done)|(go_simp;rfl));(case hp=>exact (Reps.none _ _));intro v140 w10 ho11 hb hg_ hnew_;clear hg_ hnew_;(first|rw [← Ny139.out] at ho11|(simp only [Int.reduceToNat] at ho11;rw [← Ny139.out] at ho11));have n0_:=Aside0.mk (Kd.R_lower ho11 (below_size (by repeat (first|(with_reducible first|exact HB.out|apply below_alloc|apply pw_below_drewN|apply below_drew1|refine below_set ?_ GE138.out)|exact HB.out))));have n1_:=Aside0.mk (blk_below (g:=gb138) (o:=.cells #[.int .i64 a0_0,.int .i64 a0_1,.string a0_2,.slice A0_3 l0_3.length c0_3,.slice A0_4 l0_4.length c0_4] 31 (0,0)) (by (with_reducible repeat (first|refine blk_drewN ?_ _|refine blk_drew ?_|refine blk_alloc ?_ _));exact BK138.out) hb);have n2_:=Aside0.mk (below_step (by repeat (first|(with_reducible first|exact HB.out|apply below_alloc|apply pw_below_drewN|apply below_drew1|refine below_set ?_ GE138.out)|exact HB.out)) hb);clear BK138;clear HB;have HO141:=n0_;have BK138:=n1_;have HB:=n2_;clear n0_ n1_ n2_;clear hb ho11;have hcz12_0:w10.cell? ⟨gb138,0,none⟩ = some (.int .i64 a0_0):=(blk_cell BK138.out 0).trans rfl;have hcz12_1:w10.cell? ⟨gb138,1,none⟩ = some (.int .i64 a0_1):=(blk_cell BK138.out 1).trans rfl;have hcz12_2:w10.cell? ⟨gb138,2,none⟩ = some (.string a0_2):=(blk_cell BK138.out 2).trans rfl;have hcz12_3:w10.cell? ⟨gb138,3,none⟩ = some (.slice A0_3 l0_3.length c0_3):=(blk_cell BK138.out 3).trans rfl;have hcz12_4:w10.cell? ⟨gb138,4,none⟩ = some (.slice A0_4 l0_4.length c0_4):=(blk_cell BK138.out 4).trans rfl;have hfz12_0:=blk_frozen BK138.out 0;have hfz12_1:=blk_frozen BK138.out 1;have hfz12_2:=blk_frozen BK138.out 2;have hfz12_3:=blk_frozen BK138.out 3;have hfz12_4:=blk_frozen BK138.out 4)|((with_reducible refine gate_builtin (b:=.append) (xs:=#[.tmp 12,.tmp 15]) rfl ?_);at_builtin;refine Kd.R_append Kd.string (w0:=w) w.heap.size rfl (.tmp 12) (.tmp 15) 40 9 (.string ⟨#[]⟩) 16 rfl Try.underlying40 info9 rfl (by decide) (by omega) v140 y139 a0_2 [.string a0_2] (fun _=>True) (fun _=>False) rfl rfl ?aP (fun _ hk=>hk.elim) ?aF ?aO ?aB ?aS ?aL ?_;(case aP=>exact rfl);(case aB=>exact (by repeat (first|(with_reducible first|exact HB.out|apply below_alloc|apply pw_below_drewN|apply below_drew1|refine below_set ?_ GE138.out)|exact HB.out)));(case aF=>exact (fun _ _=>trivial));(case aO=>exact (by (with_reducible repeat (first|apply Kd.R_alloc|apply Kd.R_drewN|apply Kd.R_drew));exact HO141.out));(case aS=>exact (below_size (by repeat (first|(with_reducible first|exact HB.out|apply below_alloc|apply pw_below_drewN|apply below_drew1|refine below_set ?_ GE138.out)|exact HB.out))));(case aL=>have:=LMc8.out;omega);intro v143 w13 ho hb hg hat;rw [← Ny142.out] at ho;have n0_:=Aside0.mk (blk_grown (g:=gb138) (o:=.cells #[.int .i64 a0_0,.int .i64 a0_1,.string a0_2,.slice A0_3 l0_3.length c0_3,.slice A0_4 l0_4.length c0_4] 31 (0,0)) (by (with_reducible repeat (first|refine blk_drewN ?_ _|refine blk_drew ?_|refine blk_alloc ?_ _));exact BK138.out) hg (Kd.R_ne HO141.out BK138.out (by decide)));have n1_:=Aside0.mk (hb);have n2_:=Aside0.mk (ho);clear BK138;clear HB;clear HO141;have BK138:=n0_;have HB:=n1_;have HO144:=n2_;clear n0_ n1_ n2_;clear ho hb hg hat))
    go_ret
    exact ⟨_,by first|rfl|(simp [*,errW_none,errW_some] <;> rfl),by (with_reducible repeat (first|apply Kd.R_alloc|apply Kd.R_drewN|apply Kd.R_drew));exact HO144.out,by repeat (first|(with_reducible first|exact HB.out|apply below_alloc|apply pw_below_drewN|apply below_drew1|refine below_set ?_ GE138.out)|exact HB.out)⟩
   ·rw [if_neg c8] at H
    exact absurd H (by simp)
 ·rw [if_neg c2] at H
  have c2b0:(a0_0 == 3) = false:=beq_eq_false_iff_ne.mpr c2
  have c2b1:(a0_0 != 3) = true:=bne_iff_ne.mpr c2
  have H':=Aside0.mk H
  clear H
  go_enter Try.func20,Try.ntmps20
  go_wp2_with (first|((with_reducible refine gate_dst (N:=1) rfl ?_);refine box_event ?hg (N:=1) ?hd (cs:=#[.int .i64 a0_0,.int .i64 a0_1,.string a0_2,.slice A0_3 l0_3.length c0_3,.slice A0_4 l0_4.length c0_4]) (t:=31) ?hr ?_;(case hd=>rfl);(case hg=>rfl);(case hr=>first|(go_simp;done)|(go_simp;rfl));intro gb138 hg w14 hbox hb;have n0_:=Aside0.mk (below_step (by repeat (first|(with_reducible first|exact HB.out|apply below_alloc|apply pw_below_drewN|apply below_drew1)|exact HB.out)) hb);have n1_:=Aside0.mk (hbox);have n2_:=Aside0.mk ((by rw [hg];exact (below_size (by repeat (first|(with_reducible first|exact HB.out|apply below_alloc|apply pw_below_drewN|apply below_drew1)|exact HB.out))):w.heap.size≤gb138));have n3_:=Aside0.mk ((by rw [hg];exact (below_size (by repeat (first|(with_reducible first|exact HB.out|apply below_alloc|apply pw_below_drewN|apply below_drew1)|exact HB.out))):w.heap.size≤gb138));clear HB;have HB:=n0_;have BK138:=n1_;have GW138:=n2_;have GE138:=n3_;clear n0_ n1_ n2_ n3_;clear hb hbox hg)|((with_reducible refine gate_dst (N:=5) rfl ?_);refine Kd.R_lit Kd.string _ 9 ?hg (N:=5) ?hd (xs:=([]:List ByteArray)) (inner:=[]) (ok:=fun _=>True) (okp:=fun _=>True) ?hr ?hp (fun _ hk=>hk) trivial (Below.refl _ _) (Nat.le_refl _) (by simp) ?_;(case hd=>rfl);(case hg=>rfl);(case hr=>first|(go_simp;done)|(go_simp;rfl));(case hp=>exact (Reps.none _ _));intro v140 w15 ho16 hb hg_ hnew_;clear hg_ hnew_;(first|rw [← Ny139.out] at ho16|(simp only [Int.reduceToNat] at ho16;rw [← Ny139.out] at ho16));have n0_:=Aside0.mk (Kd.R_lower ho16 (below_size (by repeat (first|(with_reducible first|exact HB.out|apply below_alloc|apply pw_below_drewN|apply below_drew1|refine below_set ?_ GE138.out)|exact HB.out))));have n1_:=Aside0.mk (blk_below (g:=gb138) (o:=.cells #[.int .i64 a0_0,.int .i64 a0_1,.string a0_2,.slice A0_3 l0_3.length c0_3,.slice A0_4 l0_4.length c0_4] 31 (0,0)) (by (with_reducible repeat (first|refine blk_drewN ?_ _|refine blk_drew ?_|refine blk_alloc ?_ _));exact BK138.out) hb);have n2_:=Aside0.mk (below_step (by repeat (first|(with_reducible first|exact HB.out|apply below_alloc|apply pw_below_drewN|apply below_drew1|refine below_set ?_ GE138.out)|exact HB.out)) hb);clear BK138;clear HB;have HO141:=n0_;have BK138:=n1_;have HB:=n2_;clear n0_ n1_ n2_;clear hb ho16;have hcz17_0:w15.cell? ⟨gb138,0,none⟩ = some (.int .i64 a0_0):=(blk_cell BK138.out 0).trans rfl;have hcz17_1:w15.cell? ⟨gb138,1,none⟩ = some (.int .i64 a0_1):=(blk_cell BK138.out 1).trans rfl;have hcz17_2:w15.cell? ⟨gb138,2,none⟩ = some (.string a0_2):=(blk_cell BK138.out 2).trans rfl;have hcz17_3:w15.cell? ⟨gb138,3,none⟩ = some (.slice A0_3 l0_3.length c0_3):=(blk_cell BK138.out 3).trans rfl;have hcz17_4:w15.cell? ⟨gb138,4,none⟩ = some (.slice A0_4 l0_4.length c0_4):=(blk_cell BK138.out 4).trans rfl;have hfz17_0:=blk_frozen BK138.out 0;have hfz17_1:=blk_frozen BK138.out 1;have hfz17_2:=blk_frozen BK138.out 2;have hfz17_3:=blk_frozen BK138.out 3;have hfz17_4:=blk_frozen BK138.out 4))
  go_loopg [3,4] k (fun kq v3 v4 w'=>∃ (x3_1:List ByteArray) (x4_1:Int),v4 = .int .i64 x4_1∧Aside0 (spec_VarsOf.l0 kq x3_1 x4_1 a0_0 a0_1 a0_2 l0_3 l0_4 = some r)∧Aside0 (kq≤k)∧Aside0 (Kd.R Kd.string 9 w' w.heap.size (fun _=>True) v3 x3_1)∧Aside0 (w'.heap[gb138]? = some (.cells #[.int .i64 a0_0,.int .i64 a0_1,.string a0_2,(.slice A0_3 l0_3.length c0_3),(.slice A0_4 l0_4.length c0_4)] 31 (0,0)))∧Aside0 (Below w.heap.size w w'))
  case atStart=>exact ⟨(y139),(0),(by first|rfl|(simp;done)|(simp [*];done)),H',⟨Nat.le_refl _⟩,⟨by (with_reducible repeat (first|apply Kd.R_alloc|apply Kd.R_drewN|apply Kd.R_drew));exact HO141.out⟩,⟨by (with_reducible repeat (first|refine blk_drewN ?_ _|refine blk_drew ?_|refine blk_alloc ?_ _));exact BK138.out⟩,⟨by repeat (first|(with_reducible first|exact HB.out|apply below_alloc|apply pw_below_drewN|apply below_drew1|refine below_set ?_ GE138.out)|exact HB.out)⟩⟩
  case round =>
   clear H'
   try clear c2
   try clear c2b0
   try clear c2b1
   try clear p2
   try clear c3
   try clear c3b0
   try clear c3b1
   try clear c8
   try clear hcz12_0
   try clear hcz12_1
   try clear hcz12_2
   try clear hcz12_3
   try clear hcz12_4
   try clear hcz17_0
   try clear hcz17_1
   try clear hcz17_2
   try clear hcz17_3
   try clear hcz17_4
   try clear hcz7_0
   try clear hcz7_1
   try clear hcz7_2
   try clear hcz7_3
   try clear hcz7_4
   try clear hfz12_0
   try clear hfz12_1
   try clear hfz12_2
   try clear hfz12_3
   try clear hfz12_4
   try clear hfz17_0
   try clear hfz17_1
   try clear hfz17_2
   try clear hfz17_3
   try clear hfz17_4
   try clear hfz7_0
   try clear hfz7_1
   try clear hfz7_2
   try clear hfz7_3
   try clear hfz7_4
   try clear HO_3
   try clear BK138
   try clear HB
   obtain ⟨x3_1,x4_1,rfl,HA,HK1,HO_3,BK138,HB⟩:=hrel
   cases gk with
   | zero=>exact absurd HA.out (by simp [spec_VarsOf.l0])
   | succ k1 =>
    have H:=HA.out
    clear HA
    simp only [spec_VarsOf.l0] at H
    by_cases c18:x4_1 < (l0_3.length:Int)
    ·rw [if_pos c18] at H
     have c18b0:decide (x4_1 < (l0_3.length:Int)) = true:=decide_eq_true c18
     clear c18
     by_cases c19:0≤x4_1
     ·rw [if_pos c19] at H
      have c19b0:decide (0≤x4_1) = true:=decide_eq_true c19
      clear c19
      replace H:=Option.bind_eq_some_iff.mp H
      obtain ⟨t146,A200,H⟩:=H
      replace H:(if x3_1.length + t146.length < 8796093022208 then (spec_VarsOf.l0 k1 (x3_1 ++ t146) (wrap64 (x4_1 + 1)) a0_0 a0_1 a0_2 l0_3 l0_4) else (none)) = some r:=H
      have A20:=Aside0.mk A200
      clear A200
      by_cases c21:x3_1.length + t146.length < 8796093022208
      ·rw [if_pos c21] at H
       have LMc21:=Aside0.mk c21
       clear c21
       obtain ⟨y149,hy149⟩:∃ y_:List ByteArray,y_ = (x3_1 ++ t146):=⟨_,rfl⟩
       replace H:(spec_VarsOf.l0 k1 y149 (wrap64 (x4_1 + 1)) a0_0 a0_1 a0_2 l0_3 l0_4) = some r:=by first|(rw [hy149];with_reducible exact H)|(have H2_:=(Option.bind_some _ _).symm.trans H;rw [hy149];with_reducible exact H2_)|(have H2_:=(Option.bind_some _ _).symm.trans H;with_reducible exact H2_)|with_reducible exact H|(rw [hy149];exact H)|exact H
       have Ny149:=Aside0.mk hy149
       clear hy149
       have H':=Aside0.mk H
       clear H
       have hcz22_0:wr.cell? ⟨gb138,0,none⟩ = some (.int .i64 a0_0):=(blk_cell BK138.out 0).trans rfl
       have hcz22_1:wr.cell? ⟨gb138,1,none⟩ = some (.int .i64 a0_1):=(blk_cell BK138.out 1).trans rfl
       have hcz22_2:wr.cell? ⟨gb138,2,none⟩ = some (.string a0_2):=(blk_cell BK138.out 2).trans rfl
       have hcz22_3:wr.cell? ⟨gb138,3,none⟩ = some (.slice A0_3 l0_3.length c0_3):=(blk_cell BK138.out 3).trans rfl
       have hcz22_4:wr.cell? ⟨gb138,4,none⟩ = some (.slice A0_4 l0_4.length c0_4):=(blk_cell BK138.out 4).trans rfl
       have hfz22_0:=blk_frozen BK138.out 0
       have hfz22_1:=blk_frozen BK138.out 1
       have hfz22_2:=blk_frozen BK138.out 2
       have hfz22_3:=blk_frozen BK138.out 3
       have hfz22_4:=blk_frozen BK138.out 4
       have p145:0≤(x4_1:Int):=of_decide_eq_true (by first|(with_reducible assumption)|assumption)
       have q145:x4_1 < (l0_3.length:Int):=of_decide_eq_true (by first|(with_reducible assumption)|assumption)
       obtain ⟨ad145,A145_3,c145_3,A145_4,c145_4,e145,hx145_0,hx145_1,hx145_2,hx145_3,hx145_4,hl145_3,hi145_3,hl145_4,hi145_4⟩:=at_T31 HR0_3.out x4_1 p145 q145
       cases e145
       replace hx145_0:=(HB.out.cell (World.block_lt_of_cell? w _ hx145_0)).trans hx145_0
       replace hx145_1:=(HB.out.cell (World.block_lt_of_cell? w _ hx145_1)).trans hx145_1
       replace hx145_2:=(HB.out.cell (World.block_lt_of_cell? w _ hx145_2)).trans hx145_2
       replace hx145_3:=(HB.out.cell (World.block_lt_of_cell? w _ hx145_3)).trans hx145_3
       replace hx145_4:=(HB.out.cell (World.block_lt_of_cell? w _ hx145_4)).trans hx145_4
       have HR145_3:=Aside0.mk hi145_3
       have HC145_3:=Aside0.mk hl145_3
       clear hi145_3 hl145_3
       have HR145_4:=Aside0.mk hi145_4
       have HC145_4:=Aside0.mk hl145_4
       clear hi145_4 hl145_4
       replace p145:=eq_true p145
       replace q145:=eq_true q145
       go_wp2_with (first|((with_reducible refine gate_callee (f:=20) rfl ?_);refine goesL_ (some 31) rfl rfl Try.func20 (by kernel_rfl) rfl #[.agg #[.int .i64 ((rd_T31 l0_3 x4_1).f0),.int .i64 ((rd_T31 l0_3 x4_1).f1),.string ((rd_T31 l0_3 x4_1).f2),.slice A145_3 ((rd_T31 l0_3 x4_1).f3).length c145_3,.slice A145_4 ((rd_T31 l0_3 x4_1).f4).length c145_4]] rfl (by (try simp only [List.map_toArray,List.map_cons,List.map_nil]);first|done|rfl|(simp only [List.length_drop,List.length_take];rfl)) ?_;(with_reducible refine (ih k1 (by have:=HK1.out;omega) ((rd_T31 l0_3 x4_1).f0) ((rd_T31 l0_3 x4_1).f1) ((rd_T31 l0_3 x4_1).f2) _ _ ((rd_T31 l0_3 x4_1).f3) _ _ ((rd_T31 l0_3 x4_1).f4) t146 _ ?side1 ?side2 ?side3 ?side4 A20.out).mono ?_);(case side1=>repeat (first|exact (Kd.C_below HR145_3.out HB.out)|(with_reducible refine Kd.C_alloc ?_ _)|(with_reducible refine Kd.C_drewN ?_ _)|(with_reducible refine Kd.C_drew ?_)));(case side2=>exact HC145_3.out);(case side3=>repeat (first|exact (Kd.C_below HR145_4.out HB.out)|(with_reducible refine Kd.C_alloc ?_ _)|(with_reducible refine Kd.C_drewN ?_ _)|(with_reducible refine Kd.C_drew ?_)));(case side4=>exact HC145_4.out);rintro e w23 ⟨v147,rfl,ho0,hb⟩;refine ⟨_,rfl,?_⟩;have n0_:=Aside0.mk (Kd.R_elder' (by (with_reducible repeat (first|apply Kd.R_alloc|apply Kd.R_drewN|apply Kd.R_drew));exact HO_3.out) (Kd.R_base ho0) hb);have n1_:=Aside0.mk (Kd.R_lower (Kd.R_new' ho0 (Kd.R_lt (by (with_reducible repeat (first|apply Kd.R_alloc|apply Kd.R_drewN|apply Kd.R_drew));exact HO_3.out))) (below_size (by repeat (first|(with_reducible first|exact HB.out|apply below_alloc|apply pw_below_drewN|apply below_drew1|refine below_set ?_ GE138.out)|exact HB.out))));have n2_:=Aside0.mk (blk_below (g:=gb138) (o:=.cells #[.int .i64 a0_0,.int .i64 a0_1,.string a0_2,.slice (some ad145) l0_3.length c0_3,.slice A0_4 l0_4.length c0_4] 31 (0,0)) (by (with_reducible repeat (first|refine blk_drewN ?_ _|refine blk_drew ?_|refine blk_alloc ?_ _));exact BK138.out) hb);have n3_:=Aside0.mk (below_step (by repeat (first|(with_reducible first|exact HB.out|apply below_alloc|apply pw_below_drewN|apply below_drew1|refine below_set ?_ GE138.out)|exact HB.out)) hb);clear HO_3;clear BK138;clear HB;have HO_3:=n0_;have HO148:=n1_;have BK138:=n2_;have HB:=n3_;clear n0_ n1_ n2_ n3_;(try clear hb);(try clear hb2);(try clear hk);(try clear hi);(try clear ho0);obtain ⟨Ao25,co25,eo25⟩:=Kd.R_slice HO148.out;subst eo25)|((with_reducible refine gate_builtin (b:=.append) (xs:=#[.tmp 25,.tmp 31]) rfl ?_);at_builtin;refine Kd.R_append_rows Kd.string (w0:=w) w.heap.size rfl (.tmp 25) (.tmp 31) 40 9 (.string ⟨#[]⟩) 16 rfl Try.underlying40 info9 rfl (by decide) (by omega) u3 x3_1 t146 _ _ _ (fun k_=>some k_≠(.slice Ao25 t146.length co25:Value).ownBlock) (fun _=>False) rfl rfl ?aO ?aR (fun _ _ h=>h) (fun _ h=>h.elim) ?aF ?aB ?aS ?aL ?_;(case aR=>repeat (first|exact (Kd.R_reads' HO148.out).2.2|(with_reducible refine Kd.C_alloc ?_ _)|(with_reducible refine Kd.C_drewN ?_ _)|(with_reducible refine Kd.C_drew ?_)));(case aB=>exact (by repeat (first|(with_reducible first|exact HB.out|apply below_alloc|apply pw_below_drewN|apply below_drew1|refine below_set ?_ GE138.out)|exact HB.out)));(case aF=>exact (fun k_ hk=>Kd.fresh' (Kd.R_lt (by (with_reducible repeat (first|apply Kd.R_alloc|apply Kd.R_drewN|apply Kd.R_drew));exact HO148.out)) k_ hk));(case aO=>exact (by (with_reducible repeat (first|apply Kd.R_alloc|apply Kd.R_drewN|apply Kd.R_drew));exact Kd.R_mono HO_3.out (fun _ hk=>hk.2)));(case aS=>exact (below_size (by repeat (first|(with_reducible first|exact HB.out|apply below_alloc|apply pw_below_drewN|apply below_drew1|refine below_set ?_ GE138.out)|exact HB.out))));(case aL=>have:=LMc21.out;omega);intro v150 w24 ho hb hg hat;rw [← Ny149.out] at ho;have n0_:=Aside0.mk (blk_grown (g:=gb138) (o:=.cells #[.int .i64 a0_0,.int .i64 a0_1,.string a0_2,.slice (some ad145) l0_3.length c0_3,.slice A0_4 l0_4.length c0_4] 31 (0,0)) (by (with_reducible repeat (first|refine blk_drewN ?_ _|refine blk_drew ?_|refine blk_alloc ?_ _));exact BK138.out) hg (Kd.R_ne HO_3.out BK138.out (by decide)));have n1_:=Aside0.mk (Kd.R_after (ok:=(fun _=>True)) (by (with_reducible repeat (first|apply Kd.R_alloc|apply Kd.R_drewN|apply Kd.R_drew));exact HO148.out) hg hat);have n2_:=Aside0.mk (hb);have n3_:=Aside0.mk (ho);clear BK138;clear HO148;clear HB;clear HO_3;have BK138:=n0_;have HO148:=n1_;have HB:=n2_;have HO151:=n3_;clear n0_ n1_ n2_ n3_;clear ho hb hg hat))
       go_roundg k1
       case measure=>have:=HK1.out;omega
       case rel=>exact ⟨(y149),(wrap64 (x4_1 + 1)),(by first|rfl|(simp;done)|(simp [*];done)),H',⟨by have:=HK1.out;omega⟩,⟨by (with_reducible repeat (first|apply Kd.R_alloc|apply Kd.R_drewN|apply Kd.R_drew));exact Kd.R_mono HO151.out (fun _ hk=>trivial)⟩,⟨by (with_reducible repeat (first|refine blk_drewN ?_ _|refine blk_drew ?_|refine blk_alloc ?_ _));exact BK138.out⟩,⟨by repeat (first|(with_reducible first|exact HB.out|apply below_alloc|apply pw_below_drewN|apply below_drew1|refine below_set ?_ GE138.out)|exact HB.out)⟩⟩
      ·rw [if_neg c21] at H
       exact absurd H (by simp)
     ·rw [if_neg c19] at H
      exact absurd H (by simp)
    ·rw [if_neg c18] at H
     have c18b0:decide (x4_1 < (l0_3.length:Int)) = false:=decide_eq_false c18
     clear c18
     obtain rfl:=Option.some.inj H
     have hcz26_0:wr.cell? ⟨gb138,0,none⟩ = some (.int .i64 a0_0):=(blk_cell BK138.out 0).trans rfl
     have hcz26_1:wr.cell? ⟨gb138,1,none⟩ = some (.int .i64 a0_1):=(blk_cell BK138.out 1).trans rfl
     have hcz26_2:wr.cell? ⟨gb138,2,none⟩ = some (.string a0_2):=(blk_cell BK138.out 2).trans rfl
     have hcz26_3:wr.cell? ⟨gb138,3,none⟩ = some (.slice A0_3 l0_3.length c0_3):=(blk_cell BK138.out 3).trans rfl
     have hcz26_4:wr.cell? ⟨gb138,4,none⟩ = some (.slice A0_4 l0_4.length c0_4):=(blk_cell BK138.out 4).trans rfl
     have hfz26_0:=blk_frozen BK138.out 0
     have hfz26_1:=blk_frozen BK138.out 1
     have hfz26_2:=blk_frozen BK138.out 2
     have hfz26_3:=blk_frozen BK138.out 3
     have hfz26_4:=blk_frozen BK138.out 4
     go_wp2
     go_ret
     exact ⟨_,by first|rfl|(simp [*,errW_none,errW_some] <;> rfl),by (with_reducible repeat (first|apply Kd.R_alloc|apply Kd.R_drewN|apply Kd.R_drew));exact HO_3.out,by repeat (first|(with_reducible first|exact HB.out|apply below_alloc|apply pw_below_drewN|apply below_drew1|refine below_set ?_ GE138.out)|exact HB.out)⟩

end Go.Proofs.Ytjgegnkphkfmoaa.QFnExactExprOk
