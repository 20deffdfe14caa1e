/- What the law FnFree of this seat says holds for every input that its row speaks of; no further condition. -/
import Derived.Test.YtgcmmdfgfiflcaaQFnFreex17
import Derived.Lib.Strings
set_option linter.unusedVariables false
set_option linter.unusedSimpArgs false
namespace Go.Proofs.Ytgcmmdfgfiflcaa.Pure
open Go.RowKit Go.Proofs.Ytgcmmdfgfiflcaa.QFnFree Go.Proofs.YtgcmmdfgfiflcaaW.PrintWords Go.Proofs.YtgcmmdfgfiflcaaW.PrintLast Go.Proofs.YtgcmmdfgfiflcaaW.PrintMore

theorem ev_pos {α:Type} {c:Prop} [Decidable c] {A B:Nat → Option α} {r:α} (h:c) (e:Ev A r):Ev (fun k=>if c then A k else B k) r:=by
 obtain ⟨K,hK⟩:=e
 exact ⟨K,fun k hk=>by simp only [if_pos h];exact hK k hk⟩
theorem ev_neg {α:Type} {c:Prop} [Decidable c] {A B:Nat → Option α} {r:α} (h : ¬ c) (e:Ev B r):Ev (fun k=>if c then A k else B k) r:=by
 obtain ⟨K,hK⟩:=e
 exact ⟨K,fun k hk=>by simp only [if_neg h];exact hK k hk⟩
theorem ev_of {α:Type} {o:Option α} {r:α} (h:o = some r):Ev (fun _=>o) r:=⟨0,fun _ _=>h⟩
theorem ev_cast {α:Type} {g:Nat → Option α} {r r':α} (h:r = r') (e:Ev g r):Ev g r':=h ▸ e
theorem w64 (n:Int) (h0 : -9223372036854775808≤n) (h1:n≤9223372036854775807):wrap64 n = n:=by unfold wrap64;omega
theorem dec_and (p q:Prop) [Decidable p] [Decidable q]:decide (p∧q) = (decide p && decide q):=by
 by_cases hp:p <;> by_cases hq:q <;> simp [hp,hq]
theorem laws_big_eq (l:List Int):laws_big.f l = some (decide ((l.length:Int) > 1048576)):=rfl
theorem getDG {α:Type} (z:α) (l:List α) (i:Nat) (h:i < l.length):l.getD ((i:Int)).toNat z = l[i]:=by
 simp [List.getD_eq_getElem?_getD,List.getElem?_eq_getElem h]
def allFrom (p:Nat → Bool) (i d:Nat):Bool:=(List.range' i d).all p
theorem rdE (l:List S27) (i:Nat) (h:i < l.length):rd_T27 l (i:Int) = l[i]:=getDG _ l i h
theorem rdC (l:List S33) (i:Nat) (h:i < l.length):rd_T33 l (i:Int) = l[i]:=getDG _ l i h
theorem indE {P:S27 → Prop} (h:∀ a b s l m,(∀ y ∈ l,P y) → (∀ c:P33 S27,c ∈ m → P c.f0∧P c.f1) → P ⟨a,b,s,l,m⟩):∀ x,P x:=by
 intro x
 refine S27.rec (motive_1:=P) (motive_2:=fun l=>∀ y ∈ l,P y) (motive_3:=fun m=>∀ c ∈ m,P c.f0∧P c.f1) (motive_4:=fun c=>P c.f0∧P c.f1) ?_ ?_ ?_ ?_ ?_ ?_ x
 ·intro a b s l m hl hm
  exact h a b s l m hl hm
 ·intro y hy;cases hy
 ·intro x r hx hr y hy
  rcases List.mem_cons.1 hy with rfl|hy
  ·exact hx
  ·exact hr y hy
 ·intro y hy;cases hy
 ·intro x r hx hr y hy
  rcases List.mem_cons.1 hy with rfl|hy
  ·exact hx
  ·exact hr y hy
 ·intro p q hp hq
  exact ⟨hp,hq⟩
mutual
def budX:S27 → Nat
 | ⟨_,_,s,l,m⟩=>s.size + (l.length + budXL l) + (m.length + budXC m)
def budXL:List S27 → Nat
 | []=>0
 | x :: r=>budX x + budXL r
def budXc:P33 S27 → Nat
 | ⟨p,x⟩=>budX p + budX x
def budXC:List (P33 S27) → Nat
 | []=>0
 | x :: r=>budXc x + budXC r
end
theorem budXL_mem:∀ (l:List S27) (x:S27),x ∈ l → budX x≤budXL l
 | [],x,h=>by cases h
 | y :: r,x,h=>by
  rw [budXL]
  rcases List.mem_cons.1 h with rfl|h
  ·omega
  ·have:=budXL_mem r x h;omega
theorem budXC_mem:∀ (l:List (P33 S27)) (c:P33 S27),c ∈ l → budX c.f0 + budX c.f1≤budXC l
 | [],x,h=>by cases h
 | y :: r,x,h=>by
  rw [budXC]
  rcases List.mem_cons.1 h with rfl|h
  ·obtain ⟨p,q⟩:=x
   rw [budXc]
   show budX p + budX q≤_
   omega
  ·have:=budXC_mem r x h;omega
def lowB (c:Int):Bool:=decide (97≤c) && decide (c≤122)
def digB (c:Int):Bool:=decide (48≤c) && decide (c≤57)
def atomFrom (s:ByteArray) (i:Nat):Bool:=(List.range' i (s.size - i)).all fun j=>lowB (bt s j) || (!decide (j = 0) && (digB (bt s j) || decide (bt s j = 95)))
def atomOkM (s:ByteArray):Bool:=atomFrom s 0 && (decide (1≤(s.size:Int)) && decide ((s.size:Int)≤20))
theorem atomFrom_end (s:ByteArray) (i:Nat) (h:s.size≤i):atomFrom s i = true:=by
 unfold atomFrom
 rw [Nat.sub_eq_zero_of_le h];rfl
theorem atomFrom_step (s:ByteArray) (i:Nat) (h:i < s.size):atomFrom s i = ((lowB (bt s i) || (!decide (i = 0) && (digB (bt s i) || decide (bt s i = 95)))) && atomFrom s (i + 1)):=by
 unfold atomFrom
 obtain ⟨n,hn⟩:∃ n,s.size - i = n + 1:=⟨s.size - i - 1,by omega⟩
 rw [hn,show s.size - (i + 1) = n from by omega,List.range'_succ]
 simp [List.all_cons]
theorem wbt (s:ByteArray) (i:Int):wrap64 (bt s i) = bt s i:=by
 have:=bt_range s i
 exact w64 _ (by omega) (by omega)
theorem ev_and {c:Bool} {A:Nat → Option Bool} {r:Bool} (e:Ev A r):Ev (fun k=>if c = true then A k else some false) (c && r):=by
 cases c with
 | false=>exact ev_neg (by decide) (Ev.now _)
 | true=>exact ev_pos rfl e
theorem ev_andP {c:Prop} [Decidable c] {A:Nat → Option Bool} {r:Bool} (e:Ev A r):Ev (fun k=>if c then A k else some false) (decide c && r):=by
 by_cases h:c
 ·rw [decide_eq_true h];exact ev_pos h e
 ·rw [decide_eq_false h];exact ev_neg h (Ev.now _)
theorem ev_nand {c:Bool} {A:Nat → Option Bool} {r:Bool} (e:Ev A r):Ev (fun k=>if c = true then some false else A k) (!c && r):=by
 cases c with
 | false=>exact ev_neg (by decide) e
 | true=>exact ev_pos rfl (Ev.now _)
theorem len0B (n:Nat):((n:Int) == 0) = decide (n = 0):=by by_cases h:n = 0 <;> simp [h]
theorem len2B (n:Nat):((n:Int) == 2) = decide (n = 2):=by
 by_cases h:n = 2
 ·simp [h]
 ·rw [decide_eq_false h,beq_eq_false_iff_ne];omega
theorem len1B (n:Nat):((n:Int) == 1) = decide (n = 1):=by
 by_cases h:n = 1
 ·simp [h]
 ·rw [decide_eq_false h,beq_eq_false_iff_ne];omega
def resL (l:List UInt8):Bool:=decide (l = [99,97,115,101]) || (decide (l = [111,102]) || decide (l = [101,110,100]))
def xatomM (s:ByteArray):Bool:=atomOkM s && !(resL s.toList)
def opL (l:List UInt8):Bool:=decide (l = [43]) || (decide (l = [45]) || (decide (l = [42]) || (decide (l = [61,61]) || decide (l = [60]))))
def largeB (c:Int):Bool:=(decide (65≤c) && decide (c≤90)) || decide (c = 95)
def varP (s:ByteArray) (i:Nat):Bool:=largeB (bt s i) || (!decide (i = 0) && (lowB (bt s i) || digB (bt s i)))
def varQ (s:ByteArray) (i:Nat):Bool:=lowB (bt s i) || (largeB (bt s i) || digB (bt s i))
def in20 (s:ByteArray):Bool:=decide (1≤(s.size:Int)) && decide ((s.size:Int)≤20)
def varOkM (s:ByteArray):Bool:=allFrom (varP s) 0 s.size && in20 s
theorem allFrom_iff (p:Nat → Bool) (n:Nat):allFrom p 0 n = true ↔ ∀ i,i < n → p i = true:=by
 unfold allFrom
 rw [List.all_eq_true]
 constructor
 ·intro h i hi
  exact h i (by rw [List.mem_range'_1];omega)
 ·intro h i hi
  rw [List.mem_range'_1] at hi
  exact h i (by omega)
theorem varOk_same (s:ByteArray):(allFrom (varQ s) 0 s.size && (in20 s && largeB (bt s 0))) = varOkM s:=by
 unfold varOkM
 cases hn:in20 s with
 | false=>simp
 | true =>
  rw [Bool.true_and,Bool.and_true,Bool.eq_iff_iff,Bool.and_eq_true,allFrom_iff,allFrom_iff]
  unfold in20 at hn
  rw [Bool.and_eq_true,decide_eq_true_eq,decide_eq_true_eq] at hn
  constructor
  ·rintro ⟨h,h0⟩ i hi
   have:=h i hi
   unfold varQ at this
   unfold varP
   by_cases hz:i = 0
   ·subst hz
    rw [show ((0:Nat):Int) = 0 from rfl,h0];rfl
   ·rw [decide_eq_false hz]
    revert this
    cases lowB (bt s i) <;> cases largeB (bt s i) <;> cases digB (bt s i) <;> simp
  ·intro h
   refine ⟨fun i hi=>?_,?_⟩
   ·have:=h i hi
    unfold varP at this
    unfold varQ
    revert this
    cases lowB (bt s i) <;> cases largeB (bt s i) <;> cases digB (bt s i) <;> simp
   ·have:=h 0 (by omega)
    unfold varP at this
    simpa using this
theorem all_loopB (L:Nat → Int → Option Bool) (p:Nat → Bool) (n:Nat) (b:Bool)
  (hstep:∀ (i:Nat),i < n → ∀ r,(p i = true → Ev (fun k=>L k ((i + 1:Nat):Int)) r) → (p i = false → r = false) → Ev (fun k=>L k (i:Int)) r)
  (hend:Ev (fun k=>L k (n:Int)) b) (d:Nat):∀ i:Nat,i + d = n → Ev (fun k=>L k (i:Int)) (allFrom p i d && b):=by
 induction d with
 | zero =>
  intro i hi
  have e:i = n:=by omega
  subst e
  exact ev_cast (by unfold allFrom;simp) hend
 | succ d ih =>
  intro i hi
  refine hstep i (by omega) _ (fun hp=>?_) (fun hp=>?_)
  ·refine ev_cast ?_ (ih (i + 1) (by omega))
   unfold allFrom
   rw [List.range'_succ,List.all_cons,hp,Bool.true_and]
  ·unfold allFrom
   rw [List.range'_succ,List.all_cons,hp,Bool.false_and,Bool.false_and]
def noT (s:ByteArray):Bool:=decide (s.toList = ([]:List UInt8))
def shOk (a b:Int) (s:ByteArray) (n:Nat):Bool :=
 if a = 1 then (decide (0≤b) && decide (b≤1000000000000)) && (noT s && decide (n = 0))
 else decide (b = 0) && (
  if a = 2 then xatomM s && decide (n = 0)
  else if a = 3 then varOkM s && decide (n = 0)
  else if a = 4∨a = 5 then noT s && decide (n≤20)
  else if a = 6 then noT s && (decide (2≤n) && decide (n≤6))
  else if a = 7 then opL s.toList && decide (n = 2)
  else if a = 8 then xatomM s && decide (n≤4)
  else if a = 9 then noT s && decide (n = 1)
  else false)
/-- What of an expression is right by itself: of a pattern (pat), or of any. -/
def shapeX (a b:Int) (s:ByteArray) (n m:Nat) (pat:Bool):Bool :=
 if pat then decide (a≤6) && (decide (m = 0) && shOk a b s n)
 else (shOk a b s n && !(decide (a = 3) && decide (s.toList = ([95]:List UInt8)))) && (decide (a = 9 ↔ 0 < m) && decide (m≤6))
theorem sh_none {a b:Int} {s:ByteArray} {n:Nat} (h : ¬ (a = 1∨a = 2∨a = 3∨a = 4∨a = 5∨a = 6∨a = 7∨a = 8∨a = 9)):shOk a b s n = false:=by
 unfold shOk
 rw [if_neg (by omega),if_neg (by omega),if_neg (by omega),if_neg (by omega),if_neg (by omega),if_neg (by omega),if_neg (by omega),if_neg (by omega),Bool.and_false]
theorem dcast {p q:Prop} [Decidable p] [Decidable q] (h:p ↔ q):decide p = decide q:=decide_eq_decide.2 h
theorem sx1 (b:Int) (s:ByteArray) (n:Nat) (pat:Bool):shapeX 1 b s n 0 pat = ((decide (0≤b) && decide (b≤1000000000000)) && (noT s && decide (n = 0))):=by
 unfold shapeX shOk;cases pat <;> simp
theorem sx2 (s:ByteArray) (n:Nat) (pat:Bool):shapeX 2 0 s n 0 pat = (xatomM s && decide (n = 0)):=by
 unfold shapeX shOk;cases pat <;> simp
theorem sx3 (s:ByteArray) (n:Nat) (pat:Bool):shapeX 3 0 s n 0 pat = (varOkM s && (decide (n = 0) && (pat || !decide (s.toList = ([95]:List UInt8))))):=by
 unfold shapeX shOk;cases pat <;> simp [Bool.and_assoc]
theorem sx4 (a:Int) (h:a = 4∨a = 5) (s:ByteArray) (n:Nat) (pat:Bool):shapeX a 0 s n 0 pat = (noT s && decide (n≤20)):=by
 unfold shapeX shOk;rcases h with rfl|rfl <;> cases pat <;> simp
theorem sx6 (s:ByteArray) (n:Nat) (pat:Bool):shapeX 6 0 s n 0 pat = (noT s && (decide (2≤n) && decide (n≤6))):=by
 unfold shapeX shOk;cases pat <;> simp
theorem sx7 (s:ByteArray) (n:Nat) (pat:Bool):shapeX 7 0 s n 0 pat = (!pat && (opL s.toList && decide (n = 2))):=by
 unfold shapeX shOk;cases pat <;> simp
theorem sx8 (s:ByteArray) (n:Nat) (pat:Bool):shapeX 8 0 s n 0 pat = (!pat && (xatomM s && decide (n≤4))):=by
 unfold shapeX shOk;cases pat <;> simp
theorem sx9 (s:ByteArray) (n m:Nat) (pat:Bool):shapeX 9 0 s n m pat = (!pat && (noT s && (decide (n = 1) && (decide (1≤m) && decide (m≤6))))):=by
 unfold shapeX shOk
 cases pat with
 | true=>simp
 | false =>
  have e:decide ((9:Int) = 9 ↔ 0 < m) = decide (1≤m):=dcast (by omega)
  rw [if_neg (by decide),e]
  simp [Bool.and_assoc]
theorem sx0 {a b:Int} {s:ByteArray} {n m:Nat} {pat:Bool} (h : ¬ (a = 1∨a = 2∨a = 3∨a = 4∨a = 5∨a = 6∨a = 7∨a = 8∨a = 9)):shapeX a b s n m pat = false:=by
 unfold shapeX
 rw [sh_none h]
 cases pat <;> simp
/-- No text of a row twice. -/
def ND (l:List ByteArray):Prop:=(l.map ByteArray.toList).Nodup
instance (l:List ByteArray):Decidable (ND l):=inferInstanceAs (Decidable (List.Nodup _))
theorem rdS (l:List ByteArray) (i:Nat) (h:i < l.length):rdOf ByteArray.empty l (i:Int) = l[i]:=by
 unfold rdOf
 simp [List.getD_eq_getElem?_getD,List.getElem?_eq_getElem h]
def hasM (l:List ByteArray) (s:ByteArray):Bool:=decide (s.toList ∈ l.map ByteArray.toList)
theorem ND_app (l:List ByteArray) (s:ByteArray):ND (l ++ [s]) ↔ ND l∧¬ s.toList ∈ l.map ByteArray.toList:=by
 unfold ND
 rw [List.map_append,List.nodup_append]
 constructor
 ·intro h
  exact ⟨h.1,fun hm=>h.2.2 _ hm _ (by simp) rfl⟩
 ·intro h
  refine ⟨h.1,by simp,fun a ha b hb e=>?_⟩
  simp at hb
  subst hb
  exact h.2 (e ▸ ha)
theorem ND_left {l m:List ByteArray} (h:ND (l ++ m)):ND l:=by
 unfold ND at *
 rw [List.map_append] at h
 exact (List.nodup_append.1 h).1
theorem ND_nil:ND []:=by unfold ND;exact List.nodup_nil
theorem has_l (l:List ByteArray) (hl:(l.length:Int)≤8388608) (s:ByteArray) (d:Nat):∀ (i:Nat),i + d = l.length → Ev (fun k=>laws_has.l0 k l s i) (hasM (l.drop i) s):=by
 induction d with
 | zero =>
  intro i hi
  refine Ev.step (f:=fun _=>some false) (fun k=>?_) (ev_cast ?_ (Ev.now _))
  ·simp only [laws_has.l0];rw [if_neg (by omega)]
  ·rw [List.drop_eq_nil_of_le (by omega)];rfl
 | succ d ih =>
  intro i hi
  have hlt:i < l.length:=by omega
  refine Ev.step (f:=fun k=>(if l[i].toList = s.toList then (some true) else (laws_has.l0 k l s (wrap64 ((i:Int) + 1))))) (fun k=>?_) ?_
  ·simp only [laws_has.l0];rw [if_pos (by omega),if_pos (by omega),rdS l i hlt]
  ·rw [w64 _ (by omega) (by omega)]
   have hd:l.drop i = l[i] :: l.drop (i + 1):=List.drop_eq_getElem_cons hlt
   by_cases h:l[i].toList = s.toList
   ·refine ev_pos h (ev_cast ?_ (Ev.now _))
    unfold hasM
    refine (decide_eq_true ?_).symm
    rw [hd,List.map_cons,h]
    exact List.mem_cons_self
   ·refine ev_neg h (ev_cast ?_ (ih (i + 1) (by omega)))
    unfold hasM
    rw [hd,List.map_cons]
    refine dcast ?_
    rw [List.mem_cons]
    exact ⟨fun h3=>.inr h3,fun h3=>h3.elim (fun e=>absurd e.symm h) id⟩
theorem hk63 (n:Int) (h0:0≤n) (h1:n < 2 ^ 63):IntKind.i64.wrap n = n:=by
 rw [IntKind.wrap_i64];omega
def Cur (b:List Int) (i:Int):Prop:=0≤i∧i≤b.length∧(b.length:Int)≤1048576
theorem and255 (x:Int):0≤Go.bits .and .i64 x 255∧Go.bits .and .i64 x 255≤255:=by
 have h:Go.bits .and .i64 x 255 = IntKind.i64.wrap (((BitVec.ofInt 64 x) &&& (BitVec.ofInt 64 255)).toNat:Int):=rfl
 have h2:((BitVec.ofInt 64 x) &&& (BitVec.ofInt 64 255)).toNat≤255:=by
  rw [BitVec.toNat_and]
  exact Nat.and_le_right
 rw [h,hk63 _ (by omega) (by omega)]
 omega
theorem spec_l1New_l (l:List Int) (hl:(l.length:Int)≤1048576) (d:Nat):∀ (i:Nat) (h:Int),i + d = l.length → ∃ h2,Ev (fun k=>spec_l1New.l0 k l h i) (l,0,h2):=by
 induction d with
 | zero =>
  intro i h hi
  refine ⟨h,Ev.step (f:=fun _=>some (l,0,h)) (fun k=>?_) (Ev.now _)⟩
  simp only [spec_l1New.l0];rw [if_neg (by omega)]
 | succ d ih =>
  intro i h hi
  by_cases h4:(i:Int) < 4000
  ·obtain ⟨h2,e⟩:=ih (i + 1) (Go.bits .and .i64 (wrap64 ((wrap64 ((wrap64 (h * 137)) + (wrap64 (rd l i)))) + 11)) 1073741823) (by omega)
   refine ⟨h2,Ev.step (fun k=>?_) e⟩
   simp only [spec_l1New.l0];rw [if_pos (by omega),if_pos h4,if_pos (by omega),w64 ((i:Int) + 1) (by omega) (by omega)]
   rfl
  ·refine ⟨h,Ev.step (f:=fun _=>some (l,0,h)) (fun k=>?_) (Ev.now _)⟩
   simp only [spec_l1New.l0];rw [if_pos (by omega),if_neg h4]
theorem spec_l1New_ev (l:List Int) (hl:(l.length:Int)≤1048576):∃ h,Ev (fun k=>spec_l1New.f k l) (l,0,h):=spec_l1New_l l hl l.length 0 _ (by omega)
theorem etaX5 (x:S27):(⟨x.f0,x.f1,x.f2,x.f3,x.f4⟩:S27) = x:=by cases x;rfl
theorem bud5 (a b:Int) (s:ByteArray) (l:List S27) (m:List (P33 S27)):budX ⟨a,b,s,l,m⟩ = s.size + (l.length + budXL l) + (m.length + budXC m):=by rw [budX]
theorem spec_l1Byte_eq (b:List Int) (i h:Int) (hc:Cur b i):∃ v i2 h2,spec_l1Byte.f b i h = some (v,i2,h2)∧0≤v∧v≤255∧Cur b i2:=by
 unfold spec_l1Byte.f
 obtain ⟨h0,h1,h2⟩:=hc
 by_cases hi:i < (b.length:Int)
 ·rw [if_pos hi,if_pos h0,w64 (i + 1) (by omega) (by omega)]
  exact ⟨_,_,_,rfl,(and255 _).1,(and255 _).2,by omega,by omega,h2⟩
 ·rw [if_neg hi]
  exact ⟨_,_,_,rfl,(and255 _).1,(and255 _).2,h0,h1,h2⟩
theorem spec_l1Below_eq (b:List Int) (i h n:Int) (hc:Cur b i):∃ v i2 h2,spec_l1Below.f b i h n = some (v,i2,h2)∧0≤v∧(0 < n → v < n)∧(n≤0 → v = 0)∧Cur b i2:=by
 unfold spec_l1Below.f
 by_cases h0:n≤0
 ·rw [if_pos h0]
  exact ⟨0,i,h,rfl,by omega,by omega,fun _=>rfl,hc⟩
 rw [if_neg h0]
 by_cases h1:n≤256
 ·rw [if_pos h1]
  obtain ⟨v,i2,h2,e,v0,v1,c2⟩:=spec_l1Byte_eq b i h hc
  rw [e]
  simp only [Option.bind_some]
  rw [if_neg (by omega)]
  refine ⟨_,_,_,rfl,?_,fun _=>?_,by omega,c2⟩
  ·rw [Int.tmod_eq_emod_of_nonneg v0];exact Int.emod_nonneg _ (by omega)
  ·rw [Int.tmod_eq_emod_of_nonneg v0];exact Int.emod_lt_of_pos _ (by omega)
 ·rw [if_neg h1]
  obtain ⟨x,i2,h2,e,x0,x1,c2⟩:=spec_l1Byte_eq b i h hc
  rw [e]
  simp only [Option.bind_some]
  obtain ⟨y,i3,h3,e3,y0,y1,c3⟩:=spec_l1Byte_eq b i2 h2 c2
  rw [e3]
  simp only [Option.bind_some]
  obtain ⟨z,i4,h4,e4,z0,z1,c4⟩:=spec_l1Byte_eq b i3 h3 c3
  rw [e4]
  simp only [Option.bind_some]
  rw [if_neg (by omega),w64 (x * 65536) (by omega) (by omega),w64 (y * 256) (by omega) (by omega),w64 (x * 65536 + y * 256) (by omega) (by omega),w64 (x * 65536 + y * 256 + z) (by omega) (by omega)]
  refine ⟨_,_,_,rfl,?_,fun _=>?_,by omega,c4⟩
  ·rw [Int.tmod_eq_emod_of_nonneg (by omega)];exact Int.emod_nonneg _ (by omega)
  ·rw [Int.tmod_eq_emod_of_nonneg (by omega)];exact Int.emod_lt_of_pos _ (by omega)
theorem spec_l1Str_eq (b:List Int) (i h:Int) (l:List ByteArray) (hl:0 < l.length) (hc:Cur b i):∃ v i2 h2,spec_l1Str.f b i h l = some (v,i2,h2)∧v ∈ l∧Cur b i2:=by
 unfold spec_l1Str.f
 obtain ⟨v,i2,h2,e,v0,v1,_,c2⟩:=spec_l1Below_eq b i h l.length hc
 rw [e]
 simp only [Option.bind_some]
 have v2:=v1 (by omega)
 rw [if_pos v0,if_pos v2]
 refine ⟨_,_,_,rfl,?_,c2⟩
 unfold rdOf
 have hv:v.toNat < l.length:=by omega
 simp [List.getD_eq_getElem?_getD,List.getElem?_eq_getElem hv]
theorem spec_l1Int_eq (b:List Int) (i h:Int) (l:List Int) (hl:0 < l.length) (hc:Cur b i):∃ v i2 h2,spec_l1Int.f b i h l = some (v,i2,h2)∧v ∈ l∧Cur b i2:=by
 unfold spec_l1Int.f
 obtain ⟨v,i2,h2,e,v0,v1,_,c2⟩:=spec_l1Below_eq b i h l.length hc
 rw [e]
 simp only [Option.bind_some]
 have v2:=v1 (by omega)
 rw [if_pos v0,if_pos v2]
 refine ⟨_,_,_,rfl,?_,c2⟩
 unfold rd
 have hv:v.toNat < l.length:=by omega
 simp [List.getD_eq_getElem?_getD,List.getElem?_eq_getElem hv]
theorem spec_l4Has_l (l:List ByteArray) (hl:(l.length:Int)≤8388608) (s:ByteArray) (d:Nat):∀ (i:Nat),i + d = l.length → Ev (fun k=>spec_l4Has.l0 k l s i) (hasM (l.drop i) s):=by
 induction d with
 | zero =>
  intro i hi
  refine Ev.step (f:=fun _=>some false) (fun k=>?_) (ev_cast ?_ (Ev.now _))
  ·simp only [spec_l4Has.l0];rw [if_neg (by omega)]
  ·rw [List.drop_eq_nil_of_le (by omega)];rfl
 | succ d ih =>
  intro i hi
  have hlt:i < l.length:=by omega
  refine Ev.step (f:=fun k=>(if l[i].toList = s.toList then (some true) else (spec_l4Has.l0 k l s (wrap64 ((i:Int) + 1))))) (fun k=>?_) ?_
  ·simp only [spec_l4Has.l0];rw [if_pos (by omega),if_pos (by omega),rdS l i hlt]
  ·rw [w64 _ (by omega) (by omega)]
   have hd:l.drop i = l[i] :: l.drop (i + 1):=List.drop_eq_getElem_cons hlt
   by_cases h:l[i].toList = s.toList
   ·refine ev_pos h (ev_cast ?_ (Ev.now _))
    unfold hasM
    refine (decide_eq_true ?_).symm
    rw [hd,List.map_cons,h]
    exact List.mem_cons_self
   ·refine ev_neg h (ev_cast ?_ (ih (i + 1) (by omega)))
    unfold hasM
    rw [hd,List.map_cons]
    refine dcast ?_
    rw [List.mem_cons]
    exact ⟨fun h3=>.inr h3,fun h3=>h3.elim (fun e=>absurd e.symm h) id⟩
theorem spec_l4Has_ev (l:List ByteArray) (hl:(l.length:Int)≤8388608) (s:ByteArray):Ev (fun k=>spec_l4Has.f k l s) (hasM l s):=by
 unfold spec_l4Has.f
 exact spec_l4Has_l l hl s l.length 0 (by omega)
def NOK (l:List ByteArray):Prop:=∀ s ∈ l,s.size≤8
def LB:Nat → Nat
 | 0=>4
 | n + 1=>2 + 2 * (16 + LB n)
def LC:Nat → Nat
 | 0=>0
 | n + 1=>2 * (1 + LC n)
theorem budXL_app:∀ (l r:List S27),budXL (l ++ r) = budXL l + budXL r
 | [],r=>by rw [List.nil_append,budXL];omega
 | x :: l,r=>by rw [List.cons_append,budXL,budXL,budXL_app l r];omega
theorem budXL_one (x:S27):budXL [x] = budX x:=by rw [budXL,budXL];rfl
theorem budXC_app:∀ (l r:List (P33 S27)),budXC (l ++ r) = budXC l + budXC r
 | [],r=>by rw [List.nil_append,budXC];omega
 | x :: l,r=>by rw [List.cons_append,budXC,budXC,budXC_app l r];omega
theorem budXC_one (p x:S27):budXC [(⟨p,x⟩:P33 S27)] = budX p + budX x:=by rw [budXC,budXC,budXc];rfl
def PatSpec (n:Nat):Prop:=∀ (b:List Int) (i h:Int) (names:List ByteArray),Cur b i → NOK names → names.length + (1 + LC n)≤1000000 →
 ∃ (x:S27) (names':List ByteArray) (i2 h2:Int),Ev (fun k=>spec_l4Pat.f k b i h (n:Int) names) (x.f0,x.f1,x.f2,x.f3,x.f4,names',i2,h2)∧budX x≤16 + LB n∧names'.length≤names.length + (1 + LC n)∧NOK names'∧Cur b i2
def ListSpec (n:Nat):Prop:=∀ (m:Nat) (b:List Int) (i h:Int) (names:List ByteArray) (t:Int),m≤2 → Cur b i → NOK names → names.length + LC n≤1000000 →
 ∃ (l:List S27) (names':List ByteArray) (i2 h2:Int),Ev (fun k=>spec_l4Pat.l0 k (n:Int) (m:Int) 0 b i h t 0 (⟨#[]⟩:ByteArray) [] names) (t,0,(⟨#[]⟩:ByteArray),l,[],names',i2,h2)∧l.length + budXL l≤LB n∧names'.length≤names.length + LC n∧NOK names'∧Cur b i2
theorem strs_ok {l:List ByteArray} {s:ByteArray} (h:s ∈ l) (hl:∀ s ∈ l,s.size≤8):s.size≤8:=hl s h
theorem pat_step (n:Nat) (hn:(n:Int)≤100) (HL:ListSpec n):PatSpec n:=by
 intro b i h names hc hN hlen
 obtain ⟨v,i1,h1,e1,_,_,_,c1⟩:=spec_l1Below_eq b i h 8 hc
 have J0:∀ q:Bool,∃ (x:S27) (names':List ByteArray) (i2 h2:Int),Ev (fun k=>spec_l4Pat.j0 k (n:Int) q b i1 h1 names) (x.f0,x.f1,x.f2,x.f3,x.f4,names',i2,h2)∧budX x≤16 + LB n∧names'.length≤names.length + (1 + LC n)∧NOK names'∧Cur b i2:=by
  intro q
  cases q with
  | false =>
   obtain ⟨t,i2,h2,e2,_,c2⟩:=spec_l1Int_eq b i1 h1 [4,5,6] (by decide) c1
   obtain ⟨m,i3,h3,e3,m0,m1,_,c3⟩:=spec_l1Below_eq b i2 h2 3 c2
   have m1:=m1 (by decide)
   have key:∀ (m':Nat),m'≤2 → ∃ (x:S27) (names':List ByteArray) (i2 h2:Int),Ev (fun k=>spec_l4Pat.j1 k (n:Int) (m':Int) b i3 h3 t 0 (⟨#[]⟩:ByteArray) names) (x.f0,x.f1,x.f2,x.f3,x.f4,names',i2,h2)∧budX x≤16 + LB n∧names'.length≤names.length + (1 + LC n)∧NOK names'∧Cur b i2:=by
    intro m' hm
    obtain ⟨l,names',i4,h4,e4,hl,hn',hN',c4⟩:=HL m' b i3 h3 names t hm c3 hN (by omega)
    refine ⟨⟨t,0,⟨#[]⟩,l,[]⟩,names',i4,h4,Ev.step (f:=fun k=>spec_l4Pat.l0 k (n:Int) (m':Int) 0 b i3 h3 t 0 (⟨#[]⟩:ByteArray) [] names) (fun k=>by first|(simp only [spec_l4Pat.j1];done)|(simp only [spec_l4Pat.j1];rfl)) e4,?_,by omega,hN',c4⟩
    rw [bud5,budXC]
    show 0 + _ + (0 + 0)≤_
    omega
   by_cases h6:t = 6
   ·obtain ⟨x,nm,i4,h4,e4,r⟩:=key 2 (by omega)
    refine ⟨x,nm,i4,h4,Ev.step (fun k=>?_) e4,r⟩
    simp only [spec_l4Pat.j0]
    rw [if_neg (by decide),e2]
    simp only [Option.bind_some]
    rw [e3]
    simp only [Option.bind_some]
    rw [if_pos h6]
    rfl
   ·obtain ⟨x,nm,i4,h4,e4,r⟩:=key m.toNat (by omega)
    rw [Int.toNat_of_nonneg m0] at e4
    refine ⟨x,nm,i4,h4,Ev.step (fun k=>?_) e4,r⟩
    simp only [spec_l4Pat.j0]
    rw [if_neg (by decide),e2]
    simp only [Option.bind_some]
    rw [e3]
    simp only [Option.bind_some]
    rw [if_neg h6]
  | true =>
   obtain ⟨s,i2,h2,e2,hs,c2⟩:=spec_l1Str_eq b i1 h1 [(⟨#[65]⟩:ByteArray),(⟨#[66]⟩:ByteArray),(⟨#[67]⟩:ByteArray),(⟨#[68]⟩:ByteArray),(⟨#[72]⟩:ByteArray),(⟨#[84]⟩:ByteArray)] (by decide) c1
   have hs8:s.size≤8:=strs_ok hs (by decide)
   have eh:=spec_l4Has_ev names (by omega) s
   by_cases hm:hasM names s = true
   ·refine ⟨⟨3,0,⟨#[95]⟩,[],[]⟩,names,i2,h2,Ev.step (f:=fun k=>(spec_l4Has.f k names s).bind fun t284=>(if t284 = true then (some (3,0,(⟨#[95]⟩:ByteArray),([]:List S27),([]:List (P33 S27)),names,i2,h2)) else (if names.length < 8796093022208 then (some (3,0,s,([]:List S27),([]:List (P33 S27)),(names ++ [s]),i2,h2)) else (none)))) (fun k=>?_) (Ev.bind eh (ev_pos hm (Ev.now _))),?_,by omega,hN,c2⟩
    ·simp only [spec_l4Pat.j0]
     rw [if_pos trivial,e2]
     rfl
    ·rw [bud5,budXL,budXC]
     show 1 + (0 + 0) + (0 + 0)≤_
     omega
   ·refine ⟨⟨3,0,s,[],[]⟩,names ++ [s],i2,h2,Ev.step (f:=fun k=>(spec_l4Has.f k names s).bind fun t284=>(if t284 = true then (some (3,0,(⟨#[95]⟩:ByteArray),([]:List S27),([]:List (P33 S27)),names,i2,h2)) else (if names.length < 8796093022208 then (some (3,0,s,([]:List S27),([]:List (P33 S27)),(names ++ [s]),i2,h2)) else (none)))) (fun k=>?_) (Ev.bind eh (ev_neg hm (ev_pos (by omega) (Ev.now _)))),?_,by simp only [List.length_append,List.length_singleton];omega,?_,c2⟩
    ·simp only [spec_l4Pat.j0]
     rw [if_pos trivial,e2]
     rfl
    ·rw [bud5,budXL,budXC]
     show s.size + (0 + 0) + (0 + 0)≤_
     omega
    ·intro y hy
     rcases List.mem_append.1 hy with hy|hy
     ·exact hN y hy
     ·rw [List.mem_singleton.1 hy];exact hs8
 have F:∀ {f:Nat → Option (Int × Int × ByteArray × (List S27) × (List (P33 S27)) × List ByteArray × Int × Int)} {r},(∀ k,spec_l4Pat.f (k + 1) b i h (n:Int) names = f k) → Ev f r → Ev (fun k=>spec_l4Pat.f k b i h (n:Int) names) r:=fun hf e=>Ev.step hf e
 by_cases v0:v = 0
 ·obtain ⟨u,i2,h2,e2,u0,u1,_,c2⟩:=spec_l1Below_eq b i1 h1 3 c1
  refine ⟨⟨1,u,⟨#[]⟩,[],[]⟩,names,i2,h2,F (f:=fun _=>some (1,u,(⟨#[]⟩:ByteArray),[],[],names,i2,h2)) (fun k=>?_) (Ev.now _),?_,by omega,hN,c2⟩
  ·simp only [spec_l4Pat.f]
   rw [e1]
   simp only [Option.bind_some]
   rw [if_pos v0,e2]
   rfl
  ·rw [bud5,budXL,budXC]
   show 0 + (0 + 0) + (0 + 0)≤_
   omega
 by_cases v1:v = 1
 ·obtain ⟨s,i2,h2,e2,hs,c2⟩:=spec_l1Str_eq b i1 h1 [(⟨#[111,107]⟩:ByteArray),(⟨#[97]⟩:ByteArray),(⟨#[115,116,111,112]⟩:ByteArray)] (by decide) c1
  have hs8:s.size≤8:=strs_ok hs (by decide)
  refine ⟨⟨2,0,s,[],[]⟩,names,i2,h2,F (f:=fun _=>some (2,0,s,[],[],names,i2,h2)) (fun k=>?_) (Ev.now _),?_,by omega,hN,c2⟩
  ·simp only [spec_l4Pat.f]
   rw [e1]
   simp only [Option.bind_some]
   rw [if_neg v0,if_pos v1,e2]
   rfl
  ·rw [bud5,budXL,budXC]
   show s.size + (0 + 0) + (0 + 0)≤_
   omega
 by_cases v2:v = 2
 ·refine ⟨⟨3,0,⟨#[95]⟩,[],[]⟩,names,i1,h1,F (f:=fun _=>some (3,0,(⟨#[95]⟩:ByteArray),[],[],names,i1,h1)) (fun k=>?_) (Ev.now _),?_,by omega,hN,c1⟩
  ·simp only [spec_l4Pat.f]
   rw [e1]
   simp only [Option.bind_some]
   rw [if_neg v0,if_neg v1,if_pos v2]
  ·rw [bud5,budXL,budXC]
   show 1 + (0 + 0) + (0 + 0)≤_
   omega
 by_cases v3:v = 3
 ·obtain ⟨x,nm,i4,h4,e4,r⟩:=J0 (v == 3)
  refine ⟨x,nm,i4,h4,F (fun k=>?_) e4,r⟩
  simp only [spec_l4Pat.f]
  rw [e1]
  simp only [Option.bind_some]
  rw [if_neg v0,if_neg v1,if_neg v2,if_pos v3]
 by_cases v4:v = 4
 ·obtain ⟨x,nm,i4,h4,e4,r⟩:=J0 (v == 4)
  refine ⟨x,nm,i4,h4,F (fun k=>?_) e4,r⟩
  simp only [spec_l4Pat.f]
  rw [e1]
  simp only [Option.bind_some]
  rw [if_neg v0,if_neg v1,if_neg v2,if_neg v3,if_pos v4]
 ·obtain ⟨x,nm,i4,h4,e4,r⟩:=J0 (v == 5)
  refine ⟨x,nm,i4,h4,F (fun k=>?_) e4,r⟩
  simp only [spec_l4Pat.f]
  rw [e1]
  simp only [Option.bind_some]
  rw [if_neg v0,if_neg v1,if_neg v2,if_neg v3,if_neg v4]
theorem pat_loop0 (b:List Int) (i h:Int) (names:List ByteArray) (t:Int) (m d:Nat):∀ (q:Nat) (acc:List S27),q + d = m → m≤2 → acc.length = q → budXL acc≤acc.length →
  ∃ l:List S27,Ev (fun k=>spec_l4Pat.l0 k 0 (m:Int) (q:Int) b i h t 0 (⟨#[]⟩:ByteArray) acc names) (t,0,(⟨#[]⟩:ByteArray),l,[],names,i,h)∧l.length + budXL l≤4:=by
 induction d with
 | zero =>
  intro q acc hq hm ha hb
  refine ⟨acc,Ev.step (f:=fun _=>some (t,0,(⟨#[]⟩:ByteArray),acc,[],names,i,h)) (fun k=>?_) (Ev.now _),by omega⟩
  simp only [spec_l4Pat.l0];rw [if_neg (by omega)]
 | succ d ih =>
  intro q acc hq hm ha hb
  obtain ⟨l,e,r⟩:=ih (q + 1) (acc ++ [(⟨3,0,⟨#[95]⟩,[],[]⟩:S27)]) (by omega) hm (by rw [List.length_append];simp;omega) (by
   rw [budXL_app,budXL_one,bud5,budXL,budXC,List.length_append]
   show budXL acc + (1 + (0 + 0) + (0 + 0))≤acc.length + 1
   omega)
  refine ⟨l,Ev.step (fun k=>?_) e,r⟩
  simp only [spec_l4Pat.l0];rw [if_pos (by omega),if_neg (by decide),if_pos (by omega),w64 _ (by omega) (by omega)]
  rfl
theorem pat_loopS (n:Nat) (hn:(n:Int)≤100) (IH:PatSpec n) (t:Int) (m:Nat) (d:Nat):∀ (q:Nat) (b:List Int) (i h:Int) (names:List ByteArray) (acc:List S27),q + d = m → m≤2 → acc.length = q → Cur b i → NOK names → names.length + d * (1 + LC n)≤1000000 →
  ∃ (l:List S27) (names':List ByteArray) (i2 h2:Int),Ev (fun k=>spec_l4Pat.l0 k ((n + 1:Nat):Int) (m:Int) (q:Int) b i h t 0 (⟨#[]⟩:ByteArray) acc names) (t,0,(⟨#[]⟩:ByteArray),l,[],names',i2,h2)∧l.length = m∧budXL l≤budXL acc + d * (16 + LB n)∧names'.length≤names.length + d * (1 + LC n)∧NOK names'∧Cur b i2:=by
 induction d with
 | zero =>
  intro q b i h names acc hq hm ha hc hN hl
  refine ⟨acc,names,i,h,Ev.step (f:=fun _=>some (t,0,(⟨#[]⟩:ByteArray),acc,[],names,i,h)) (fun k=>?_) (Ev.now _),by omega,by omega,by omega,hN,hc⟩
  simp only [spec_l4Pat.l0];rw [if_neg (by omega)]
 | succ d ih =>
  intro q b i h names acc hq hm ha hc hN hl
  rw [Nat.succ_mul] at hl
  obtain ⟨x,nm,i1,h1,e1,hx,hnm,hN1,c1⟩:=IH b i h names hc hN (by omega)
  obtain ⟨l,nm2,i2,h2,e2,hl2,hb2,hn2,hN2,c2⟩:=ih (q + 1) b i1 h1 nm (acc ++ [x]) (by omega) hm (by rw [List.length_append];simp;omega) c1 hN1 (by omega)
  refine ⟨l,nm2,i2,h2,Ev.step (f:=fun k=>(spec_l4Pat.f k b i h (n:Int) names).bind fun bt298=>(if acc.length < 1759218604441 then (spec_l4Pat.l0 k ((n + 1:Nat):Int) (m:Int) (wrap64 ((q:Int) + 1)) b bt298.2.2.2.2.2.2.1 bt298.2.2.2.2.2.2.2 t 0 (⟨#[]⟩:ByteArray) (acc ++ [(⟨bt298.1,bt298.2.1,bt298.2.2.1,bt298.2.2.2.1,bt298.2.2.2.2.1⟩:S27)]) bt298.2.2.2.2.2.1) else none)) (fun k=>?_) (Ev.bind e1 (ev_pos (by omega) ?_)),hl2,?_,?_,hN2,c2⟩
  ·simp only [spec_l4Pat.l0];rw [if_pos (by omega),if_pos (by omega),w64 (((n + 1:Nat):Int) - 1) (by omega) (by omega)]
   have en:((n + 1:Nat):Int) - 1 = (n:Int):=by omega
   rw [en]
  ·rw [w64 _ (by omega) (by omega)]
   simp only [etaX5]
   exact e2
  ·rw [budXL_app,budXL_one] at hb2
   rw [Nat.succ_mul];omega
  ·rw [Nat.succ_mul];omega
theorem pat_all:∀ n:Nat,(n:Int)≤100 → PatSpec n
 | 0,hn=>pat_step 0 hn (fun m b i h names t hm hc hN hl=>by
   obtain ⟨l,e,r⟩:=pat_loop0 b i h names t m m 0 [] (by omega) hm rfl (by rw [budXL];simp)
   exact ⟨l,names,i,h,e,r,by omega,hN,hc⟩)
 | n + 1,hn=>pat_step (n + 1) hn (fun m b i h names t hm hc hN hl=>by
   have ih:=pat_all n (by omega)
   rw [LC] at hl
   have hmul:m * (1 + LC n)≤2 * (1 + LC n):=Nat.mul_le_mul_right _ hm
   have hmul2:m * (16 + LB n)≤2 * (16 + LB n):=Nat.mul_le_mul_right _ hm
   obtain ⟨l,nm,i2,h2,e,hl2,hb,hn2,hN2,c2⟩:=pat_loopS n (by omega) ih t m m 0 b i h names [] (by omega) hm rfl hc hN (by omega)
   rw [budXL] at hb
   exact ⟨l,nm,i2,h2,e,by rw [LB];omega,by rw [LC];omega,hN2,c2⟩)
theorem spec_l1Once_eq (b:List Int) (i h n:Int) (hc:Cur b i):∃ v i2 h2,spec_l1Once.f b i h n = some (v,i2,h2)∧Cur b i2:=by
 unfold spec_l1Once.f
 obtain ⟨v,i2,h2,e,_,_,_,c2⟩:=spec_l1Below_eq b i h n hc
 rw [e]
 exact ⟨_,_,_,rfl,c2⟩
def BD:Nat → Nat
 | 0=>10
 | n + 1=>200 + 5 * BD n
def R7 (x:S27) (i h:Int):Int × Int × ByteArray × (List S27) × (List (P33 S27)) × Int × Int:=(x.f0,x.f1,x.f2,x.f3,x.f4,i,h)
def DrawSpec (n:Nat):Prop:=∀ (b:List Int) (i h:Int) (names:List ByteArray),Cur b i → NOK names → names.length + 3 * n≤900000 →
 ∃ (x:S27) (i2 h2:Int),Ev (fun k=>spec_l4Draw.f k b i h (n:Int) names) (R7 x i2 h2)∧budX x≤BD n∧Cur b i2
theorem draw_j1t (a1 x23:Int) (b:List Int) (i h:Int) (names:List ByteArray) (hc:Cur b i) (hN:NOK names) (hl:names.length≤900000) :
  ∃ (x:S27) (i2 h2:Int),Ev (fun k=>spec_l4Draw.j1 k a1 names x23 true b i h) (R7 x i2 h2)∧budX x≤10∧Cur b i2:=by
 by_cases hp:(names.length:Int) > 0
 ·obtain ⟨v,i2,h2,e2,v0,v1,_,c2⟩:=spec_l1Below_eq b i h names.length hc
  have v1:=v1 (by omega)
  have hv:v.toNat < names.length:=by omega
  have hm:(rdOf ByteArray.empty names v) ∈ names:=by
   unfold rdOf
   simp [List.getD_eq_getElem?_getD,List.getElem?_eq_getElem hv]
  refine ⟨⟨3,0,rdOf ByteArray.empty names v,[],[]⟩,i2,h2,Ev.step (f:=fun _=>some (R7 ⟨3,0,rdOf ByteArray.empty names v,[],[]⟩ i2 h2)) (fun k=>?_) (Ev.now _),?_,c2⟩
  ·simp only [spec_l4Draw.j1]
   rw [if_pos trivial,if_pos hp,e2]
   simp only [Option.bind_some]
   rw [if_pos v0,if_pos v1]
   rfl
  ·have:=hN _ hm
   rw [bud5,budXL,budXC]
   show _ + (0 + 0) + (0 + 0)≤10
   omega
 ·obtain ⟨v,i2,h2,e2,_,_,_,c2⟩:=spec_l1Below_eq b i h 4 hc
  refine ⟨⟨1,v,⟨#[]⟩,[],[]⟩,i2,h2,Ev.step (f:=fun _=>some (R7 ⟨1,v,⟨#[]⟩,[],[]⟩ i2 h2)) (fun k=>?_) (Ev.now _),?_,c2⟩
  ·simp only [spec_l4Draw.j1]
   rw [if_pos trivial,if_neg hp,e2]
   rfl
  ·rw [bud5,budXL,budXC]
   show 0 + (0 + 0) + (0 + 0)≤10
   omega
theorem draw_j0 (a1:Int) (b:List Int) (i h:Int) (names:List ByteArray) (hc:Cur b i) (hN:NOK names) (hl:names.length≤900000) (x7:Int) (B:Nat) (hB:10≤B)
  (big:4 < x7 → ∃ (x:S27) (i2 h2:Int),Ev (fun k=>spec_l4Draw.j1 k a1 names x7 false b i h) (R7 x i2 h2)∧budX x≤B∧Cur b i2) (hx:0≤x7) :
  ∃ (x:S27) (i2 h2:Int),Ev (fun k=>spec_l4Draw.j0 k a1 names x7 b i h) (R7 x i2 h2)∧budX x≤B∧Cur b i2:=by
 by_cases h0:x7 = 0
 ·obtain ⟨v,i2,h2,e2,_,c2⟩:=spec_l1Int_eq b i h [0,1,2,5,40] (by decide) hc
  refine ⟨⟨1,v,⟨#[]⟩,[],[]⟩,i2,h2,Ev.step (f:=fun _=>some (R7 ⟨1,v,⟨#[]⟩,[],[]⟩ i2 h2)) (fun k=>?_) (Ev.now _),?_,c2⟩
  ·simp only [spec_l4Draw.j0]
   rw [if_pos h0,e2]
   rfl
  ·rw [bud5,budXL,budXC]
   show 0 + (0 + 0) + (0 + 0)≤_
   omega
 by_cases h1:x7 = 1
 ·obtain ⟨s,i2,h2,e2,hs,c2⟩:=spec_l1Str_eq b i h [(⟨#[111,107]⟩:ByteArray),(⟨#[97]⟩:ByteArray),(⟨#[115,116,111,112]⟩:ByteArray),(⟨#[116,114,117,101]⟩:ByteArray)] (by decide) hc
  have hs8:s.size≤8:=strs_ok hs (by decide)
  refine ⟨⟨2,0,s,[],[]⟩,i2,h2,Ev.step (f:=fun _=>some (R7 ⟨2,0,s,[],[]⟩ i2 h2)) (fun k=>?_) (Ev.now _),?_,c2⟩
  ·simp only [spec_l4Draw.j0]
   rw [if_neg h0,if_pos h1,e2]
   rfl
  ·rw [bud5,budXL,budXC]
   show s.size + (0 + 0) + (0 + 0)≤_
   omega
 have T:=fun x23=>draw_j1t a1 x23 b i h names hc hN hl
 by_cases h2:x7 = 2
 ·obtain ⟨x,i2,h2',e,hx2,c2⟩:=T x7
  refine ⟨x,i2,h2',Ev.step (f:=fun k=>spec_l4Draw.j1 k a1 names x7 true b i h) (fun k=>?_) e,by omega,c2⟩
  simp only [spec_l4Draw.j0]
  rw [if_neg h0,if_neg h1,if_pos h2,h2]
  rfl
 by_cases h3:x7 = 3
 ·obtain ⟨x,i2,h2',e,hx2,c2⟩:=T x7
  refine ⟨x,i2,h2',Ev.step (f:=fun k=>spec_l4Draw.j1 k a1 names x7 true b i h) (fun k=>?_) e,by omega,c2⟩
  simp only [spec_l4Draw.j0]
  rw [if_neg h0,if_neg h1,if_neg h2,if_pos h3,h3]
  rfl
 by_cases h4:x7 = 4
 ·obtain ⟨x,i2,h2',e,hx2,c2⟩:=T x7
  refine ⟨x,i2,h2',Ev.step (f:=fun k=>spec_l4Draw.j1 k a1 names x7 true b i h) (fun k=>?_) e,by omega,c2⟩
  simp only [spec_l4Draw.j0]
  rw [if_neg h0,if_neg h1,if_neg h2,if_neg h3,h4]
  rfl
 ·obtain ⟨x,i2,h2',e,hx2,c2⟩:=big (by omega)
  refine ⟨x,i2,h2',Ev.step (f:=fun k=>spec_l4Draw.j1 k a1 names x7 false b i h) (fun k=>?_) e,hx2,c2⟩
  simp only [spec_l4Draw.j0]
  rw [if_neg h0,if_neg h1,if_neg h2,if_neg h3]
  have:(x7 == 4) = false:=by simpa using h4
  rw [this]
theorem draw_l0 (n:Nat) (hn:(n:Int)≤100) (IH:DrawSpec n) (b:List Int) (names:List ByteArray) (hN:NOK names) (hl:names.length + 3 * n≤900000) (t:Int) (d:Nat):∀ (i h:Int) (acc:List S27),acc.length + d≤10 → Cur b i →
  ∃ (l:List S27) (i2 h2:Int),Ev (fun k=>spec_l4Draw.l0 k ((n + 1:Nat):Int) names (d:Int) b i h t 0 (⟨#[]⟩:ByteArray) acc) (t,0,(⟨#[]⟩:ByteArray),l,[],i2,h2)∧l.length = acc.length + d∧budXL l≤budXL acc + d * BD n∧Cur b i2:=by
 induction d with
 | zero =>
  intro i h acc ha hc
  refine ⟨acc,i,h,Ev.step (f:=fun _=>some (t,0,(⟨#[]⟩:ByteArray),acc,[],i,h)) (fun k=>?_) (Ev.now _),by omega,by omega,hc⟩
  simp only [spec_l4Draw.l0];rw [if_neg (by omega)]
 | succ d ih =>
  intro i h acc ha hc
  obtain ⟨x,i1,h1,e1,hx,c1⟩:=IH b i h names hc hN hl
  obtain ⟨l,i2,h2,e2,hl2,hb2,c2⟩:=ih i1 h1 (acc ++ [x]) (by simp only [List.length_append,List.length_singleton];omega) c1
  refine ⟨l,i2,h2,Ev.step (f:=fun k=>(spec_l4Draw.f k b i h (n:Int) names).bind fun bt412=>(if acc.length < 1759218604441 then (spec_l4Draw.l0 k ((n + 1:Nat):Int) names (d:Int) b bt412.2.2.2.2.2.1 bt412.2.2.2.2.2.2 t 0 (⟨#[]⟩:ByteArray) (acc ++ [(⟨bt412.1,bt412.2.1,bt412.2.2.1,bt412.2.2.2.1,bt412.2.2.2.2.1⟩:S27)])) else none)) (fun k=>?_) (Ev.bind e1 (ev_pos (by omega) ?_)),?_,?_,c2⟩
  ·simp only [spec_l4Draw.l0]
   rw [if_pos (by omega),w64 (((n + 1:Nat):Int) - 1) (by omega) (by omega),w64 (((d + 1:Nat):Int) - 1) (by omega) (by omega)]
   have en:((n + 1:Nat):Int) - 1 = (n:Int):=by omega
   have ed:((d + 1:Nat):Int) - 1 = (d:Int):=by omega
   rw [en,ed]
  ·simp only [R7,etaX5]
   exact e2
  ·simp only [List.length_append,List.length_singleton] at hl2;omega
  ·rw [budXL_app,budXL_one] at hb2
   rw [Nat.succ_mul];omega
theorem draw_l1 (n:Nat) (hn:(n:Int)≤100) (IH:DrawSpec n) (b:List Int) (names:List ByteArray) (hN:NOK names) (hl:names.length + 3 * n≤900000) (s:ByteArray) (m:Nat) (hm:m≤10) (d:Nat):∀ (q:Nat) (i h:Int) (acc:List S27),q + d = m → acc.length = q → Cur b i →
  ∃ (l:List S27) (i2 h2:Int),Ev (fun k=>spec_l4Draw.l1 k ((n + 1:Nat):Int) names (m:Int) (q:Int) b i h 8 0 s acc) (8,0,s,l,[],i2,h2)∧l.length = m∧budXL l≤budXL acc + d * BD n∧Cur b i2:=by
 induction d with
 | zero =>
  intro q i h acc hq ha hc
  refine ⟨acc,i,h,Ev.step (f:=fun _=>some (8,0,s,acc,[],i,h)) (fun k=>?_) (Ev.now _),by omega,by omega,hc⟩
  simp only [spec_l4Draw.l1];rw [if_neg (by omega)]
 | succ d ih =>
  intro q i h acc hq ha hc
  obtain ⟨x,i1,h1,e1,hx,c1⟩:=IH b i h names hc hN hl
  obtain ⟨l,i2,h2,e2,hl2,hb2,c2⟩:=ih (q + 1) i1 h1 (acc ++ [x]) (by omega) (by simp only [List.length_append,List.length_singleton];omega) c1
  refine ⟨l,i2,h2,Ev.step (f:=fun k=>(spec_l4Draw.f k b i h (n:Int) names).bind fun bt461=>(if acc.length < 1759218604441 then (spec_l4Draw.l1 k ((n + 1:Nat):Int) names (m:Int) (wrap64 ((q:Int) + 1)) b bt461.2.2.2.2.2.1 bt461.2.2.2.2.2.2 8 0 s (acc ++ [(⟨bt461.1,bt461.2.1,bt461.2.2.1,bt461.2.2.2.1,bt461.2.2.2.2.1⟩:S27)])) else none)) (fun k=>?_) (Ev.bind e1 (ev_pos (by omega) ?_)),hl2,?_,c2⟩
  ·simp only [spec_l4Draw.l1]
   rw [if_pos (by omega),w64 (((n + 1:Nat):Int) - 1) (by omega) (by omega)]
   have en:((n + 1:Nat):Int) - 1 = (n:Int):=by omega
   rw [en]
  ·rw [w64 _ (by omega) (by omega)]
   simp only [R7,etaX5]
   exact e2
  ·rw [budXL_app,budXL_one] at hb2
   rw [Nat.succ_mul];omega
theorem draw_l2 (n:Nat) (hn:(n:Int)≤100) (IH:DrawSpec n) (b:List Int) (names:List ByteArray) (hN:NOK names) (hl:names.length + 3 * (n + 1)≤900000) (E:List S27) (d:Nat):∀ (i h:Int) (acc:List (P33 S27)),acc.length + d≤10 → Cur b i →
  ∃ (m:List (P33 S27)) (i2 h2:Int),Ev (fun k=>spec_l4Draw.l2 k ((n + 1:Nat):Int) names (d:Int) b i h 9 0 (⟨#[]⟩:ByteArray) E acc) (9,0,(⟨#[]⟩:ByteArray),E,m,i2,h2)∧m.length + budXC m≤acc.length + budXC acc + (d + 1) * (60 + BD n)∧Cur b i2:=by
 induction d with
 | zero =>
  intro i h acc ha hc
  obtain ⟨q,i1,h1,e1,c1⟩:=spec_l1Once_eq b i h 2 hc
  cases q with
  | false =>
   refine ⟨acc,i1,h1,Ev.step (f:=fun _=>some (9,0,(⟨#[]⟩:ByteArray),E,acc,i1,h1)) (fun k=>?_) (Ev.now _),by omega,c1⟩
   simp only [spec_l4Draw.l2]
   rw [if_neg (by omega),e1]
   rfl
  | true =>
   obtain ⟨x,i2,h2,e2,hx,c2⟩:=IH b i1 h1 names c1 hN (by omega)
   refine ⟨acc ++ [⟨⟨3,0,⟨#[95]⟩,[],[]⟩,x⟩],i2,h2,Ev.step (f:=fun k=>(spec_l4Draw.f k b i1 h1 (n:Int) names).bind fun bt538=>(if acc.length < 879609302220 then (some (9,0,(⟨#[]⟩:ByteArray),E,(acc ++ [(⟨(⟨3,0,(⟨#[95]⟩:ByteArray),([]:List S27),([]:List (P33 S27))⟩:S27),(⟨bt538.1,bt538.2.1,bt538.2.2.1,bt538.2.2.2.1,bt538.2.2.2.2.1⟩:S27)⟩:P33 S27)]),bt538.2.2.2.2.2.1,bt538.2.2.2.2.2.2)) else none)) (fun k=>?_) (Ev.bind e2 (ev_pos (by omega) (ev_cast ?_ (Ev.now _)))),?_,c2⟩
   ·simp only [spec_l4Draw.l2]
    rw [if_neg (by omega),e1]
    simp only [Option.bind_some]
    rw [if_pos trivial,w64 (((n + 1:Nat):Int) - 1) (by omega) (by omega)]
    have en:((n + 1:Nat):Int) - 1 = (n:Int):=by omega
    rw [en]
   ·simp only [R7,etaX5]
   ·rw [budXC_app,budXC_one,bud5,budXL,budXC,List.length_append]
    show acc.length + 1 + (budXC acc + (1 + (0 + 0) + (0 + 0) + budX x))≤_
    omega
 | succ d ih =>
  intro i h acc ha hc
  obtain ⟨p,nm,i1,h1,e1,hp,hnm,hN1,c1⟩:=pat_all 1 (by omega) b i h [] hc (fun _ hs=>by cases hs) (by simp [LC])
  have e1':Ev (fun k=>spec_boxPat.f k b i h 1 []) (p.f0,p.f1,p.f2,p.f3,p.f4,nm,i1,h1):=e1
  have hLB:LB 1 = 42:=rfl
  have hLC:LC 1 = 2:=rfl
  rw [hLB] at hp
  rw [hLC] at hnm
  have hnm:nm.length≤3:=by simpa using hnm
  obtain ⟨x,i2,h2,e2,hx,c2⟩:=IH b i1 h1 (names ++ nm) c1 (fun s hs=>by rcases List.mem_append.1 hs with hs|hs;exact hN s hs;exact hN1 s hs) (by rw [List.length_append];omega)
  obtain ⟨m,i3,h3,e3,hm,c3⟩:=ih i2 h2 (acc ++ [⟨p,x⟩]) (by simp only [List.length_append,List.length_singleton];omega) c2
  refine ⟨m,i3,h3,Ev.step (f:=fun k=>(spec_boxPat.f k b i h 1 (([]:List ByteArray))).bind fun bt497=>((some (([]:List ByteArray):List ByteArray)).bind fun y512=>(if y512.length + names.length < 8796093022208 then ((some (y512 ++ names:List ByteArray)).bind fun y515=>(if y515.length + bt497.2.2.2.2.2.1.length < 8796093022208 then ((spec_l4Draw.f k b bt497.2.2.2.2.2.2.1 bt497.2.2.2.2.2.2.2 (n:Int) (y515 ++ bt497.2.2.2.2.2.1)).bind fun bt521=>(if acc.length < 879609302220 then (spec_l4Draw.l2 k ((n + 1:Nat):Int) names (d:Int) b bt521.2.2.2.2.2.1 bt521.2.2.2.2.2.2 9 0 (⟨#[]⟩:ByteArray) E (acc ++ [(⟨(⟨bt497.1,bt497.2.1,bt497.2.2.1,bt497.2.2.2.1,bt497.2.2.2.2.1⟩:S27),(⟨bt521.1,bt521.2.1,bt521.2.2.1,bt521.2.2.2.1,bt521.2.2.2.2.1⟩:S27)⟩:P33 S27)])) else none)) else none)) else none))) (fun k=>?_)
   (Ev.bind e1' (Ev.bind (Ev.now _) (ev_pos (by simp;omega) (Ev.bind (Ev.now _) (ev_pos (by simp;omega) (Ev.bind e2 (ev_pos (by omega) ?_))))))),?_,c3⟩
  ·simp only [spec_l4Draw.l2]
   rw [if_pos (by omega),w64 (((n + 1:Nat):Int) - 1) (by omega) (by omega),w64 (((d + 1:Nat):Int) - 1) (by omega) (by omega)]
   have en:((n + 1:Nat):Int) - 1 = (n:Int):=by omega
   have ed:((d + 1:Nat):Int) - 1 = (d:Int):=by omega
   rw [en,ed]
  ·simp only [R7,etaX5]
   exact e3
  ·rw [budXC_app,budXC_one,List.length_append] at hm
   rw [Nat.succ_mul (d + 1)]
   have:[(⟨p,x⟩:P33 S27)].length = 1:=rfl
   omega
theorem draw_j2 (n:Nat) (hn:(n:Int)≤100) (IH:DrawSpec n) (b:List Int) (names:List ByteArray) (hN:NOK names) (hl:names.length + 3 * (n + 1)≤900000) (x23:Int) (q:Bool) (i h:Int) (hc:Cur b i) :
  ∃ (x:S27) (i2 h2:Int),Ev (fun k=>spec_l4Draw.j2 k ((n + 1:Nat):Int) names x23 q b i h) (R7 x i2 h2)∧budX x≤200 + 5 * BD n∧Cur b i2:=by
 have en:wrap64 (((n + 1:Nat):Int) - 1) = (n:Int):=by rw [w64 _ (by omega) (by omega)];omega
 have D:=fun i h hc=>IH b i h names hc hN (by omega)
 cases q with
 | true =>
  obtain ⟨s,i1,h1,e1,hs,c1⟩:=spec_l1Str_eq b i h [(⟨#[43]⟩:ByteArray),(⟨#[45]⟩:ByteArray),(⟨#[42]⟩:ByteArray),(⟨#[61,61]⟩:ByteArray),(⟨#[60]⟩:ByteArray),(⟨#[43]⟩:ByteArray)] (by decide) hc
  have hs8:s.size≤8:=strs_ok hs (by decide)
  obtain ⟨x,i2,h2,e2,hx,c2⟩:=D i1 h1 c1
  obtain ⟨y,i3,h3,e3,hy,c3⟩:=D i2 h2 c2
  refine ⟨⟨7,0,s,[x,y],[]⟩,i3,h3,Ev.step (f:=fun k=>(spec_l4Draw.f k b i1 h1 (n:Int) names).bind fun bt377=>((spec_l4Draw.f k b bt377.2.2.2.2.2.1 bt377.2.2.2.2.2.2 (n:Int) names).bind fun bt388=>(some (7,0,s,(([(⟨bt377.1,bt377.2.1,bt377.2.2.1,bt377.2.2.2.1,bt377.2.2.2.2.1⟩:S27),(⟨bt388.1,bt388.2.1,bt388.2.2.1,bt388.2.2.2.1,bt388.2.2.2.2.1⟩:S27)]:List S27)),([]:List (P33 S27)),bt388.2.2.2.2.2.1,bt388.2.2.2.2.2.2)))) (fun k=>?_) (Ev.bind e2 (Ev.bind e3 (ev_cast ?_ (Ev.now _)))),?_,c3⟩
  ·simp only [spec_l4Draw.j2]
   rw [if_pos trivial,e1]
   simp only [Option.bind_some]
   rw [en]
  ·simp only [R7,etaX5]
  ·rw [bud5,budXC]
   show s.size + (2 + (budX x + (budX y + 0))) + (0 + 0)≤_
   omega
 | false =>
  by_cases h7:x23 = 7
  ·obtain ⟨t,i1,h1,e1,_,c1⟩:=spec_l1Int_eq b i h [4,5] (by decide) hc
   obtain ⟨m,i2,h2,e2,m0,m1,_,c2⟩:=spec_l1Below_eq b i1 h1 3 c1
   have m1:=m1 (by decide)
   obtain ⟨l,i3,h3,e3,hl3,hb3,c3⟩:=draw_l0 n hn IH b names hN (by omega) t m.toNat i2 h2 [] (by simp;omega) c2
   rw [Int.toNat_of_nonneg m0] at e3
   refine ⟨⟨t,0,⟨#[]⟩,l,[]⟩,i3,h3,Ev.step (fun k=>?_) e3,?_,c3⟩
   ·simp only [spec_l4Draw.j2]
    rw [if_neg (by decide),if_pos h7,e1]
    simp only [Option.bind_some]
    rw [e2]
    rfl
   ·have hm2:m.toNat≤2:=by omega
    have hmul:m.toNat * BD n≤2 * BD n:=Nat.mul_le_mul_right _ hm2
    rw [budXL] at hb3
    rw [bud5,budXC]
    show 0 + (l.length + budXL l) + (0 + 0)≤_
    have:([]:List S27).length = 0:=rfl
    omega
  by_cases h8:x23 = 8
  ·obtain ⟨x,i2,h2,e2,hx,c2⟩:=D i h hc
   obtain ⟨y,i3,h3,e3,hy,c3⟩:=D i2 h2 c2
   refine ⟨⟨6,0,⟨#[]⟩,[x,⟨5,0,⟨#[]⟩,[y],[]⟩],[]⟩,i3,h3,Ev.step (f:=fun k=>(spec_l4Draw.f k b i h (n:Int) names).bind fun bt426=>((spec_l4Draw.f k b bt426.2.2.2.2.2.1 bt426.2.2.2.2.2.2 (n:Int) names).bind fun bt437=>(some (6,0,(⟨#[]⟩:ByteArray),(([(⟨bt426.1,bt426.2.1,bt426.2.2.1,bt426.2.2.2.1,bt426.2.2.2.2.1⟩:S27),(⟨5,0,(⟨#[]⟩:ByteArray),(([(⟨bt437.1,bt437.2.1,bt437.2.2.1,bt437.2.2.2.1,bt437.2.2.2.2.1⟩:S27)]:List S27)),([]:List (P33 S27))⟩:S27)]:List S27)),([]:List (P33 S27)),bt437.2.2.2.2.2.1,bt437.2.2.2.2.2.2)))) (fun k=>?_) (Ev.bind e2 (Ev.bind e3 (ev_cast ?_ (Ev.now _)))),?_,c3⟩
   ·simp only [spec_l4Draw.j2]
    rw [if_neg (by decide),if_neg h7,if_pos h8,en]
   ·simp only [R7,etaX5]
   ·have hz:budX ⟨5,0,⟨#[]⟩,[y],[]⟩ = 0 + (1 + (budX y + 0)) + (0 + 0):=by rw [bud5,budXL,budXL,budXC];rfl
    rw [bud5,budXC,budXL,budXL,hz,budXL]
    show 0 + (2 + (budX x + (0 + (1 + (budX y + 0)) + (0 + 0) + 0))) + (0 + 0)≤_
    omega
  by_cases h9:x23 = 9
  ·obtain ⟨s,i1,h1,e1,hs,c1⟩:=spec_l1Str_eq b i h [(⟨#[102]⟩:ByteArray),(⟨#[103]⟩:ByteArray),(⟨#[104]⟩:ByteArray)] (by decide) hc
   have hs8:s.size≤8:=strs_ok hs (by decide)
   have key:∀ m:Nat,m≤2 → ∃ (x:S27) (i2 h2:Int),Ev (fun k=>spec_l4Draw.j4 k ((n + 1:Nat):Int) names (m:Int) b i1 h1 8 0 s) (R7 x i2 h2)∧budX x≤200 + 5 * BD n∧Cur b i2:=by
    intro m hm
    obtain ⟨l,i3,h3,e3,hl3,hb3,c3⟩:=draw_l1 n hn IH b names hN (by omega) s m (by omega) m 0 i1 h1 [] (by omega) rfl c1
    refine ⟨⟨8,0,s,l,[]⟩,i3,h3,Ev.step (f:=fun k=>spec_l4Draw.l1 k ((n + 1:Nat):Int) names (m:Int) 0 b i1 h1 8 0 s []) (fun k=>by first|(simp only [spec_l4Draw.j4];done)|(simp only [spec_l4Draw.j4];rfl)) e3,?_,c3⟩
    have hmul:m * BD n≤2 * BD n:=Nat.mul_le_mul_right _ hm
    rw [budXL] at hb3
    rw [bud5,budXC]
    show s.size + (l.length + budXL l) + (0 + 0)≤_
    omega
   by_cases hg:s.toList = ([103]:List UInt8)
   ·obtain ⟨x,i2,h2,e2,r⟩:=key 2 (by omega)
    refine ⟨x,i2,h2,Ev.step (f:=fun k=>spec_l4Draw.j4 k ((n + 1:Nat):Int) names ((2:Nat):Int) b i1 h1 8 0 s) (fun k=>?_) e2,r⟩
    simp only [spec_l4Draw.j2]
    rw [if_neg (by decide),if_neg h7,if_neg h8,if_pos h9,e1]
    simp only [Option.bind_some]
    rw [if_pos hg]
    rfl
   ·obtain ⟨x,i2,h2,e2,r⟩:=key 1 (by omega)
    refine ⟨x,i2,h2,Ev.step (f:=fun k=>spec_l4Draw.j4 k ((n + 1:Nat):Int) names ((1:Nat):Int) b i1 h1 8 0 s) (fun k=>?_) e2,r⟩
    simp only [spec_l4Draw.j2]
    rw [if_neg (by decide),if_neg h7,if_neg h8,if_pos h9,e1]
    simp only [Option.bind_some]
    rw [if_neg hg]
    rfl
  ·obtain ⟨x,i1,h1,e1,hx,c1⟩:=D i h hc
   obtain ⟨v,i2,h2,e2,v0,v1,_,c2⟩:=spec_l1Below_eq b i1 h1 2 c1
   have v1:=v1 (by decide)
   obtain ⟨m,i3,h3,e3,hm,c3⟩:=draw_l2 n hn IH b names hN hl [x] (1 + v).toNat i2 h2 [] (by simp;omega) c2
   rw [Int.toNat_of_nonneg (by omega)] at e3
   refine ⟨⟨9,0,⟨#[]⟩,[x],m⟩,i3,h3,Ev.step (f:=fun k=>(spec_l4Draw.f k b i h (n:Int) names).bind fun bt475=>((spec_l1Below.f b bt475.2.2.2.2.2.1 bt475.2.2.2.2.2.2 2).bind fun bt490=>(spec_l4Draw.l2 k ((n + 1:Nat):Int) names (wrap64 (1 + bt490.1)) b bt490.2.1 bt490.2.2 9 0 (⟨#[]⟩:ByteArray) (([(⟨bt475.1,bt475.2.1,bt475.2.2.1,bt475.2.2.2.1,bt475.2.2.2.2.1⟩:S27)]:List S27)) ([]:List (P33 S27))))) (fun k=>?_) (Ev.bind e1 ?_),?_,c3⟩
   ·simp only [spec_l4Draw.j2]
    rw [if_neg (by decide),if_neg h7,if_neg h8,if_neg h9,en]
   ·simp only [R7,etaX5]
    rw [e2]
    simp only [Option.bind_some]
    rw [w64 (1 + v) (by omega) (by omega)]
    exact e3
   ·have hv2:(1 + v).toNat + 1≤3:=by omega
    have hmul:((1 + v).toNat + 1) * (60 + BD n)≤3 * (60 + BD n):=Nat.mul_le_mul_right _ hv2
    rw [budXC] at hm
    rw [bud5,budXL,budXL]
    show 0 + (1 + (budX x + 0)) + (m.length + budXC m)≤_
    have:([]:List (P33 S27)).length = 0:=rfl
    omega
theorem draw_all:∀ n:Nat,(n:Int)≤100 → DrawSpec n
 | 0,_=>by
  intro b i h names hc hN hl
  obtain ⟨v,i1,h1,e1,_,_,_,c1⟩:=spec_l1Below_eq b i h 11 hc
  obtain ⟨u,i2,h2,e2,u0,u1,_,c2⟩:=spec_l1Below_eq b i1 h1 4 c1
  have u1:=u1 (by decide)
  obtain ⟨x,i3,h3,e3,hx,c3⟩:=draw_j0 ((0:Nat):Int) b i2 h2 names c2 hN (by omega) u 10 (by omega) (fun hu=>by omega) u0
  refine ⟨x,i3,h3,Ev.step (f:=fun k=>spec_l4Draw.j0 k ((0:Nat):Int) names u b i2 h2) (fun k=>?_) e3,hx,c3⟩
  simp only [spec_l4Draw.f]
  rw [e1]
  simp only [Option.bind_some]
  rw [if_pos (by omega),e2]
  rfl
 | n + 1,hn=>by
  intro b i h names hc hN hl
  have IH:=draw_all n (by omega)
  obtain ⟨v,i1,h1,e1,v0,_,_,c1⟩:=spec_l1Below_eq b i h 11 hc
  obtain ⟨x,i3,h3,e3,hx,c3⟩:=draw_j0 ((n + 1:Nat):Int) b i1 h1 names c1 hN (by omega) v (200 + 5 * BD n) (by omega) (fun hv=>by
   by_cases h5:v = 5
   ·obtain ⟨x,i2,h2,e2,r⟩:=draw_j2 n (by omega) IH b names hN hl v (v == 5) i1 h1 c1
    refine ⟨x,i2,h2,Ev.step (fun k=>?_) e2,r⟩
    simp only [spec_l4Draw.j1]
    rw [if_neg (by decide),if_pos h5]
   ·obtain ⟨x,i2,h2,e2,r⟩:=draw_j2 n (by omega) IH b names hN hl v (v == 6) i1 h1 c1
    refine ⟨x,i2,h2,Ev.step (fun k=>?_) e2,r⟩
    simp only [spec_l4Draw.j1]
    rw [if_neg (by decide),if_neg h5]) v0
  refine ⟨x,i3,h3,Ev.step (f:=fun k=>spec_l4Draw.j0 k ((n + 1:Nat):Int) names v b i1 h1) (fun k=>?_) e3,by rw [BD];exact hx,c3⟩
  simp only [spec_l4Draw.f]
  rw [e1]
  simp only [Option.bind_some]
  rw [if_neg (by omega)]
mutual
def varsM:S27 → List ByteArray
 | ⟨a,_,s,l,_⟩=>if a = 3 then (if s.toList = ([95]:List UInt8) then [] else [s]) else varsML l
def varsML:List S27 → List ByteArray
 | []=>[]
 | x :: r=>varsM x ++ varsML r
end
theorem vars_len:∀ x,(varsM x).length≤1 + budX x:=by
 refine indE ?_
 intro a b s l m ih _
 rw [varsM,budX]
 split
 ·split <;> simp
 ·have:∀ l:List S27,(∀ y ∈ l,(varsM y).length≤1 + budX y) → (varsML l).length≤l.length + budXL l:=by
   intro l
   induction l with
   | nil=>intro _;rw [varsML];simp
   | cons x r ihr =>
    intro h
    have q1:=h x List.mem_cons_self
    have q2:=ihr (fun y hy=>h y (List.mem_cons_of_mem _ hy))
    rw [varsML,budXL,List.length_append,List.length_cons]
    omega
  have:=this l ih
  omega
theorem varsL_drop (l:List S27) (i:Nat) (h:i < l.length):varsML (l.drop i) = varsM l[i] ++ varsML (l.drop (i + 1)):=by
 rw [List.drop_eq_getElem_cons h,varsML]
theorem budXL_drop (l:List S27) (i:Nat) (h:i < l.length):budXL (l.drop i) = budX l[i] + budXL (l.drop (i + 1)):=by
 rw [List.drop_eq_getElem_cons h,budXL]
mutual
def lookX:S27 → Bool → Nat → Int → Int
 | ⟨a,b,s,l,m⟩,pat,d,left=>match d with
  | 0=>-1
  | d + 1=>if left < 1∨shapeX a b s l.length m.length pat = false then -1 else lookC m d (lookL l pat d (left - 1))
def lookL:List S27 → Bool → Nat → Int → Int
 | [],_,_,left=>left
 | x :: r,pat,d,left=>if left ≥ 0 then lookL r pat d (lookX x pat d left) else left
def lookc:P33 S27 → Nat → Int → Int
 | ⟨p,q⟩,d,left=>if ND (varsM p) then (if lookX p true d left ≥ 0 then lookX q false d (lookX p true d left) else lookX p true d left) else -1
def lookC:List (P33 S27) → Nat → Int → Int
 | [],_,left=>left
 | c :: r,d,left=>if left ≥ 0 then lookC r d (lookc c d left) else left
end
theorem lookL_neg (l:List S27) (pat:Bool) (d:Nat) (left:Int) (h:left < 0):lookL l pat d left = left:=by
 cases l with
 | nil=>rw [lookL]
 | cons x r=>rw [lookL,if_neg (by omega)]
theorem lookC_neg (m:List (P33 S27)) (d:Nat) (left:Int) (h:left < 0):lookC m d left = left:=by
 cases m with
 | nil=>rw [lookC]
 | cons x r=>rw [lookC,if_neg (by omega)]
mutual
theorem lookX_le:∀ x pat d left,left≤300 → lookX x pat d left≤300
 | ⟨a,b,s,l,m⟩,pat,0,left,h=>by rw [lookX];omega
 | ⟨a,b,s,l,m⟩,pat,d + 1,left,h=>by
  rw [lookX]
  split
  ·omega
  ·exact lookC_le m d _ (lookL_le l pat d _ (by omega))
theorem lookL_le:∀ l pat d left,left≤300 → lookL l pat d left≤300
 | [],pat,d,left,h=>by rw [lookL];exact h
 | x :: r,pat,d,left,h=>by
  rw [lookL]
  split
  ·exact lookL_le r pat d _ (lookX_le x pat d left h)
  ·exact h
theorem lookc_le:∀ c d left,left≤300 → lookc c d left≤300
 | ⟨p,q⟩,d,left,h=>by
  rw [lookc]
  have h1:=lookX_le p true d left h
  split
  ·split
   ·exact lookX_le q false d _ h1
   ·exact h1
  ·omega
theorem lookC_le:∀ m d left,left≤300 → lookC m d left≤300
 | [],d,left,h=>by rw [lookC];exact h
 | c :: r,d,left,h=>by
  rw [lookC]
  split
  ·exact lookC_le r d _ (lookc_le c d left h)
  ·exact h
end
theorem spec_l4Op_eq (s:ByteArray):spec_l4Op.f s = some (opL s.toList):=by
 unfold spec_l4Op.f opL
 generalize s.toList = l
 by_cases h1:l = [43]
 ·rw [if_pos h1];simp [h1]
 rw [if_neg h1]
 by_cases h2:l = [45]
 ·rw [if_pos h2];simp [h2]
 rw [if_neg h2]
 by_cases h3:l = [42]
 ·rw [if_pos h3];simp [h3]
 rw [if_neg h3]
 by_cases h4:l = [61,61]
 ·rw [if_pos h4];simp [h4]
 rw [if_neg h4]
 by_cases h5:l = [60] <;> simp [h1,h2,h3,h4,h5]
theorem spec_l1In_eq (a b c:Int):spec_l1In.f a b c = some (decide (b≤a) && decide (a≤c)):=by
 unfold spec_l1In.f
 by_cases h:b≤a <;> simp [h]
theorem spec_AtomOk_l (s:ByteArray) (hs:s.size≤140737488351232) (d:Nat):∀ i:Nat,i + d = s.size → Ev (fun k=>spec_AtomOk.l0 k s i) (atomFrom s i && (decide (1≤(s.size:Int)) && decide ((s.size:Int)≤20))):=by
 induction d with
 | zero =>
  intro i hi
  refine Ev.step (f:=fun _=>some (decide (1≤(s.size:Int)) && decide ((s.size:Int)≤20))) (fun k=>?_) (ev_cast ?_ (Ev.now _))
  ·simp only [spec_AtomOk.l0]
   rw [if_neg (by omega),spec_l1In_eq];rfl
  ·rw [atomFrom_end s i (by omega)];rfl
 | succ d ih =>
  intro i hi
  have hlt:i < s.size:=by omega
  have hn:=ih (i + 1) (by omega)
  rw [atomFrom_step s i hlt]
  by_cases h1:lowB (bt s i) = true
  ·refine Ev.step (fun k=>?_) (ev_cast ?_ hn)
   ·simp only [spec_AtomOk.l0]
    rw [if_pos (by omega),if_pos (by omega),wbt,spec_l1In_eq]
    simp only [Option.bind_some]
    unfold lowB at h1
    rw [if_pos h1,w64 _ (by omega) (by omega)]
    rfl
   ·rw [h1];rfl
  ·have h1':lowB (bt s i) = false:=by simpa using h1
   by_cases h0:i = 0
   ·refine Ev.step (f:=fun _=>some false) (fun k=>?_) (ev_cast ?_ (Ev.now _))
    ·simp only [spec_AtomOk.l0]
     rw [if_pos (by omega),if_pos (by omega),wbt,spec_l1In_eq]
     simp only [Option.bind_some]
     unfold lowB at h1
     rw [if_neg h1,if_pos (by omega)]
    ·rw [h1'];simp [h0]
   ·by_cases h2:digB (bt s i) = true
    ·refine Ev.step (fun k=>?_) (ev_cast ?_ hn)
     ·simp only [spec_AtomOk.l0]
      rw [if_pos (by omega),if_pos (by omega),wbt,spec_l1In_eq]
      simp only [Option.bind_some]
      unfold lowB at h1;unfold digB at h2
      rw [if_neg h1,if_neg (by omega),spec_l1In_eq]
      simp only [Option.bind_some]
      rw [if_pos h2,w64 _ (by omega) (by omega)]
      rfl
     ·rw [h2];simp [h0]
    ·have h2':digB (bt s i) = false:=by simpa using h2
     by_cases h3:bt s i = 95
     ·refine Ev.step (fun k=>?_) (ev_cast ?_ hn)
      ·simp only [spec_AtomOk.l0]
       rw [if_pos (by omega),if_pos (by omega),wbt,spec_l1In_eq]
       simp only [Option.bind_some]
       unfold lowB at h1;unfold digB at h2
       rw [if_neg h1,if_neg (by omega),spec_l1In_eq]
       simp only [Option.bind_some]
       rw [if_neg h2,if_pos h3,w64 _ (by omega) (by omega)]
       rfl
      ·simp [h0,h3]
     ·refine Ev.step (f:=fun _=>some false) (fun k=>?_) (ev_cast ?_ (Ev.now _))
      ·simp only [spec_AtomOk.l0]
       rw [if_pos (by omega),if_pos (by omega),wbt,spec_l1In_eq]
       simp only [Option.bind_some]
       unfold lowB at h1;unfold digB at h2
       rw [if_neg h1,if_neg (by omega),spec_l1In_eq]
       simp only [Option.bind_some]
       rw [if_neg h2,if_neg h3]
      ·rw [h1',h2'];simp [h3]
theorem spec_AtomOk_ev (s:ByteArray) (hs:s.size≤140737488351232):Ev (fun k=>spec_AtomOk.f k s) (atomOkM s):=spec_AtomOk_l s hs s.size 0 (by omega)
theorem spec_l4Reserved_eq (s:ByteArray):spec_l4Reserved.f s = some (resL s.toList):=by
 unfold spec_l4Reserved.f resL
 generalize s.toList = l
 by_cases h1:l = [99,97,115,101]
 ·rw [if_pos h1];simp [h1]
 ·rw [if_neg h1]
  by_cases h2:l = [111,102]
  ·rw [if_pos h2];simp [h2]
  ·rw [if_neg h2]
   by_cases h3:l = [101,110,100] <;> simp [h1,h2,h3]
theorem spec_l4Atom_ev (s:ByteArray) (hs:s.size≤140737488351232):Ev (fun k=>spec_l4Atom.f k s) (xatomM s):=by
 unfold spec_l4Atom.f xatomM
 exact Ev.bind (spec_AtomOk_ev s hs) (ev_and (Ev.bind (ev_of (spec_l4Reserved_eq s)) (Ev.now _)))
theorem spec_l3Large_eq (c:Int) (h0:0≤c) (h1:c≤255):spec_l3Large.f c = some (largeB c):=by
 unfold spec_l3Large.f largeB
 rw [w64 _ (by omega) (by omega),spec_l1In_eq]
 simp only [Option.bind_some]
 cases h:(decide (65≤c) && decide (c≤90)) with
 | true=>rw [if_pos rfl];rfl
 | false=>rw [if_neg (by decide),Bool.false_or];rfl
theorem spec_l3Small_eq (c:Int) (h0:0≤c) (h1:c≤255):spec_l3Small.f c = some (lowB c):=by
 unfold spec_l3Small.f lowB
 rw [w64 _ (by omega) (by omega),spec_l1In_eq];rfl
theorem spec_l3Digit_eq (c:Int) (h0:0≤c) (h1:c≤255):spec_l3Digit.f c = some (digB c):=by
 unfold spec_l3Digit.f digB
 rw [w64 _ (by omega) (by omega),spec_l1In_eq];rfl
theorem spec_l3VarOk_ev (s:ByteArray) (hs:s.size≤140737488351232):Ev (fun k=>spec_l3VarOk.f k s) (varOkM s):=by
 unfold spec_l3VarOk.f varOkM
 refine all_loopB (fun k i=>spec_l3VarOk.l0 k s i) (varP s) s.size (in20 s) ?_ ?_ s.size 0 (by omega)
 ·intro i hi r hr hn
  have hb:=bt_range s i
  have e1:=spec_l3Large_eq (bt s i) hb.1 hb.2
  have e2:=spec_l3Small_eq (bt s i) hb.1 hb.2
  have e3:=spec_l3Digit_eq (bt s i) hb.1 hb.2
  have hw:wrap64 ((i:Int) + 1) = ((i + 1:Nat):Int):=by rw [w64 _ (by omega) (by omega)];rfl
  unfold varP at hr hn
  cases g1:largeB (bt s i) with
  | true =>
   refine Ev.step (fun k=>?_) (hr (by rw [g1];rfl))
   simp only [spec_l3VarOk.l0]
   rw [if_pos (by omega),if_pos (by omega),e1,g1,hw]
   rfl
  | false =>
   rw [g1] at hr hn
   by_cases hz:i = 0
   ·refine Ev.step (f:=fun _=>some false) (fun k=>?_) (ev_cast (hn (by simp [hz])).symm (Ev.now _))
    simp only [spec_l3VarOk.l0]
    rw [if_pos (by omega),if_pos (by omega),e1,g1]
    simp only [Option.bind_some]
    rw [if_neg (by decide),if_pos (by omega)]
   ·rw [decide_eq_false hz] at hr hn
    cases g2:lowB (bt s i) with
    | true =>
     refine Ev.step (fun k=>?_) (hr (by rw [g2];rfl))
     simp only [spec_l3VarOk.l0]
     rw [if_pos (by omega),if_pos (by omega),e1,g1]
     simp only [Option.bind_some]
     rw [if_neg (by decide),if_neg (by omega),e2,g2,hw]
     rfl
    | false =>
     rw [g2] at hr hn
     cases g3:digB (bt s i) with
     | true =>
      refine Ev.step (fun k=>?_) (hr (by rw [g3];rfl))
      simp only [spec_l3VarOk.l0]
      rw [if_pos (by omega),if_pos (by omega),e1,g1]
      simp only [Option.bind_some]
      rw [if_neg (by decide),if_neg (by omega),e2,g2]
      simp only [Option.bind_some]
      rw [if_neg (by decide),e3,g3,hw]
      rfl
     | false =>
      refine Ev.step (f:=fun _=>some false) (fun k=>?_) (ev_cast (hn (by rw [g3];rfl)).symm (Ev.now _))
      simp only [spec_l3VarOk.l0]
      rw [if_pos (by omega),if_pos (by omega),e1,g1]
      simp only [Option.bind_some]
      rw [if_neg (by decide),if_neg (by omega),e2,g2]
      simp only [Option.bind_some]
      rw [if_neg (by decide),e3,g3]
      rfl
 ·refine Ev.step (f:=fun _=>some (in20 s)) (fun k=>?_) (Ev.now _)
  simp only [spec_l3VarOk.l0]
  rw [if_neg (by omega),spec_l1In_eq]
  rfl
theorem shape_b {a b:Int} {s:ByteArray} {n m:Nat} {pat:Bool} (h1:a≠1) (h2:b≠0):shapeX a b s n m pat = false:=by
 unfold shapeX shOk
 rw [if_neg h1,decide_eq_false h2]
 cases pat <;> simp
theorem shape_m {a b:Int} {s:ByteArray} {n m:Nat} {pat:Bool} (h1:a≠9) (h2:0 < m):shapeX a b s n m pat = false:=by
 unfold shapeX
 cases pat with
 | true=>rw [if_pos rfl,decide_eq_false (show ¬ m = 0 by omega)];simp
 | false=>rw [if_neg (by decide),decide_eq_false (show ¬ (a = 9 ↔ 0 < m) by omega)];simp
theorem spec_l4Shape_j1 (pat:Bool) (a:Int) (s:ByteArray) (l:List S27) (m:List (P33 S27)) (hs:s.size≤140737488351232) (h3 : ¬ (a = 1∨a = 2∨a = 3)) (hm:a = 9∨m.length = 0) (q:Bool) (hq:q = true ↔ a = 4∨a = 5) :
  Ev (fun k=>spec_l4Shape.j1 k pat (l.length:Int) a q a 0 s l m) (shapeX a 0 s l.length m.length pat):=by
 refine Ev.step (f:=fun k=>if q = true then (if s.toList = ([]:List UInt8) then (some (decide ((l.length:Int)≤20))) else (some false)) else (if a = 6 then (if s.toList = ([]:List UInt8) then ((spec_l1In.f (l.length:Int) 2 6).bind fun t148=>(some t148)) else (some false)) else (if a = 7 then (if pat = true then (some false) else ((spec_l4Op.f s).bind fun t149=>(if t149 = true then (some ((l.length:Int) == 2)) else (some false)))) else (if a = 8 then (if pat = true then (some false) else ((spec_l4Atom.f k s).bind fun t150=>(if t150 = true then (some (decide ((l.length:Int)≤4))) else (some false)))) else (if a = 9 then (if pat = true then (some false) else (if s.toList = ([]:List UInt8) then (if (l.length:Int) = 1 then ((spec_l1In.f (m.length:Int) 1 6).bind fun t151=>(some t151)) else (some false)) else (some false))) else (some false)))))) (fun k=>by simp only [spec_l4Shape.j1]) ?_
 by_cases c4:a = 4∨a = 5
 ·have hm0:m.length = 0:=by omega
  rw [hm0,sx4 a c4]
  refine ev_pos (hq.2 c4) (ev_cast ?_ (ev_andP (Ev.now _)))
  rw [dcast (show (l.length:Int)≤20 ↔ l.length≤20 by omega)];rfl
 refine ev_neg (fun h=>c4 (hq.1 h)) ?_
 by_cases c6:a = 6
 ·have hm0:m.length = 0:=by omega
  subst c6
  rw [hm0,sx6]
  refine ev_pos rfl (ev_cast ?_ (ev_andP (Ev.bind (ev_of (spec_l1In_eq _ _ _)) (Ev.now _))))
  rw [dcast (show (2:Int)≤l.length ↔ 2≤l.length by omega),dcast (show (l.length:Int)≤6 ↔ l.length≤6 by omega)];rfl
 refine ev_neg c6 ?_
 by_cases c7:a = 7
 ·have hm0:m.length = 0:=by omega
  subst c7
  rw [hm0,sx7]
  refine ev_pos rfl (ev_cast ?_ (ev_nand (Ev.bind (ev_of (spec_l4Op_eq s)) (ev_and (Ev.now _)))))
  rw [len2B]
 refine ev_neg c7 ?_
 by_cases c8:a = 8
 ·have hm0:m.length = 0:=by omega
  subst c8
  rw [hm0,sx8]
  refine ev_pos rfl (ev_cast ?_ (ev_nand (Ev.bind (spec_l4Atom_ev s hs) (ev_and (Ev.now _)))))
  rw [dcast (show (l.length:Int)≤4 ↔ l.length≤4 by omega)]
 refine ev_neg c8 ?_
 by_cases c9:a = 9
 ·subst c9
  rw [sx9]
  refine ev_pos rfl (ev_cast ?_ (ev_nand (ev_andP (ev_andP (Ev.bind (ev_of (spec_l1In_eq _ _ _)) (Ev.now _))))))
  rw [dcast (show (l.length:Int) = 1 ↔ l.length = 1 by omega),dcast (show (1:Int)≤m.length ↔ 1≤m.length by omega),dcast (show (m.length:Int)≤6 ↔ m.length≤6 by omega)];rfl
 ·rw [sx0 (by omega)]
  exact ev_neg c9 (Ev.now _)
theorem spec_l4Shape_j0 (pat:Bool) (a b:Int) (s:ByteArray) (l:List S27) (m:List (P33 S27)) (hs:s.size≤140737488351232) (q:Bool) (hq:q = true ↔ (a≠9∧0 < m.length)∨(a≠1∧b≠0)) :
  Ev (fun k=>spec_l4Shape.j0 k pat (l.length:Int) q a b s l m) (shapeX a b s l.length m.length pat):=by
 by_cases hbad:(a≠9∧0 < m.length)∨(a≠1∧b≠0)
 ·have hf:shapeX a b s l.length m.length pat = false:=by
   rcases hbad with ⟨h1,h2⟩|⟨h1,h2⟩
   ·exact shape_m h1 h2
   ·exact shape_b h1 h2
  rw [hf]
  refine Ev.step (f:=fun _=>some false) (fun k=>?_) (Ev.now _)
  simp only [spec_l4Shape.j0];rw [if_pos (hq.2 hbad)]
 have hm:a = 9∨m.length = 0:=by omega
 have hb:a = 1∨b = 0:=by
  by_cases h:a = 1
  ·exact .inl h
  ·exact .inr (Classical.not_not.1 (fun h2=>hbad (.inr ⟨h,h2⟩)))
 refine Ev.step (f:=fun k=>(if a = 1 then ((spec_l1In.f b 0 1000000000000).bind fun t145=>(if t145 = true then (if s.toList = ([]:List UInt8) then (some ((l.length:Int) == 0)) else (some false)) else (some false))) else (if a = 2 then ((spec_l4Atom.f k s).bind fun t146=>(if t146 = true then (some ((l.length:Int) == 0)) else (some false))) else (if a = 3 then ((spec_l3VarOk.f k s).bind fun t147=>(if t147 = true then (if (l.length:Int) = 0 then (if pat = true then (some true) else (some (s.toList != ([95]:List UInt8)))) else (some false)) else (some false))) else (if a = 4 then (spec_l4Shape.j1 k pat (l.length:Int) a (a == 4) a b s l m) else (spec_l4Shape.j1 k pat (l.length:Int) a (a == 5) a b s l m)))))) (fun k=>by simp only [spec_l4Shape.j0];rw [if_neg (fun h=>hbad (hq.1 h))]) ?_
 by_cases c1:a = 1
 ·have hm0:m.length = 0:=by omega
  subst c1
  rw [hm0,sx1]
  refine ev_pos rfl (ev_cast ?_ (Ev.bind (ev_of (spec_l1In_eq _ _ _)) (ev_and (ev_andP (Ev.now _)))))
  rw [len0B];rfl
 have hb0:b = 0:=by omega
 subst hb0
 refine ev_neg c1 ?_
 by_cases c2:a = 2
 ·have hm0:m.length = 0:=by omega
  subst c2
  rw [hm0,sx2]
  refine ev_pos rfl (ev_cast ?_ (Ev.bind (spec_l4Atom_ev s hs) (ev_and (Ev.now _))))
  rw [len0B]
 refine ev_neg c2 ?_
 by_cases c3:a = 3
 ·have hm0:m.length = 0:=by omega
  subst c3
  rw [hm0,sx3]
  have e:Ev (fun _=>if pat = true then (some true) else (some (s.toList != ([95]:List UInt8)))) (pat || !decide (s.toList = ([95]:List UInt8))):=by
   cases pat with
   | true=>exact ev_pos rfl (Ev.now _)
   | false =>
    refine ev_neg (by decide) (ev_cast ?_ (Ev.now _))
    by_cases h:s.toList = ([95]:List UInt8) <;> simp [h]
  refine ev_pos rfl (ev_cast ?_ (Ev.bind (spec_l3VarOk_ev s hs) (ev_and (ev_andP e))))
  rw [dcast (show (l.length:Int) = 0 ↔ l.length = 0 by omega)]
 refine ev_neg c3 ?_
 by_cases c4:a = 4
 ·exact ev_pos c4 (spec_l4Shape_j1 pat a s l m hs (by omega) hm _ (by rw [beq_iff_eq];omega))
 ·exact ev_neg c4 (spec_l4Shape_j1 pat a s l m hs (by omega) hm _ (by rw [beq_iff_eq];omega))
theorem spec_l4Shape_ev (pat:Bool) (a b:Int) (s:ByteArray) (l:List S27) (m:List (P33 S27)) (hs:s.size≤140737488351232) :
  Ev (fun k=>spec_l4Shape.f k a b s l m pat) (shapeX a b s l.length m.length pat):=by
 unfold spec_l4Shape.f
 have j:=fun q hq=>spec_l4Shape_j0 pat a b s l m hs q hq
 have hf:∀ {p:Prop},¬ p → (false = true ↔ p):=fun hp=>⟨fun h=>(by cases h),fun h=>absurd h hp⟩
 have hbn:∀ {p:Prop},(b≠0 ↔ p) → ((b != 0) = true ↔ p):=fun hp=>by rw [bne_iff_ne];exact hp
 by_cases c9:a = 9
 ·exact ev_pos c9 (ev_neg (show ¬ a = 1 by omega) (j _ (hbn (by omega))))
 refine ev_neg c9 ?_
 by_cases hm:(m.length:Int) > 0
 ·exact ev_pos hm (j _ ⟨fun _=>by omega,fun _=>rfl⟩)
 refine ev_neg hm ?_
 by_cases c1:a = 1
 ·exact ev_pos c1 (j _ (hf (by omega)))
 ·exact ev_neg c1 (j _ (hbn (by omega)))
theorem spec_Vars_loop (a b:Int) (s:ByteArray) (l:List S27) (m:List (P33 S27)) (hl:(l.length:Int)≤4194304) (h:∀ y ∈ l,Ev (fun k=>spec_VarsOf.f k y.f0 y.f1 y.f2 y.f3 y.f4) (varsM y)) (d:Nat) :
  ∀ (i:Nat) (acc:List ByteArray),i + d = l.length → acc.length + (d + budXL (l.drop i))≤5000000 → Ev (fun k=>spec_VarsOf.l0 k acc i a b s l m) (acc ++ varsML (l.drop i)):=by
 induction d with
 | zero =>
  intro i acc hi hb
  refine Ev.step (f:=fun _=>some acc) (fun k=>?_) (ev_cast ?_ (Ev.now _))
  ·simp only [spec_VarsOf.l0];rw [if_neg (by omega)]
  ·rw [List.drop_eq_nil_of_le (by omega),varsML,List.append_nil]
 | succ d ih =>
  intro i acc hi hb
  have hlt:i < l.length:=by omega
  have hc:=budXL_drop l i hlt
  have hv:=vars_len l[i]
  refine Ev.step (f:=fun k=>(spec_VarsOf.f k l[i].f0 l[i].f1 l[i].f2 l[i].f3 l[i].f4).bind fun t200=>(if acc.length + t200.length < 8796093022208 then (spec_VarsOf.l0 k (acc ++ t200) (wrap64 ((i:Int) + 1)) a b s l m) else (none))) (fun k=>?_) (Ev.bind (h l[i] (List.getElem_mem hlt)) (ev_pos (by omega) ?_))
  ·simp only [spec_VarsOf.l0]
   rw [if_pos (by omega),if_pos (by omega),rdE l i hlt]
  ·rw [w64 _ (by omega) (by omega),varsL_drop l i hlt,← List.append_assoc]
   exact ih (i + 1) _ (by omega) (by rw [List.length_append];omega)
theorem spec_Vars_all:∀ x,(budX x:Int)≤4194304 → Ev (fun k=>spec_VarsOf.f k x.f0 x.f1 x.f2 x.f3 x.f4) (varsM x):=by
 refine indE ?_
 intro a b s l m ih _ hb
 rw [budX] at hb
 rw [varsM]
 refine Ev.step (f:=fun k=>(some (([]:List ByteArray):List ByteArray)).bind fun y193=>(if a = 3 then (if s.toList = ([95]:List UInt8) then (some y193) else (if y193.length < 8796093022208 then (some (y193 ++ [s])) else (none))) else (spec_VarsOf.l0 k y193 0 a b s l m))) (fun k=>?_) (Ev.bind (Ev.now _) ?_)
 ·simp only [spec_VarsOf.f]
 by_cases h3:a = 3
 ·rw [if_pos h3]
  refine ev_pos h3 ?_
  by_cases h95:s.toList = ([95]:List UInt8)
  ·exact ev_cast (if_pos h95).symm (ev_pos h95 (Ev.now _))
  ·exact ev_cast (if_neg h95).symm (ev_neg h95 (ev_pos (by simp) (Ev.now _)))
 ·rw [if_neg h3]
  refine ev_neg h3 ?_
  have e:=spec_Vars_loop a b s l m (by omega) (fun y hy=>ih y hy (by have:=budXL_mem l y hy;omega)) l.length 0 [] (by omega) (by rw [List.drop_zero];simp;omega)
  rw [List.drop_zero,List.nil_append] at e
  exact e
theorem spec_l4Once_l (l:List ByteArray) (hl:(l.length:Int)≤8388608) (d:Nat):∀ (i:Nat),i + d = l.length → ND (l.take i) → Ev (fun k=>spec_l4Once.l0 k l i) (decide (ND l)):=by
 induction d with
 | zero =>
  intro i hi hn
  refine Ev.step (f:=fun _=>some true) (fun k=>?_) (ev_cast ?_ (Ev.now _))
  ·simp only [spec_l4Once.l0];rw [if_neg (by omega)]
  ·rw [List.take_of_length_le (by omega)] at hn
   exact (decide_eq_true hn).symm
 | succ d ih =>
  intro i hi hn
  have hlt:i < l.length:=by omega
  have e:=spec_l4Has_ev (l.take i) (by rw [List.length_take];omega) l[i]
  refine Ev.step (f:=fun k=>(spec_l4Has.f k (l.take i) l[i]).bind fun t117=>(if t117 = true then (some false) else (spec_l4Once.l0 k l (wrap64 ((i:Int) + 1))))) (fun k=>?_) (Ev.bind e ?_)
  ·simp only [spec_l4Once.l0];rw [if_pos (by omega),if_pos (by omega),if_pos (by omega),rdS l i hlt];rfl
  ·rw [w64 _ (by omega) (by omega)]
   have ht:=ND_app (l.take i) l[i]
   have htk:l.take i ++ [l[i]] = l.take (i + 1):=(List.take_succ_eq_append_getElem hlt).symm
   rw [htk] at ht
   by_cases hm:l[i].toList ∈ (l.take i).map ByteArray.toList
   ·refine ev_pos (decide_eq_true hm) (ev_cast ?_ (Ev.now _))
    refine (decide_eq_false (fun h=>?_)).symm
    have h2:ND (l.take (i + 1)):=by
     have e2:ND (l.take (i + 1) ++ l.drop (i + 1)):=by rw [List.take_append_drop];exact h
     exact ND_left e2
    exact (ht.1 h2).2 hm
   ·refine ev_neg (by unfold hasM;rw [decide_eq_false hm];decide) (ih (i + 1) (by omega) (ht.2 ⟨hn,hm⟩))
theorem spec_l4Once_ev (l:List ByteArray) (hl:(l.length:Int)≤8388608):Ev (fun k=>spec_l4Once.f k l) (decide (ND l)):=by
 unfold spec_l4Once.f
 exact spec_l4Once_l l hl l.length 0 (by omega) (by rw [List.take_zero];exact ND_nil)
theorem sLook_l1 (d:Nat) (hd:d≤9) (a b:Int) (s:ByteArray) (l:List S27) (m:List (P33 S27)) (hm:(m.length:Int) + budXC m≤4194304)
  (h:∀ c ∈ m,∀ (pat:Bool) (left:Int),left≤300 → Ev (fun k=>spec_l4Look.f k c.f0.f0 c.f0.f1 c.f0.f2 c.f0.f3 c.f0.f4 pat (d:Int) left) (lookX c.f0 pat d left)∧Ev (fun k=>spec_l4Look.f k c.f1.f0 c.f1.f1 c.f1.f2 c.f1.f3 c.f1.f4 pat (d:Int) left) (lookX c.f1 pat d left)) (n:Nat) :
  ∀ (i:Nat) (left:Int),i + n = m.length → left≤300 → Ev (fun k=>spec_l4Look.l1 k ((d + 1:Nat):Int) left i a b s l m) (lookC (m.drop i) d left):=by
 have stop:∀ (i:Nat) (left:Int),Ev (fun k=>spec_l4Look.j4 k ((d + 1:Nat):Int) left i false a b s l m) left:=fun i left=>Ev.step (f:=fun _=>some left) (fun k=>by simp only [spec_l4Look.j4];rw [if_neg (by decide)]) (Ev.now _)
 induction n with
 | zero =>
  intro i left hi hleft
  refine Ev.step (f:=fun k=>spec_l4Look.j4 k ((d + 1:Nat):Int) left i false a b s l m) (fun k=>?_) (ev_cast ?_ (stop i left))
  ·simp only [spec_l4Look.l1];rw [if_neg (by omega)]
  ·rw [List.drop_eq_nil_of_le (by omega),lookC]
 | succ n ih =>
  intro i left hi hleft
  have hlt:i < m.length:=by omega
  have hdr:m.drop i = m[i] :: m.drop (i + 1):=List.drop_eq_getElem_cons hlt
  have hmem:=List.getElem_mem hlt
  have hbud:=budXC_mem m m[i] hmem
  refine Ev.step (f:=fun k=>spec_l4Look.j4 k ((d + 1:Nat):Int) left i (decide (left ≥ 0)) a b s l m) (fun k=>?_) ?_
  ·simp only [spec_l4Look.l1];rw [if_pos (by omega)]
  by_cases h0:left ≥ 0
  ·rw [decide_eq_true h0,hdr,lookC,if_pos h0]
   have hc:=rdC m i hlt
   generalize hy:m[i] = c at *
   obtain ⟨p,q⟩:=c
   have ev:=spec_Vars_all p (by have:budX p + budX q≤budXC m:=hbud;omega)
   have hvl:=vars_len p
   have eo:=spec_l4Once_ev (varsM p) (by have:budX p + budX q≤budXC m:=hbud;omega)
   have hp:=h ⟨p,q⟩ hmem
   refine Ev.step (f:=fun k=>((spec_VarsOf.f k p.f0 p.f1 p.f2 p.f3 p.f4).bind fun t157=>((spec_l4Once.f k t157).bind fun t160=>(if t160 = true then ((spec_l4Look.f k p.f0 p.f1 p.f2 p.f3 p.f4 true (d:Int) left).bind fun t162=>(if t162 ≥ 0 then ((spec_l4Look.f k q.f0 q.f1 q.f2 q.f3 q.f4 false (d:Int) t162).bind fun t164=>(spec_l4Look.l1 k ((d + 1:Nat):Int) t164 ((i + 1:Nat):Int) a b s l m)) else (spec_l4Look.l1 k ((d + 1:Nat):Int) t162 ((i + 1:Nat):Int) a b s l m))) else (some (-1)))))) (fun k=>?_) (Ev.bind ev (Ev.bind eo ?_))
   ·simp only [spec_l4Look.j4]
    have e1:(((d + 1:Nat):Int)) - 1 = (d:Int):=by omega
    have e2:(i:Int) + 1 = ((i + 1:Nat):Int):=by omega
    rw [if_pos trivial,if_pos (by omega),if_pos (by omega),hc,w64 (((d + 1:Nat):Int) - 1) (by omega) (by omega),w64 ((i:Int) + 1) (by omega) (by omega),e1,e2]
   ·rw [lookc]
    by_cases hn:ND (varsM p)
    ·rw [if_pos hn]
     refine ev_pos (decide_eq_true hn) (Ev.bind (hp true left hleft).1 ?_)
     have hle:=lookX_le p true d left hleft
     by_cases h1:lookX p true d left ≥ 0
     ·rw [if_pos h1]
      exact ev_pos h1 (Ev.bind (hp false _ hle).2 (ih (i + 1) _ (by omega) (lookX_le q false d _ hle)))
     ·rw [if_neg h1]
      exact ev_neg h1 (ih (i + 1) _ (by omega) hle)
    ·rw [if_neg hn,lookC_neg _ _ _ (by omega)]
     exact ev_neg (by rw [decide_eq_false hn];decide) (Ev.now _)
  ·rw [decide_eq_false h0,lookC_neg _ _ _ (by omega)]
   exact stop i left
theorem sLook_l0 (pat:Bool) (d:Nat) (hd:d≤9) (a b:Int) (s:ByteArray) (l:List S27) (m:List (P33 S27)) (hl:(l.length:Int)≤4194304)
  (h:∀ x ∈ l,∀ (left:Int),left≤300 → Ev (fun k=>spec_l4Look.f k x.f0 x.f1 x.f2 x.f3 x.f4 pat (d:Int) left) (lookX x pat d left))
  (hC:∀ left:Int,left≤300 → Ev (fun k=>spec_l4Look.l1 k ((d + 1:Nat):Int) left 0 a b s l m) (lookC m d left)) (n:Nat) :
  ∀ (i:Nat) (left:Int),i + n = l.length → left≤300 → Ev (fun k=>spec_l4Look.l0 k pat ((d + 1:Nat):Int) left i a b s l m) (lookC m d (lookL (l.drop i) pat d left)):=by
 have hJ:∀ left:Int,left≤300 → Ev (fun k=>spec_l4Look.j2 k ((d + 1:Nat):Int) left a b s l m) (lookC m d left):=fun left hh=>Ev.step (f:=fun k=>spec_l4Look.l1 k ((d + 1:Nat):Int) left 0 a b s l m) (fun k=>by simp only [spec_l4Look.j2]) (hC left hh)
 induction n with
 | zero =>
  intro i left hi hleft
  rw [List.drop_eq_nil_of_le (by omega),lookL]
  refine Ev.step (fun k=>?_) (hJ left hleft)
  simp only [spec_l4Look.l0];rw [if_neg (by omega)]
 | succ n ih =>
  intro i left hi hleft
  have hlt:i < l.length:=by omega
  have hdr:l.drop i = l[i] :: l.drop (i + 1):=List.drop_eq_getElem_cons hlt
  by_cases h0:left ≥ 0
  ·rw [hdr,lookL,if_pos h0]
   refine Ev.step (f:=fun k=>((spec_l4Look.f k l[i].f0 l[i].f1 l[i].f2 l[i].f3 l[i].f4 pat (d:Int) left).bind fun t155=>(spec_l4Look.l0 k pat ((d + 1:Nat):Int) t155 ((i + 1:Nat):Int) a b s l m))) (fun k=>?_) (Ev.bind (h l[i] (List.getElem_mem hlt) left hleft) (ih (i + 1) _ (by omega) (lookX_le _ pat d left hleft)))
   simp only [spec_l4Look.l0]
   have e1:(((d + 1:Nat):Int)) - 1 = (d:Int):=by omega
   have e2:(i:Int) + 1 = ((i + 1:Nat):Int):=by omega
   rw [if_pos (by omega),if_pos h0,if_pos (by omega),rdE l i hlt,w64 (((d + 1:Nat):Int) - 1) (by omega) (by omega),w64 ((i:Int) + 1) (by omega) (by omega),e1,e2]
  ·rw [lookL_neg _ _ _ _ (by omega)]
   refine Ev.step (fun k=>?_) (hJ left hleft)
   simp only [spec_l4Look.l0];rw [if_pos (by omega),if_neg h0]
theorem sLook_all:∀ x,(budX x:Int)≤2097152 → ∀ (pat:Bool) (d:Nat),d≤10 → ∀ left:Int,left≤300 → Ev (fun k=>spec_l4Look.f k x.f0 x.f1 x.f2 x.f3 x.f4 pat (d:Int) left) (lookX x pat d left):=by
 refine indE (fun a b s l m ihE ihC hb pat d hd left hleft=>?_)
 rw [budX] at hb
 have bad:∀ d':Int,Ev (fun k=>spec_l4Look.j0 k pat d' left true a b s l m) (-1):=fun d'=>Ev.step (f:=fun _=>some (-1)) (fun k=>by simp only [spec_l4Look.j0];rw [if_pos trivial]) (Ev.now _)
 show Ev (fun k=>spec_l4Look.f k a b s l m pat (d:Int) left) _
 cases d with
 | zero =>
  rw [lookX]
  exact Ev.step (fun k=>by simp only [spec_l4Look.f];rw [if_pos (by omega)]) (bad _)
 | succ d =>
  rw [lookX]
  by_cases hl1:left < 1
  ·rw [if_pos (.inl hl1)]
   exact Ev.step (fun k=>by simp only [spec_l4Look.f];rw [if_neg (by omega),if_pos hl1]) (bad _)
  have es:=spec_l4Shape_ev pat a b s l m (by omega)
  refine Ev.step (f:=fun k=>(spec_l4Shape.f k a b s l m pat).bind fun t153=>(spec_l4Look.j0 k pat ((d + 1:Nat):Int) left (!t153) a b s l m)) (fun k=>by simp only [spec_l4Look.f];rw [if_neg (by omega),if_neg hl1]) (Ev.bind es ?_)
  cases hs:shapeX a b s l.length m.length pat with
  | false =>
   rw [if_pos (.inr rfl)]
   exact bad _
  | true =>
   rw [if_neg (by simp;omega)]
   refine Ev.step (f:=fun k=>spec_l4Look.l0 k pat ((d + 1:Nat):Int) (left - 1) 0 a b s l m) (fun k=>by simp only [spec_l4Look.j0];rw [if_neg (by decide),w64 _ (by omega) (by omega)]) ?_
   have hC:∀ lf:Int,lf≤300 → Ev (fun k=>spec_l4Look.l1 k ((d + 1:Nat):Int) lf 0 a b s l m) (lookC m d lf):=fun lf hlf=>by
    have:=sLook_l1 d (by omega) a b s l m (by omega) (fun c hc pat2 l2 hl2=>⟨(ihC c hc).1 (by have:=budXC_mem m c hc;omega) pat2 d (by omega) l2 hl2,(ihC c hc).2 (by have:=budXC_mem m c hc;omega) pat2 d (by omega) l2 hl2⟩) m.length 0 lf (by omega) hlf
    rw [List.drop_zero] at this
    exact this
   have:=sLook_l0 pat d (by omega) a b s l m (by omega) (fun x hx lf hlf=>ihE x hx (by have:=budXL_mem l x hx;omega) pat d (by omega) lf hlf) hC l.length 0 (left - 1) (by omega) (by omega)
   rw [List.drop_zero] at this
   exact this
def exprM (x:S27):Bool:=decide (lookX x false 10 300 ≥ 0)
theorem spec_ExprOk_ev (x:S27) (hb:(budX x:Int)≤2097152):Ev (fun k=>spec_ExprOk.f k x.f0 x.f1 x.f2 x.f3 x.f4) (exprM x):=by
 unfold spec_ExprOk.f exprM
 exact Ev.bind (sLook_all x hb false 10 (by omega) 300 (by omega)) (Ev.now _)
theorem right_ev (b:List Int) (i h:Int) (hc:Cur b i) (names:List ByteArray) (hN:NOK names) (hl:names.length≤1000):∃ (y:S27) (i2 h2:Int),Ev (fun k=>spec_l4Right.f k b i h names) (R7 y i2 h2)∧budX y≤7450∧exprM y = true∧Cur b i2:=by
 obtain ⟨x,i1,h1,e1,hx,c1⟩:=draw_all 3 (by omega) b i h names hc hN (by omega)
 have hBD:BD 3 = 7450:=rfl
 rw [hBD] at hx
 have e1':Ev (fun k=>spec_l4Draw.f k b i h 3 names) (R7 x i1 h1):=e1
 have eo:=spec_ExprOk_ev x (by omega)
 unfold spec_l4Right.f
 by_cases hok:exprM x = true
 ·refine ⟨x,i1,h1,Ev.bind e1' (Ev.bind eo (ev_pos hok (Ev.now _))),hx,hok,c1⟩
 ·refine ⟨⟨1,1,⟨#[]⟩,[],[]⟩,i1,h1,Ev.bind e1' (Ev.bind eo (ev_neg hok (Ev.now _))),?_,by decide +kernel,c1⟩
  rw [bud5,budXL,budXC]
  show 0 + (0 + 0) + (0 + 0)≤_
  omega
def stepB (b out:List ByteArray) (s:ByteArray):List ByteArray:=if hasM b s = true then out else if hasM out s = true then out else out ++ [s]
def addB (b out l:List ByteArray):List ByteArray:=l.foldl (stepB b) out
mutual
def freeM:S27 → List ByteArray
 | ⟨a,_,s,l,m⟩=>if a = 3 then [s] else freeMC (freeML [] l) m
def freeML:List ByteArray → List S27 → List ByteArray
 | acc,[]=>acc
 | acc,x :: r=>freeML (addB [] acc (freeM x)) r
def freec:List ByteArray → P33 S27 → List ByteArray
 | acc,⟨p,x⟩=>addB (varsM p) acc (freeM x)
def freeMC:List ByteArray → List (P33 S27) → List ByteArray
 | acc,[]=>acc
 | acc,c :: r=>freeMC (freec acc c) r
end
theorem freec_eq (acc:List ByteArray) (c:P33 S27):freec acc c = addB (varsM c.f0) acc (freeM c.f1):=by obtain ⟨p,x⟩:=c;rw [freec]
theorem stepB_len (b out:List ByteArray) (s:ByteArray):(stepB b out s).length≤out.length + 1:=by
 unfold stepB
 split
 ·omega
 split
 ·omega
 ·rw [List.length_append];simp
theorem addB_len (b:List ByteArray):∀ (l out:List ByteArray),(addB b out l).length≤out.length + l.length
 | [],out=>by simp [addB]
 | s :: r,out=>by
  have h:=addB_len b r (stepB b out s)
  have h2:=stepB_len b out s
  unfold addB at *
  rw [List.foldl_cons,List.length_cons]
  omega
theorem addB_cons (b out:List ByteArray) (s:ByteArray) (r:List ByteArray):addB b out (s :: r) = addB b (stepB b out s) r:=by unfold addB;rw [List.foldl_cons]
theorem addB_nil (b out:List ByteArray):addB b out [] = out:=rfl
theorem addB_app (b out l r:List ByteArray):addB b out (l ++ r) = addB b (addB b out l) r:=by unfold addB;rw [List.foldl_append]
theorem hasM_iff (l:List ByteArray) (s:ByteArray):hasM l s = true ↔ ∃ x ∈ l,x.toList = s.toList:=by
 unfold hasM
 rw [decide_eq_true_iff,List.mem_map]
theorem hasM_congr {l:List ByteArray} {s t:ByteArray} (h:s.toList = t.toList):hasM l s = hasM l t:=by unfold hasM;rw [h]
theorem hasM_app (l r:List ByteArray) (s:ByteArray):hasM (l ++ r) s = (hasM l s || hasM r s):=by
 rw [Bool.eq_iff_iff,Bool.or_eq_true,hasM_iff,hasM_iff,hasM_iff]
 constructor
 ·rintro ⟨x,hx,e⟩
  rcases List.mem_append.1 hx with h|h
  ·exact .inl ⟨x,h,e⟩
  ·exact .inr ⟨x,h,e⟩
 ·rintro (⟨x,hx,e⟩|⟨x,hx,e⟩)
  ·exact ⟨x,List.mem_append.2 (.inl hx),e⟩
  ·exact ⟨x,List.mem_append.2 (.inr hx),e⟩
theorem hasM_one (s t:ByteArray):hasM [s] t = decide (s.toList = t.toList):=by
 rw [Bool.eq_iff_iff,hasM_iff,decide_eq_true_iff];simp
theorem hasM_step (b out:List ByteArray) (s t:ByteArray):hasM (stepB b out s) t = (hasM out t || (decide (s.toList = t.toList) && !hasM b s)):=by
 unfold stepB
 by_cases h1:hasM b s = true
 ·rw [if_pos h1,h1];simp
 ·rw [if_neg h1]
  have h1':hasM b s = false:=by simpa using h1
  rw [h1']
  by_cases h2:hasM out s = true
  ·rw [if_pos h2]
   by_cases e:s.toList = t.toList
   ·rw [← hasM_congr e,h2];rfl
   ·rw [decide_eq_false e];simp
  ·rw [if_neg h2,hasM_app,hasM_one];simp
theorem hasM_add (b:List ByteArray) (t:ByteArray):∀ (l out:List ByteArray),hasM (addB b out l) t = (hasM out t || (hasM l t && !hasM b t))
 | [],out=>by rw [addB_nil];unfold hasM;simp
 | s :: r,out=>by
  rw [addB_cons,hasM_add b t r,hasM_step]
  have e:hasM (s :: r) t = (decide (s.toList = t.toList) || hasM r t):=by
   have:s :: r = [s] ++ r:=rfl
   rw [this,hasM_app,hasM_one]
  rw [e]
  by_cases h:s.toList = t.toList
  ·rw [hasM_congr h,decide_eq_true h]
   cases hasM out t <;> cases hasM b t <;> cases hasM r t <;> rfl
  ·rw [decide_eq_false h]
   cases hasM out t <;> cases hasM b t <;> cases hasM r t <;> rfl
/-- Adding what was added: the names that are but left out are left out of all. -/
theorem add_step (but bound out acc:List ByteArray) (s:ByteArray):addB but out (stepB bound acc s) = stepB (but ++ bound) (addB but out acc) s:=by
 unfold stepB
 rw [hasM_app]
 by_cases h1:hasM bound s = true
 ·rw [if_pos h1,h1]
  simp
 ·have h1':hasM bound s = false:=by simpa using h1
  rw [if_neg h1,h1',Bool.or_false]
  by_cases h2:hasM acc s = true
  ·rw [if_pos h2]
   by_cases hb:hasM but s = true
   ·rw [if_pos hb]
   ·rw [if_neg hb,if_pos]
    have hb':hasM but s = false:=by simpa using hb
    rw [hasM_add,h2,hb'];simp
  ·rw [if_neg h2,addB_app,addB_cons,addB_nil]
   rfl
theorem add_add (but bound:List ByteArray):∀ (l out acc:List ByteArray),addB but out (addB bound acc l) = addB (but ++ bound) (addB but out acc) l
 | [],out,acc=>by rw [addB_nil,addB_nil]
 | s :: r,out,acc=>by rw [addB_cons,add_add but bound r,add_step,← addB_cons]
theorem ND_step {b out:List ByteArray} {s:ByteArray} (h:ND out):ND (stepB b out s):=by
 unfold stepB
 split
 ·exact h
 split
 ·exact h
 ·next h2 =>
  refine (ND_app out s).2 ⟨h,fun hm=>h2 ?_⟩
  unfold hasM
  exact decide_eq_true hm
theorem ND_add {b:List ByteArray} : ∀ {l out:List ByteArray},ND out → ND (addB b out l)
 | [],out,h=>h
 | s :: r,out,h=>by rw [addB_cons];exact ND_add (ND_step h)
theorem add_new:∀ (l out:List ByteArray),ND (out ++ l) → addB [] out l = out ++ l
 | [],out,_=>by rw [addB_nil,List.append_nil]
 | s :: r,out,h=>by
  have e:out ++ s :: r = (out ++ [s]) ++ r:=by simp
  rw [e] at h
  have h2:=(ND_app out s).1 (ND_left h)
  have h3:stepB [] out s = out ++ [s]:=by
   unfold stepB
   rw [if_neg (by unfold hasM;simp),if_neg]
   unfold hasM
   rw [decide_eq_true_iff]
   exact h2.2
  rw [addB_cons,h3,add_new r _ h,e]
theorem ND_free:∀ x,ND (freeM x):=by
 refine indE ?_
 intro a b s l m _ _
 have hL:∀ (l:List S27) (acc:List ByteArray),ND acc → ND (freeML acc l):=by
  intro l
  induction l with
  | nil=>intro acc h;rw [freeML];exact h
  | cons x r ih=>intro acc h;rw [freeML];exact ih _ (ND_add h)
 have hC:∀ (m:List (P33 S27)) (acc:List ByteArray),ND acc → ND (freeMC acc m):=by
  intro m
  induction m with
  | nil=>intro acc h;rw [freeMC];exact h
  | cons x r ih=>intro acc h;rw [freeMC];exact ih _ (by rw [freec_eq];exact ND_add h)
 rw [freeM]
 split
 ·unfold ND;simp
 ·exact hC m _ (hL l _ ND_nil)
theorem free_len:∀ x,(freeM x).length≤1 + budX x:=by
 refine indE ?_
 intro a b s l m ihl ihm
 rw [freeM,budX]
 split
 ·simp
 ·have hL:∀ (l:List S27) (acc:List ByteArray),(∀ y ∈ l,(freeM y).length≤1 + budX y) → (freeML acc l).length≤acc.length + (l.length + budXL l):=by
   intro l
   induction l with
   | nil=>intro acc _;rw [freeML];simp
   | cons x r ih =>
    intro acc h
    have q1:=h x List.mem_cons_self
    have q2:=ih (addB [] acc (freeM x)) (fun y hy=>h y (List.mem_cons_of_mem _ hy))
    have q3:=addB_len [] (freeM x) acc
    rw [freeML,budXL,List.length_cons]
    omega
  have hC:∀ (m:List (P33 S27)) (acc:List ByteArray),(∀ c ∈ m,(freeM c.f1).length≤1 + budX c.f1) → (freeMC acc m).length≤acc.length + (m.length + budXC m):=by
   intro m
   induction m with
   | nil=>intro acc _;rw [freeMC];simp
   | cons c r ih =>
    intro acc h
    have q1:=h c List.mem_cons_self
    have q2:=ih (freec acc c) (fun y hy=>h y (List.mem_cons_of_mem _ hy))
    have q3:=addB_len (varsM c.f0) (freeM c.f1) acc
    rw [freec_eq] at q2
    have q4:budX c.f1≤budXc c:=by obtain ⟨p,x⟩:=c;rw [budXc];show budX x≤_;omega
    rw [freeMC,budXC,List.length_cons,freec_eq]
    omega
  have q1:=hL l [] ihl
  have q2:=hC m (freeML [] l) (fun c hc=>(ihm c hc).2)
  simp at q1
  omega
theorem add_mem (b:List ByteArray) (t:ByteArray):∀ (l out:List ByteArray),t ∈ addB b out l → t ∈ out∨t ∈ l
 | [],out,h=>.inl h
 | s :: r,out,h=>by
  rw [addB_cons] at h
  rcases add_mem b t r (stepB b out s) h with h1|h1
  ·unfold stepB at h1
   split at h1
   ·exact .inl h1
   split at h1
   ·exact .inl h1
   ·rcases List.mem_append.1 h1 with h2|h2
    ·exact .inl h2
    ·exact .inr (by rw [List.mem_singleton.1 h2];exact List.mem_cons_self)
  ·exact .inr (List.mem_cons_of_mem _ h1)
theorem freeML_mem (t:ByteArray):∀ (l:List S27) (acc:List ByteArray),t ∈ freeML acc l → t ∈ acc∨∃ x ∈ l,t ∈ freeM x
 | [],acc,h=>by rw [freeML] at h;exact .inl h
 | x :: r,acc,h=>by
  rw [freeML] at h
  rcases freeML_mem t r _ h with h1|⟨y,hy,h1⟩
  ·rcases add_mem _ t _ _ h1 with h2|h2
   ·exact .inl h2
   ·exact .inr ⟨x,List.mem_cons_self,h2⟩
  ·exact .inr ⟨y,List.mem_cons_of_mem _ hy,h1⟩
theorem freeMC_mem (t:ByteArray):∀ (m:List (P33 S27)) (acc:List ByteArray),t ∈ freeMC acc m → t ∈ acc∨∃ c ∈ m,t ∈ freeM c.f1
 | [],acc,h=>by rw [freeMC] at h;exact .inl h
 | c :: r,acc,h=>by
  rw [freeMC,freec_eq] at h
  rcases freeMC_mem t r _ h with h1|⟨y,hy,h1⟩
  ·rcases add_mem _ t _ _ h1 with h2|h2
   ·exact .inl h2
   ·exact .inr ⟨c,List.mem_cons_self,h2⟩
  ·exact .inr ⟨y,List.mem_cons_of_mem _ hy,h1⟩
theorem lookL_pos (d:Nat):∀ (l:List S27) (pat:Bool) (left:Int),0≤lookL l pat d left → 0≤left∧∀ x ∈ l,∃ z:Int,0≤lookX x pat d z
 | [],pat,left,h=>by rw [lookL] at h;exact ⟨h,fun x hx=>by cases hx⟩
 | x :: r,pat,left,h=>by
  rw [lookL] at h
  by_cases h0:left ≥ 0
  ·rw [if_pos h0] at h
   obtain ⟨h1,h2⟩:=lookL_pos d r pat _ h
   refine ⟨h0,fun y hy=>?_⟩
   rcases List.mem_cons.1 hy with e|h3
   ·rw [e];exact ⟨_,h1⟩
   ·exact h2 y h3
  ·rw [if_neg h0] at h;omega
theorem lookC_pos (d:Nat):∀ (m:List (P33 S27)) (left:Int),0≤lookC m d left → 0≤left∧∀ c ∈ m,∃ z:Int,0≤lookX c.f1 false d z
 | [],left,h=>by rw [lookC] at h;exact ⟨h,fun x hx=>by cases hx⟩
 | c :: r,left,h=>by
  rw [lookC] at h
  by_cases h0:left ≥ 0
  ·rw [if_pos h0] at h
   obtain ⟨h1,h2⟩:=lookC_pos d r _ h
   refine ⟨h0,fun y hy=>?_⟩
   rcases List.mem_cons.1 hy with e|h3
   ·rw [e]
    obtain ⟨p,q⟩:=c
    rw [lookc] at h1
    by_cases hn:ND (varsM p)
    ·rw [if_pos hn] at h1
     by_cases hp:lookX p true d left ≥ 0
     ·rw [if_pos hp] at h1;exact ⟨_,h1⟩
     ·rw [if_neg hp] at h1;omega
    ·rw [if_neg hn] at h1;omega
   ·exact h2 y h3
  ·rw [if_neg h0] at h;omega
/-- An expression that is right has no free name '_'. -/
theorem free_no:∀ x:S27,∀ (d:Nat) (left:Int),0≤lookX x false d left → ∀ s ∈ freeM x,¬ s.toList = ([95]:List UInt8):=by
 refine indE ?_
 intro a b s l m ihl ihm d left h t ht
 cases d with
 | zero=>rw [lookX] at h;omega
 | succ d =>
  rw [lookX] at h
  by_cases hs:left < 1∨shapeX a b s l.length m.length false = false
  ·rw [if_pos hs] at h;omega
  ·rw [if_neg hs] at h
   obtain ⟨h1,h2⟩:=lookC_pos d m _ h
   obtain ⟨_,h4⟩:=lookL_pos d l false _ h1
   rw [freeM] at ht
   by_cases h3:a = 3
   ·rw [if_pos h3] at ht
    rw [List.mem_singleton.1 ht]
    intro e
    refine hs (.inr ?_)
    by_cases hb:b = 0
    ·by_cases hm:m.length = 0
     ·rw [h3,hb,hm,sx3,decide_eq_true e];simp
     ·exact shape_m (by omega) (by omega)
    ·exact shape_b (by omega) hb
   ·rw [if_neg h3] at ht
    rcases freeMC_mem t m _ ht with h5|⟨c,hc,h5⟩
    ·rcases freeML_mem t l _ h5 with h6|⟨x,hx,h6⟩
     ·cases h6
     ·obtain ⟨z,hz⟩:=h4 x hx
      exact ihl x hx d z hz t h6
    ·obtain ⟨z,hz⟩:=h2 c hc
     exact (ihm c hc).2 d z hz t h5
theorem add_but (b:List ByteArray):∀ (l out:List ByteArray),ND (out ++ l) → (∀ x ∈ l,hasM b x = false) → addB b out l = out ++ l
 | [],out,_,_=>by rw [addB_nil,List.append_nil]
 | s :: r,out,h,hb=>by
  have e:out ++ s :: r = (out ++ [s]) ++ r:=by simp
  rw [e] at h
  have h2:=(ND_app out s).1 (ND_left h)
  have h3:stepB b out s = out ++ [s]:=by
   unfold stepB
   rw [if_neg (by rw [hb s List.mem_cons_self];decide),if_neg]
   unfold hasM
   rw [decide_eq_true_iff]
   exact h2.2
  rw [addB_cons,h3,add_but b r _ h (fun x hx=>hb x (List.mem_cons_of_mem _ hx)),e]
/-- A name left out of a row that has it once. -/
theorem add_out (l:List ByteArray) (h:ND l) (i:Nat) (hi:i < l.length):(addB [l[i]] [] l).length = l.length - 1∧hasM (addB [l[i]] [] l) l[i] = false:=by
 have e:l = l.take i ++ l[i] :: l.drop (i + 1):=by rw [← List.drop_eq_getElem_cons hi,List.take_append_drop]
 have hno:hasM (addB [l[i]] [] l) l[i] = false:=by
  rw [hasM_add,hasM_one,decide_eq_true rfl]
  unfold hasM
  simp
 refine ⟨?_,hno⟩
 generalize hs:l[i] = s at *
 have hA:(l.take i).length = i:=by rw [List.length_take];omega
 have hB:(l.drop (i + 1)).length = l.length - (i + 1):=List.length_drop
 generalize l.take i = A at *
 generalize l.drop (i + 1) = B at *
 have hn:((A.map ByteArray.toList) ++ s.toList :: B.map ByteArray.toList).Nodup:=by
  have:=h;unfold ND at this;rw [e,List.map_append,List.map_cons] at this;exact this
 have hAB:ND (A ++ B):=by
  unfold ND
  rw [List.map_append]
  exact hn.sublist (List.Sublist.append_left (List.sublist_cons_self _ _) _)
 rw [List.nodup_append] at hn
 have h1:∀ x ∈ A,hasM [s] x = false:=by
  intro x hx
  rw [hasM_one]
  refine decide_eq_false fun e2=>?_
  exact hn.2.2 x.toList (List.mem_map_of_mem hx) s.toList List.mem_cons_self e2.symm
 have h2:∀ x ∈ B,hasM [s] x = false:=by
  intro x hx
  rw [hasM_one]
  refine decide_eq_false fun e2=>?_
  have:=(List.nodup_cons.1 hn.2.1).1
  exact this (by rw [e2];exact List.mem_map_of_mem hx)
 have h3:addB [s] [] l = A ++ B:=by
  rw [e,addB_app,add_but [s] A [] (by rw [List.nil_append];exact ND_left hAB) h1,List.nil_append,addB_cons]
  have h4:stepB [s] A s = A:=by
   unfold stepB
   rw [if_pos]
   rw [hasM_one];exact decide_eq_true rfl
  rw [h4,add_but [s] B A hAB h2]
 rw [h3,List.length_append]
 omega
/-- The case over an expression that binds one name. -/
theorem free_case (s:ByteArray) (hs : ¬ s.toList = ([95]:List UInt8)) (x:S27):freeM ⟨9,0,⟨#[]⟩,[⟨1,0,⟨#[]⟩,[],[]⟩],[⟨⟨3,0,s,[],[]⟩,x⟩]⟩ = addB [s] [] (freeM x):=by
 have h1:freeM ⟨1,0,⟨#[]⟩,[],[]⟩ = []:=by rw [freeM,if_neg (by decide),freeML,freeMC]
 have h2:varsM ⟨3,0,s,[],[]⟩ = [s]:=by rw [varsM,if_pos rfl,if_neg hs]
 rw [freeM,if_neg (by decide),freeML,freeML,h1,addB_nil,freeMC,freeMC,freec_eq,h2]
theorem free_size:∀ x:S27,∀ s ∈ freeM x,s.size≤budX x:=by
 refine indE ?_
 intro a b s l m ihl ihm t ht
 rw [budX]
 rw [freeM] at ht
 by_cases h3:a = 3
 ·rw [if_pos h3] at ht
  rw [List.mem_singleton.1 ht];omega
 ·rw [if_neg h3] at ht
  rcases freeMC_mem t m _ ht with h5|⟨c,hc,h5⟩
  ·rcases freeML_mem t l _ h5 with h6|⟨x,hx,h6⟩
   ·cases h6
   ·have:=ihl x hx t h6
    have:=budXL_mem l x hx
    omega
  ·have:=(ihm c hc).2 t h5
   have:=budXC_mem m c hc
   omega
mutual
def freeS:List ByteArray → List ByteArray → S27 → List ByteArray
 | out,but,⟨a,_,s,l,m⟩=>if a = 3 then stepB but out s else freeSC (freeSL out but l) but m
def freeSL:List ByteArray → List ByteArray → List S27 → List ByteArray
 | out,_,[]=>out
 | out,but,x :: r=>freeSL (freeS out but x) but r
def freesc:List ByteArray → List ByteArray → P33 S27 → List ByteArray
 | out,but,⟨p,x⟩=>freeS out (but ++ varsM p) x
def freeSC:List ByteArray → List ByteArray → List (P33 S27) → List ByteArray
 | out,_,[]=>out
 | out,but,c :: r=>freeSC (freesc out but c) but r
end
theorem freesc_eq (out but:List ByteArray) (c:P33 S27):freesc out but c = freeS out (but ++ varsM c.f0) c.f1:=by obtain ⟨p,x⟩:=c;rw [freesc]
theorem freeS_eq:∀ x,∀ out but,freeS out but x = addB but out (freeM x):=by
 refine indE ?_
 intro a b s l m ihl ihm out but
 have hL:∀ (l:List S27) (out acc:List ByteArray),(∀ y ∈ l,∀ out but,freeS out but y = addB but out (freeM y)) → freeSL (addB but out acc) but l = addB but out (freeML acc l):=by
  intro l
  induction l with
  | nil=>intro out acc _;rw [freeSL,freeML]
  | cons x r ih =>
   intro out acc h
   have:=ih out (addB [] acc (freeM x)) (fun y hy=>h y (List.mem_cons_of_mem _ hy))
   rw [freeSL,freeML,h x List.mem_cons_self,← this,add_add,List.append_nil]
 have hC:∀ (m:List (P33 S27)) (out acc:List ByteArray),(∀ c ∈ m,∀ out but,freeS out but c.f1 = addB but out (freeM c.f1)) → freeSC (addB but out acc) but m = addB but out (freeMC acc m):=by
  intro m
  induction m with
  | nil=>intro out acc _;rw [freeSC,freeMC]
  | cons c r ih =>
   intro out acc h
   have:=ih out (freec acc c) (fun y hy=>h y (List.mem_cons_of_mem _ hy))
   rw [freeSC,freeMC,freesc_eq,h c List.mem_cons_self,← this,freec_eq,add_add]
 rw [freeS,freeM]
 split
 ·rw [addB_cons,addB_nil]
 ·have q1:=hL l out [] ihl
  rw [addB_nil] at q1
  rw [q1]
  exact hC m out (freeML [] l) (fun c hc=>(ihm c hc).2)
theorem freeS_len (out but:List ByteArray) (x:S27):(freeS out but x).length≤out.length + (1 + budX x):=by
 rw [freeS_eq]
 have:=addB_len but (freeM x) out
 have:=free_len x
 omega
theorem sFree_l1 (a b:Int) (s:ByteArray) (l:List S27) (m:List (P33 S27)) (hm:(m.length:Int) + budXC m≤4194304) (but:List ByteArray) (hb:but.length + 2 * (1 + m.length + budXC m)≤8000000)
  (h:∀ c:P33 S27,c ∈ m → ∀ (out but:List ByteArray),out.length + (1 + budX c.f1)≤5000000 → but.length + 2 * (1 + budX c.f1)≤8000000 → Ev (fun k=>spec_l4Free.f k out but c.f1.f0 c.f1.f1 c.f1.f2 c.f1.f3 c.f1.f4) (freeS out but c.f1)) (n:Nat) :
  ∀ (i:Nat) (out:List ByteArray),i + n = m.length → out.length + (n + budXC (m.drop i))≤5000000 → Ev (fun k=>spec_l4Free.l1 k out but i a b s l m) (freeSC out but (m.drop i)):=by
 induction n with
 | zero =>
  intro i out hi ho
  rw [List.drop_eq_nil_of_le (by omega),freeSC]
  refine Ev.step (f:=fun _=>some out) (fun k=>?_) (Ev.now _)
  simp only [spec_l4Free.l1];rw [if_neg (by omega)]
 | succ n ih =>
  intro i out hi ho
  have hlt:i < m.length:=by omega
  have hd:m.drop i = m[i] :: m.drop (i + 1):=List.drop_eq_getElem_cons hlt
  have hmem:=budXC_mem m m[i] (List.getElem_mem hlt)
  have hv:=vars_len m[i].f0
  have ev:=spec_Vars_all m[i].f0 (by omega)
  have hrd:rd_T33 m (i:Int) = m[i]:=rdC m i hlt
  have hbud:budXC (m.drop i) = budXc m[i] + budXC (m.drop (i + 1)):=by rw [hd,budXC]
  have hbc:budXc m[i] = budX m[i].f0 + budX m[i].f1:=by obtain ⟨p,x⟩:=m[i];rw [budXc]
  have hsum:m.length + budXC m ≥ 1 + (budX m[i].f0 + budX m[i].f1):=by omega
  have ec:=h m[i] (List.getElem_mem hlt) out (but ++ varsM m[i].f0) (by omega) (by rw [List.length_append];omega)
  have hl:=freeS_len out (but ++ varsM m[i].f0) m[i].f1
  have hn:=ih (i + 1) (freesc out but m[i]) (by omega) (by rw [freesc_eq];omega)
  rw [hd,freeSC]
  rw [freesc_eq] at hn ⊢
  generalize m[i] = c at *
  refine Ev.step (f:=fun k=>(some (([]:List ByteArray):List ByteArray)).bind fun y136=>(if y136.length + but.length < 8796093022208 then ((some (y136 ++ but:List ByteArray)).bind fun y139=>(if 0≤(i:Int) then ((spec_VarsOf.f k c.f0.f0 c.f0.f1 c.f0.f2 c.f0.f3 c.f0.f4).bind fun t143=>(if y139.length + t143.length < 8796093022208 then ((spec_l4Free.f k out (y139 ++ t143) c.f1.f0 c.f1.f1 c.f1.f2 c.f1.f3 c.f1.f4).bind fun t150=>(spec_l4Free.l1 k t150 but (wrap64 ((i:Int) + 1)) a b s l m)) else (none))) else (none))) else (none))) (fun k=>?_) (Ev.bind (Ev.now _) (ev_pos (by simp;omega) (Ev.bind (Ev.now _) (ev_pos (by omega) (Ev.bind ev (ev_pos (by simp;omega) (Ev.bind (by rw [List.nil_append];exact ec) ?_)))))))
  ·simp only [spec_l4Free.l1];rw [if_pos (by omega),hrd]
  ·rw [w64 _ (by omega) (by omega)]
   exact hn
theorem sFree_l0 (a b:Int) (s:ByteArray) (l:List S27) (m:List (P33 S27)) (hl:(l.length:Int)≤4194304) (but:List ByteArray) (R:List ByteArray → List ByteArray) (N0:Nat)
  (h:∀ x ∈ l,∀ (out:List ByteArray),out.length + (1 + budX x)≤5000000 → Ev (fun k=>spec_l4Free.f k out but x.f0 x.f1 x.f2 x.f3 x.f4) (freeS out but x))
  (hend:∀ out:List ByteArray,out.length≤N0 → Ev (fun k=>spec_l4Free.l1 k out but 0 a b s l m) (R out)) (hN:N0≤5000000) (n:Nat) :
  ∀ (i:Nat) (out:List ByteArray),i + n = l.length → out.length + (n + budXL (l.drop i))≤N0 → Ev (fun k=>spec_l4Free.l0 k out but i a b s l m) (R (freeSL out but (l.drop i))):=by
 induction n with
 | zero =>
  intro i out hi ho
  rw [List.drop_eq_nil_of_le (by omega),freeSL]
  refine Ev.step (fun k=>?_) (hend out (by omega))
  simp only [spec_l4Free.l0];rw [if_neg (by omega)]
 | succ n ih =>
  intro i out hi ho
  have hlt:i < l.length:=by omega
  have hd:l.drop i = l[i] :: l.drop (i + 1):=List.drop_eq_getElem_cons hlt
  have hrd:=rdE l i hlt
  have hbud:=budXL_drop l i hlt
  have ex:=h l[i] (List.getElem_mem hlt) out (by omega)
  have hlen:=freeS_len out but l[i]
  have hn:=ih (i + 1) (freeS out but l[i]) (by omega) (by omega)
  rw [hd,freeSL]
  generalize l[i] = x at *
  refine Ev.step (f:=fun k=>(spec_l4Free.f k out but x.f0 x.f1 x.f2 x.f3 x.f4).bind fun t133=>(spec_l4Free.l0 k t133 but (wrap64 ((i:Int) + 1)) a b s l m)) (fun k=>?_) (Ev.bind ex ?_)
  ·simp only [spec_l4Free.l0];rw [if_pos (by omega),if_pos (by omega),hrd]
  ·rw [w64 _ (by omega) (by omega)]
   exact hn
theorem sFree_all:∀ x,(budX x:Int)≤2097152 → ∀ (out but:List ByteArray),out.length + (1 + budX x)≤5000000 → but.length + 2 * (1 + budX x)≤8000000 → Ev (fun k=>spec_l4Free.f k out but x.f0 x.f1 x.f2 x.f3 x.f4) (freeS out but x):=by
 refine indE ?_
 intro a b s l m ihl ihm hb out but ho hbut
 rw [budX] at hb ho hbut
 show Ev (fun k=>spec_l4Free.f k out but a b s l m) _
 rw [freeS]
 by_cases h3:a = 3
 ·rw [if_pos h3]
  unfold stepB
  refine Ev.step (f:=fun k=>(spec_l4Has.f k but s).bind fun t127=>(if t127 = true then (some out) else ((spec_l4Has.f k out s).bind fun t128=>(if t128 = true then (some out) else (if out.length < 8796093022208 then (some (out ++ [s])) else (none)))))) (fun k=>by simp only [spec_l4Free.f];rw [if_pos h3]) (Ev.bind (spec_l4Has_ev but (by omega) s) ?_)
  by_cases c1:hasM but s = true
  ·exact ev_cast (if_pos c1).symm (ev_pos c1 (Ev.now _))
  ·refine ev_cast (if_neg c1).symm (ev_neg c1 (Ev.bind (spec_l4Has_ev out (by omega) s) ?_))
   by_cases c2:hasM out s = true
   ·exact ev_cast (if_pos c2).symm (ev_pos c2 (Ev.now _))
   ·exact ev_cast (if_neg c2).symm (ev_neg c2 (ev_pos (by omega) (Ev.now _)))
 ·rw [if_neg h3]
  refine Ev.step (f:=fun k=>spec_l4Free.l0 k out but 0 a b s l m) (fun k=>by simp only [spec_l4Free.f];rw [if_neg h3]) ?_
  have:=sFree_l0 a b s l m (by omega) but (fun o=>freeSC o but m) (out.length + (l.length + budXL l)) (fun x hx o h=>ihl x hx (by have:=budXL_mem l x hx;omega) o but h (by have:=budXL_mem l x hx;omega)) (fun o h=>?_) (by omega) l.length 0 out (by omega) (by rw [List.drop_zero];omega)
  ·rw [List.drop_zero] at this
   exact this
  ·have:=sFree_l1 a b s l m (by omega) but (by omega) (fun c hc o b2 h1 h2=>(ihm c hc).2 (by have:=budXC_mem m c hc;omega) o b2 h1 h2) m.length 0 o (by omega) (by rw [List.drop_zero];omega)
   rw [List.drop_zero] at this
   exact this
theorem spec_FreeOf_ev (x:S27) (hb:(budX x:Int)≤2097152):Ev (fun k=>spec_FreeOf.f k x.f0 x.f1 x.f2 x.f3 x.f4) (freeM x):=by
 unfold spec_FreeOf.f
 refine Ev.bind (sFree_all x hb [] [] (by simp;omega) (by simp;omega)) (ev_cast ?_ (Ev.now _))
 rw [freeS_eq,add_new _ _ (by rw [List.nil_append];exact ND_free x),List.nil_append]
theorem impl_Vars_loop (l:List S27) (hl:(l.length:Int)≤4194304) (h:∀ y ∈ l,Ev (fun k=>impl_VarsOf.f k y.f0 y.f1 y.f2 y.f3 y.f4) (varsM y)) (d:Nat) :
  ∀ (i:Nat) (acc:List ByteArray),i + d = l.length → acc.length + (d + budXL (l.drop i))≤5000000 → Ev (fun k=>impl_VarsOf.l0 k acc l (l.length:Int) i) (acc ++ varsML (l.drop i)):=by
 induction d with
 | zero =>
  intro i acc hi hb
  refine Ev.step (f:=fun _=>some acc) (fun k=>?_) (ev_cast ?_ (Ev.now _))
  ·simp only [impl_VarsOf.l0];rw [if_neg (by omega)]
  ·rw [List.drop_eq_nil_of_le (by omega),varsML,List.append_nil]
 | succ d ih =>
  intro i acc hi hb
  have hlt:i < l.length:=by omega
  have hc:=budXL_drop l i hlt
  have hv:=vars_len l[i]
  refine Ev.step (f:=fun k=>(impl_VarsOf.f k l[i].f0 l[i].f1 l[i].f2 l[i].f3 l[i].f4).bind fun t200=>(if acc.length + t200.length < 8796093022208 then (impl_VarsOf.l0 k (acc ++ t200) l (l.length:Int) (wrap64 ((i:Int) + 1))) else (none))) (fun k=>?_) (Ev.bind (h l[i] (List.getElem_mem hlt)) (ev_pos (by omega) ?_))
  ·simp only [impl_VarsOf.l0]
   rw [if_pos (by omega),if_pos (by omega),if_pos (by omega),rdE l i hlt]
  ·rw [w64 _ (by omega) (by omega),varsL_drop l i hlt,← List.append_assoc]
   exact ih (i + 1) _ (by omega) (by rw [List.length_append];omega)
theorem impl_Vars_all:∀ x,(budX x:Int)≤4194304 → Ev (fun k=>impl_VarsOf.f k x.f0 x.f1 x.f2 x.f3 x.f4) (varsM x):=by
 refine indE ?_
 intro a b s l m ih _ hb
 rw [budX] at hb
 rw [varsM]
 by_cases h3:a = 3
 ·rw [if_pos h3]
  refine Ev.step (f:=fun k=>impl_VarsOf.j0 k (s.toList != ([95]:List UInt8)) a b s l m) (fun k=>by simp only [impl_VarsOf.f];rw [if_pos h3]) ?_
  by_cases h95:s.toList = ([95]:List UInt8)
  ·rw [if_pos h95]
   refine Ev.step (f:=fun _=>some []) (fun k=>?_) (Ev.now _)
   simp only [impl_VarsOf.j0];rw [if_neg (by simp [h95]),if_pos h3]
  ·rw [if_neg h95]
   refine Ev.step (f:=fun _=>some [s]) (fun k=>?_) (Ev.now _)
   simp only [impl_VarsOf.j0];rw [if_pos (by simp [h95])]
 ·rw [if_neg h3]
  have e:=impl_Vars_loop l (by omega) (fun y hy=>ih y hy (by have:=budXL_mem l y hy;omega)) l.length 0 [] (by omega) (by rw [List.drop_zero];simp;omega)
  rw [List.drop_zero,List.nil_append] at e
  refine Ev.step (f:=fun k=>impl_VarsOf.j0 k false a b s l m) (fun k=>by simp only [impl_VarsOf.f];rw [if_neg h3]) (Ev.step (f:=fun k=>impl_VarsOf.l0 k ([]:List ByteArray) l (l.length:Int) 0) (fun k=>?_) e)
  simp only [impl_VarsOf.j0];rw [if_neg (by decide),if_neg h3]
theorem sIndex_l (l:List ByteArray) (hl:(l.length:Int)≤8388608) (s:ByteArray) (d:Nat):∀ (i:Nat),i + d = l.length → ∃ r,Ev (fun k=>slices_Index_string_string.l0 k l s (l.length:Int) i) r∧decide (r ≥ 0) = hasM (l.drop i) s:=by
 induction d with
 | zero =>
  intro i hi
  refine ⟨-1,Ev.step (f:=fun _=>some (-1)) (fun k=>?_) (Ev.now _),?_⟩
  ·simp only [slices_Index_string_string.l0];rw [if_neg (by omega)]
  ·rw [List.drop_eq_nil_of_le (by omega)];rfl
 | succ d ih =>
  intro i hi
  have hlt:i < l.length:=by omega
  have hd:l.drop i = l[i] :: l.drop (i + 1):=List.drop_eq_getElem_cons hlt
  have st:∀ r,Ev (fun k=>(if s.toList = l[i].toList then (some (i:Int)) else (slices_Index_string_string.l0 k l s (l.length:Int) ((i + 1:Nat):Int)))) r → Ev (fun k=>slices_Index_string_string.l0 k l s (l.length:Int) i) r:=fun r er=>Ev.step (fun k=>by
   simp only [slices_Index_string_string.l0]
   have e1:(i:Int) + 1 = ((i + 1:Nat):Int):=by omega
   rw [if_pos (by omega),if_pos (by omega),if_pos (by omega),rdS l i hlt,w64 ((i:Int) + 1) (by omega) (by omega),e1]) er
  by_cases h:s.toList = l[i].toList
  ·refine ⟨(i:Int),st _ (ev_pos h (Ev.now _)),?_⟩
   unfold hasM
   rw [hd,List.map_cons,h,decide_eq_true (show (i:Int) ≥ 0 by omega)]
   exact (decide_eq_true List.mem_cons_self).symm
  ·obtain ⟨r,e,hr⟩:=ih (i + 1) (by omega)
   refine ⟨r,st _ (ev_neg h e),?_⟩
   rw [hr]
   unfold hasM
   rw [hd,List.map_cons]
   refine dcast ?_
   rw [List.mem_cons]
   exact ⟨fun h3=>.inr h3,fun h3=>h3.elim (fun e=>absurd e h) id⟩
theorem sContains_ev (l:List ByteArray) (hl:(l.length:Int)≤8388608) (s:ByteArray):Ev (fun k=>slices_Contains_string_string.f k l s) (hasM l s):=by
 obtain ⟨r,e,hr⟩:=sIndex_l l hl s l.length 0 (by omega)
 unfold slices_Contains_string_string.f
 rw [List.drop_zero] at hr
 unfold slices_Index_string_string.f
 exact ev_cast hr (Ev.bind e (Ev.now _))
theorem addOnce_l (b:List ByteArray) (hb:(b.length:Int)≤5000000) (d:Nat):∀ (i:Nat) (out:List ByteArray),i + d = b.length → out.length + d≤8000000 → Ev (fun k=>impl_addOnce.l0 k out b (b.length:Int) i) (addB [] out (b.drop i)):=by
 induction d with
 | zero =>
  intro i out hi ho
  rw [List.drop_eq_nil_of_le (by omega),addB_nil]
  refine Ev.step (f:=fun _=>some out) (fun k=>?_) (Ev.now _)
  simp only [impl_addOnce.l0];rw [if_neg (by omega)]
 | succ d ih =>
  intro i out hi ho
  have hlt:i < b.length:=by omega
  have hd:b.drop i = b[i] :: b.drop (i + 1):=List.drop_eq_getElem_cons hlt
  have hrd:=rdS b i hlt
  have ec:=sContains_ev out (by omega) b[i]
  have hs:=stepB_len [] out b[i]
  have hn:=ih (i + 1) (stepB [] out b[i]) (by omega) (by omega)
  have e0:∀ s,stepB [] out s = if hasM out s = true then out else out ++ [s]:=fun s=>by unfold stepB;rw [if_neg (by unfold hasM;simp)]
  rw [hd,addB_cons]
  rw [e0] at hn ⊢
  generalize b[i] = s at *
  refine Ev.step (f:=fun k=>(slices_Contains_string_string.f k out s).bind fun t233=>(if t233 = true then (impl_addOnce.l0 k out b (b.length:Int) (wrap64 ((i:Int) + 1))) else (if out.length < 8796093022208 then (impl_addOnce.l0 k (out ++ [s]) b (b.length:Int) (wrap64 ((i:Int) + 1))) else (none)))) (fun k=>?_) (Ev.bind ec ?_)
  ·simp only [impl_addOnce.l0];rw [if_pos (by omega),if_pos (by omega),if_pos (by omega),hrd]
  ·rw [w64 _ (by omega) (by omega)]
   by_cases c:hasM out s = true
   ·rw [if_pos c] at hn ⊢
    exact ev_pos c hn
   ·rw [if_neg c] at hn ⊢
    exact ev_neg c (ev_pos (by omega) hn)
theorem addOnce_ev (out b:List ByteArray) (ho:out.length≤3000000) (hb:b.length≤3000000):Ev (fun k=>impl_addOnce.f k out b) (addB [] out b):=by
 unfold impl_addOnce.f
 have:=addOnce_l b (by omega) b.length 0 out (by omega) (by omega)
 rw [List.drop_zero] at this
 exact this
theorem iFree_l2 (bound:List ByteArray) (m:List (P33 S27)) (i:Nat) (g:List ByteArray) (hg:g.length≤2500000) (hbo:bound.length≤5000000) (R:List ByteArray → List ByteArray) (N0:Nat) (hN:N0≤2500000)
  (hend:∀ out:List ByteArray,out.length≤N0 → Ev (fun k=>impl_FreeOf.l1 k out m (m.length:Int) (wrap64 ((i:Int) + 1))) (R out)) (d:Nat) :
  ∀ (j:Nat) (out:List ByteArray),j + d = g.length → out.length + d≤N0 → Ev (fun k=>impl_FreeOf.l2 k out bound m (m.length:Int) i g (g.length:Int) j) (R (addB bound out (g.drop j))):=by
 induction d with
 | zero =>
  intro j out hj ho
  rw [List.drop_eq_nil_of_le (by omega),addB_nil]
  refine Ev.step (fun k=>?_) (hend out (by omega))
  simp only [impl_FreeOf.l2];rw [if_neg (by omega)]
 | succ d ih =>
  intro j out hj ho
  have hlt:j < g.length:=by omega
  have hd:g.drop j = g[j] :: g.drop (j + 1):=List.drop_eq_getElem_cons hlt
  have hrd:=rdS g j hlt
  have ec:=sContains_ev bound (by omega) g[j]
  have ea:=addOnce_ev out [g[j]] (by omega) (by simp)
  have hs:=stepB_len bound out g[j]
  have hn:=ih (j + 1) (stepB bound out g[j]) (by omega) (by omega)
  rw [hd,addB_cons]
  generalize g[j] = s at *
  refine Ev.step (f:=fun k=>(slices_Contains_string_string.f k bound s).bind fun t270=>(if t270 = true then (impl_FreeOf.l2 k out bound m (m.length:Int) i g (g.length:Int) (wrap64 ((j:Int) + 1))) else ((impl_addOnce.f k out (([s]:List ByteArray))).bind fun t274=>(impl_FreeOf.l2 k t274 bound m (m.length:Int) i g (g.length:Int) (wrap64 ((j:Int) + 1)))))) (fun k=>?_) (Ev.bind ec ?_)
  ·simp only [impl_FreeOf.l2];rw [if_pos (by omega),if_pos (by omega),if_pos (by omega),hrd]
  ·rw [w64 ((j:Int) + 1) (by omega) (by omega)]
   by_cases c:hasM bound s = true
   ·have e:stepB bound out s = out:=by unfold stepB;rw [if_pos c]
    rw [e] at hn ⊢
    exact ev_pos c hn
   ·refine ev_neg c (Ev.bind ea ?_)
    have e:addB [] out [s] = stepB bound out s:=by
     rw [addB_cons,addB_nil];unfold stepB
     rw [if_neg c,if_neg (by unfold hasM;simp)]
    rw [e]
    exact hn
theorem iFree_l1 (m:List (P33 S27)) (hm:(m.length:Int) + budXC m≤2097152) (h:∀ c:P33 S27,c ∈ m → Ev (fun k=>impl_FreeOf.f k c.f1.f0 c.f1.f1 c.f1.f2 c.f1.f3 c.f1.f4) (freeM c.f1)) (n:Nat) :
  ∀ (i:Nat) (out:List ByteArray),i + n = m.length → out.length + (n + budXC (m.drop i))≤2500000 → Ev (fun k=>impl_FreeOf.l1 k out m (m.length:Int) i) (freeMC out (m.drop i)):=by
 induction n with
 | zero =>
  intro i out hi ho
  rw [List.drop_eq_nil_of_le (by omega),freeMC]
  refine Ev.step (f:=fun _=>some out) (fun k=>?_) (Ev.now _)
  simp only [impl_FreeOf.l1];rw [if_neg (by omega)]
 | succ n ih =>
  intro i out hi ho
  have hlt:i < m.length:=by omega
  have hd:m.drop i = m[i] :: m.drop (i + 1):=List.drop_eq_getElem_cons hlt
  have hmem:=budXC_mem m m[i] (List.getElem_mem hlt)
  have hv:=vars_len m[i].f0
  have hf:=free_len m[i].f1
  have ev:=impl_Vars_all m[i].f0 (by omega)
  have hrd:rd_T33 m (i:Int) = m[i]:=rdC m i hlt
  have hbud:budXC (m.drop i) = budXc m[i] + budXC (m.drop (i + 1)):=by rw [hd,budXC]
  have hbc:budXc m[i] = budX m[i].f0 + budX m[i].f1:=by obtain ⟨p,x⟩:=m[i];rw [budXc]
  have ex:=h m[i] (List.getElem_mem hlt)
  have e2:=iFree_l2 (varsM m[i].f0) m i (freeM m[i].f1) (by omega) (by omega) (fun o=>freeMC o (m.drop (i + 1))) (out.length + (1 + budX m[i].f1)) (by omega) (fun o hl=>by rw [w64 _ (by omega) (by omega)];exact ih (i + 1) o (by omega) (by omega)) (freeM m[i].f1).length 0 out (by omega) (by omega)
  rw [List.drop_zero] at e2
  rw [hd,freeMC,freec_eq]
  generalize m[i] = c at *
  refine Ev.step (f:=fun k=>(impl_VarsOf.f k c.f0.f0 c.f0.f1 c.f0.f2 c.f0.f3 c.f0.f4).bind fun t263=>((impl_FreeOf.f k c.f1.f0 c.f1.f1 c.f1.f2 c.f1.f3 c.f1.f4).bind fun t266=>(impl_FreeOf.l2 k out t263 m (m.length:Int) i t266 (t266.length:Int) 0))) (fun k=>?_) (Ev.bind ev (Ev.bind ex e2))
  simp only [impl_FreeOf.l1];rw [if_pos (by omega),if_pos (by omega),if_pos (by omega),hrd]
theorem iFree_l0 (a b:Int) (s:ByteArray) (l:List S27) (m:List (P33 S27)) (hl:(l.length:Int) + budXL l≤2097152) (R:List ByteArray → List ByteArray) (N0:Nat) (hN:N0≤2500000)
  (h:∀ x ∈ l,Ev (fun k=>impl_FreeOf.f k x.f0 x.f1 x.f2 x.f3 x.f4) (freeM x))
  (hend:∀ out:List ByteArray,out.length≤N0 → Ev (fun k=>impl_FreeOf.l1 k out m (m.length:Int) 0) (R out)) (n:Nat) :
  ∀ (i:Nat) (out:List ByteArray),i + n = l.length → out.length + (n + budXL (l.drop i))≤N0 → Ev (fun k=>impl_FreeOf.l0 k out l (l.length:Int) i a b s l m) (R (freeML out (l.drop i))):=by
 induction n with
 | zero =>
  intro i out hi ho
  rw [List.drop_eq_nil_of_le (by omega),freeML]
  refine Ev.step (fun k=>?_) (hend out (by omega))
  simp only [impl_FreeOf.l0];rw [if_neg (by omega)]
 | succ n ih =>
  intro i out hi ho
  have hlt:i < l.length:=by omega
  have hd:l.drop i = l[i] :: l.drop (i + 1):=List.drop_eq_getElem_cons hlt
  have hrd:=rdE l i hlt
  have hbud:=budXL_drop l i hlt
  have hmem:=budXL_mem l l[i] (List.getElem_mem hlt)
  have hf:=free_len l[i]
  have ex:=h l[i] (List.getElem_mem hlt)
  have ea:=addOnce_ev out (freeM l[i]) (by omega) (by omega)
  have hlen:=addB_len [] (freeM l[i]) out
  have hn:=ih (i + 1) (addB [] out (freeM l[i])) (by omega) (by omega)
  rw [hd,freeML]
  generalize l[i] = x at *
  refine Ev.step (f:=fun k=>(impl_FreeOf.f k x.f0 x.f1 x.f2 x.f3 x.f4).bind fun t255=>((impl_addOnce.f k out t255).bind fun t258=>(impl_FreeOf.l0 k t258 l (l.length:Int) (wrap64 ((i:Int) + 1)) a b s l m))) (fun k=>?_) (Ev.bind ex (Ev.bind ea ?_))
  ·simp only [impl_FreeOf.l0];rw [if_pos (by omega),if_pos (by omega),if_pos (by omega),hrd]
  ·rw [w64 _ (by omega) (by omega)]
   exact hn
theorem iFree_all:∀ x,(budX x:Int)≤2097152 → Ev (fun k=>impl_FreeOf.f k x.f0 x.f1 x.f2 x.f3 x.f4) (freeM x):=by
 refine indE ?_
 intro a b s l m ihl ihm hb
 rw [budX] at hb
 show Ev (fun k=>impl_FreeOf.f k a b s l m) _
 rw [freeM]
 by_cases h3:a = 3
 ·rw [if_pos h3]
  refine Ev.step (f:=fun _=>some [s]) (fun k=>?_) (Ev.now _)
  simp only [impl_FreeOf.f];rw [if_pos h3]
 ·rw [if_neg h3]
  refine Ev.step (f:=fun k=>impl_FreeOf.l0 k ([]:List ByteArray) l (l.length:Int) 0 a b s l m) (fun k=>by simp only [impl_FreeOf.f];rw [if_neg h3]) ?_
  have:=iFree_l0 a b s l m (by omega) (fun o=>freeMC o m) (l.length + budXL l) (by omega) (fun x hx=>ihl x hx (by have:=budXL_mem l x hx;omega)) (fun o h=>?_) l.length 0 [] (by omega) (by rw [List.drop_zero];simp)
  ·rw [List.drop_zero] at this
   exact this
  ·have:=iFree_l1 m (by omega) (fun c hc=>(ihm c hc).2 (by have:=budXC_mem m c hc;omega)) m.length 0 o (by omega) (by rw [List.drop_zero];omega)
   rw [List.drop_zero] at this
   exact this
theorem impl_inRange_eq (a b c:Int):impl_inRange.f a b c = some (decide (b≤a) && decide (a≤c)):=by
 unfold impl_inRange.f
 by_cases h:b≤a <;> simp [h]
theorem impl_isSmall_eq (c:Int):impl_isSmall.f c = some (lowB c):=by
 unfold impl_isSmall.f lowB
 by_cases h:97≤c <;> simp [h]
theorem impl_isFigure_eq (c:Int):impl_isFigure.f c = some (digB c):=by
 unfold impl_isFigure.f digB
 by_cases h:48≤c <;> simp [h]
theorem impl_AtomOk_l (s:ByteArray) (hs:s.size≤140737488351232) (d:Nat):∀ i:Nat,i + d = s.size → Ev (fun k=>impl_AtomOk.l0 k s i) (atomFrom s i && (decide (1≤(s.size:Int)) && decide ((s.size:Int)≤20))):=by
 induction d with
 | zero =>
  intro i hi
  refine Ev.step (f:=fun _=>some (decide (1≤(s.size:Int)) && decide ((s.size:Int)≤20))) (fun k=>?_) (ev_cast ?_ (Ev.now _))
  ·simp only [impl_AtomOk.l0]
   rw [if_neg (by omega),impl_inRange_eq];rfl
  ·rw [atomFrom_end s i (by omega)];rfl
 | succ d ih =>
  intro i hi
  have hlt:i < s.size:=by omega
  have hn:=ih (i + 1) (by omega)
  rw [atomFrom_step s i hlt]
  by_cases h1:lowB (bt s i) = true
  ·refine Ev.step (fun k=>?_) (ev_cast ?_ hn)
   ·simp only [impl_AtomOk.l0]
    rw [if_pos (by omega),if_pos (by omega),impl_isSmall_eq]
    simp only [Option.bind_some]
    rw [if_pos h1,w64 _ (by omega) (by omega)]
    rfl
   ·rw [h1];rfl
  ·have h1':lowB (bt s i) = false:=by simpa using h1
   by_cases h0:i = 0
   ·refine Ev.step (f:=fun _=>some false) (fun k=>?_) (ev_cast ?_ (Ev.now _))
    ·simp only [impl_AtomOk.l0]
     rw [if_pos (by omega),if_pos (by omega),impl_isSmall_eq]
     simp only [Option.bind_some]
     rw [if_neg h1,if_pos (by omega)]
    ·rw [h1'];simp [h0]
   ·by_cases h2:digB (bt s i) = true
    ·refine Ev.step (fun k=>?_) (ev_cast ?_ hn)
     ·simp only [impl_AtomOk.l0]
      rw [if_pos (by omega),if_pos (by omega),impl_isSmall_eq]
      simp only [Option.bind_some]
      rw [if_neg h1,if_neg (by omega),impl_isFigure_eq]
      simp only [Option.bind_some]
      rw [if_pos h2,w64 _ (by omega) (by omega)]
      rfl
     ·rw [h2];simp [h0]
    ·have h2':digB (bt s i) = false:=by simpa using h2
     by_cases h3:bt s i = 95
     ·refine Ev.step (fun k=>?_) (ev_cast ?_ hn)
      ·simp only [impl_AtomOk.l0]
       rw [if_pos (by omega),if_pos (by omega),impl_isSmall_eq]
       simp only [Option.bind_some]
       rw [if_neg h1,if_neg (by omega),impl_isFigure_eq]
       simp only [Option.bind_some]
       rw [if_neg h2,if_pos h3,w64 _ (by omega) (by omega)]
       rfl
      ·simp [h0,h3]
     ·refine Ev.step (f:=fun _=>some false) (fun k=>?_) (ev_cast ?_ (Ev.now _))
      ·simp only [impl_AtomOk.l0]
       rw [if_pos (by omega),if_pos (by omega),impl_isSmall_eq]
       simp only [Option.bind_some]
       rw [if_neg h1,if_neg (by omega),impl_isFigure_eq]
       simp only [Option.bind_some]
       rw [if_neg h2,if_neg h3]
      ·rw [h1',h2'];simp [h3]
theorem impl_AtomOk_ev (s:ByteArray) (hs:s.size≤140737488351232):Ev (fun k=>impl_AtomOk.f k s) (atomOkM s):=impl_AtomOk_l s hs s.size 0 (by omega)
theorem impl_xAtomOk_ev (s:ByteArray) (hs:s.size≤140737488351232):Ev (fun k=>impl_xAtomOk.f k s) (xatomM s):=by
 unfold impl_xAtomOk.f xatomM
 refine Ev.bind (impl_AtomOk_ev s hs) (ev_and (ev_of ?_))
 unfold resL
 generalize s.toList = l
 by_cases h1:l = [99,97,115,101]
 ·rw [if_pos h1];simp [h1]
 ·rw [if_neg h1]
  by_cases h2:l = [111,102]
  ·rw [if_pos h2];simp [h2]
  ·rw [if_neg h2]
   by_cases h3:l = [101,110,100] <;> simp [h1,h2,h3]
theorem impl_isOp_eq (s:ByteArray):impl_isOp.f s = some (opL s.toList):=by
 unfold impl_isOp.f opL
 generalize s.toList = l
 by_cases h1:l = [43]
 ·rw [if_pos h1];simp [h1]
 rw [if_neg h1]
 by_cases h2:l = [45]
 ·rw [if_pos h2];simp [h2]
 rw [if_neg h2]
 by_cases h3:l = [42]
 ·rw [if_pos h3];simp [h3]
 rw [if_neg h3]
 by_cases h4:l = [61,61]
 ·rw [if_pos h4];simp [h4]
 rw [if_neg h4]
 by_cases h5:l = [60] <;> simp [h1,h2,h3,h4,h5]
theorem impl_isLarge_eq (c:Int):impl_isLarge.f c = some (largeB c):=by
 unfold impl_isLarge.f largeB
 by_cases h:c ≥ 65
 ·rw [if_pos h]
  by_cases h2:c≤90
  ·rw [if_pos h2];simp [h2];omega
  ·rw [if_neg h2];simp [h2];rfl
 ·rw [if_neg h];simp;rw [decide_eq_false (by omega)];simp;rfl
theorem impl_isWord_eq (c:Int):impl_isWordByte.f c = some (lowB c || (largeB c || digB c)):=by
 unfold impl_isWordByte.f
 rw [impl_isSmall_eq,impl_isLarge_eq,impl_isFigure_eq]
 cases lowB c <;> cases largeB c <;> rfl
theorem impl_varOk_ev (s:ByteArray) (hs:s.size≤140737488351232):Ev (fun k=>impl_varOk.f k s) (varOkM s):=by
 rw [← varOk_same]
 unfold impl_varOk.f
 refine all_loopB (fun k i=>impl_varOk.l0 k s i) (varQ s) s.size (in20 s && largeB (bt s 0)) ?_ ?_ s.size 0 (by omega)
 ·intro i hi r hr hn
  have e1:=impl_isWord_eq (bt s i)
  have hw:wrap64 ((i:Int) + 1) = ((i + 1:Nat):Int):=by rw [w64 _ (by omega) (by omega)];rfl
  have hq:varQ s i = (lowB (bt s i) || (largeB (bt s i) || digB (bt s i))):=rfl
  rw [← hq] at e1
  cases g:varQ s i with
  | true =>
   refine Ev.step (fun k=>?_) (hr g)
   simp only [impl_varOk.l0]
   rw [if_pos (by omega),if_pos (by omega),e1,g,hw]
   rfl
  | false =>
   refine Ev.step (f:=fun _=>some false) (fun k=>?_) (ev_cast (hn g).symm (Ev.now _))
   simp only [impl_varOk.l0]
   rw [if_pos (by omega),if_pos (by omega),e1,g]
   rfl
 ·refine Ev.step (f:=fun _=>some (in20 s && largeB (bt s 0))) (fun k=>?_) (Ev.now _)
  simp only [impl_varOk.l0]
  rw [if_neg (by omega),impl_inRange_eq,impl_isLarge_eq]
  have hi:(decide (1≤(s.size:Int)) && decide ((s.size:Int)≤20)) = in20 s:=rfl
  rw [hi]
  simp only [Option.bind_some]
  cases h:in20 s with
  | true =>
   unfold in20 at h
   rw [Bool.and_eq_true,decide_eq_true_eq,decide_eq_true_eq] at h
   rw [if_pos rfl,if_pos (by omega)];rfl
  | false=>rw [if_neg (by decide)];rfl
theorem impl_shapeOk_j0 (a:Int) (s:ByteArray) (n:Nat) (hs:s.size≤140737488351232) (h3 : ¬ (a = 1∨a = 2∨a = 3)) (b:Int) (q:Bool) (hq:q = true ↔ a = 4∨a = 5) :
  Ev (fun k=>impl_shapeOk.j0 k b s (n:Int) a q) (shOk a b s n):=by
 unfold shOk noT
 rw [if_neg (by omega),if_neg (by omega),if_neg (by omega)]
 refine Ev.step (f:=fun k=>if q = true then (if b = 0 then (if s.toList = ([]:List UInt8) then (some (decide ((n:Int)≤20))) else (some false)) else (some false)) else (if a = 6 then (if b = 0 then (if s.toList = ([]:List UInt8) then ((impl_inRange.f (n:Int) 2 6).bind fun t251=>(some t251)) else (some false)) else (some false)) else (if a = 7 then (if b = 0 then ((impl_isOp.f s).bind fun t252=>(if t252 = true then (some ((n:Int) == 2)) else (some false))) else (some false)) else (if a = 8 then (if b = 0 then ((impl_xAtomOk.f k s).bind fun t253=>(if t253 = true then (some (decide ((n:Int)≤4))) else (some false))) else (some false)) else (if a = 9 then (if b = 0 then (if s.toList = ([]:List UInt8) then (some ((n:Int) == 1)) else (some false)) else (some false)) else (some false)))))) (fun k=>by simp only [impl_shapeOk.j0]) ?_
 by_cases c4:a = 4∨a = 5
 ·rw [if_pos c4]
  refine ev_pos (hq.2 c4) (ev_cast ?_ (ev_andP (ev_andP (Ev.now _))))
  rw [dcast (show (n:Int)≤20 ↔ n≤20 by omega)]
 rw [if_neg c4]
 refine ev_neg (fun h=>c4 (hq.1 h)) ?_
 by_cases c6:a = 6
 ·rw [if_pos c6]
  refine ev_pos c6 (ev_cast ?_ (ev_andP (ev_andP (Ev.bind (ev_of (impl_inRange_eq _ _ _)) (Ev.now _)))))
  rw [dcast (show (2:Int)≤n ↔ 2≤n by omega),dcast (show (n:Int)≤6 ↔ n≤6 by omega)]
 rw [if_neg c6]
 refine ev_neg c6 ?_
 by_cases c7:a = 7
 ·rw [if_pos c7]
  refine ev_pos c7 (ev_cast ?_ (ev_andP (Ev.bind (ev_of (impl_isOp_eq s)) (ev_and (Ev.now _)))))
  rw [len2B]
 rw [if_neg c7]
 refine ev_neg c7 ?_
 by_cases c8:a = 8
 ·rw [if_pos c8]
  refine ev_pos c8 (ev_cast ?_ (ev_andP (Ev.bind (impl_xAtomOk_ev s hs) (ev_and (Ev.now _)))))
  rw [dcast (show (n:Int)≤4 ↔ n≤4 by omega)]
 rw [if_neg c8]
 refine ev_neg c8 ?_
 by_cases c9:a = 9
 ·refine ev_pos c9 ?_
  rw [if_pos c9]
  refine ev_cast ?_ (ev_andP (ev_andP (Ev.now _)))
  rw [len1B]
 ·refine ev_neg c9 ?_
  rw [if_neg c9,Bool.and_false]
  exact Ev.now _
theorem impl_shapeOk_ev (a b:Int) (s:ByteArray) (n:Nat) (hs:s.size≤140737488351232):Ev (fun k=>impl_shapeOk.f k a b s (n:Int)) (shOk a b s n):=by
 unfold impl_shapeOk.f
 by_cases c1:a = 1
 ·unfold shOk noT
  rw [if_pos c1]
  refine ev_pos c1 (ev_cast ?_ (Ev.bind (ev_of (impl_inRange_eq _ _ _)) (ev_and (ev_andP (Ev.now _)))))
  rw [len0B]
 refine ev_neg c1 ?_
 by_cases c2:a = 2
 ·unfold shOk
  rw [if_neg c1,if_pos c2]
  refine ev_pos c2 (ev_cast ?_ (ev_andP (Ev.bind (impl_xAtomOk_ev s hs) (ev_and (Ev.now _)))))
  rw [len0B]
 refine ev_neg c2 ?_
 by_cases c3:a = 3
 ·unfold shOk
  rw [if_neg c1,if_neg c2,if_pos c3]
  refine ev_pos c3 (ev_cast ?_ (ev_andP (Ev.bind (impl_varOk_ev s hs) (ev_and (Ev.now _)))))
  rw [len0B]
 refine ev_neg c3 ?_
 by_cases c4:a = 4
 ·exact ev_pos c4 (impl_shapeOk_j0 a s n hs (by omega) b _ (by rw [beq_iff_eq];omega))
 ·exact ev_neg c4 (impl_shapeOk_j0 a s n hs (by omega) b _ (by rw [beq_iff_eq];omega))
/-- What a run over a pattern has come to: of x, from count c and names ns. -/
def JP (x:S27) (d c:Nat) (ns:List ByteArray) (ok:Bool) (ns2:List ByteArray) (c2:Int):Prop :=
 (ok = true → c2≤300∧0≤c2∧lookX x true d (300 - c) = 300 - c2∧ns2 = ns ++ varsM x∧ND (ns ++ varsM x)∧(ns2.length:Int)≤c2)∧(ok = false → lookX x true d (300 - c) < 0∨¬ ND (ns ++ varsM x))
theorem jp_loop (dp:Int) (d:Nat) (hd:dp + d = 10) (h1:1≤dp) (l:List S27) (hl:(l.length:Int)≤4194304)
  (h:∀ x ∈ l,∀ (c:Nat) (ns:List ByteArray),c≤300 → ns.length≤c → ND ns → ∃ ok ns2 c2,Ev (fun k=>impl_judge_pat.f k (c:Int) ns x.f0 x.f1 x.f2 x.f3 x.f4 (dp + 1)) (ok,ns2,c2)∧JP x d c ns ok ns2 c2) (n:Nat) :
  ∀ (i c:Nat) (ns:List ByteArray),i + n = l.length → c≤300 → ns.length≤c → ND ns → ∃ ok ns2 c2,Ev (fun k=>impl_judge_pat.l0 k dp l (l.length:Int) i (c:Int) ns) (ok,ns2,c2) ∧
   (ok = true → c2≤300∧0≤c2∧lookL (l.drop i) true d (300 - c) = 300 - c2∧ns2 = ns ++ varsML (l.drop i)∧ND (ns ++ varsML (l.drop i))∧(ns2.length:Int)≤c2)∧(ok = false → lookL (l.drop i) true d (300 - c) < 0∨¬ ND (ns ++ varsML (l.drop i))):=by
 induction n with
 | zero =>
  intro i c ns hi hc hn hnd
  refine ⟨true,ns,c,Ev.step (f:=fun _=>some (true,ns,(c:Int))) (fun k=>by simp only [impl_judge_pat.l0];rw [if_neg (by omega)]) (Ev.now _),fun _=>?_,fun h=>(by cases h)⟩
  rw [List.drop_eq_nil_of_le (by omega),lookL,varsML,List.append_nil]
  exact ⟨by omega,by omega,rfl,rfl,hnd,by omega⟩
 | succ n ih =>
  intro i c ns hi hc hn hnd
  have hlt:i < l.length:=by omega
  have hdr:l.drop i = l[i] :: l.drop (i + 1):=List.drop_eq_getElem_cons hlt
  obtain ⟨ok,ns1,c1,e,hok,hno⟩:=h l[i] (List.getElem_mem hlt) c ns hc hn hnd
  have st:∀ r,Ev (fun k=>if ok = true then (impl_judge_pat.l0 k dp l (l.length:Int) ((i + 1:Nat):Int) c1 ns1) else (some (false,ns1,c1))) r → Ev (fun k=>impl_judge_pat.l0 k dp l (l.length:Int) i (c:Int) ns) r:=by
   intro r er
   refine Ev.step (f:=fun k=>(impl_judge_pat.f k (c:Int) ns l[i].f0 l[i].f1 l[i].f2 l[i].f3 l[i].f4 (dp + 1)).bind fun bt264=>(if bt264.1 = true then (impl_judge_pat.l0 k dp l (l.length:Int) ((i + 1:Nat):Int) bt264.2.2 bt264.2.1) else (some (false,bt264.2.1,bt264.2.2)))) (fun k=>?_) (Ev.bind e er)
   simp only [impl_judge_pat.l0]
   have e1:(i:Int) + 1 = ((i + 1:Nat):Int):=by omega
   rw [if_pos (by omega),if_pos (by omega),if_pos (by omega),rdE l i hlt,w64 (dp + 1) (by omega) (by omega),w64 ((i:Int) + 1) (by omega) (by omega),e1]
  rw [hdr,lookL,if_pos (by omega),varsML,← List.append_assoc]
  cases ok with
  | true =>
   obtain ⟨a1,a2,a3,a4,a5,a6⟩:=hok rfl
   obtain ⟨c1n,rfl⟩:∃ m:Nat,c1 = (m:Int):=⟨c1.toNat,by omega⟩
   subst a4
   obtain ⟨ok2,ns2,c2,e2,q1,q2⟩:=ih (i + 1) c1n (ns ++ varsM l[i]) (by omega) (by omega) (by omega) a5
   rw [a3]
   exact ⟨ok2,ns2,c2,st _ (ev_pos rfl e2),q1,q2⟩
  | false =>
   refine ⟨false,ns1,c1,st _ (ev_neg (by decide) (Ev.now _)),fun h=>(by cases h),fun _=>?_⟩
   rcases hno rfl with h2|h2
   ·exact .inl (by rw [lookL_neg _ _ _ _ h2];exact h2)
   ·exact .inr (fun h3=>h2 (ND_left h3))
theorem jp_all:∀ x,(budX x:Int)≤2097152 → ∀ (d:Nat) (dp:Int),dp + d = 11 → 1≤dp → ∀ (c:Nat) (ns:List ByteArray),c≤300 → ns.length≤c → ND ns →
  ∃ ok ns2 c2,Ev (fun k=>impl_judge_pat.f k (c:Int) ns x.f0 x.f1 x.f2 x.f3 x.f4 dp) (ok,ns2,c2)∧JP x d c ns ok ns2 c2:=by
 refine indE (fun a b s l m ihE _ hb d dp hd h1 c ns hc hn hnd=>?_)
 rw [budX] at hb
 show ∃ ok ns2 c2,Ev (fun k=>impl_judge_pat.f k (c:Int) ns a b s l m dp) (ok,ns2,c2)∧JP ⟨a,b,s,l,m⟩ d c ns ok ns2 c2
 have hc1:(c:Int) + 1 = ((c + 1:Nat):Int):=by omega
 have bad:Ev (fun k=>impl_judge_pat.j0 k dp true ((c + 1:Nat):Int) ns a b s l m) (false,ns,((c + 1:Nat):Int)):=Ev.step (f:=fun _=>some (false,ns,((c + 1:Nat):Int))) (fun k=>by simp only [impl_judge_pat.j0];rw [if_pos trivial]) (Ev.now _)
 have no:(lookX ⟨a,b,s,l,m⟩ true d (300 - c) < 0) → JP ⟨a,b,s,l,m⟩ d c ns false ns ((c + 1:Nat):Int):=fun h=>⟨fun h=>(by cases h),fun _=>.inl h⟩
 cases d with
 | zero =>
  refine ⟨false,ns,((c + 1:Nat):Int),Ev.step (fun k=>?_) bad,no (by rw [lookX];omega)⟩
  simp only [impl_judge_pat.f]
  rw [if_pos (by omega),w64 ((c:Int) + 1) (by omega) (by omega),hc1]
 | succ d =>
  have hlook:lookX ⟨a,b,s,l,m⟩ true (d + 1) (300 - c) = if (300 - c:Int) < 1∨shapeX a b s l.length m.length true = false then -1 else lookC m d (lookL l true d (300 - c - 1)):=by rw [lookX]
  have hd10 : ¬ dp > 10:=by omega
  by_cases hcc:((c + 1:Nat):Int) > 300
  ·refine ⟨false,ns,((c + 1:Nat):Int),Ev.step (fun k=>?_) bad,no (by rw [hlook,if_pos (.inl (by omega))];omega)⟩
   simp only [impl_judge_pat.f]
   rw [if_neg hd10,w64 ((c:Int) + 1) (by omega) (by omega),hc1,if_pos hcc]
  have hsx:shapeX a b s l.length m.length true = (decide (a≤6) && (decide (m.length = 0) && shOk a b s l.length)):=by unfold shapeX;rw [if_pos rfl]
  by_cases h6:a > 6
  ·have hbad:shapeX a b s l.length m.length true = false:=by rw [hsx,decide_eq_false (by omega)];rfl
   refine ⟨false,ns,((c + 1:Nat):Int),Ev.step (fun k=>?_) bad,no (by rw [hlook,if_pos (.inr hbad)];omega)⟩
   simp only [impl_judge_pat.f]
   rw [if_neg hd10,w64 ((c:Int) + 1) (by omega) (by omega),hc1,if_neg hcc,if_pos h6]
  by_cases hm:(m.length:Int) > 0
  ·have hbad:shapeX a b s l.length m.length true = false:=by rw [hsx,decide_eq_false (show ¬ m.length = 0 by omega),Bool.false_and,Bool.and_false]
   refine ⟨false,ns,((c + 1:Nat):Int),Ev.step (fun k=>?_) bad,no (by rw [hlook,if_pos (.inr hbad)];omega)⟩
   simp only [impl_judge_pat.f]
   rw [if_neg hd10,w64 ((c:Int) + 1) (by omega) (by omega),hc1,if_neg hcc,if_neg h6,if_pos hm]
  have hm0:m = []:=List.eq_nil_of_length_eq_zero (by omega)
  subst hm0
  rw [decide_eq_true (show a≤6 by omega),decide_eq_true (show ([]:List (P33 S27)).length = 0 from rfl),Bool.true_and,Bool.true_and] at hsx
  have es:=impl_shapeOk_ev a b s l.length (by omega)
  have top:∀ r,Ev (fun k=>impl_judge_pat.j0 k dp (!(shOk a b s l.length)) ((c + 1:Nat):Int) ns a b s l []) r → Ev (fun k=>impl_judge_pat.f k (c:Int) ns a b s l [] dp) r:=by
   intro r er
   refine Ev.step (f:=fun k=>(impl_shapeOk.f k a b s (l.length:Int)).bind fun t257=>(impl_judge_pat.j0 k dp (!t257) ((c + 1:Nat):Int) ns a b s l [])) (fun k=>?_) (Ev.bind es er)
   simp only [impl_judge_pat.f]
   rw [if_neg hd10,w64 ((c:Int) + 1) (by omega) (by omega),hc1,if_neg hcc,if_neg h6,if_neg hm]
  cases hs:shOk a b s l.length with
  | false =>
   rw [hs] at top hsx
   exact ⟨false,ns,((c + 1:Nat):Int),top _ bad,no (by rw [hlook,if_pos (.inr hsx)];omega)⟩
  | true =>
   rw [hs] at top hsx
   rw [hsx,if_neg (by simp;omega)] at hlook
   rw [lookC] at hlook
   have hcc2:(300:Int) - c - 1 = 300 - ((c + 1:Nat):Int):=by omega
   rw [hcc2] at hlook
   have run:∀ ns1:List ByteArray,ns1.length≤c + 1 → ND ns1 → ∃ ok ns2 c2,Ev (fun k=>impl_judge_pat.j2 k dp ((c + 1:Nat):Int) ns1 a b s l []) (ok,ns2,c2) ∧
     (ok = true → c2≤300∧0≤c2∧lookL l true d (300 - ((c + 1:Nat):Int)) = 300 - c2∧ns2 = ns1 ++ varsML l∧ND (ns1 ++ varsML l)∧(ns2.length:Int)≤c2)∧(ok = false → lookL l true d (300 - ((c + 1:Nat):Int)) < 0∨¬ ND (ns1 ++ varsML l)):=by
    intro ns1 hn1 hnd1
    obtain ⟨ok,ns2,c2,e,q1,q2⟩:=jp_loop dp d (by omega) h1 l (by omega) (fun x hx c ns hc hn hnd=>ihE x hx (by have:=budXL_mem l x hx;omega) d (dp + 1) (by omega) (by omega) c ns hc hn hnd) l.length 0 (c + 1) ns1 (by omega) (by omega) hn1 hnd1
    rw [List.drop_zero] at q1 q2
    exact ⟨ok,ns2,c2,Ev.step (f:=fun k=>impl_judge_pat.l0 k dp l (l.length:Int) 0 ((c + 1:Nat):Int) ns1) (fun k=>by simp only [impl_judge_pat.j2]) e,q1,q2⟩
   have j0:∀ (q:Bool) r,(q = true ↔ a = 3∧s.toList≠([95]:List UInt8)) → Ev (fun k=>impl_judge_pat.j1 k dp q ((c + 1:Nat):Int) ns a b s l []) r → Ev (fun k=>impl_judge_pat.f k (c:Int) ns a b s l [] dp) r:=by
    intro q r hq er
    refine top r ?_
    by_cases c3:a = 3
    ·have:q = (s.toList != ([95]:List UInt8)):=by
      by_cases h:s.toList = ([95]:List UInt8)
      ·have hq2:q = false:=by
        cases q with
        | false=>rfl
        | true=>exact absurd h (hq.1 rfl).2
       rw [hq2];simp [h]
      ·rw [hq.2 ⟨c3,h⟩];simp [h]
     subst this
     exact Ev.step (fun k=>by simp only [impl_judge_pat.j0];rw [if_neg (by decide),if_pos c3]) er
    ·have:q = false:=by
      cases q with
      | false=>rfl
      | true=>exact absurd (hq.1 rfl).1 c3
     subst this
     exact Ev.step (fun k=>by simp only [impl_judge_pat.j0];rw [if_neg (by decide),if_neg c3]) er
   by_cases c3:a = 3
   ·have hl0:l = []:=by
     have h2:=hs
     unfold shOk at h2
     rw [if_neg (by omega),if_neg (by omega),if_pos c3] at h2
     simp only [Bool.and_eq_true,decide_eq_true_eq] at h2
     exact List.eq_nil_of_length_eq_zero h2.2.2
    subst hl0
    rw [lookL] at hlook
    have hv:varsM ⟨a,b,s,[],[]⟩ = if s.toList = ([95]:List UInt8) then [] else [s]:=by rw [varsM,if_pos c3]
    by_cases h95:s.toList = ([95]:List UInt8)
    ·rw [if_pos h95] at hv
     obtain ⟨ok,ns2,c2,e,q1,q2⟩:=run ns (by omega) hnd
     rw [lookL,varsML,List.append_nil] at q1 q2
     refine ⟨ok,ns2,c2,j0 false _ ⟨fun h=>(by cases h),fun h=>absurd h95 h.2⟩ (Ev.step (fun k=>by simp only [impl_judge_pat.j1];rw [if_neg (by decide)]) e),?_⟩
     unfold JP
     rw [hlook,hv,List.append_nil]
     exact ⟨q1,q2⟩
    ·rw [if_neg h95] at hv
     have ec:=sContains_ev ns (by omega) s
     have na:=ND_app ns s
     have st:∀ r,Ev (fun k=>if hasM ns s = true then (some (false,ns,((c + 1:Nat):Int))) else (if ns.length < 8796093022208 then (impl_judge_pat.j2 k dp ((c + 1:Nat):Int) (ns ++ [s]) a b s [] []) else (none))) r → Ev (fun k=>impl_judge_pat.f k (c:Int) ns a b s [] [] dp) r:=by
      intro r er
      refine j0 true r ⟨fun _=>⟨c3,h95⟩,fun _=>rfl⟩ (Ev.step (f:=fun k=>(slices_Contains_string_string.f k ns s).bind fun t258=>(if t258 = true then (some (false,ns,((c + 1:Nat):Int))) else (if ns.length < 8796093022208 then (impl_judge_pat.j2 k dp ((c + 1:Nat):Int) (ns ++ [s]) a b s [] []) else (none)))) (fun k=>by simp only [impl_judge_pat.j1];rw [if_pos trivial]) (Ev.bind ec er))
     by_cases hm:s.toList ∈ ns.map ByteArray.toList
     ·refine ⟨false,ns,((c + 1:Nat):Int),st _ (ev_pos (decide_eq_true hm) (Ev.now _)),fun h=>(by cases h),fun _=>.inr ?_⟩
      rw [hv]
      exact fun h=>(na.1 h).2 hm
     ·have hnd1:ND (ns ++ [s]):=na.2 ⟨hnd,hm⟩
      obtain ⟨ok,ns2,c2,e,q1,q2⟩:=run (ns ++ [s]) (by rw [List.length_append];simp;omega) hnd1
      rw [lookL,varsML,List.append_nil] at q1 q2
      refine ⟨ok,ns2,c2,st _ (ev_neg (by unfold hasM;rw [decide_eq_false hm];decide) (ev_pos (by omega) e)),?_⟩
      unfold JP
      rw [hlook,hv]
      exact ⟨q1,q2⟩
   ·have hv:varsM ⟨a,b,s,l,[]⟩ = varsML l:=by rw [varsM,if_neg c3]
    obtain ⟨ok,ns2,c2,e,q1,q2⟩:=run ns (by omega) hnd
    refine ⟨ok,ns2,c2,j0 false _ ⟨fun h=>(by cases h),fun h=>absurd h.1 c3⟩ (Ev.step (fun k=>by simp only [impl_judge_pat.j1];rw [if_neg (by decide)]) e),?_⟩
    unfold JP
    rw [hlook,hv]
    exact ⟨q1,q2⟩
/-- What a run over an expression has come to: of x, from count c. -/
def JE (x:S27) (d c:Nat) (ok:Bool) (c2:Int):Prop :=
 (ok = true → c2≤300∧0≤c2∧lookX x false d (300 - c) = 300 - c2)∧(ok = false → lookX x false d (300 - c) < 0)
theorem je_l1 (dp:Int) (d:Nat) (hd:dp + d = 10) (h1:1≤dp) (m:List (P33 S27)) (hm:(m.length:Int) + budXC m≤2097152)
  (h:∀ c ∈ m,∀ (n:Nat) (ns:List ByteArray),n≤300 → ∃ ok ns2 c2,Ev (fun k=>impl_judge_expr.f k (n:Int) ns c.f1.f0 c.f1.f1 c.f1.f2 c.f1.f3 c.f1.f4 (dp + 1)) (ok,ns2,c2)∧JE c.f1 d n ok c2) (e:Nat) :
  ∀ (i c:Nat) (ns:List ByteArray),i + e = m.length → c≤300 → ∃ ok ns2 c2,Ev (fun k=>impl_judge_expr.l1 k dp m (m.length:Int) i (c:Int) ns) (ok,ns2,c2) ∧
   (ok = true → c2≤300∧0≤c2∧lookC (m.drop i) d (300 - c) = 300 - c2)∧(ok = false → lookC (m.drop i) d (300 - c) < 0):=by
 induction e with
 | zero =>
  intro i c ns hi hc
  refine ⟨true,ns,c,Ev.step (f:=fun _=>some (true,ns,(c:Int))) (fun k=>by simp only [impl_judge_expr.l1];rw [if_neg (by omega)]) (Ev.now _),fun _=>?_,fun h=>(by cases h)⟩
  rw [List.drop_eq_nil_of_le (by omega),lookC]
  exact ⟨by omega,by omega,rfl⟩
 | succ e ih =>
  intro i c ns hi hc
  have hlt:i < m.length:=by omega
  have hdr:m.drop i = m[i] :: m.drop (i + 1):=List.drop_eq_getElem_cons hlt
  have hmem:=List.getElem_mem hlt
  have hbud:=budXC_mem m m[i] hmem
  have hr:=rdC m i hlt
  have hq:=h m[i] hmem
  rw [hdr,lookC,if_pos (by omega)]
  generalize hy:m[i] = cl at *
  obtain ⟨p,q⟩:=cl
  replace hbud:budX p + budX q≤budXC m:=hbud
  obtain ⟨ok,ns1,c1,ep,hok,hno⟩:=jp_all p (by omega) d (dp + 1) (by omega) (by omega) c [] hc (by simp) ND_nil
  rw [List.nil_append] at hok hno
  have st:∀ r,Ev (fun k=>if ok = true then ((impl_judge_expr.f k c1 ns1 q.f0 q.f1 q.f2 q.f3 q.f4 (dp + 1)).bind fun bt202=>(if bt202.1 = true then (impl_judge_expr.l1 k dp m (m.length:Int) ((i + 1:Nat):Int) bt202.2.2 bt202.2.1) else (some (false,bt202.2.1,bt202.2.2)))) else (some (false,ns1,c1))) r → Ev (fun k=>impl_judge_expr.l1 k dp m (m.length:Int) i (c:Int) ns) r:=by
   intro r er
   refine Ev.step (f:=fun k=>(impl_judge_pat.f k (c:Int) [] p.f0 p.f1 p.f2 p.f3 p.f4 (dp + 1)).bind fun bt197=>(if bt197.1 = true then ((impl_judge_expr.f k bt197.2.2 bt197.2.1 q.f0 q.f1 q.f2 q.f3 q.f4 (dp + 1)).bind fun bt202=>(if bt202.1 = true then (impl_judge_expr.l1 k dp m (m.length:Int) ((i + 1:Nat):Int) bt202.2.2 bt202.2.1) else (some (false,bt202.2.1,bt202.2.2)))) else (some (false,bt197.2.1,bt197.2.2)))) (fun k=>?_) (Ev.bind ep er)
   simp only [impl_judge_expr.l1]
   have e1:(i:Int) + 1 = ((i + 1:Nat):Int):=by omega
   rw [if_pos (by omega),if_pos (by omega),if_pos (by omega),hr,w64 (dp + 1) (by omega) (by omega),w64 ((i:Int) + 1) (by omega) (by omega),e1]
  rw [lookc]
  cases ok with
  | true =>
   obtain ⟨a1,a2,a3,a4,a5,a6⟩:=hok rfl
   obtain ⟨c1n,rfl⟩:∃ z:Nat,c1 = (z:Int):=⟨c1.toNat,by omega⟩
   rw [if_pos a5,a3,if_pos (by omega)]
   obtain ⟨ok2,ns2,c2,eq,q1,q2⟩:=hq c1n ns1 (by omega)
   cases ok2 with
   | true =>
    obtain ⟨b1,b2,b3⟩:=q1 rfl
    obtain ⟨c2n,rfl⟩:∃ z:Nat,c2 = (z:Int):=⟨c2.toNat,by omega⟩
    obtain ⟨ok3,ns3,c3,e3,r1,r2⟩:=ih (i + 1) c2n ns2 (by omega) (by omega)
    rw [show lookX q false d (300 - (c1n:Int)) = 300 - (c2n:Int) from b3]
    exact ⟨ok3,ns3,c3,st _ (ev_pos rfl (Ev.bind eq (ev_pos rfl e3))),r1,r2⟩
   | false =>
    have hn:lookX q false d (300 - (c1n:Int)) < 0:=q2 rfl
    refine ⟨false,ns2,c2,st _ (ev_pos rfl (Ev.bind eq (ev_neg (by simp) (Ev.now _)))),fun h=>(by cases h),fun _=>?_⟩
    rw [lookC_neg _ _ _ hn];exact hn
  | false =>
   refine ⟨false,ns1,c1,st _ (ev_neg (by decide) (Ev.now _)),fun h=>(by cases h),fun _=>?_⟩
   by_cases hnd:ND (varsM p)
   ·have hn:lookX p true d (300 - (c:Int)) < 0:=by
     rcases hno rfl with h2|h2
     ·exact h2
     ·exact absurd hnd h2
    rw [if_pos hnd,if_neg (by omega),lookC_neg _ _ _ hn];exact hn
   ·rw [if_neg hnd,lookC_neg _ _ _ (by omega)];omega
theorem je_l0 (dp:Int) (d:Nat) (hd:dp + d = 10) (h1:1≤dp) (a b:Int) (s:ByteArray) (l:List S27) (m:List (P33 S27)) (hl:(l.length:Int)≤4194304)
  (h:∀ x ∈ l,∀ (n:Nat) (ns:List ByteArray),n≤300 → ∃ ok ns2 c2,Ev (fun k=>impl_judge_expr.f k (n:Int) ns x.f0 x.f1 x.f2 x.f3 x.f4 (dp + 1)) (ok,ns2,c2)∧JE x d n ok c2)
  (hC:∀ (c:Nat) (ns:List ByteArray),c≤300 → ∃ ok ns2 c2,Ev (fun k=>impl_judge_expr.l1 k dp m (m.length:Int) 0 (c:Int) ns) (ok,ns2,c2)∧(ok = true → c2≤300∧0≤c2∧lookC m d (300 - c) = 300 - c2)∧(ok = false → lookC m d (300 - c) < 0)) (e:Nat) :
  ∀ (i c:Nat) (ns:List ByteArray),i + e = l.length → c≤300 → ∃ ok ns2 c2,Ev (fun k=>impl_judge_expr.l0 k dp l (l.length:Int) i (c:Int) ns a b s l m) (ok,ns2,c2) ∧
   (ok = true → c2≤300∧0≤c2∧lookC m d (lookL (l.drop i) false d (300 - c)) = 300 - c2)∧(ok = false → lookC m d (lookL (l.drop i) false d (300 - c)) < 0):=by
 induction e with
 | zero =>
  intro i c ns hi hc
  obtain ⟨ok,ns2,c2,e,q1,q2⟩:=hC c ns hc
  rw [List.drop_eq_nil_of_le (by omega),lookL]
  exact ⟨ok,ns2,c2,Ev.step (f:=fun k=>impl_judge_expr.l1 k dp m (m.length:Int) 0 (c:Int) ns) (fun k=>by simp only [impl_judge_expr.l0];rw [if_neg (by omega)]) e,q1,q2⟩
 | succ e ih =>
  intro i c ns hi hc
  have hlt:i < l.length:=by omega
  have hdr:l.drop i = l[i] :: l.drop (i + 1):=List.drop_eq_getElem_cons hlt
  obtain ⟨ok,ns1,c1,ee,hok,hno⟩:=h l[i] (List.getElem_mem hlt) c ns hc
  have st:∀ r,Ev (fun k=>if ok = true then (impl_judge_expr.l0 k dp l (l.length:Int) ((i + 1:Nat):Int) c1 ns1 a b s l m) else (some (false,ns1,c1))) r → Ev (fun k=>impl_judge_expr.l0 k dp l (l.length:Int) i (c:Int) ns a b s l m) r:=by
   intro r er
   refine Ev.step (f:=fun k=>(impl_judge_expr.f k (c:Int) ns l[i].f0 l[i].f1 l[i].f2 l[i].f3 l[i].f4 (dp + 1)).bind fun bt190=>(if bt190.1 = true then (impl_judge_expr.l0 k dp l (l.length:Int) ((i + 1:Nat):Int) bt190.2.2 bt190.2.1 a b s l m) else (some (false,bt190.2.1,bt190.2.2)))) (fun k=>?_) (Ev.bind ee er)
   simp only [impl_judge_expr.l0]
   have e1:(i:Int) + 1 = ((i + 1:Nat):Int):=by omega
   rw [if_pos (by omega),if_pos (by omega),if_pos (by omega),rdE l i hlt,w64 (dp + 1) (by omega) (by omega),w64 ((i:Int) + 1) (by omega) (by omega),e1]
  rw [hdr,lookL,if_pos (by omega)]
  cases ok with
  | true =>
   obtain ⟨a1,a2,a3⟩:=hok rfl
   obtain ⟨c1n,rfl⟩:∃ z:Nat,c1 = (z:Int):=⟨c1.toNat,by omega⟩
   obtain ⟨ok2,ns2,c2,e2,q1,q2⟩:=ih (i + 1) c1n ns1 (by omega) (by omega)
   rw [a3]
   exact ⟨ok2,ns2,c2,st _ (ev_pos rfl e2),q1,q2⟩
  | false =>
   have hn:=hno rfl
   refine ⟨false,ns1,c1,st _ (ev_neg (by decide) (Ev.now _)),fun h=>(by cases h),fun _=>?_⟩
   rw [lookL_neg _ _ _ _ hn,lookC_neg _ _ _ hn];exact hn
theorem je_all:∀ x,(budX x:Int)≤2097152 → ∀ (d:Nat) (dp:Int),dp + d = 11 → 1≤dp → ∀ (c:Nat) (ns:List ByteArray),c≤300 →
  ∃ ok ns2 c2,Ev (fun k=>impl_judge_expr.f k (c:Int) ns x.f0 x.f1 x.f2 x.f3 x.f4 dp) (ok,ns2,c2)∧JE x d c ok c2:=by
 refine indE (fun a b s l m ihE ihC hb d dp hd h1 c ns hc=>?_)
 rw [budX] at hb
 show ∃ ok ns2 c2,Ev (fun k=>impl_judge_expr.f k (c:Int) ns a b s l m dp) (ok,ns2,c2)∧JE ⟨a,b,s,l,m⟩ d c ok c2
 have hc1:(c:Int) + 1 = ((c + 1:Nat):Int):=by omega
 have bad:Ev (fun k=>impl_judge_expr.j0 k dp true ((c + 1:Nat):Int) ns a b s l m) (false,ns,((c + 1:Nat):Int)):=Ev.step (f:=fun _=>some (false,ns,((c + 1:Nat):Int))) (fun k=>by simp only [impl_judge_expr.j0];rw [if_pos trivial]) (Ev.now _)
 have no:(lookX ⟨a,b,s,l,m⟩ false d (300 - c) < 0) → JE ⟨a,b,s,l,m⟩ d c false ((c + 1:Nat):Int):=fun h=>⟨fun h=>(by cases h),fun _=>h⟩
 cases d with
 | zero =>
  refine ⟨false,ns,((c + 1:Nat):Int),Ev.step (fun k=>?_) bad,no (by rw [lookX];omega)⟩
  simp only [impl_judge_expr.f]
  rw [if_pos (by omega),w64 ((c:Int) + 1) (by omega) (by omega),hc1]
 | succ d =>
  have hlook:lookX ⟨a,b,s,l,m⟩ false (d + 1) (300 - c) = if (300 - c:Int) < 1∨shapeX a b s l.length m.length false = false then -1 else lookC m d (lookL l false d (300 - c - 1)):=by rw [lookX]
  by_cases hcc:((c + 1:Nat):Int) > 300
  ·refine ⟨false,ns,((c + 1:Nat):Int),Ev.step (fun k=>?_) bad,no (by rw [hlook,if_pos (.inl (by omega))];omega)⟩
   simp only [impl_judge_expr.f]
   rw [if_neg (by omega),w64 ((c:Int) + 1) (by omega) (by omega),hc1,if_pos hcc]
  have hcc2:(300:Int) - c - 1 = 300 - ((c + 1:Nat):Int):=by omega
  have hsx:shapeX a b s l.length m.length false = ((shOk a b s l.length && !(decide (a = 3) && decide (s.toList = ([95]:List UInt8)))) && (decide (a = 9 ↔ 0 < m.length) && decide (m.length≤6))):=by unfold shapeX;rw [if_neg (by decide)]
  have es:=impl_shapeOk_ev a b s l.length (by omega)
  have fail:shapeX a b s l.length m.length false = false → Ev (fun k=>impl_judge_expr.f k (c:Int) ns a b s l m dp) (false,ns,((c + 1:Nat):Int)) → ∃ ok ns2 c2,Ev (fun k=>impl_judge_expr.f k (c:Int) ns a b s l m dp) (ok,ns2,c2)∧JE ⟨a,b,s,l,m⟩ (d + 1) c ok c2:=fun hf e=>⟨false,ns,_,e,no (by rw [hlook,if_pos (.inr hf)];omega)⟩
  have top:∀ r,Ev (fun k=>if shOk a b s l.length = true then (if a = 3 then (impl_judge_expr.j0 k dp (s.toList == ([95]:List UInt8)) ((c + 1:Nat):Int) ns a b s l m) else (impl_judge_expr.j0 k dp false ((c + 1:Nat):Int) ns a b s l m)) else (impl_judge_expr.j0 k dp true ((c + 1:Nat):Int) ns a b s l m)) r → Ev (fun k=>impl_judge_expr.f k (c:Int) ns a b s l m dp) r:=by
   intro r er
   refine Ev.step (f:=fun k=>(impl_shapeOk.f k a b s (l.length:Int)).bind fun t187=>(if t187 = true then (if a = 3 then (impl_judge_expr.j0 k dp (s.toList == ([95]:List UInt8)) ((c + 1:Nat):Int) ns a b s l m) else (impl_judge_expr.j0 k dp false ((c + 1:Nat):Int) ns a b s l m)) else (impl_judge_expr.j0 k dp true ((c + 1:Nat):Int) ns a b s l m))) (fun k=>?_) (Ev.bind es er)
   simp only [impl_judge_expr.f]
   rw [if_neg (by omega),w64 ((c:Int) + 1) (by omega) (by omega),hc1,if_neg hcc]
  by_cases hs:shOk a b s l.length = true
  rotate_left
  ·exact fail (by rw [hsx,Bool.eq_false_iff.mpr hs];rfl) (top _ (ev_neg hs bad))
  by_cases h95:a = 3∧s.toList = ([95]:List UInt8)
  ·refine fail ?_ (top _ (ev_pos hs (ev_pos h95.1 ?_)))
   ·rw [hsx,decide_eq_true h95.1,decide_eq_true h95.2,Bool.and_true,Bool.not_true,Bool.and_false,Bool.false_and]
   ·have:(s.toList == ([95]:List UInt8)) = true:=by simp [h95.2]
    rw [this]
    exact bad
  have hn95:(decide (a = 3) && decide (s.toList = ([95]:List UInt8))) = false:=by rw [← dec_and];exact decide_eq_false h95
  rw [hs,hn95,Bool.not_false,Bool.and_true,Bool.true_and] at hsx
  have top2:∀ r,Ev (fun k=>impl_judge_expr.j0 k dp false ((c + 1:Nat):Int) ns a b s l m) r → Ev (fun k=>impl_judge_expr.f k (c:Int) ns a b s l m dp) r:=by
   intro r er
   refine top r (ev_pos hs ?_)
   by_cases c3:a = 3
   ·have:(s.toList == ([95]:List UInt8)) = false:=by
     rw [beq_eq_false_iff_ne];exact fun h=>h95 ⟨c3,h⟩
    rw [this]
    exact ev_pos c3 er
   ·exact ev_neg c3 er
  have stop:Ev (fun k=>impl_judge_expr.j1 k dp true ((c + 1:Nat):Int) ns a b s l m) (false,ns,((c + 1:Nat):Int)):=Ev.step (f:=fun _=>some (false,ns,((c + 1:Nat):Int))) (fun k=>by simp only [impl_judge_expr.j1];rw [if_pos trivial]) (Ev.now _)
  by_cases h9:a = 9 ↔ 0 < m.length
  rotate_left
  ·refine fail (by rw [hsx,decide_eq_false h9];rfl) (top2 _ (Ev.step (fun k=>?_) stop))
   simp only [impl_judge_expr.j0]
   rw [if_neg (by decide),if_pos ?_]
   rw [bne_iff_ne]
   intro hh
   apply h9
   rw [Bool.eq_iff_iff,beq_iff_eq,decide_eq_true_eq] at hh
   omega
  have hbe : ¬ ((a == 9) != (decide ((m.length:Int) > 0))) = true:=by
   rw [bne_iff_ne]
   refine fun hh=>hh ?_
   rw [Bool.eq_iff_iff,beq_iff_eq,decide_eq_true_eq]
   omega
  by_cases h6:m.length≤6
  rotate_left
  ·refine fail (by rw [hsx,decide_eq_false h6,Bool.and_false]) (top2 _ (Ev.step (fun k=>?_) stop))
   simp only [impl_judge_expr.j0]
   rw [if_neg (by decide),if_neg hbe,decide_eq_true (show (m.length:Int) > 6 by omega)]
  rw [decide_eq_true h9,decide_eq_true h6] at hsx
  rw [if_neg (by rw [hsx];simp;omega),hcc2] at hlook
  have hC:∀ (c:Nat) (ns:List ByteArray),c≤300 → ∃ ok ns2 c2,Ev (fun k=>impl_judge_expr.l1 k dp m (m.length:Int) 0 (c:Int) ns) (ok,ns2,c2)∧(ok = true → c2≤300∧0≤c2∧lookC m d (300 - c) = 300 - c2)∧(ok = false → lookC m d (300 - c) < 0):=by
   intro c ns hc
   have:=je_l1 dp d (by omega) h1 m (by omega) (fun cl hcl n ns hn=>(ihC cl hcl).2 (by have:=budXC_mem m cl hcl;omega) d (dp + 1) (by omega) (by omega) n ns hn) m.length 0 c ns (by omega) hc
   rw [List.drop_zero] at this
   exact this
  obtain ⟨ok,ns2,c2,e,q1,q2⟩:=je_l0 dp d (by omega) h1 a b s l m (by omega) (fun x hx n ns hn=>ihE x hx (by have:=budXL_mem l x hx;omega) d (dp + 1) (by omega) (by omega) n ns hn) hC l.length 0 (c + 1) ns (by omega) (by omega)
  rw [List.drop_zero] at q1 q2
  refine ⟨ok,ns2,c2,top2 _ (Ev.step (f:=fun k=>impl_judge_expr.j1 k dp false ((c + 1:Nat):Int) ns a b s l m) (fun k=>?_) (Ev.step (f:=fun k=>impl_judge_expr.l0 k dp l (l.length:Int) 0 ((c + 1:Nat):Int) ns a b s l m) (fun k=>by simp only [impl_judge_expr.j1];rw [if_neg (by decide)]) e)),?_⟩
  ·simp only [impl_judge_expr.j0]
   rw [if_neg (by decide),if_neg hbe,decide_eq_false (show ¬ (m.length:Int) > 6 by omega)]
  ·unfold JE
   rw [hlook]
   exact ⟨q1,q2⟩
theorem impl_ExprOk_ev (x:S27) (hb:(budX x:Int)≤2097152):Ev (fun k=>impl_ExprOk.f k x.f0 x.f1 x.f2 x.f3 x.f4) (exprM x):=by
 obtain ⟨ok,ns2,c2,e,q1,q2⟩:=je_all x hb 10 1 (by omega) (by omega) 0 [] (by omega)
 unfold impl_ExprOk.f
 refine Ev.bind e (ev_cast ?_ (Ev.now _))
 show ok = exprM x
 unfold exprM
 have e300:(300:Int) - ((0:Nat):Int) = 300:=by omega
 rw [e300] at q1 q2
 cases ok with
 | true =>
  obtain ⟨a1,a2,a3⟩:=q1 rfl
  exact (decide_eq_true (by omega)).symm
 | false =>
  have:=q2 rfl
  exact (decide_eq_false (by omega)).symm
theorem drawExpr_ev (l:List Int) (hl:(l.length:Int)≤1048576):∃ y:S27,Ev (fun k=>spec_DrawExpr.f k l) (y.f0,y.f1,y.f2,y.f3,y.f4)∧budX y≤7450∧exprM y = true:=by
 obtain ⟨h,e0⟩:=spec_l1New_ev l hl
 obtain ⟨y,i2,h2,e1,hy,ho,_⟩:=right_ev l 0 h ⟨by omega,by omega,hl⟩ [(⟨#[88]⟩:ByteArray),(⟨#[89]⟩:ByteArray)] (by unfold NOK;decide) (by decide)
 refine ⟨y,?_,hy,ho⟩
 unfold spec_DrawExpr.f
 exact Ev.bind e0 (Ev.bind e1 (Ev.now _))
theorem has_ev (l:List ByteArray) (hl:(l.length:Int)≤8388608) (s:ByteArray):Ev (fun k=>laws_has.f k l s) (hasM l s):=by
 have:=has_l l hl s l.length 0 (by omega)
 rw [List.drop_zero] at this
 unfold laws_has.f
 exact this
theorem free_loop (x:S27) (hx:(budX x:Int)≤1000000) (hok:exprM x = true) (vs:List ByteArray) (hv:vs = freeM x) (hl:(vs.length:Int)≤1000001) (d:Nat) :
  ∀ i:Nat,i + d = vs.length → Ev (fun k=>laws_FnFree.l0 k vs i x.f0 x.f1 x.f2 x.f3 x.f4) true:=by
 have hnd:ND vs:=by rw [hv];exact ND_free x
 have hno:∀ s ∈ vs,¬ s.toList = ([95]:List UInt8):=by
  rw [hv]
  have h0:0≤lookX x false 10 300:=by unfold exprM at hok;exact of_decide_eq_true hok
  exact free_no x 10 300 h0
 induction d with
 | zero =>
  intro i hi
  refine Ev.step (f:=fun k=>(impl_ExprOk.f k x.f0 x.f1 x.f2 x.f3 x.f4).bind fun t=>(some t)) (fun k=>?_) ?_
  ·simp only [laws_FnFree.l0];rw [if_neg (by omega)]
  ·have e:=impl_ExprOk_ev x (by omega)
   rw [hok] at e
   exact Ev.bind e (Ev.now _)
 | succ d ih =>
  intro i hi
  have hlt:i < vs.length:=by omega
  have hrd:rdOf ByteArray.empty vs (i:Int) = vs[i]:=getDG _ vs i hlt
  have hh:hasM (vs.take i) vs[i] = false:=by
   have e:vs = vs.take (i + 1) ++ vs.drop (i + 1):=(List.take_append_drop _ _).symm
   have h1:ND (vs.take (i + 1)):=by have h:=hnd;rw [e] at h;exact ND_left h
   rw [List.take_succ_eq_append_getElem hlt] at h1
   have h2:=((ND_app _ _).1 h1).2
   unfold hasM
   exact decide_eq_false h2
  have eh:Ev (fun k=>laws_has.f k (vs.take i) vs[i]) false:=by
   have:=has_ev (vs.take i) (by rw [List.length_take];omega) vs[i]
   rw [hh] at this
   exact this
  obtain ⟨ha,hb⟩:=add_out vs hnd i hlt
  have hno':=hno vs[i] (List.getElem_mem hlt)
  have hsz:vs[i].size≤budX x:=by
   have:vs[i] ∈ freeM x:=by rw [← hv];exact List.getElem_mem hlt
   exact free_size x _ this
  have ef:Ev (fun k=>impl_FreeOf.f k 9 0 (⟨#[]⟩:ByteArray) [(⟨1,0,⟨#[]⟩,[],[]⟩:S27)] [(⟨⟨3,0,vs[i],[],[]⟩,x⟩:P33 S27)]) (addB [vs[i]] [] vs):=by
   have e:=iFree_all ⟨9,0,(⟨#[]⟩:ByteArray),[(⟨1,0,⟨#[]⟩,[],[]⟩:S27)],[(⟨⟨3,0,vs[i],[],[]⟩,x⟩:P33 S27)]⟩ (by
    rw [bud5,budXL,budXL,budXC,budXC,budXc,bud5,bud5,budXL,budXC]
    show (((0 + (1 + (0 + (0 + 0) + (0 + 0) + 0)) + (1 + (vs[i].size + (0 + 0) + (0 + 0) + budX x + 0)):Nat)):Int)≤_
    omega)
   rw [free_case _ hno',← hv] at e
   exact e
  have eh2:=has_ev (addB [vs[i]] [] vs) (by omega) vs[i]
  rw [hb] at eh2
  refine Ev.step (f:=fun k=>laws_FnFree.j3 k vs i x.f0 x.f1 x.f2 x.f3 x.f4) (fun k=>?_) ?_
  ·simp only [laws_FnFree.l0];rw [if_pos (by omega)]
  refine Ev.step (f:=fun k=>(laws_has.f k (vs.take i) vs[i]).bind fun t=>(if t = true then (some false) else (laws_FnFree.j4 k vs i x.f0 x.f1 x.f2 x.f3 x.f4))) (fun k=>?_) (Ev.bind eh (ev_neg (by decide) ?_))
  ·simp only [laws_FnFree.j3]
   rw [if_pos (by omega),if_pos (by omega),if_pos (by omega),hrd,Int.toNat_natCast]
  refine Ev.step (f:=fun k=>(impl_FreeOf.f k 9 0 (⟨#[]⟩:ByteArray) [(⟨1,0,⟨#[]⟩,[],[]⟩:S27)] [(⟨⟨3,0,vs[i],[],[]⟩,x⟩:P33 S27)]).bind fun t=>(if (t.length:Int) = (wrap64 ((vs.length:Int) - 1)) then ((laws_has.f k t vs[i]).bind fun u=>(if u = true then (some false) else (laws_FnFree.l0 k vs (wrap64 ((i:Int) + 1)) x.f0 x.f1 x.f2 x.f3 x.f4))) else (some false))) (fun k=>?_) (Ev.bind ef ?_)
  ·simp only [laws_FnFree.j4]
   rw [if_pos (by omega),if_pos (by omega),hrd,etaX5]
  refine ev_pos (by rw [w64 _ (by omega) (by omega)];omega) (Ev.bind eh2 (ev_neg (by decide) ?_))
  rw [w64 _ (by omega) (by omega)]
  exact ih (i + 1) (by omega)
theorem FnFree:laws_FnFree.Pure:=by
 intro l0 hl hl2 hw
 refine Ev.rounds (g:=fun k=>laws_FnFree.f k l0) ?_
 unfold laws_FnFree.f
 rw [laws_big_eq]
 by_cases hb:(l0.length:Int) > 1048576
 ·exact Ev.bind (Ev.now _) (ev_pos (decide_eq_true hb) (Ev.now _))
 ·refine Ev.bind (Ev.now _) (ev_neg (by simpa using hb) ?_)
  obtain ⟨x,ed,hx,hok⟩:=drawExpr_ev l0 (by omega)
  have hvl:=free_len x
  have ei:=iFree_all x (by omega)
  have es:=spec_FreeOf_ev x (by omega)
  refine Ev.step (fun k=>by simp only [laws_FnFree.j0];rfl) ?_
  refine Ev.bind ed (Ev.bind ei (Ev.bind es (ev_pos rfl ?_)))
  refine Ev.step (f:=fun k=>laws_FnFree.l0 k (freeM x) 0 x.f0 x.f1 x.f2 x.f3 x.f4) (fun k=>by simp only [laws_FnFree.j1]) ?_
  exact free_loop x (by omega) hok (freeM x) rfl (by omega) (freeM x).length 0 (by omega)

end Go.Proofs.Ytgcmmdfgfiflcaa.Pure
