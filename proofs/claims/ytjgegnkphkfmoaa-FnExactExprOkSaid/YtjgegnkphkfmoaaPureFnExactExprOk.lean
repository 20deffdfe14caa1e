/- What the law FnExactExprOk of this seat says holds for every input that its row speaks of; no further condition. -/
import Derived.Test.YtjgegnkphkfmoaaQFnExactExprOkx13
import Derived.Lib.Strings
set_option linter.unusedVariables false
set_option linter.unusedSimpArgs false
namespace Go.Proofs.Ytjgegnkphkfmoaa.Pure
open Go.RowKit Go.Proofs.Ytjgegnkphkfmoaa.QFnExactExprOk Go.Proofs.YtjgegnkphkfmoaaW.PrintWords Go.Proofs.YtjgegnkphkfmoaaW.PrintLast Go.Proofs.YtjgegnkphkfmoaaW.PrintMore

theorem ev_pos {α:Type} {c:Prop} [Decidable c] {A B:Nat → Option α} {r:α} (h:c) (e:Ev A r):Ev (fun k=>if c then A k else B k) r:=by
 obtain ⟨K,hK⟩:=e
 exact ⟨K,fun k hk=>by simp only [if_pos h];exact hK k hk⟩
theorem ev_neg {α:Type} {c:Prop} [Decidable c] {A B:Nat → Option α} {r:α} (h : ¬ c) (e:Ev B r):Ev (fun k=>if c then A k else B k) r:=by
 obtain ⟨K,hK⟩:=e
 exact ⟨K,fun k hk=>by simp only [if_neg h];exact hK k hk⟩
theorem ev_of {α:Type} {o:Option α} {r:α} (h:o = some r):Ev (fun _=>o) r:=⟨0,fun _ _=>h⟩
theorem ev_cast {α:Type} {g:Nat → Option α} {r r':α} (h:r = r') (e:Ev g r):Ev g r':=h ▸ e
theorem w64 (n:Int) (h0 : -9223372036854775808≤n) (h1:n≤9223372036854775807):wrap64 n = n:=by unfold wrap64;omega
theorem dec_and (p q:Prop) [Decidable p] [Decidable q]:decide (p∧q) = (decide p && decide q):=by
 by_cases hp:p <;> by_cases hq:q <;> simp [hp,hq]
def szRes (left:Int) (b:Nat):Int:=if (b:Int)≤left then left - b else -1
theorem getDG {α:Type} (z:α) (l:List α) (i:Nat) (h:i < l.length):l.getD ((i:Int)).toNat z = l[i]:=by
 simp [List.getD_eq_getElem?_getD,List.getElem?_eq_getElem h]
theorem map_loop {α β:Type} (L:Nat → List β → Int → Option (List β)) (f:α → β) (l:List α)
  (hstep:∀ (i:Nat) (h:i < l.length) (x:List β) (r:List β),x.length = l.length → Ev (fun k=>L k (x.set i (f l[i])) ((i + 1:Nat):Int)) r → Ev (fun k=>L k x (i:Int)) r)
  (hend:∀ x:List β,x.length = l.length → Ev (fun k=>L k x (l.length:Int)) x) (d:Nat) :
  ∀ (i:Nat) (x:List β),i + d = l.length → x.length = l.length → x.take i = (l.map f).take i → Ev (fun k=>L k x (i:Int)) (l.map f):=by
 induction d with
 | zero =>
  intro i x hi hx ht
  have e:i = l.length:=by omega
  subst e
  refine ev_cast ?_ (hend x hx)
  rwa [List.take_of_length_le (by omega),List.take_of_length_le (by rw [List.length_map];omega)] at ht
 | succ d ih =>
  intro i x hi hx ht
  have hlt:i < l.length:=by omega
  refine hstep i hlt x _ hx (ih (i + 1) _ (by omega) (by simpa using hx) ?_)
  rw [List.take_succ_eq_append_getElem (by simpa using (by omega:i < x.length)),List.take_set_of_le (Nat.le_refl i),ht,List.take_succ_eq_append_getElem (by simpa using hlt)]
  simp
theorem map_loop0 {α β:Type} (L:Nat → List β → Int → Option (List β)) (f:α → β) (l:List α) (z:β)
  (hstep:∀ (i:Nat) (h:i < l.length) (x:List β) (r:List β),x.length = l.length → Ev (fun k=>L k (x.set i (f l[i])) ((i + 1:Nat):Int)) r → Ev (fun k=>L k x (i:Int)) r)
  (hend:∀ x:List β,x.length = l.length → Ev (fun k=>L k x (l.length:Int)) x):Ev (fun k=>L k (List.replicate l.length z) 0) (l.map f) :=
 map_loop L f l hstep hend l.length 0 (List.replicate l.length z) (by omega) (by simp) (by simp)
def sumB {α:Type} (bud:α → Nat):List α → Nat
 | []=>0
 | x :: r=>bud x + sumB bud r
theorem sumB_drop {α:Type} (bud:α → Nat) (l:List α) (i:Nat) (h:i < l.length):sumB bud (l.drop i) = bud l[i] + sumB bud (l.drop (i + 1)):=by
 rw [List.drop_eq_getElem_cons h,sumB]
theorem sumB_mem {α:Type} (bud:α → Nat):∀ (l:List α) (x:α),x ∈ l → bud x≤sumB bud l
 | [],x,h=>by cases h
 | y :: r,x,h=>by
  rw [sumB]
  rcases List.mem_cons.1 h with rfl|h
  ·omega
  ·have:=sumB_mem bud r x h;omega
theorem sz_loopG {α:Type} (L:Nat → Int → Int → Option Int) (bud:α → Nat) (l:List α)
  (hstep:∀ (i:Nat) (h:i < l.length) (left r:Int),0≤left → left≤1048576 → ((bud l[i]:Int)≤left → Ev (fun k=>L k (left - bud l[i]) ((i + 1:Nat):Int)) r) → (¬ (bud l[i]:Int)≤left → r = -1) → Ev (fun k=>L k left (i:Int)) r)
  (hend:∀ left:Int,Ev (fun k=>L k left (l.length:Int)) left) (d:Nat) :
  ∀ (i:Nat) (left:Int),i + d = l.length → 0≤left → left≤1048576 → Ev (fun k=>L k left (i:Int)) (szRes left (sumB bud (l.drop i))):=by
 induction d with
 | zero =>
  intro i left hi h0 h1
  have e:i = l.length:=by omega
  subst e
  refine ev_cast ?_ (hend left)
  rw [List.drop_eq_nil_of_le (by omega),sumB];unfold szRes;rw [if_pos (by omega)];omega
 | succ d ih =>
  intro i left hi h0 h1
  have hlt:i < l.length:=by omega
  rw [sumB_drop bud l i hlt]
  refine hstep i hlt left _ h0 h1 (fun hb=>?_) (fun hb=>?_)
  ·refine ev_cast ?_ (ih (i + 1) (left - bud l[i]) (by omega) (by omega) (by omega))
   unfold szRes
   by_cases hc:(sumB bud (l.drop (i + 1)):Int)≤left - bud l[i]
   ·rw [if_pos hc,if_pos (by omega)];omega
   ·rw [if_neg hc,if_neg (by omega)]
  ·unfold szRes;rw [if_neg (by omega)]
def allFrom (p:Nat → Bool) (i d:Nat):Bool:=(List.range' i d).all p
theorem all_loop (L:Nat → Int → Option Bool) (p:Nat → Bool) (n:Nat)
  (hstep:∀ (i:Nat),i < n → ∀ r,(p i = true → Ev (fun k=>L k ((i + 1:Nat):Int)) r) → (p i = false → r = false) → Ev (fun k=>L k (i:Int)) r)
  (hend:Ev (fun k=>L k (n:Int)) true) (d:Nat):∀ i:Nat,i + d = n → Ev (fun k=>L k (i:Int)) (allFrom p i d):=by
 induction d with
 | zero =>
  intro i hi
  have e:i = n:=by omega
  subst e
  exact hend
 | succ d ih =>
  intro i hi
  refine hstep i (by omega) _ (fun hp=>?_) (fun hp=>?_)
  ·refine ev_cast ?_ (ih (i + 1) (by omega))
   unfold allFrom
   rw [List.range'_succ,List.all_cons,hp,Bool.true_and]
  ·unfold allFrom
   rw [List.range'_succ,List.all_cons,hp,Bool.false_and]
theorem rdE (l:List S31) (i:Nat) (h:i < l.length):rd_T31 l (i:Int) = l[i]:=getDG _ l i h
theorem rdC (l:List S53) (i:Nat) (h:i < l.length):rd_T53 l (i:Int) = l[i]:=getDG _ l i h
theorem indE {P:S31 → Prop} (h:∀ a b s l m,(∀ y ∈ l,P y) → (∀ c:P53 S31,c ∈ m → P c.f0∧P c.f1) → P ⟨a,b,s,l,m⟩):∀ x,P x:=by
 intro x
 refine S31.rec (motive_1:=P) (motive_2:=fun l=>∀ y ∈ l,P y) (motive_3:=fun m=>∀ c ∈ m,P c.f0∧P c.f1) (motive_4:=fun c=>P c.f0∧P c.f1) ?_ ?_ ?_ ?_ ?_ ?_ x
 ·intro a b s l m hl hm
  exact h a b s l m hl hm
 ·intro y hy;cases hy
 ·intro x r hx hr y hy
  rcases List.mem_cons.1 hy with rfl|hy
  ·exact hx
  ·exact hr y hy
 ·intro y hy;cases hy
 ·intro x r hx hr y hy
  rcases List.mem_cons.1 hy with rfl|hy
  ·exact hx
  ·exact hr y hy
 ·intro p q hp hq
  exact ⟨hp,hq⟩
mutual
def budX:S31 → Nat
 | ⟨_,_,s,l,m⟩=>s.size + (l.length + budXL l) + (m.length + budXC m)
def budXL:List S31 → Nat
 | []=>0
 | x :: r=>budX x + budXL r
def budXc:P53 S31 → Nat
 | ⟨p,x⟩=>budX p + budX x
def budXC:List (P53 S31) → Nat
 | []=>0
 | x :: r=>budXc x + budXC r
end
theorem budXL_mem:∀ (l:List S31) (x:S31),x ∈ l → budX x≤budXL l
 | [],x,h=>by cases h
 | y :: r,x,h=>by
  rw [budXL]
  rcases List.mem_cons.1 h with rfl|h
  ·omega
  ·have:=budXL_mem r x h;omega
theorem budXC_mem:∀ (l:List (P53 S31)) (c:P53 S31),c ∈ l → budX c.f0 + budX c.f1≤budXC l
 | [],x,h=>by cases h
 | y :: r,x,h=>by
  rw [budXC]
  rcases List.mem_cons.1 h with rfl|h
  ·obtain ⟨p,q⟩:=x
   rw [budXc]
   show budX p + budX q≤_
   omega
  ·have:=budXC_mem r x h;omega
theorem rdLE (l:List S25) (i:Nat) (h:i < l.length):rd_T25 l (i:Int) = l[i]:=getDG _ l i h
theorem rdLC (l:List S48) (i:Nat) (h:i < l.length):rd_T48 l (i:Int) = l[i]:=getDG _ l i h
theorem indLE {P:S25 → Prop} (h:∀ a b s l m,(∀ y ∈ l,P y) → (∀ c:P48 S25,c ∈ m → P c.f0∧P c.f1) → P ⟨a,b,s,l,m⟩):∀ x,P x:=by
 intro x
 refine S25.rec (motive_1:=P) (motive_2:=fun l=>∀ y ∈ l,P y) (motive_3:=fun m=>∀ c ∈ m,P c.f0∧P c.f1) (motive_4:=fun c=>P c.f0∧P c.f1) ?_ ?_ ?_ ?_ ?_ ?_ x
 ·intro a b s l m hl hm
  exact h a b s l m hl hm
 ·intro y hy;cases hy
 ·intro x r hx hr y hy
  rcases List.mem_cons.1 hy with rfl|hy
  ·exact hx
  ·exact hr y hy
 ·intro y hy;cases hy
 ·intro x r hx hr y hy
  rcases List.mem_cons.1 hy with rfl|hy
  ·exact hx
  ·exact hr y hy
 ·intro p q hp hq
  exact ⟨hp,hq⟩
mutual
def budE:S25 → Nat
 | ⟨_,_,s,l,m⟩=>s.size + (l.length + budEL l) + (m.length + budCL m)
def budEL:List S25 → Nat
 | []=>0
 | x :: r=>budE x + budEL r
def budCc:P48 S25 → Nat
 | ⟨p,x⟩=>budE p + budE x
def budCL:List (P48 S25) → Nat
 | []=>0
 | x :: r=>budCc x + budCL r
end
mutual
def cvE:S25 → S31
 | ⟨a,b,s,l,m⟩=>⟨a,b,s,cvEL l,cvCL m⟩
def cvEL:List S25 → List S31
 | []=>[]
 | x :: r=>cvE x :: cvEL r
def cvC:P48 S25 → P53 S31
 | ⟨p,x⟩=>⟨cvE p,cvE x⟩
def cvCL:List (P48 S25) → List (P53 S31)
 | []=>[]
 | x :: r=>cvC x :: cvCL r
end
theorem cvEL_map:∀ l,cvEL l = l.map cvE
 | []=>rfl
 | x :: r=>by rw [cvEL,List.map_cons,cvEL_map r]
theorem cvCL_map:∀ l,cvCL l = l.map cvC
 | []=>rfl
 | x :: r=>by rw [cvCL,List.map_cons,cvCL_map r]
theorem cvEL_len (l:List S25):(cvEL l).length = l.length:=by rw [cvEL_map,List.length_map]
theorem cvCL_len (l:List (P48 S25)):(cvCL l).length = l.length:=by rw [cvCL_map,List.length_map]
mutual
theorem budX_cv:∀ x,budX (cvE x) = budE x
 | ⟨a,b,s,l,m⟩=>by rw [cvE,budX,budE,budXL_cv l,budXC_cv m,cvEL_len,cvCL_len]
theorem budXL_cv:∀ l,budXL (cvEL l) = budEL l
 | []=>by rw [cvEL,budXL,budEL]
 | x :: r=>by rw [cvEL,budXL,budEL,budX_cv x,budXL_cv r]
theorem budXc_cv:∀ x,budXc (cvC x) = budCc x
 | ⟨p,x⟩=>by rw [cvC,budXc,budCc,budX_cv p,budX_cv x]
theorem budXC_cv:∀ l,budXC (cvCL l) = budCL l
 | []=>by rw [cvCL,budXC,budCL]
 | x :: r=>by rw [cvCL,budXC,budCL,budXc_cv x,budXC_cv r]
end
theorem sumE:∀ l,sumB budE l = budEL l
 | []=>by rw [sumB,budEL]
 | x :: r=>by rw [sumB,budEL,sumE r]
theorem sumC:∀ l,sumB budCc l = budCL l
 | []=>by rw [sumB,budCL]
 | x :: r=>by rw [sumB,budCL,sumC r]
theorem wfE_mk {a b:Int} {s:ByteArray} {l:List S25} {m:List (P48 S25)} (h:wf25 ⟨a,b,s,l,m⟩):(s.size:Int)≤9223372036854775807∧(l.length:Int)≤9223372036854775807∧(∀ x ∈ l,wf25 x)∧(m.length:Int)≤9223372036854775807∧∀ c:P48 S25,c ∈ m → wf25 c.f0∧wf25 c.f1:=by
 unfold wf25 at h
 obtain ⟨h0,h1,h2,⟨h3,h4⟩,h5,h6⟩:=h
 unfold maxLen at h2 h3 h5
 refine ⟨by omega,by omega,(wfl25_iff l).1 h4,by omega,fun c hc=>?_⟩
 have:=(wfl48_iff m).1 h6 c hc
 obtain ⟨p,x⟩:=c
 unfold wf48 at this
 exact this
theorem szES_of (l:List S25) (hl:(l.length:Int)≤9223372036854775807)
  (h:∀ y ∈ l,∀ left:Int,0≤left → left≤1048576 → Ev (fun k=>laws_szExpr.f k y.f0 y.f1 y.f2 y.f3 y.f4 left) (szRes left (budE y))) (left:Int) (h0:0≤left) (h1:left≤1048576) :
  Ev (fun k=>laws_szExprS.f k l left) (szRes left (l.length + budEL l)):=by
 by_cases hc:left - (l.length:Int) < 0
 ·refine Ev.step (f:=fun _=>some (-1)) (fun k=>?_) (ev_cast ?_ (Ev.now _))
  ·simp only [laws_szExprS.f];rw [w64 _ (by omega) (by omega),if_pos hc]
  ·unfold szRes;rw [if_neg (by omega)]
 ·refine Ev.step (f:=fun k=>laws_szExprS.l0 k l (left - l.length) 0) (fun k=>?_) (ev_cast ?_ (sz_loopG (fun k left i=>laws_szExprS.l0 k l left i) budE l ?_ ?_ l.length 0 (left - l.length) (by omega) (by omega) (by omega)))
  ·simp only [laws_szExprS.f];rw [w64 _ (by omega) (by omega),if_neg hc]
  ·rw [List.drop_zero,sumE]
   unfold szRes
   by_cases hb:(budEL l:Int)≤left - l.length
   ·rw [if_pos hb,if_pos (by omega)];omega
   ·rw [if_neg hb,if_neg (by omega)]
  ·intro i hi left r q0 q1 hr hn
   have e:=h _ (List.getElem_mem hi) left q0 q1
   refine Ev.step (f:=fun k=>(laws_szExpr.f k l[i].f0 l[i].f1 l[i].f2 l[i].f3 l[i].f4 left).bind fun t102=>(if t102 < 0 then (some (-1)) else (laws_szExprS.l0 k l t102 (wrap64 ((i:Int) + 1))))) (fun k=>?_) (Ev.bind e ?_)
   ·simp only [laws_szExprS.l0];rw [if_pos (by omega),if_pos (by omega),rdLE l i hi]
   ·rw [w64 _ (by omega) (by omega)]
    unfold szRes
    by_cases hb:(budE l[i]:Int)≤left
    ·rw [if_pos hb];exact ev_neg (by omega) (hr hb)
    ·rw [if_neg hb];exact ev_pos (by omega) (ev_cast (hn hb).symm (Ev.now _))
  ·intro left
   refine Ev.step (f:=fun _=>some left) (fun k=>?_) (Ev.now _)
   simp only [laws_szExprS.l0];rw [if_neg (by omega)]
theorem szC_of (c:P48 S25) (e0:∀ left:Int,0≤left → left≤1048576 → Ev (fun k=>laws_szExpr.f k c.f0.f0 c.f0.f1 c.f0.f2 c.f0.f3 c.f0.f4 left) (szRes left (budE c.f0)))
  (e1:∀ left:Int,0≤left → left≤1048576 → Ev (fun k=>laws_szExpr.f k c.f1.f0 c.f1.f1 c.f1.f2 c.f1.f3 c.f1.f4 left) (szRes left (budE c.f1))) (left:Int) (h0:0≤left) (h1:left≤1048576) :
  Ev (fun k=>laws_szClause.f k c.f0.f0 c.f0.f1 c.f0.f2 c.f0.f3 c.f0.f4 c.f1.f0 c.f1.f1 c.f1.f2 c.f1.f3 c.f1.f4 left) (szRes left (budCc c)):=by
 have hbc:budCc c = budE c.f0 + budE c.f1:=by cases c;rw [budCc]
 refine Ev.step (f:=fun k=>(laws_szExpr.f k c.f0.f0 c.f0.f1 c.f0.f2 c.f0.f3 c.f0.f4 left).bind fun t104=>(if t104 < 0 then (some (-1)) else ((laws_szExpr.f k c.f1.f0 c.f1.f1 c.f1.f2 c.f1.f3 c.f1.f4 t104).bind fun t105=>(if t105 < 0 then (some (-1)) else (some t105))))) (fun k=>rfl) (Ev.bind (e0 left h0 h1) ?_)
 unfold szRes
 by_cases hb:(budE c.f0:Int)≤left
 ·rw [if_pos hb]
  refine ev_neg (by omega) (Ev.bind (e1 (left - budE c.f0) (by omega) (by omega)) ?_)
  unfold szRes
  by_cases hb2:(budE c.f1:Int)≤left - budE c.f0
  ·rw [if_pos hb2]
   refine ev_neg (by omega) (ev_cast ?_ (Ev.now _))
   rw [if_pos (by omega)];omega
  ·rw [if_neg hb2]
   refine ev_pos (by omega) (ev_cast ?_ (Ev.now _))
   rw [if_neg (by omega)]
 ·rw [if_neg hb]
  refine ev_pos (by omega) (ev_cast ?_ (Ev.now _))
  rw [if_neg (by omega)]
theorem szCS_of (l:List (P48 S25)) (hl:(l.length:Int)≤9223372036854775807)
  (h:∀ c ∈ l,∀ left:Int,0≤left → left≤1048576 → Ev (fun k=>laws_szClause.f k c.f0.f0 c.f0.f1 c.f0.f2 c.f0.f3 c.f0.f4 c.f1.f0 c.f1.f1 c.f1.f2 c.f1.f3 c.f1.f4 left) (szRes left (budCc c))) (left:Int) (h0:0≤left) (h1:left≤1048576) :
  Ev (fun k=>laws_szClauseS.f k l left) (szRes left (l.length + budCL l)):=by
 by_cases hc:left - (l.length:Int) < 0
 ·refine Ev.step (f:=fun _=>some (-1)) (fun k=>?_) (ev_cast ?_ (Ev.now _))
  ·simp only [laws_szClauseS.f];rw [w64 _ (by omega) (by omega),if_pos hc]
  ·unfold szRes;rw [if_neg (by omega)]
 ·refine Ev.step (f:=fun k=>laws_szClauseS.l0 k l (left - l.length) 0) (fun k=>?_) (ev_cast ?_ (sz_loopG (fun k left i=>laws_szClauseS.l0 k l left i) budCc l ?_ ?_ l.length 0 (left - l.length) (by omega) (by omega) (by omega)))
  ·simp only [laws_szClauseS.f];rw [w64 _ (by omega) (by omega),if_neg hc]
  ·rw [List.drop_zero,sumC]
   unfold szRes
   by_cases hb:(budCL l:Int)≤left - l.length
   ·rw [if_pos hb,if_pos (by omega)];omega
   ·rw [if_neg hb,if_neg (by omega)]
  ·intro i hi left r q0 q1 hr hn
   have e:=h _ (List.getElem_mem hi) left q0 q1
   have hrd:=rdLC l i hi
   generalize l[i] = c at *
   refine Ev.step (f:=fun k=>(laws_szClause.f k c.f0.f0 c.f0.f1 c.f0.f2 c.f0.f3 c.f0.f4 c.f1.f0 c.f1.f1 c.f1.f2 c.f1.f3 c.f1.f4 left).bind fun t102=>(if t102 < 0 then (some (-1)) else (laws_szClauseS.l0 k l t102 (wrap64 ((i:Int) + 1))))) (fun k=>?_) (Ev.bind e ?_)
   ·simp only [laws_szClauseS.l0];rw [if_pos (by omega),if_pos (by omega),hrd]
   ·rw [w64 _ (by omega) (by omega)]
    unfold szRes
    by_cases hb:(budCc c:Int)≤left
    ·rw [if_pos hb];exact ev_neg (by omega) (hr hb)
    ·rw [if_neg hb];exact ev_pos (by omega) (ev_cast (hn hb).symm (Ev.now _))
  ·intro left
   refine Ev.step (f:=fun _=>some left) (fun k=>?_) (Ev.now _)
   simp only [laws_szClauseS.l0];rw [if_neg (by omega)]
theorem szE_all:∀ x,wf25 x → ∀ left:Int,0≤left → left≤1048576 → Ev (fun k=>laws_szExpr.f k x.f0 x.f1 x.f2 x.f3 x.f4 left) (szRes left (budE x)):=by
 refine indLE ?_
 intro a b s l m ih ihc hw left h0 h1
 obtain ⟨hs,hl,hm,hl2,hm2⟩:=wfE_mk hw
 simp only []
 rw [budE]
 by_cases hc:left - (s.size:Int) < 0
 ·refine Ev.step (f:=fun _=>some (-1)) (fun k=>?_) (ev_cast ?_ (Ev.now _))
  ·simp only [laws_szExpr.f];rw [w64 _ (by omega) (by omega),if_pos hc]
  ·unfold szRes;rw [if_neg (by omega)]
 ·refine Ev.step (f:=fun k=>(laws_szExprS.f k l (left - (s.size:Int))).bind fun t109=>(if t109 < 0 then (some (-1)) else ((laws_szClauseS.f k m t109).bind fun t110=>(if t110 < 0 then (some (-1)) else (some t110))))) (fun k=>?_) (Ev.bind (szES_of l hl (fun y hy=>ih y hy (hm y hy)) (left - s.size) (by omega) (by omega)) ?_)
  ·simp only [laws_szExpr.f];rw [w64 _ (by omega) (by omega),if_neg hc]
  ·unfold szRes
   by_cases hb:((l.length + budEL l:Nat):Int)≤left - s.size
   ·rw [if_pos hb]
    refine ev_neg (by omega) (Ev.bind (szCS_of m hl2 (fun c hc2=>szC_of c ((ihc c hc2).1 (hm2 c hc2).1) ((ihc c hc2).2 (hm2 c hc2).2)) (left - s.size - ((l.length + budEL l:Nat):Int)) (by omega) (by omega)) ?_)
    unfold szRes
    by_cases hb2:((m.length + budCL m:Nat):Int)≤left - s.size - ((l.length + budEL l:Nat):Int)
    ·rw [if_pos hb2]
     refine ev_neg (by omega) (ev_cast ?_ (Ev.now _))
     rw [if_pos (by omega)];omega
    ·rw [if_neg hb2]
     refine ev_pos (by omega) (ev_cast ?_ (Ev.now _))
     rw [if_neg (by omega)]
   ·rw [if_neg hb]
    refine ev_pos (by omega) (ev_cast ?_ (Ev.now _))
    rw [if_neg (by omega)]
theorem toES_of (l:List S25) (hl:(l.length:Int)≤1048576)
  (h:∀ y ∈ l,Ev (fun k=>laws_toExpr.f k y.f0 y.f1 y.f2 y.f3 y.f4) (y.f0,y.f1,y.f2,cvEL y.f3,cvCL y.f4)):Ev (fun k=>laws_toExprS.f k l) (cvEL l):=by
 rw [cvEL_map]
 refine Ev.step (f:=fun k=>laws_toExprS.l0 k l (List.replicate l.length z31) 0) (fun k=>?_) (map_loop0 (fun k x i=>laws_toExprS.l0 k l x i) cvE l _ ?_ ?_)
 ·simp only [laws_toExprS.f];rw [if_pos (by omega),if_pos (by omega),Int.toNat_natCast]
 ·intro i hi x r hx e
  have e0:=h _ (List.getElem_mem hi)
  have hrd:=rdLE l i hi
  generalize l[i] = y at *
  refine Ev.step (f:=fun k=>(laws_toExpr.f k y.f0 y.f1 y.f2 y.f3 y.f4).bind fun bt126=>(if (i:Int) < (x.length:Int) then (laws_toExprS.l0 k l (x.set ((i:Int)).toNat (⟨bt126.1,bt126.2.1,bt126.2.2.1,bt126.2.2.2.1,bt126.2.2.2.2⟩:S31)) (wrap64 ((i:Int) + 1))) else none)) (fun k=>?_) (Ev.bind e0 (ev_pos (by omega) ?_))
  ·simp only [laws_toExprS.l0];rw [if_pos (by omega),if_pos (by omega),hrd]
  ·rw [w64 _ (by omega) (by omega),Int.toNat_natCast]
   have ec:(⟨y.f0,y.f1,y.f2,cvEL y.f3,cvCL y.f4⟩:S31) = cvE y:=by cases y;rw [cvE]
   simp only [ec]
   exact e
 ·intro x hx
  refine Ev.step (f:=fun _=>some x) (fun k=>?_) (Ev.now _)
  simp only [laws_toExprS.l0];rw [if_neg (by omega)]
theorem toCS_of (l:List (P48 S25)) (hl:(l.length:Int)≤1048576)
  (h:∀ c ∈ l,Ev (fun k=>laws_toExpr.f k c.f0.f0 c.f0.f1 c.f0.f2 c.f0.f3 c.f0.f4) (c.f0.f0,c.f0.f1,c.f0.f2,cvEL c.f0.f3,cvCL c.f0.f4)∧Ev (fun k=>laws_toExpr.f k c.f1.f0 c.f1.f1 c.f1.f2 c.f1.f3 c.f1.f4) (c.f1.f0,c.f1.f1,c.f1.f2,cvEL c.f1.f3,cvCL c.f1.f4)):Ev (fun k=>laws_toClauseS.f k l) (cvCL l):=by
 rw [cvCL_map]
 refine Ev.step (f:=fun k=>laws_toClauseS.l0 k l (List.replicate l.length z53) 0) (fun k=>?_) (map_loop0 (fun k x i=>laws_toClauseS.l0 k l x i) cvC l _ ?_ ?_)
 ·simp only [laws_toClauseS.f];rw [if_pos (by omega),if_pos (by omega),Int.toNat_natCast]
 ·intro i hi x r hx e
  have e0:=h _ (List.getElem_mem hi)
  have hrd:=rdLC l i hi
  generalize l[i] = c at *
  have e1:Ev (fun k=>laws_toClause.f k c.f0.f0 c.f0.f1 c.f0.f2 c.f0.f3 c.f0.f4 c.f1.f0 c.f1.f1 c.f1.f2 c.f1.f3 c.f1.f4) (c.f0.f0,c.f0.f1,c.f0.f2,cvEL c.f0.f3,cvCL c.f0.f4,c.f1.f0,c.f1.f1,c.f1.f2,cvEL c.f1.f3,cvCL c.f1.f4) :=
   Ev.step (fun k=>by simp only [laws_toClause.f];rfl) (Ev.bind e0.1 (Ev.bind e0.2 (ev_of (o:=some (c.f0.f0,c.f0.f1,c.f0.f2,cvEL c.f0.f3,cvCL c.f0.f4,c.f1.f0,c.f1.f1,c.f1.f2,cvEL c.f1.f3,cvCL c.f1.f4)) rfl)))
  refine Ev.step (f:=fun k=>(laws_toClause.f k c.f0.f0 c.f0.f1 c.f0.f2 c.f0.f3 c.f0.f4 c.f1.f0 c.f1.f1 c.f1.f2 c.f1.f3 c.f1.f4).bind fun bt161=>(if (i:Int) < (x.length:Int) then (laws_toClauseS.l0 k l (x.set ((i:Int)).toNat (⟨(⟨bt161.1,bt161.2.1,bt161.2.2.1,bt161.2.2.2.1,bt161.2.2.2.2.1⟩:S31),(⟨bt161.2.2.2.2.2.1,bt161.2.2.2.2.2.2.1,bt161.2.2.2.2.2.2.2.1,bt161.2.2.2.2.2.2.2.2.1,bt161.2.2.2.2.2.2.2.2.2⟩:S31)⟩:S53)) (wrap64 ((i:Int) + 1))) else none)) (fun k=>?_) (Ev.bind e1 (ev_pos (by omega) ?_))
  ·simp only [laws_toClauseS.l0];rw [if_pos (by omega),if_pos (by omega),hrd]
  ·rw [w64 _ (by omega) (by omega),Int.toNat_natCast]
   obtain ⟨p,q⟩:=c
   have ec:(⟨(⟨p.f0,p.f1,p.f2,cvEL p.f3,cvCL p.f4⟩:S31),(⟨q.f0,q.f1,q.f2,cvEL q.f3,cvCL q.f4⟩:S31)⟩:S53) = cvC ⟨p,q⟩:=by cases p;cases q;rw [cvC,cvE,cvE]
   simp only [ec]
   exact e
 ·intro x hx
  refine Ev.step (f:=fun _=>some x) (fun k=>?_) (Ev.now _)
  simp only [laws_toClauseS.l0];rw [if_neg (by omega)]
theorem budEL_mem (l:List S25) (x:S25) (h:x ∈ l):budE x≤budEL l:=by have:=sumB_mem budE l x h;rwa [sumE] at this
theorem budCL_mem (l:List (P48 S25)) (c:P48 S25) (h:c ∈ l):budE c.f0 + budE c.f1≤budCL l:=by
 have:=sumB_mem budCc l c h
 rw [sumC] at this
 have hbc:budCc c = budE c.f0 + budE c.f1:=by cases c;rw [budCc]
 omega
theorem toE_all:∀ x,(budE x:Int)≤1048576 → Ev (fun k=>laws_toExpr.f k x.f0 x.f1 x.f2 x.f3 x.f4) (x.f0,x.f1,x.f2,cvEL x.f3,cvCL x.f4):=by
 refine indLE ?_
 intro a b s l m ih ihc hb
 rw [budE] at hb
 refine Ev.step (f:=fun k=>(laws_toExprS.f k l).bind fun t183=>((laws_toClauseS.f k m).bind fun t186=>(some (a,b,s,t183,t186)))) (fun k=>?_) (Ev.bind (toES_of l (by omega) (fun y hy=>ih y hy (by have:=budEL_mem l y hy;omega))) (Ev.bind (toCS_of m (by omega) (fun c hc=>⟨(ihc c hc).1 (by have:=budCL_mem m c hc;omega),(ihc c hc).2 (by have:=budCL_mem m c hc;omega)⟩)) (Ev.now _)))
 simp only [laws_toExpr.f]
theorem eqES_of (l:List S31) (hl:(l.length:Int)≤4194304) (h:∀ y ∈ l,Ev (fun k=>laws_eqExpr.f k y.f0 y.f1 y.f2 y.f3 y.f4 y.f0 y.f1 y.f2 y.f3 y.f4) true):Ev (fun k=>laws_eqExprS.f k l l) true:=by
 refine Ev.step (f:=fun k=>laws_eqExprS.l0 k l l 0) (fun k=>?_) (ev_cast ?_ (all_loop (fun k i=>laws_eqExprS.l0 k l l i) (fun _=>true) l.length ?_ ?_ l.length 0 (by omega)))
 ·simp only [laws_eqExprS.f];rw [if_pos trivial]
 ·unfold allFrom;simp
 ·intro i hi r hr _
  have e:=h _ (List.getElem_mem hi)
  have hrd:=rdE l i hi
  generalize l[i] = y at *
  refine Ev.step (f:=fun k=>(laws_eqExpr.f k y.f0 y.f1 y.f2 y.f3 y.f4 y.f0 y.f1 y.f2 y.f3 y.f4).bind fun t209=>(if t209 = true then (laws_eqExprS.l0 k l l (wrap64 ((i:Int) + 1))) else (some false))) (fun k=>?_) (Ev.bind e (ev_pos rfl ?_))
  ·simp only [laws_eqExprS.l0];rw [if_pos (by omega),if_pos (by omega),if_pos (by omega),hrd]
  ·rw [w64 _ (by omega) (by omega)];exact hr rfl
 ·refine Ev.step (f:=fun _=>some true) (fun k=>?_) (Ev.now _)
  simp only [laws_eqExprS.l0];rw [if_neg (by omega)]
theorem eqCS_of (l:List (P53 S31)) (hl:(l.length:Int)≤4194304) (h:∀ c ∈ l,Ev (fun k=>laws_eqExpr.f k c.f0.f0 c.f0.f1 c.f0.f2 c.f0.f3 c.f0.f4 c.f0.f0 c.f0.f1 c.f0.f2 c.f0.f3 c.f0.f4) true∧Ev (fun k=>laws_eqExpr.f k c.f1.f0 c.f1.f1 c.f1.f2 c.f1.f3 c.f1.f4 c.f1.f0 c.f1.f1 c.f1.f2 c.f1.f3 c.f1.f4) true):Ev (fun k=>laws_eqClauseS.f k l l) true:=by
 refine Ev.step (f:=fun k=>laws_eqClauseS.l0 k l l 0) (fun k=>?_) (ev_cast ?_ (all_loop (fun k i=>laws_eqClauseS.l0 k l l i) (fun _=>true) l.length ?_ ?_ l.length 0 (by omega)))
 ·simp only [laws_eqClauseS.f];rw [if_pos trivial]
 ·unfold allFrom;simp
 ·intro i hi r hr _
  have e:=h _ (List.getElem_mem hi)
  have hrd:=rdC l i hi
  generalize l[i] = c at *
  have e1:Ev (fun k=>laws_eqClause.f k c.f0.f0 c.f0.f1 c.f0.f2 c.f0.f3 c.f0.f4 c.f1.f0 c.f1.f1 c.f1.f2 c.f1.f3 c.f1.f4 c.f0.f0 c.f0.f1 c.f0.f2 c.f0.f3 c.f0.f4 c.f1.f0 c.f1.f1 c.f1.f2 c.f1.f3 c.f1.f4) true :=
   Ev.step (fun k=>by simp only [laws_eqClause.f];rfl) (Ev.bind e.1 (ev_pos rfl (Ev.bind e.2 (ev_pos rfl (Ev.now _)))))
  refine Ev.step (f:=fun k=>(laws_eqClause.f k c.f0.f0 c.f0.f1 c.f0.f2 c.f0.f3 c.f0.f4 c.f1.f0 c.f1.f1 c.f1.f2 c.f1.f3 c.f1.f4 c.f0.f0 c.f0.f1 c.f0.f2 c.f0.f3 c.f0.f4 c.f1.f0 c.f1.f1 c.f1.f2 c.f1.f3 c.f1.f4).bind fun t209=>(if t209 = true then (laws_eqClauseS.l0 k l l (wrap64 ((i:Int) + 1))) else (some false))) (fun k=>?_) (Ev.bind e1 (ev_pos rfl ?_))
  ·simp only [laws_eqClauseS.l0];rw [if_pos (by omega),if_pos (by omega),if_pos (by omega),hrd]
  ·rw [w64 _ (by omega) (by omega)];exact hr rfl
 ·refine Ev.step (f:=fun _=>some true) (fun k=>?_) (Ev.now _)
  simp only [laws_eqClauseS.l0];rw [if_neg (by omega)]
theorem eqE_all:∀ x,(budX x:Int)≤4194304 → Ev (fun k=>laws_eqExpr.f k x.f0 x.f1 x.f2 x.f3 x.f4 x.f0 x.f1 x.f2 x.f3 x.f4) true:=by
 refine indE ?_
 intro a b s l m ih ihc hb
 rw [budX] at hb
 refine Ev.step (f:=fun k=>(laws_eqExprS.f k l l).bind fun t219=>(if t219 = true then ((laws_eqClauseS.f k m m).bind fun t220=>(if t220 = true then (some true) else (some false))) else (some false))) (fun k=>?_) (Ev.bind (eqES_of l (by omega) (fun y hy=>ih y hy (by have:=budXL_mem l y hy;omega))) (ev_pos rfl (Ev.bind (eqCS_of m (by omega) (fun c hc=>⟨(ihc c hc).1 (by have:=budXC_mem m c hc;omega),(ihc c hc).2 (by have:=budXC_mem m c hc;omega)⟩)) (ev_pos rfl (Ev.now _)))))
 simp only [laws_eqExpr.f]
 simp
def lowB (c:Int):Bool:=decide (97≤c) && decide (c≤122)
def digB (c:Int):Bool:=decide (48≤c) && decide (c≤57)
def atomFrom (s:ByteArray) (i:Nat):Bool:=(List.range' i (s.size - i)).all fun j=>lowB (bt s j) || (!decide (j = 0) && (digB (bt s j) || decide (bt s j = 95)))
def atomOkM (s:ByteArray):Bool:=atomFrom s 0 && (decide (1≤(s.size:Int)) && decide ((s.size:Int)≤20))
theorem atomFrom_end (s:ByteArray) (i:Nat) (h:s.size≤i):atomFrom s i = true:=by
 unfold atomFrom
 rw [Nat.sub_eq_zero_of_le h];rfl
theorem atomFrom_step (s:ByteArray) (i:Nat) (h:i < s.size):atomFrom s i = ((lowB (bt s i) || (!decide (i = 0) && (digB (bt s i) || decide (bt s i = 95)))) && atomFrom s (i + 1)):=by
 unfold atomFrom
 obtain ⟨n,hn⟩:∃ n,s.size - i = n + 1:=⟨s.size - i - 1,by omega⟩
 rw [hn,show s.size - (i + 1) = n from by omega,List.range'_succ]
 simp [List.all_cons]
theorem wbt (s:ByteArray) (i:Int):wrap64 (bt s i) = bt s i:=by
 have:=bt_range s i
 exact w64 _ (by omega) (by omega)
theorem ev_and {c:Bool} {A:Nat → Option Bool} {r:Bool} (e:Ev A r):Ev (fun k=>if c = true then A k else some false) (c && r):=by
 cases c with
 | false=>exact ev_neg (by decide) (Ev.now _)
 | true=>exact ev_pos rfl e
theorem ev_andP {c:Prop} [Decidable c] {A:Nat → Option Bool} {r:Bool} (e:Ev A r):Ev (fun k=>if c then A k else some false) (decide c && r):=by
 by_cases h:c
 ·rw [decide_eq_true h];exact ev_pos h e
 ·rw [decide_eq_false h];exact ev_neg h (Ev.now _)
theorem ev_nand {c:Bool} {A:Nat → Option Bool} {r:Bool} (e:Ev A r):Ev (fun k=>if c = true then some false else A k) (!c && r):=by
 cases c with
 | false=>exact ev_neg (by decide) e
 | true=>exact ev_pos rfl (Ev.now _)
theorem len0B (n:Nat):((n:Int) == 0) = decide (n = 0):=by by_cases h:n = 0 <;> simp [h]
theorem len2B (n:Nat):((n:Int) == 2) = decide (n = 2):=by
 by_cases h:n = 2
 ·simp [h]
 ·rw [decide_eq_false h,beq_eq_false_iff_ne];omega
theorem len1B (n:Nat):((n:Int) == 1) = decide (n = 1):=by
 by_cases h:n = 1
 ·simp [h]
 ·rw [decide_eq_false h,beq_eq_false_iff_ne];omega
def resL (l:List UInt8):Bool:=decide (l = [99,97,115,101]) || (decide (l = [111,102]) || decide (l = [101,110,100]))
def xatomM (s:ByteArray):Bool:=atomOkM s && !(resL s.toList)
def opL (l:List UInt8):Bool:=decide (l = [43]) || (decide (l = [45]) || (decide (l = [42]) || (decide (l = [61,61]) || decide (l = [60]))))
def largeB (c:Int):Bool:=(decide (65≤c) && decide (c≤90)) || decide (c = 95)
def varP (s:ByteArray) (i:Nat):Bool:=largeB (bt s i) || (!decide (i = 0) && (lowB (bt s i) || digB (bt s i)))
def varQ (s:ByteArray) (i:Nat):Bool:=lowB (bt s i) || (largeB (bt s i) || digB (bt s i))
def in20 (s:ByteArray):Bool:=decide (1≤(s.size:Int)) && decide ((s.size:Int)≤20)
def varOkM (s:ByteArray):Bool:=allFrom (varP s) 0 s.size && in20 s
theorem allFrom_iff (p:Nat → Bool) (n:Nat):allFrom p 0 n = true ↔ ∀ i,i < n → p i = true:=by
 unfold allFrom
 rw [List.all_eq_true]
 constructor
 ·intro h i hi
  exact h i (by rw [List.mem_range'_1];omega)
 ·intro h i hi
  rw [List.mem_range'_1] at hi
  exact h i (by omega)
theorem varOk_same (s:ByteArray):(allFrom (varQ s) 0 s.size && (in20 s && largeB (bt s 0))) = varOkM s:=by
 unfold varOkM
 cases hn:in20 s with
 | false=>simp
 | true =>
  rw [Bool.true_and,Bool.and_true,Bool.eq_iff_iff,Bool.and_eq_true,allFrom_iff,allFrom_iff]
  unfold in20 at hn
  rw [Bool.and_eq_true,decide_eq_true_eq,decide_eq_true_eq] at hn
  constructor
  ·rintro ⟨h,h0⟩ i hi
   have:=h i hi
   unfold varQ at this
   unfold varP
   by_cases hz:i = 0
   ·subst hz
    rw [show ((0:Nat):Int) = 0 from rfl,h0];rfl
   ·rw [decide_eq_false hz]
    revert this
    cases lowB (bt s i) <;> cases largeB (bt s i) <;> cases digB (bt s i) <;> simp
  ·intro h
   refine ⟨fun i hi=>?_,?_⟩
   ·have:=h i hi
    unfold varP at this
    unfold varQ
    revert this
    cases lowB (bt s i) <;> cases largeB (bt s i) <;> cases digB (bt s i) <;> simp
   ·have:=h 0 (by omega)
    unfold varP at this
    simpa using this
theorem all_loopB (L:Nat → Int → Option Bool) (p:Nat → Bool) (n:Nat) (b:Bool)
  (hstep:∀ (i:Nat),i < n → ∀ r,(p i = true → Ev (fun k=>L k ((i + 1:Nat):Int)) r) → (p i = false → r = false) → Ev (fun k=>L k (i:Int)) r)
  (hend:Ev (fun k=>L k (n:Int)) b) (d:Nat):∀ i:Nat,i + d = n → Ev (fun k=>L k (i:Int)) (allFrom p i d && b):=by
 induction d with
 | zero =>
  intro i hi
  have e:i = n:=by omega
  subst e
  exact ev_cast (by unfold allFrom;simp) hend
 | succ d ih =>
  intro i hi
  refine hstep i (by omega) _ (fun hp=>?_) (fun hp=>?_)
  ·refine ev_cast ?_ (ih (i + 1) (by omega))
   unfold allFrom
   rw [List.range'_succ,List.all_cons,hp,Bool.true_and]
  ·unfold allFrom
   rw [List.range'_succ,List.all_cons,hp,Bool.false_and,Bool.false_and]
def noT (s:ByteArray):Bool:=decide (s.toList = ([]:List UInt8))
def shOk (a b:Int) (s:ByteArray) (n:Nat):Bool :=
 if a = 1 then (decide (0≤b) && decide (b≤1000000000000)) && (noT s && decide (n = 0))
 else decide (b = 0) && (
  if a = 2 then xatomM s && decide (n = 0)
  else if a = 3 then varOkM s && decide (n = 0)
  else if a = 4∨a = 5 then noT s && decide (n≤20)
  else if a = 6 then noT s && (decide (2≤n) && decide (n≤6))
  else if a = 7 then opL s.toList && decide (n = 2)
  else if a = 8 then xatomM s && decide (n≤4)
  else if a = 9 then noT s && decide (n = 1)
  else false)
/-- What of an expression is right by itself: of a pattern (pat), or of any. -/
def shapeX (a b:Int) (s:ByteArray) (n m:Nat) (pat:Bool):Bool :=
 if pat then decide (a≤6) && (decide (m = 0) && shOk a b s n)
 else (shOk a b s n && !(decide (a = 3) && decide (s.toList = ([95]:List UInt8)))) && (decide (a = 9 ↔ 0 < m) && decide (m≤6))
theorem sh_none {a b:Int} {s:ByteArray} {n:Nat} (h : ¬ (a = 1∨a = 2∨a = 3∨a = 4∨a = 5∨a = 6∨a = 7∨a = 8∨a = 9)):shOk a b s n = false:=by
 unfold shOk
 rw [if_neg (by omega),if_neg (by omega),if_neg (by omega),if_neg (by omega),if_neg (by omega),if_neg (by omega),if_neg (by omega),if_neg (by omega),Bool.and_false]
theorem dcast {p q:Prop} [Decidable p] [Decidable q] (h:p ↔ q):decide p = decide q:=decide_eq_decide.2 h
theorem sx1 (b:Int) (s:ByteArray) (n:Nat) (pat:Bool):shapeX 1 b s n 0 pat = ((decide (0≤b) && decide (b≤1000000000000)) && (noT s && decide (n = 0))):=by
 unfold shapeX shOk;cases pat <;> simp
theorem sx2 (s:ByteArray) (n:Nat) (pat:Bool):shapeX 2 0 s n 0 pat = (xatomM s && decide (n = 0)):=by
 unfold shapeX shOk;cases pat <;> simp
theorem sx3 (s:ByteArray) (n:Nat) (pat:Bool):shapeX 3 0 s n 0 pat = (varOkM s && (decide (n = 0) && (pat || !decide (s.toList = ([95]:List UInt8))))):=by
 unfold shapeX shOk;cases pat <;> simp [Bool.and_assoc]
theorem sx4 (a:Int) (h:a = 4∨a = 5) (s:ByteArray) (n:Nat) (pat:Bool):shapeX a 0 s n 0 pat = (noT s && decide (n≤20)):=by
 unfold shapeX shOk;rcases h with rfl|rfl <;> cases pat <;> simp
theorem sx6 (s:ByteArray) (n:Nat) (pat:Bool):shapeX 6 0 s n 0 pat = (noT s && (decide (2≤n) && decide (n≤6))):=by
 unfold shapeX shOk;cases pat <;> simp
theorem sx7 (s:ByteArray) (n:Nat) (pat:Bool):shapeX 7 0 s n 0 pat = (!pat && (opL s.toList && decide (n = 2))):=by
 unfold shapeX shOk;cases pat <;> simp
theorem sx8 (s:ByteArray) (n:Nat) (pat:Bool):shapeX 8 0 s n 0 pat = (!pat && (xatomM s && decide (n≤4))):=by
 unfold shapeX shOk;cases pat <;> simp
theorem sx9 (s:ByteArray) (n m:Nat) (pat:Bool):shapeX 9 0 s n m pat = (!pat && (noT s && (decide (n = 1) && (decide (1≤m) && decide (m≤6))))):=by
 unfold shapeX shOk
 cases pat with
 | true=>simp
 | false =>
  have e:decide ((9:Int) = 9 ↔ 0 < m) = decide (1≤m):=dcast (by omega)
  rw [if_neg (by decide),e]
  simp [Bool.and_assoc]
theorem sx0 {a b:Int} {s:ByteArray} {n m:Nat} {pat:Bool} (h : ¬ (a = 1∨a = 2∨a = 3∨a = 4∨a = 5∨a = 6∨a = 7∨a = 8∨a = 9)):shapeX a b s n m pat = false:=by
 unfold shapeX
 rw [sh_none h]
 cases pat <;> simp
mutual
def varsM:S31 → List ByteArray
 | ⟨a,_,s,l,_⟩=>if a = 3 then (if s.toList = ([95]:List UInt8) then [] else [s]) else varsML l
def varsML:List S31 → List ByteArray
 | []=>[]
 | x :: r=>varsM x ++ varsML r
end
theorem vars_len:∀ x,(varsM x).length≤1 + budX x:=by
 refine indE ?_
 intro a b s l m ih _
 rw [varsM,budX]
 split
 ·split <;> simp
 ·have:∀ l:List S31,(∀ y ∈ l,(varsM y).length≤1 + budX y) → (varsML l).length≤l.length + budXL l:=by
   intro l
   induction l with
   | nil=>intro _;rw [varsML];simp
   | cons x r ihr =>
    intro h
    have q1:=h x List.mem_cons_self
    have q2:=ihr (fun y hy=>h y (List.mem_cons_of_mem _ hy))
    rw [varsML,budXL,List.length_append,List.length_cons]
    omega
  have:=this l ih
  omega
theorem varsL_drop (l:List S31) (i:Nat) (h:i < l.length):varsML (l.drop i) = varsM l[i] ++ varsML (l.drop (i + 1)):=by
 rw [List.drop_eq_getElem_cons h,varsML]
theorem budXL_drop (l:List S31) (i:Nat) (h:i < l.length):budXL (l.drop i) = budX l[i] + budXL (l.drop (i + 1)):=by
 rw [List.drop_eq_getElem_cons h,budXL]
/-- No text of a row twice. -/
def ND (l:List ByteArray):Prop:=(l.map ByteArray.toList).Nodup
instance (l:List ByteArray):Decidable (ND l):=inferInstanceAs (Decidable (List.Nodup _))
theorem rdS (l:List ByteArray) (i:Nat) (h:i < l.length):rdOf ByteArray.empty l (i:Int) = l[i]:=by
 unfold rdOf
 simp [List.getD_eq_getElem?_getD,List.getElem?_eq_getElem h]
def hasM (l:List ByteArray) (s:ByteArray):Bool:=decide (s.toList ∈ l.map ByteArray.toList)
theorem ND_app (l:List ByteArray) (s:ByteArray):ND (l ++ [s]) ↔ ND l∧¬ s.toList ∈ l.map ByteArray.toList:=by
 unfold ND
 rw [List.map_append,List.nodup_append]
 constructor
 ·intro h
  exact ⟨h.1,fun hm=>h.2.2 _ hm _ (by simp) rfl⟩
 ·intro h
  refine ⟨h.1,by simp,fun a ha b hb e=>?_⟩
  simp at hb
  subst hb
  exact h.2 (e ▸ ha)
theorem ND_left {l m:List ByteArray} (h:ND (l ++ m)):ND l:=by
 unfold ND at *
 rw [List.map_append] at h
 exact (List.nodup_append.1 h).1
theorem ND_nil:ND []:=by unfold ND;exact List.nodup_nil
mutual
def lookX:S31 → Bool → Nat → Int → Int
 | ⟨a,b,s,l,m⟩,pat,d,left=>match d with
  | 0=>-1
  | d + 1=>if left < 1∨shapeX a b s l.length m.length pat = false then -1 else lookC m d (lookL l pat d (left - 1))
def lookL:List S31 → Bool → Nat → Int → Int
 | [],_,_,left=>left
 | x :: r,pat,d,left=>if left ≥ 0 then lookL r pat d (lookX x pat d left) else left
def lookc:P53 S31 → Nat → Int → Int
 | ⟨p,q⟩,d,left=>if ND (varsM p) then (if lookX p true d left ≥ 0 then lookX q false d (lookX p true d left) else lookX p true d left) else -1
def lookC:List (P53 S31) → Nat → Int → Int
 | [],_,left=>left
 | c :: r,d,left=>if left ≥ 0 then lookC r d (lookc c d left) else left
end
theorem lookL_neg (l:List S31) (pat:Bool) (d:Nat) (left:Int) (h:left < 0):lookL l pat d left = left:=by
 cases l with
 | nil=>rw [lookL]
 | cons x r=>rw [lookL,if_neg (by omega)]
theorem lookC_neg (m:List (P53 S31)) (d:Nat) (left:Int) (h:left < 0):lookC m d left = left:=by
 cases m with
 | nil=>rw [lookC]
 | cons x r=>rw [lookC,if_neg (by omega)]
mutual
theorem lookX_le:∀ x pat d left,left≤300 → lookX x pat d left≤300
 | ⟨a,b,s,l,m⟩,pat,0,left,h=>by rw [lookX];omega
 | ⟨a,b,s,l,m⟩,pat,d + 1,left,h=>by
  rw [lookX]
  split
  ·omega
  ·exact lookC_le m d _ (lookL_le l pat d _ (by omega))
theorem lookL_le:∀ l pat d left,left≤300 → lookL l pat d left≤300
 | [],pat,d,left,h=>by rw [lookL];exact h
 | x :: r,pat,d,left,h=>by
  rw [lookL]
  split
  ·exact lookL_le r pat d _ (lookX_le x pat d left h)
  ·exact h
theorem lookc_le:∀ c d left,left≤300 → lookc c d left≤300
 | ⟨p,q⟩,d,left,h=>by
  rw [lookc]
  have h1:=lookX_le p true d left h
  split
  ·split
   ·exact lookX_le q false d _ h1
   ·exact h1
  ·omega
theorem lookC_le:∀ m d left,left≤300 → lookC m d left≤300
 | [],d,left,h=>by rw [lookC];exact h
 | c :: r,d,left,h=>by
  rw [lookC]
  split
  ·exact lookC_le r d _ (lookc_le c d left h)
  ·exact h
end
theorem spec_l4Op_eq (s:ByteArray):spec_l4Op.f s = some (opL s.toList):=by
 unfold spec_l4Op.f opL
 generalize s.toList = l
 by_cases h1:l = [43]
 ·rw [if_pos h1];simp [h1]
 rw [if_neg h1]
 by_cases h2:l = [45]
 ·rw [if_pos h2];simp [h2]
 rw [if_neg h2]
 by_cases h3:l = [42]
 ·rw [if_pos h3];simp [h3]
 rw [if_neg h3]
 by_cases h4:l = [61,61]
 ·rw [if_pos h4];simp [h4]
 rw [if_neg h4]
 by_cases h5:l = [60] <;> simp [h1,h2,h3,h4,h5]
theorem spec_l1In_eq (a b c:Int):spec_l1In.f a b c = some (decide (b≤a) && decide (a≤c)):=by
 unfold spec_l1In.f
 by_cases h:b≤a <;> simp [h]
theorem spec_AtomOk_l (s:ByteArray) (hs:s.size≤140737488351232) (d:Nat):∀ i:Nat,i + d = s.size → Ev (fun k=>spec_AtomOk.l0 k s i) (atomFrom s i && (decide (1≤(s.size:Int)) && decide ((s.size:Int)≤20))):=by
 induction d with
 | zero =>
  intro i hi
  refine Ev.step (f:=fun _=>some (decide (1≤(s.size:Int)) && decide ((s.size:Int)≤20))) (fun k=>?_) (ev_cast ?_ (Ev.now _))
  ·simp only [spec_AtomOk.l0]
   rw [if_neg (by omega),spec_l1In_eq];rfl
  ·rw [atomFrom_end s i (by omega)];rfl
 | succ d ih =>
  intro i hi
  have hlt:i < s.size:=by omega
  have hn:=ih (i + 1) (by omega)
  rw [atomFrom_step s i hlt]
  by_cases h1:lowB (bt s i) = true
  ·refine Ev.step (fun k=>?_) (ev_cast ?_ hn)
   ·simp only [spec_AtomOk.l0]
    rw [if_pos (by omega),if_pos (by omega),wbt,spec_l1In_eq]
    simp only [Option.bind_some]
    unfold lowB at h1
    rw [if_pos h1,w64 _ (by omega) (by omega)]
    rfl
   ·rw [h1];rfl
  ·have h1':lowB (bt s i) = false:=by simpa using h1
   by_cases h0:i = 0
   ·refine Ev.step (f:=fun _=>some false) (fun k=>?_) (ev_cast ?_ (Ev.now _))
    ·simp only [spec_AtomOk.l0]
     rw [if_pos (by omega),if_pos (by omega),wbt,spec_l1In_eq]
     simp only [Option.bind_some]
     unfold lowB at h1
     rw [if_neg h1,if_pos (by omega)]
    ·rw [h1'];simp [h0]
   ·by_cases h2:digB (bt s i) = true
    ·refine Ev.step (fun k=>?_) (ev_cast ?_ hn)
     ·simp only [spec_AtomOk.l0]
      rw [if_pos (by omega),if_pos (by omega),wbt,spec_l1In_eq]
      simp only [Option.bind_some]
      unfold lowB at h1;unfold digB at h2
      rw [if_neg h1,if_neg (by omega),spec_l1In_eq]
      simp only [Option.bind_some]
      rw [if_pos h2,w64 _ (by omega) (by omega)]
      rfl
     ·rw [h2];simp [h0]
    ·have h2':digB (bt s i) = false:=by simpa using h2
     by_cases h3:bt s i = 95
     ·refine Ev.step (fun k=>?_) (ev_cast ?_ hn)
      ·simp only [spec_AtomOk.l0]
       rw [if_pos (by omega),if_pos (by omega),wbt,spec_l1In_eq]
       simp only [Option.bind_some]
       unfold lowB at h1;unfold digB at h2
       rw [if_neg h1,if_neg (by omega),spec_l1In_eq]
       simp only [Option.bind_some]
       rw [if_neg h2,if_pos h3,w64 _ (by omega) (by omega)]
       rfl
      ·simp [h0,h3]
     ·refine Ev.step (f:=fun _=>some false) (fun k=>?_) (ev_cast ?_ (Ev.now _))
      ·simp only [spec_AtomOk.l0]
       rw [if_pos (by omega),if_pos (by omega),wbt,spec_l1In_eq]
       simp only [Option.bind_some]
       unfold lowB at h1;unfold digB at h2
       rw [if_neg h1,if_neg (by omega),spec_l1In_eq]
       simp only [Option.bind_some]
       rw [if_neg h2,if_neg h3]
      ·rw [h1',h2'];simp [h3]
theorem spec_AtomOk_ev (s:ByteArray) (hs:s.size≤140737488351232):Ev (fun k=>spec_AtomOk.f k s) (atomOkM s):=spec_AtomOk_l s hs s.size 0 (by omega)
theorem spec_l4Reserved_eq (s:ByteArray):spec_l4Reserved.f s = some (resL s.toList):=by
 unfold spec_l4Reserved.f resL
 generalize s.toList = l
 by_cases h1:l = [99,97,115,101]
 ·rw [if_pos h1];simp [h1]
 ·rw [if_neg h1]
  by_cases h2:l = [111,102]
  ·rw [if_pos h2];simp [h2]
  ·rw [if_neg h2]
   by_cases h3:l = [101,110,100] <;> simp [h1,h2,h3]
theorem spec_l4Atom_ev (s:ByteArray) (hs:s.size≤140737488351232):Ev (fun k=>spec_l4Atom.f k s) (xatomM s):=by
 unfold spec_l4Atom.f xatomM
 exact Ev.bind (spec_AtomOk_ev s hs) (ev_and (Ev.bind (ev_of (spec_l4Reserved_eq s)) (Ev.now _)))
theorem spec_l3Large_eq (c:Int) (h0:0≤c) (h1:c≤255):spec_l3Large.f c = some (largeB c):=by
 unfold spec_l3Large.f largeB
 rw [w64 _ (by omega) (by omega),spec_l1In_eq]
 simp only [Option.bind_some]
 cases h:(decide (65≤c) && decide (c≤90)) with
 | true=>rw [if_pos rfl];rfl
 | false=>rw [if_neg (by decide),Bool.false_or];rfl
theorem spec_l3Small_eq (c:Int) (h0:0≤c) (h1:c≤255):spec_l3Small.f c = some (lowB c):=by
 unfold spec_l3Small.f lowB
 rw [w64 _ (by omega) (by omega),spec_l1In_eq];rfl
theorem spec_l3Digit_eq (c:Int) (h0:0≤c) (h1:c≤255):spec_l3Digit.f c = some (digB c):=by
 unfold spec_l3Digit.f digB
 rw [w64 _ (by omega) (by omega),spec_l1In_eq];rfl
theorem spec_l3VarOk_ev (s:ByteArray) (hs:s.size≤140737488351232):Ev (fun k=>spec_l3VarOk.f k s) (varOkM s):=by
 unfold spec_l3VarOk.f varOkM
 refine all_loopB (fun k i=>spec_l3VarOk.l0 k s i) (varP s) s.size (in20 s) ?_ ?_ s.size 0 (by omega)
 ·intro i hi r hr hn
  have hb:=bt_range s i
  have e1:=spec_l3Large_eq (bt s i) hb.1 hb.2
  have e2:=spec_l3Small_eq (bt s i) hb.1 hb.2
  have e3:=spec_l3Digit_eq (bt s i) hb.1 hb.2
  have hw:wrap64 ((i:Int) + 1) = ((i + 1:Nat):Int):=by rw [w64 _ (by omega) (by omega)];rfl
  unfold varP at hr hn
  cases g1:largeB (bt s i) with
  | true =>
   refine Ev.step (fun k=>?_) (hr (by rw [g1];rfl))
   simp only [spec_l3VarOk.l0]
   rw [if_pos (by omega),if_pos (by omega),e1,g1,hw]
   rfl
  | false =>
   rw [g1] at hr hn
   by_cases hz:i = 0
   ·refine Ev.step (f:=fun _=>some false) (fun k=>?_) (ev_cast (hn (by simp [hz])).symm (Ev.now _))
    simp only [spec_l3VarOk.l0]
    rw [if_pos (by omega),if_pos (by omega),e1,g1]
    simp only [Option.bind_some]
    rw [if_neg (by decide),if_pos (by omega)]
   ·rw [decide_eq_false hz] at hr hn
    cases g2:lowB (bt s i) with
    | true =>
     refine Ev.step (fun k=>?_) (hr (by rw [g2];rfl))
     simp only [spec_l3VarOk.l0]
     rw [if_pos (by omega),if_pos (by omega),e1,g1]
     simp only [Option.bind_some]
     rw [if_neg (by decide),if_neg (by omega),e2,g2,hw]
     rfl
    | false =>
     rw [g2] at hr hn
     cases g3:digB (bt s i) with
     | true =>
      refine Ev.step (fun k=>?_) (hr (by rw [g3];rfl))
      simp only [spec_l3VarOk.l0]
      rw [if_pos (by omega),if_pos (by omega),e1,g1]
      simp only [Option.bind_some]
      rw [if_neg (by decide),if_neg (by omega),e2,g2]
      simp only [Option.bind_some]
      rw [if_neg (by decide),e3,g3,hw]
      rfl
     | false =>
      refine Ev.step (f:=fun _=>some false) (fun k=>?_) (ev_cast (hn (by rw [g3];rfl)).symm (Ev.now _))
      simp only [spec_l3VarOk.l0]
      rw [if_pos (by omega),if_pos (by omega),e1,g1]
      simp only [Option.bind_some]
      rw [if_neg (by decide),if_neg (by omega),e2,g2]
      simp only [Option.bind_some]
      rw [if_neg (by decide),e3,g3]
      rfl
 ·refine Ev.step (f:=fun _=>some (in20 s)) (fun k=>?_) (Ev.now _)
  simp only [spec_l3VarOk.l0]
  rw [if_neg (by omega),spec_l1In_eq]
  rfl
theorem shape_b {a b:Int} {s:ByteArray} {n m:Nat} {pat:Bool} (h1:a≠1) (h2:b≠0):shapeX a b s n m pat = false:=by
 unfold shapeX shOk
 rw [if_neg h1,decide_eq_false h2]
 cases pat <;> simp
theorem shape_m {a b:Int} {s:ByteArray} {n m:Nat} {pat:Bool} (h1:a≠9) (h2:0 < m):shapeX a b s n m pat = false:=by
 unfold shapeX
 cases pat with
 | true=>rw [if_pos rfl,decide_eq_false (show ¬ m = 0 by omega)];simp
 | false=>rw [if_neg (by decide),decide_eq_false (show ¬ (a = 9 ↔ 0 < m) by omega)];simp
theorem spec_l4Shape_j1 (pat:Bool) (a:Int) (s:ByteArray) (l:List S31) (m:List (P53 S31)) (hs:s.size≤140737488351232) (h3 : ¬ (a = 1∨a = 2∨a = 3)) (hm:a = 9∨m.length = 0) (q:Bool) (hq:q = true ↔ a = 4∨a = 5) :
  Ev (fun k=>spec_l4Shape.j1 k pat (l.length:Int) a q a 0 s l m) (shapeX a 0 s l.length m.length pat):=by
 refine Ev.step (f:=fun k=>if q = true then (if s.toList = ([]:List UInt8) then (some (decide ((l.length:Int)≤20))) else (some false)) else (if a = 6 then (if s.toList = ([]:List UInt8) then ((spec_l1In.f (l.length:Int) 2 6).bind fun t148=>(some t148)) else (some false)) else (if a = 7 then (if pat = true then (some false) else ((spec_l4Op.f s).bind fun t149=>(if t149 = true then (some ((l.length:Int) == 2)) else (some false)))) else (if a = 8 then (if pat = true then (some false) else ((spec_l4Atom.f k s).bind fun t150=>(if t150 = true then (some (decide ((l.length:Int)≤4))) else (some false)))) else (if a = 9 then (if pat = true then (some false) else (if s.toList = ([]:List UInt8) then (if (l.length:Int) = 1 then ((spec_l1In.f (m.length:Int) 1 6).bind fun t151=>(some t151)) else (some false)) else (some false))) else (some false)))))) (fun k=>by simp only [spec_l4Shape.j1]) ?_
 by_cases c4:a = 4∨a = 5
 ·have hm0:m.length = 0:=by omega
  rw [hm0,sx4 a c4]
  refine ev_pos (hq.2 c4) (ev_cast ?_ (ev_andP (Ev.now _)))
  rw [dcast (show (l.length:Int)≤20 ↔ l.length≤20 by omega)];rfl
 refine ev_neg (fun h=>c4 (hq.1 h)) ?_
 by_cases c6:a = 6
 ·have hm0:m.length = 0:=by omega
  subst c6
  rw [hm0,sx6]
  refine ev_pos rfl (ev_cast ?_ (ev_andP (Ev.bind (ev_of (spec_l1In_eq _ _ _)) (Ev.now _))))
  rw [dcast (show (2:Int)≤l.length ↔ 2≤l.length by omega),dcast (show (l.length:Int)≤6 ↔ l.length≤6 by omega)];rfl
 refine ev_neg c6 ?_
 by_cases c7:a = 7
 ·have hm0:m.length = 0:=by omega
  subst c7
  rw [hm0,sx7]
  refine ev_pos rfl (ev_cast ?_ (ev_nand (Ev.bind (ev_of (spec_l4Op_eq s)) (ev_and (Ev.now _)))))
  rw [len2B]
 refine ev_neg c7 ?_
 by_cases c8:a = 8
 ·have hm0:m.length = 0:=by omega
  subst c8
  rw [hm0,sx8]
  refine ev_pos rfl (ev_cast ?_ (ev_nand (Ev.bind (spec_l4Atom_ev s hs) (ev_and (Ev.now _)))))
  rw [dcast (show (l.length:Int)≤4 ↔ l.length≤4 by omega)]
 refine ev_neg c8 ?_
 by_cases c9:a = 9
 ·subst c9
  rw [sx9]
  refine ev_pos rfl (ev_cast ?_ (ev_nand (ev_andP (ev_andP (Ev.bind (ev_of (spec_l1In_eq _ _ _)) (Ev.now _))))))
  rw [dcast (show (l.length:Int) = 1 ↔ l.length = 1 by omega),dcast (show (1:Int)≤m.length ↔ 1≤m.length by omega),dcast (show (m.length:Int)≤6 ↔ m.length≤6 by omega)];rfl
 ·rw [sx0 (by omega)]
  exact ev_neg c9 (Ev.now _)
theorem spec_l4Shape_j0 (pat:Bool) (a b:Int) (s:ByteArray) (l:List S31) (m:List (P53 S31)) (hs:s.size≤140737488351232) (q:Bool) (hq:q = true ↔ (a≠9∧0 < m.length)∨(a≠1∧b≠0)) :
  Ev (fun k=>spec_l4Shape.j0 k pat (l.length:Int) q a b s l m) (shapeX a b s l.length m.length pat):=by
 by_cases hbad:(a≠9∧0 < m.length)∨(a≠1∧b≠0)
 ·have hf:shapeX a b s l.length m.length pat = false:=by
   rcases hbad with ⟨h1,h2⟩|⟨h1,h2⟩
   ·exact shape_m h1 h2
   ·exact shape_b h1 h2
  rw [hf]
  refine Ev.step (f:=fun _=>some false) (fun k=>?_) (Ev.now _)
  simp only [spec_l4Shape.j0];rw [if_pos (hq.2 hbad)]
 have hm:a = 9∨m.length = 0:=by omega
 have hb:a = 1∨b = 0:=by
  by_cases h:a = 1
  ·exact .inl h
  ·exact .inr (Classical.not_not.1 (fun h2=>hbad (.inr ⟨h,h2⟩)))
 refine Ev.step (f:=fun k=>(if a = 1 then ((spec_l1In.f b 0 1000000000000).bind fun t145=>(if t145 = true then (if s.toList = ([]:List UInt8) then (some ((l.length:Int) == 0)) else (some false)) else (some false))) else (if a = 2 then ((spec_l4Atom.f k s).bind fun t146=>(if t146 = true then (some ((l.length:Int) == 0)) else (some false))) else (if a = 3 then ((spec_l3VarOk.f k s).bind fun t147=>(if t147 = true then (if (l.length:Int) = 0 then (if pat = true then (some true) else (some (s.toList != ([95]:List UInt8)))) else (some false)) else (some false))) else (if a = 4 then (spec_l4Shape.j1 k pat (l.length:Int) a (a == 4) a b s l m) else (spec_l4Shape.j1 k pat (l.length:Int) a (a == 5) a b s l m)))))) (fun k=>by simp only [spec_l4Shape.j0];rw [if_neg (fun h=>hbad (hq.1 h))]) ?_
 by_cases c1:a = 1
 ·have hm0:m.length = 0:=by omega
  subst c1
  rw [hm0,sx1]
  refine ev_pos rfl (ev_cast ?_ (Ev.bind (ev_of (spec_l1In_eq _ _ _)) (ev_and (ev_andP (Ev.now _)))))
  rw [len0B];rfl
 have hb0:b = 0:=by omega
 subst hb0
 refine ev_neg c1 ?_
 by_cases c2:a = 2
 ·have hm0:m.length = 0:=by omega
  subst c2
  rw [hm0,sx2]
  refine ev_pos rfl (ev_cast ?_ (Ev.bind (spec_l4Atom_ev s hs) (ev_and (Ev.now _))))
  rw [len0B]
 refine ev_neg c2 ?_
 by_cases c3:a = 3
 ·have hm0:m.length = 0:=by omega
  subst c3
  rw [hm0,sx3]
  have e:Ev (fun _=>if pat = true then (some true) else (some (s.toList != ([95]:List UInt8)))) (pat || !decide (s.toList = ([95]:List UInt8))):=by
   cases pat with
   | true=>exact ev_pos rfl (Ev.now _)
   | false =>
    refine ev_neg (by decide) (ev_cast ?_ (Ev.now _))
    by_cases h:s.toList = ([95]:List UInt8) <;> simp [h]
  refine ev_pos rfl (ev_cast ?_ (Ev.bind (spec_l3VarOk_ev s hs) (ev_and (ev_andP e))))
  rw [dcast (show (l.length:Int) = 0 ↔ l.length = 0 by omega)]
 refine ev_neg c3 ?_
 by_cases c4:a = 4
 ·exact ev_pos c4 (spec_l4Shape_j1 pat a s l m hs (by omega) hm _ (by rw [beq_iff_eq];omega))
 ·exact ev_neg c4 (spec_l4Shape_j1 pat a s l m hs (by omega) hm _ (by rw [beq_iff_eq];omega))
theorem spec_l4Shape_ev (pat:Bool) (a b:Int) (s:ByteArray) (l:List S31) (m:List (P53 S31)) (hs:s.size≤140737488351232) :
  Ev (fun k=>spec_l4Shape.f k a b s l m pat) (shapeX a b s l.length m.length pat):=by
 unfold spec_l4Shape.f
 have j:=fun q hq=>spec_l4Shape_j0 pat a b s l m hs q hq
 have hf:∀ {p:Prop},¬ p → (false = true ↔ p):=fun hp=>⟨fun h=>(by cases h),fun h=>absurd h hp⟩
 have hbn:∀ {p:Prop},(b≠0 ↔ p) → ((b != 0) = true ↔ p):=fun hp=>by rw [bne_iff_ne];exact hp
 by_cases c9:a = 9
 ·exact ev_pos c9 (ev_neg (show ¬ a = 1 by omega) (j _ (hbn (by omega))))
 refine ev_neg c9 ?_
 by_cases hm:(m.length:Int) > 0
 ·exact ev_pos hm (j _ ⟨fun _=>by omega,fun _=>rfl⟩)
 refine ev_neg hm ?_
 by_cases c1:a = 1
 ·exact ev_pos c1 (j _ (hf (by omega)))
 ·exact ev_neg c1 (j _ (hbn (by omega)))
theorem spec_Vars_loop (a b:Int) (s:ByteArray) (l:List S31) (m:List (P53 S31)) (hl:(l.length:Int)≤4194304) (h:∀ y ∈ l,Ev (fun k=>spec_VarsOf.f k y.f0 y.f1 y.f2 y.f3 y.f4) (varsM y)) (d:Nat) :
  ∀ (i:Nat) (acc:List ByteArray),i + d = l.length → acc.length + (d + budXL (l.drop i))≤5000000 → Ev (fun k=>spec_VarsOf.l0 k acc i a b s l m) (acc ++ varsML (l.drop i)):=by
 induction d with
 | zero =>
  intro i acc hi hb
  refine Ev.step (f:=fun _=>some acc) (fun k=>?_) (ev_cast ?_ (Ev.now _))
  ·simp only [spec_VarsOf.l0];rw [if_neg (by omega)]
  ·rw [List.drop_eq_nil_of_le (by omega),varsML,List.append_nil]
 | succ d ih =>
  intro i acc hi hb
  have hlt:i < l.length:=by omega
  have hc:=budXL_drop l i hlt
  have hv:=vars_len l[i]
  refine Ev.step (f:=fun k=>(spec_VarsOf.f k l[i].f0 l[i].f1 l[i].f2 l[i].f3 l[i].f4).bind fun t200=>(if acc.length + t200.length < 8796093022208 then (spec_VarsOf.l0 k (acc ++ t200) (wrap64 ((i:Int) + 1)) a b s l m) else (none))) (fun k=>?_) (Ev.bind (h l[i] (List.getElem_mem hlt)) (ev_pos (by omega) ?_))
  ·simp only [spec_VarsOf.l0]
   rw [if_pos (by omega),if_pos (by omega),rdE l i hlt]
  ·rw [w64 _ (by omega) (by omega),varsL_drop l i hlt,← List.append_assoc]
   exact ih (i + 1) _ (by omega) (by rw [List.length_append];omega)
theorem spec_Vars_all:∀ x,(budX x:Int)≤4194304 → Ev (fun k=>spec_VarsOf.f k x.f0 x.f1 x.f2 x.f3 x.f4) (varsM x):=by
 refine indE ?_
 intro a b s l m ih _ hb
 rw [budX] at hb
 rw [varsM]
 refine Ev.step (f:=fun k=>(some (([]:List ByteArray):List ByteArray)).bind fun y193=>(if a = 3 then (if s.toList = ([95]:List UInt8) then (some y193) else (if y193.length < 8796093022208 then (some (y193 ++ [s])) else (none))) else (spec_VarsOf.l0 k y193 0 a b s l m))) (fun k=>?_) (Ev.bind (Ev.now _) ?_)
 ·simp only [spec_VarsOf.f]
 by_cases h3:a = 3
 ·rw [if_pos h3]
  refine ev_pos h3 ?_
  by_cases h95:s.toList = ([95]:List UInt8)
  ·exact ev_cast (if_pos h95).symm (ev_pos h95 (Ev.now _))
  ·exact ev_cast (if_neg h95).symm (ev_neg h95 (ev_pos (by simp) (Ev.now _)))
 ·rw [if_neg h3]
  refine ev_neg h3 ?_
  have e:=spec_Vars_loop a b s l m (by omega) (fun y hy=>ih y hy (by have:=budXL_mem l y hy;omega)) l.length 0 [] (by omega) (by rw [List.drop_zero];simp;omega)
  rw [List.drop_zero,List.nil_append] at e
  exact e
theorem spec_l4Has_l (l:List ByteArray) (hl:(l.length:Int)≤8388608) (s:ByteArray) (d:Nat):∀ (i:Nat),i + d = l.length → Ev (fun k=>spec_l4Has.l0 k l s i) (hasM (l.drop i) s):=by
 induction d with
 | zero =>
  intro i hi
  refine Ev.step (f:=fun _=>some false) (fun k=>?_) (ev_cast ?_ (Ev.now _))
  ·simp only [spec_l4Has.l0];rw [if_neg (by omega)]
  ·rw [List.drop_eq_nil_of_le (by omega)];rfl
 | succ d ih =>
  intro i hi
  have hlt:i < l.length:=by omega
  refine Ev.step (f:=fun k=>(if l[i].toList = s.toList then (some true) else (spec_l4Has.l0 k l s (wrap64 ((i:Int) + 1))))) (fun k=>?_) ?_
  ·simp only [spec_l4Has.l0];rw [if_pos (by omega),if_pos (by omega),rdS l i hlt]
  ·rw [w64 _ (by omega) (by omega)]
   have hd:l.drop i = l[i] :: l.drop (i + 1):=List.drop_eq_getElem_cons hlt
   by_cases h:l[i].toList = s.toList
   ·refine ev_pos h (ev_cast ?_ (Ev.now _))
    unfold hasM
    refine (decide_eq_true ?_).symm
    rw [hd,List.map_cons,h]
    exact List.mem_cons_self
   ·refine ev_neg h (ev_cast ?_ (ih (i + 1) (by omega)))
    unfold hasM
    rw [hd,List.map_cons]
    refine dcast ?_
    rw [List.mem_cons]
    exact ⟨fun h3=>.inr h3,fun h3=>h3.elim (fun e=>absurd e.symm h) id⟩
theorem spec_l4Has_ev (l:List ByteArray) (hl:(l.length:Int)≤8388608) (s:ByteArray):Ev (fun k=>spec_l4Has.f k l s) (hasM l s):=by
 unfold spec_l4Has.f
 exact spec_l4Has_l l hl s l.length 0 (by omega)
theorem spec_l4Once_l (l:List ByteArray) (hl:(l.length:Int)≤8388608) (d:Nat):∀ (i:Nat),i + d = l.length → ND (l.take i) → Ev (fun k=>spec_l4Once.l0 k l i) (decide (ND l)):=by
 induction d with
 | zero =>
  intro i hi hn
  refine Ev.step (f:=fun _=>some true) (fun k=>?_) (ev_cast ?_ (Ev.now _))
  ·simp only [spec_l4Once.l0];rw [if_neg (by omega)]
  ·rw [List.take_of_length_le (by omega)] at hn
   exact (decide_eq_true hn).symm
 | succ d ih =>
  intro i hi hn
  have hlt:i < l.length:=by omega
  have e:=spec_l4Has_ev (l.take i) (by rw [List.length_take];omega) l[i]
  refine Ev.step (f:=fun k=>(spec_l4Has.f k (l.take i) l[i]).bind fun t117=>(if t117 = true then (some false) else (spec_l4Once.l0 k l (wrap64 ((i:Int) + 1))))) (fun k=>?_) (Ev.bind e ?_)
  ·simp only [spec_l4Once.l0];rw [if_pos (by omega),if_pos (by omega),if_pos (by omega),rdS l i hlt];rfl
  ·rw [w64 _ (by omega) (by omega)]
   have ht:=ND_app (l.take i) l[i]
   have htk:l.take i ++ [l[i]] = l.take (i + 1):=(List.take_succ_eq_append_getElem hlt).symm
   rw [htk] at ht
   by_cases hm:l[i].toList ∈ (l.take i).map ByteArray.toList
   ·refine ev_pos (decide_eq_true hm) (ev_cast ?_ (Ev.now _))
    refine (decide_eq_false (fun h=>?_)).symm
    have h2:ND (l.take (i + 1)):=by
     have e2:ND (l.take (i + 1) ++ l.drop (i + 1)):=by rw [List.take_append_drop];exact h
     exact ND_left e2
    exact (ht.1 h2).2 hm
   ·refine ev_neg (by unfold hasM;rw [decide_eq_false hm];decide) (ih (i + 1) (by omega) (ht.2 ⟨hn,hm⟩))
theorem spec_l4Once_ev (l:List ByteArray) (hl:(l.length:Int)≤8388608):Ev (fun k=>spec_l4Once.f k l) (decide (ND l)):=by
 unfold spec_l4Once.f
 exact spec_l4Once_l l hl l.length 0 (by omega) (by rw [List.take_zero];exact ND_nil)
theorem sLook_l1 (d:Nat) (hd:d≤9) (a b:Int) (s:ByteArray) (l:List S31) (m:List (P53 S31)) (hm:(m.length:Int) + budXC m≤4194304)
  (h:∀ c ∈ m,∀ (pat:Bool) (left:Int),left≤300 → Ev (fun k=>spec_l4Look.f k c.f0.f0 c.f0.f1 c.f0.f2 c.f0.f3 c.f0.f4 pat (d:Int) left) (lookX c.f0 pat d left)∧Ev (fun k=>spec_l4Look.f k c.f1.f0 c.f1.f1 c.f1.f2 c.f1.f3 c.f1.f4 pat (d:Int) left) (lookX c.f1 pat d left)) (n:Nat) :
  ∀ (i:Nat) (left:Int),i + n = m.length → left≤300 → Ev (fun k=>spec_l4Look.l1 k ((d + 1:Nat):Int) left i a b s l m) (lookC (m.drop i) d left):=by
 have stop:∀ (i:Nat) (left:Int),Ev (fun k=>spec_l4Look.j4 k ((d + 1:Nat):Int) left i false a b s l m) left:=fun i left=>Ev.step (f:=fun _=>some left) (fun k=>by simp only [spec_l4Look.j4];rw [if_neg (by decide)]) (Ev.now _)
 induction n with
 | zero =>
  intro i left hi hleft
  refine Ev.step (f:=fun k=>spec_l4Look.j4 k ((d + 1:Nat):Int) left i false a b s l m) (fun k=>?_) (ev_cast ?_ (stop i left))
  ·simp only [spec_l4Look.l1];rw [if_neg (by omega)]
  ·rw [List.drop_eq_nil_of_le (by omega),lookC]
 | succ n ih =>
  intro i left hi hleft
  have hlt:i < m.length:=by omega
  have hdr:m.drop i = m[i] :: m.drop (i + 1):=List.drop_eq_getElem_cons hlt
  have hmem:=List.getElem_mem hlt
  have hbud:=budXC_mem m m[i] hmem
  refine Ev.step (f:=fun k=>spec_l4Look.j4 k ((d + 1:Nat):Int) left i (decide (left ≥ 0)) a b s l m) (fun k=>?_) ?_
  ·simp only [spec_l4Look.l1];rw [if_pos (by omega)]
  by_cases h0:left ≥ 0
  ·rw [decide_eq_true h0,hdr,lookC,if_pos h0]
   have hc:=rdC m i hlt
   generalize hy:m[i] = c at *
   obtain ⟨p,q⟩:=c
   have ev:=spec_Vars_all p (by have:budX p + budX q≤budXC m:=hbud;omega)
   have hvl:=vars_len p
   have eo:=spec_l4Once_ev (varsM p) (by have:budX p + budX q≤budXC m:=hbud;omega)
   have hp:=h ⟨p,q⟩ hmem
   refine Ev.step (f:=fun k=>((spec_VarsOf.f k p.f0 p.f1 p.f2 p.f3 p.f4).bind fun t157=>((spec_l4Once.f k t157).bind fun t160=>(if t160 = true then ((spec_l4Look.f k p.f0 p.f1 p.f2 p.f3 p.f4 true (d:Int) left).bind fun t162=>(if t162 ≥ 0 then ((spec_l4Look.f k q.f0 q.f1 q.f2 q.f3 q.f4 false (d:Int) t162).bind fun t164=>(spec_l4Look.l1 k ((d + 1:Nat):Int) t164 ((i + 1:Nat):Int) a b s l m)) else (spec_l4Look.l1 k ((d + 1:Nat):Int) t162 ((i + 1:Nat):Int) a b s l m))) else (some (-1)))))) (fun k=>?_) (Ev.bind ev (Ev.bind eo ?_))
   ·simp only [spec_l4Look.j4]
    have e1:(((d + 1:Nat):Int)) - 1 = (d:Int):=by omega
    have e2:(i:Int) + 1 = ((i + 1:Nat):Int):=by omega
    rw [if_pos trivial,if_pos (by omega),if_pos (by omega),hc,w64 (((d + 1:Nat):Int) - 1) (by omega) (by omega),w64 ((i:Int) + 1) (by omega) (by omega),e1,e2]
   ·rw [lookc]
    by_cases hn:ND (varsM p)
    ·rw [if_pos hn]
     refine ev_pos (decide_eq_true hn) (Ev.bind (hp true left hleft).1 ?_)
     have hle:=lookX_le p true d left hleft
     by_cases h1:lookX p true d left ≥ 0
     ·rw [if_pos h1]
      exact ev_pos h1 (Ev.bind (hp false _ hle).2 (ih (i + 1) _ (by omega) (lookX_le q false d _ hle)))
     ·rw [if_neg h1]
      exact ev_neg h1 (ih (i + 1) _ (by omega) hle)
    ·rw [if_neg hn,lookC_neg _ _ _ (by omega)]
     exact ev_neg (by rw [decide_eq_false hn];decide) (Ev.now _)
  ·rw [decide_eq_false h0,lookC_neg _ _ _ (by omega)]
   exact stop i left
theorem sLook_l0 (pat:Bool) (d:Nat) (hd:d≤9) (a b:Int) (s:ByteArray) (l:List S31) (m:List (P53 S31)) (hl:(l.length:Int)≤4194304)
  (h:∀ x ∈ l,∀ (left:Int),left≤300 → Ev (fun k=>spec_l4Look.f k x.f0 x.f1 x.f2 x.f3 x.f4 pat (d:Int) left) (lookX x pat d left))
  (hC:∀ left:Int,left≤300 → Ev (fun k=>spec_l4Look.l1 k ((d + 1:Nat):Int) left 0 a b s l m) (lookC m d left)) (n:Nat) :
  ∀ (i:Nat) (left:Int),i + n = l.length → left≤300 → Ev (fun k=>spec_l4Look.l0 k pat ((d + 1:Nat):Int) left i a b s l m) (lookC m d (lookL (l.drop i) pat d left)):=by
 have hJ:∀ left:Int,left≤300 → Ev (fun k=>spec_l4Look.j2 k ((d + 1:Nat):Int) left a b s l m) (lookC m d left):=fun left hh=>Ev.step (f:=fun k=>spec_l4Look.l1 k ((d + 1:Nat):Int) left 0 a b s l m) (fun k=>by simp only [spec_l4Look.j2]) (hC left hh)
 induction n with
 | zero =>
  intro i left hi hleft
  rw [List.drop_eq_nil_of_le (by omega),lookL]
  refine Ev.step (fun k=>?_) (hJ left hleft)
  simp only [spec_l4Look.l0];rw [if_neg (by omega)]
 | succ n ih =>
  intro i left hi hleft
  have hlt:i < l.length:=by omega
  have hdr:l.drop i = l[i] :: l.drop (i + 1):=List.drop_eq_getElem_cons hlt
  by_cases h0:left ≥ 0
  ·rw [hdr,lookL,if_pos h0]
   refine Ev.step (f:=fun k=>((spec_l4Look.f k l[i].f0 l[i].f1 l[i].f2 l[i].f3 l[i].f4 pat (d:Int) left).bind fun t155=>(spec_l4Look.l0 k pat ((d + 1:Nat):Int) t155 ((i + 1:Nat):Int) a b s l m))) (fun k=>?_) (Ev.bind (h l[i] (List.getElem_mem hlt) left hleft) (ih (i + 1) _ (by omega) (lookX_le _ pat d left hleft)))
   simp only [spec_l4Look.l0]
   have e1:(((d + 1:Nat):Int)) - 1 = (d:Int):=by omega
   have e2:(i:Int) + 1 = ((i + 1:Nat):Int):=by omega
   rw [if_pos (by omega),if_pos h0,if_pos (by omega),rdE l i hlt,w64 (((d + 1:Nat):Int) - 1) (by omega) (by omega),w64 ((i:Int) + 1) (by omega) (by omega),e1,e2]
  ·rw [lookL_neg _ _ _ _ (by omega)]
   refine Ev.step (fun k=>?_) (hJ left hleft)
   simp only [spec_l4Look.l0];rw [if_pos (by omega),if_neg h0]
theorem sLook_all:∀ x,(budX x:Int)≤2097152 → ∀ (pat:Bool) (d:Nat),d≤10 → ∀ left:Int,left≤300 → Ev (fun k=>spec_l4Look.f k x.f0 x.f1 x.f2 x.f3 x.f4 pat (d:Int) left) (lookX x pat d left):=by
 refine indE (fun a b s l m ihE ihC hb pat d hd left hleft=>?_)
 rw [budX] at hb
 have bad:∀ d':Int,Ev (fun k=>spec_l4Look.j0 k pat d' left true a b s l m) (-1):=fun d'=>Ev.step (f:=fun _=>some (-1)) (fun k=>by simp only [spec_l4Look.j0];rw [if_pos trivial]) (Ev.now _)
 show Ev (fun k=>spec_l4Look.f k a b s l m pat (d:Int) left) _
 cases d with
 | zero =>
  rw [lookX]
  exact Ev.step (fun k=>by simp only [spec_l4Look.f];rw [if_pos (by omega)]) (bad _)
 | succ d =>
  rw [lookX]
  by_cases hl1:left < 1
  ·rw [if_pos (.inl hl1)]
   exact Ev.step (fun k=>by simp only [spec_l4Look.f];rw [if_neg (by omega),if_pos hl1]) (bad _)
  have es:=spec_l4Shape_ev pat a b s l m (by omega)
  refine Ev.step (f:=fun k=>(spec_l4Shape.f k a b s l m pat).bind fun t153=>(spec_l4Look.j0 k pat ((d + 1:Nat):Int) left (!t153) a b s l m)) (fun k=>by simp only [spec_l4Look.f];rw [if_neg (by omega),if_neg hl1]) (Ev.bind es ?_)
  cases hs:shapeX a b s l.length m.length pat with
  | false =>
   rw [if_pos (.inr rfl)]
   exact bad _
  | true =>
   rw [if_neg (by simp;omega)]
   refine Ev.step (f:=fun k=>spec_l4Look.l0 k pat ((d + 1:Nat):Int) (left - 1) 0 a b s l m) (fun k=>by simp only [spec_l4Look.j0];rw [if_neg (by decide),w64 _ (by omega) (by omega)]) ?_
   have hC:∀ lf:Int,lf≤300 → Ev (fun k=>spec_l4Look.l1 k ((d + 1:Nat):Int) lf 0 a b s l m) (lookC m d lf):=fun lf hlf=>by
    have:=sLook_l1 d (by omega) a b s l m (by omega) (fun c hc pat2 l2 hl2=>⟨(ihC c hc).1 (by have:=budXC_mem m c hc;omega) pat2 d (by omega) l2 hl2,(ihC c hc).2 (by have:=budXC_mem m c hc;omega) pat2 d (by omega) l2 hl2⟩) m.length 0 lf (by omega) hlf
    rw [List.drop_zero] at this
    exact this
   have:=sLook_l0 pat d (by omega) a b s l m (by omega) (fun x hx lf hlf=>ihE x hx (by have:=budXL_mem l x hx;omega) pat d (by omega) lf hlf) hC l.length 0 (left - 1) (by omega) (by omega)
   rw [List.drop_zero] at this
   exact this
def exprM (x:S31):Bool:=decide (lookX x false 10 300 ≥ 0)
theorem spec_ExprOk_ev (x:S31) (hb:(budX x:Int)≤2097152):Ev (fun k=>spec_ExprOk.f k x.f0 x.f1 x.f2 x.f3 x.f4) (exprM x):=by
 unfold spec_ExprOk.f exprM
 exact Ev.bind (sLook_all x hb false 10 (by omega) 300 (by omega)) (Ev.now _)
theorem impl_inRange_eq (a b c:Int):impl_inRange.f a b c = some (decide (b≤a) && decide (a≤c)):=by
 unfold impl_inRange.f
 by_cases h:b≤a <;> simp [h]
theorem impl_isSmall_eq (c:Int):impl_isSmall.f c = some (lowB c):=by
 unfold impl_isSmall.f lowB
 by_cases h:97≤c <;> simp [h]
theorem impl_isFigure_eq (c:Int):impl_isFigure.f c = some (digB c):=by
 unfold impl_isFigure.f digB
 by_cases h:48≤c <;> simp [h]
theorem impl_AtomOk_l (s:ByteArray) (hs:s.size≤140737488351232) (d:Nat):∀ i:Nat,i + d = s.size → Ev (fun k=>impl_AtomOk.l0 k s i) (atomFrom s i && (decide (1≤(s.size:Int)) && decide ((s.size:Int)≤20))):=by
 induction d with
 | zero =>
  intro i hi
  refine Ev.step (f:=fun _=>some (decide (1≤(s.size:Int)) && decide ((s.size:Int)≤20))) (fun k=>?_) (ev_cast ?_ (Ev.now _))
  ·simp only [impl_AtomOk.l0]
   rw [if_neg (by omega),impl_inRange_eq];rfl
  ·rw [atomFrom_end s i (by omega)];rfl
 | succ d ih =>
  intro i hi
  have hlt:i < s.size:=by omega
  have hn:=ih (i + 1) (by omega)
  rw [atomFrom_step s i hlt]
  by_cases h1:lowB (bt s i) = true
  ·refine Ev.step (fun k=>?_) (ev_cast ?_ hn)
   ·simp only [impl_AtomOk.l0]
    rw [if_pos (by omega),if_pos (by omega),impl_isSmall_eq]
    simp only [Option.bind_some]
    rw [if_pos h1,w64 _ (by omega) (by omega)]
    rfl
   ·rw [h1];rfl
  ·have h1':lowB (bt s i) = false:=by simpa using h1
   by_cases h0:i = 0
   ·refine Ev.step (f:=fun _=>some false) (fun k=>?_) (ev_cast ?_ (Ev.now _))
    ·simp only [impl_AtomOk.l0]
     rw [if_pos (by omega),if_pos (by omega),impl_isSmall_eq]
     simp only [Option.bind_some]
     rw [if_neg h1,if_pos (by omega)]
    ·rw [h1'];simp [h0]
   ·by_cases h2:digB (bt s i) = true
    ·refine Ev.step (fun k=>?_) (ev_cast ?_ hn)
     ·simp only [impl_AtomOk.l0]
      rw [if_pos (by omega),if_pos (by omega),impl_isSmall_eq]
      simp only [Option.bind_some]
      rw [if_neg h1,if_neg (by omega),impl_isFigure_eq]
      simp only [Option.bind_some]
      rw [if_pos h2,w64 _ (by omega) (by omega)]
      rfl
     ·rw [h2];simp [h0]
    ·have h2':digB (bt s i) = false:=by simpa using h2
     by_cases h3:bt s i = 95
     ·refine Ev.step (fun k=>?_) (ev_cast ?_ hn)
      ·simp only [impl_AtomOk.l0]
       rw [if_pos (by omega),if_pos (by omega),impl_isSmall_eq]
       simp only [Option.bind_some]
       rw [if_neg h1,if_neg (by omega),impl_isFigure_eq]
       simp only [Option.bind_some]
       rw [if_neg h2,if_pos h3,w64 _ (by omega) (by omega)]
       rfl
      ·simp [h0,h3]
     ·refine Ev.step (f:=fun _=>some false) (fun k=>?_) (ev_cast ?_ (Ev.now _))
      ·simp only [impl_AtomOk.l0]
       rw [if_pos (by omega),if_pos (by omega),impl_isSmall_eq]
       simp only [Option.bind_some]
       rw [if_neg h1,if_neg (by omega),impl_isFigure_eq]
       simp only [Option.bind_some]
       rw [if_neg h2,if_neg h3]
      ·rw [h1',h2'];simp [h3]
theorem impl_AtomOk_ev (s:ByteArray) (hs:s.size≤140737488351232):Ev (fun k=>impl_AtomOk.f k s) (atomOkM s):=impl_AtomOk_l s hs s.size 0 (by omega)
theorem impl_xAtomOk_ev (s:ByteArray) (hs:s.size≤140737488351232):Ev (fun k=>impl_xAtomOk.f k s) (xatomM s):=by
 unfold impl_xAtomOk.f xatomM
 refine Ev.bind (impl_AtomOk_ev s hs) (ev_and (ev_of ?_))
 unfold resL
 generalize s.toList = l
 by_cases h1:l = [99,97,115,101]
 ·rw [if_pos h1];simp [h1]
 ·rw [if_neg h1]
  by_cases h2:l = [111,102]
  ·rw [if_pos h2];simp [h2]
  ·rw [if_neg h2]
   by_cases h3:l = [101,110,100] <;> simp [h1,h2,h3]
theorem impl_isOp_eq (s:ByteArray):impl_isOp.f s = some (opL s.toList):=by
 unfold impl_isOp.f opL
 generalize s.toList = l
 by_cases h1:l = [43]
 ·rw [if_pos h1];simp [h1]
 rw [if_neg h1]
 by_cases h2:l = [45]
 ·rw [if_pos h2];simp [h2]
 rw [if_neg h2]
 by_cases h3:l = [42]
 ·rw [if_pos h3];simp [h3]
 rw [if_neg h3]
 by_cases h4:l = [61,61]
 ·rw [if_pos h4];simp [h4]
 rw [if_neg h4]
 by_cases h5:l = [60] <;> simp [h1,h2,h3,h4,h5]
theorem impl_isLarge_eq (c:Int):impl_isLarge.f c = some (largeB c):=by
 unfold impl_isLarge.f largeB
 by_cases h:c ≥ 65
 ·rw [if_pos h]
  by_cases h2:c≤90
  ·rw [if_pos h2];simp [h2];omega
  ·rw [if_neg h2];simp [h2];rfl
 ·rw [if_neg h];simp;rw [decide_eq_false (by omega)];simp;rfl
theorem impl_isWord_eq (c:Int):impl_isWordByte.f c = some (lowB c || (largeB c || digB c)):=by
 unfold impl_isWordByte.f
 rw [impl_isSmall_eq,impl_isLarge_eq,impl_isFigure_eq]
 cases lowB c <;> cases largeB c <;> rfl
theorem impl_varOk_ev (s:ByteArray) (hs:s.size≤140737488351232):Ev (fun k=>impl_varOk.f k s) (varOkM s):=by
 rw [← varOk_same]
 unfold impl_varOk.f
 refine all_loopB (fun k i=>impl_varOk.l0 k s i) (varQ s) s.size (in20 s && largeB (bt s 0)) ?_ ?_ s.size 0 (by omega)
 ·intro i hi r hr hn
  have e1:=impl_isWord_eq (bt s i)
  have hw:wrap64 ((i:Int) + 1) = ((i + 1:Nat):Int):=by rw [w64 _ (by omega) (by omega)];rfl
  have hq:varQ s i = (lowB (bt s i) || (largeB (bt s i) || digB (bt s i))):=rfl
  rw [← hq] at e1
  cases g:varQ s i with
  | true =>
   refine Ev.step (fun k=>?_) (hr g)
   simp only [impl_varOk.l0]
   rw [if_pos (by omega),if_pos (by omega),e1,g,hw]
   rfl
  | false =>
   refine Ev.step (f:=fun _=>some false) (fun k=>?_) (ev_cast (hn g).symm (Ev.now _))
   simp only [impl_varOk.l0]
   rw [if_pos (by omega),if_pos (by omega),e1,g]
   rfl
 ·refine Ev.step (f:=fun _=>some (in20 s && largeB (bt s 0))) (fun k=>?_) (Ev.now _)
  simp only [impl_varOk.l0]
  rw [if_neg (by omega),impl_inRange_eq,impl_isLarge_eq]
  have hi:(decide (1≤(s.size:Int)) && decide ((s.size:Int)≤20)) = in20 s:=rfl
  rw [hi]
  simp only [Option.bind_some]
  cases h:in20 s with
  | true =>
   unfold in20 at h
   rw [Bool.and_eq_true,decide_eq_true_eq,decide_eq_true_eq] at h
   rw [if_pos rfl,if_pos (by omega)];rfl
  | false=>rw [if_neg (by decide)];rfl
theorem impl_shapeOk_j0 (a:Int) (s:ByteArray) (n:Nat) (hs:s.size≤140737488351232) (h3 : ¬ (a = 1∨a = 2∨a = 3)) (b:Int) (q:Bool) (hq:q = true ↔ a = 4∨a = 5) :
  Ev (fun k=>impl_shapeOk.j0 k b s (n:Int) a q) (shOk a b s n):=by
 unfold shOk noT
 rw [if_neg (by omega),if_neg (by omega),if_neg (by omega)]
 refine Ev.step (f:=fun k=>if q = true then (if b = 0 then (if s.toList = ([]:List UInt8) then (some (decide ((n:Int)≤20))) else (some false)) else (some false)) else (if a = 6 then (if b = 0 then (if s.toList = ([]:List UInt8) then ((impl_inRange.f (n:Int) 2 6).bind fun t251=>(some t251)) else (some false)) else (some false)) else (if a = 7 then (if b = 0 then ((impl_isOp.f s).bind fun t252=>(if t252 = true then (some ((n:Int) == 2)) else (some false))) else (some false)) else (if a = 8 then (if b = 0 then ((impl_xAtomOk.f k s).bind fun t253=>(if t253 = true then (some (decide ((n:Int)≤4))) else (some false))) else (some false)) else (if a = 9 then (if b = 0 then (if s.toList = ([]:List UInt8) then (some ((n:Int) == 1)) else (some false)) else (some false)) else (some false)))))) (fun k=>by simp only [impl_shapeOk.j0]) ?_
 by_cases c4:a = 4∨a = 5
 ·rw [if_pos c4]
  refine ev_pos (hq.2 c4) (ev_cast ?_ (ev_andP (ev_andP (Ev.now _))))
  rw [dcast (show (n:Int)≤20 ↔ n≤20 by omega)]
 rw [if_neg c4]
 refine ev_neg (fun h=>c4 (hq.1 h)) ?_
 by_cases c6:a = 6
 ·rw [if_pos c6]
  refine ev_pos c6 (ev_cast ?_ (ev_andP (ev_andP (Ev.bind (ev_of (impl_inRange_eq _ _ _)) (Ev.now _)))))
  rw [dcast (show (2:Int)≤n ↔ 2≤n by omega),dcast (show (n:Int)≤6 ↔ n≤6 by omega)]
 rw [if_neg c6]
 refine ev_neg c6 ?_
 by_cases c7:a = 7
 ·rw [if_pos c7]
  refine ev_pos c7 (ev_cast ?_ (ev_andP (Ev.bind (ev_of (impl_isOp_eq s)) (ev_and (Ev.now _)))))
  rw [len2B]
 rw [if_neg c7]
 refine ev_neg c7 ?_
 by_cases c8:a = 8
 ·rw [if_pos c8]
  refine ev_pos c8 (ev_cast ?_ (ev_andP (Ev.bind (impl_xAtomOk_ev s hs) (ev_and (Ev.now _)))))
  rw [dcast (show (n:Int)≤4 ↔ n≤4 by omega)]
 rw [if_neg c8]
 refine ev_neg c8 ?_
 by_cases c9:a = 9
 ·refine ev_pos c9 ?_
  rw [if_pos c9]
  refine ev_cast ?_ (ev_andP (ev_andP (Ev.now _)))
  rw [len1B]
 ·refine ev_neg c9 ?_
  rw [if_neg c9,Bool.and_false]
  exact Ev.now _
theorem impl_shapeOk_ev (a b:Int) (s:ByteArray) (n:Nat) (hs:s.size≤140737488351232):Ev (fun k=>impl_shapeOk.f k a b s (n:Int)) (shOk a b s n):=by
 unfold impl_shapeOk.f
 by_cases c1:a = 1
 ·unfold shOk noT
  rw [if_pos c1]
  refine ev_pos c1 (ev_cast ?_ (Ev.bind (ev_of (impl_inRange_eq _ _ _)) (ev_and (ev_andP (Ev.now _)))))
  rw [len0B]
 refine ev_neg c1 ?_
 by_cases c2:a = 2
 ·unfold shOk
  rw [if_neg c1,if_pos c2]
  refine ev_pos c2 (ev_cast ?_ (ev_andP (Ev.bind (impl_xAtomOk_ev s hs) (ev_and (Ev.now _)))))
  rw [len0B]
 refine ev_neg c2 ?_
 by_cases c3:a = 3
 ·unfold shOk
  rw [if_neg c1,if_neg c2,if_pos c3]
  refine ev_pos c3 (ev_cast ?_ (ev_andP (Ev.bind (impl_varOk_ev s hs) (ev_and (Ev.now _)))))
  rw [len0B]
 refine ev_neg c3 ?_
 by_cases c4:a = 4
 ·exact ev_pos c4 (impl_shapeOk_j0 a s n hs (by omega) b _ (by rw [beq_iff_eq];omega))
 ·exact ev_neg c4 (impl_shapeOk_j0 a s n hs (by omega) b _ (by rw [beq_iff_eq];omega))
theorem sIndex_l (l:List ByteArray) (hl:(l.length:Int)≤8388608) (s:ByteArray) (d:Nat):∀ (i:Nat),i + d = l.length → ∃ r,Ev (fun k=>slices_Index_string_string.l0 k l s (l.length:Int) i) r∧decide (r ≥ 0) = hasM (l.drop i) s:=by
 induction d with
 | zero =>
  intro i hi
  refine ⟨-1,Ev.step (f:=fun _=>some (-1)) (fun k=>?_) (Ev.now _),?_⟩
  ·simp only [slices_Index_string_string.l0];rw [if_neg (by omega)]
  ·rw [List.drop_eq_nil_of_le (by omega)];rfl
 | succ d ih =>
  intro i hi
  have hlt:i < l.length:=by omega
  have hd:l.drop i = l[i] :: l.drop (i + 1):=List.drop_eq_getElem_cons hlt
  have st:∀ r,Ev (fun k=>(if s.toList = l[i].toList then (some (i:Int)) else (slices_Index_string_string.l0 k l s (l.length:Int) ((i + 1:Nat):Int)))) r → Ev (fun k=>slices_Index_string_string.l0 k l s (l.length:Int) i) r:=fun r er=>Ev.step (fun k=>by
   simp only [slices_Index_string_string.l0]
   have e1:(i:Int) + 1 = ((i + 1:Nat):Int):=by omega
   rw [if_pos (by omega),if_pos (by omega),if_pos (by omega),rdS l i hlt,w64 ((i:Int) + 1) (by omega) (by omega),e1]) er
  by_cases h:s.toList = l[i].toList
  ·refine ⟨(i:Int),st _ (ev_pos h (Ev.now _)),?_⟩
   unfold hasM
   rw [hd,List.map_cons,h,decide_eq_true (show (i:Int) ≥ 0 by omega)]
   exact (decide_eq_true List.mem_cons_self).symm
  ·obtain ⟨r,e,hr⟩:=ih (i + 1) (by omega)
   refine ⟨r,st _ (ev_neg h e),?_⟩
   rw [hr]
   unfold hasM
   rw [hd,List.map_cons]
   refine dcast ?_
   rw [List.mem_cons]
   exact ⟨fun h3=>.inr h3,fun h3=>h3.elim (fun e=>absurd e h) id⟩
theorem sContains_ev (l:List ByteArray) (hl:(l.length:Int)≤8388608) (s:ByteArray):Ev (fun k=>slices_Contains_string_string.f k l s) (hasM l s):=by
 obtain ⟨r,e,hr⟩:=sIndex_l l hl s l.length 0 (by omega)
 unfold slices_Contains_string_string.f
 rw [List.drop_zero] at hr
 unfold slices_Index_string_string.f
 exact ev_cast hr (Ev.bind e (Ev.now _))
/-- What a run over a pattern has come to: of x, from count c and names ns. -/
def JP (x:S31) (d c:Nat) (ns:List ByteArray) (ok:Bool) (ns2:List ByteArray) (c2:Int):Prop :=
 (ok = true → c2≤300∧0≤c2∧lookX x true d (300 - c) = 300 - c2∧ns2 = ns ++ varsM x∧ND (ns ++ varsM x)∧(ns2.length:Int)≤c2)∧(ok = false → lookX x true d (300 - c) < 0∨¬ ND (ns ++ varsM x))
theorem jp_loop (dp:Int) (d:Nat) (hd:dp + d = 10) (h1:1≤dp) (l:List S31) (hl:(l.length:Int)≤4194304)
  (h:∀ x ∈ l,∀ (c:Nat) (ns:List ByteArray),c≤300 → ns.length≤c → ND ns → ∃ ok ns2 c2,Ev (fun k=>impl_judge_pat.f k (c:Int) ns x.f0 x.f1 x.f2 x.f3 x.f4 (dp + 1)) (ok,ns2,c2)∧JP x d c ns ok ns2 c2) (n:Nat) :
  ∀ (i c:Nat) (ns:List ByteArray),i + n = l.length → c≤300 → ns.length≤c → ND ns → ∃ ok ns2 c2,Ev (fun k=>impl_judge_pat.l0 k dp l (l.length:Int) i (c:Int) ns) (ok,ns2,c2) ∧
   (ok = true → c2≤300∧0≤c2∧lookL (l.drop i) true d (300 - c) = 300 - c2∧ns2 = ns ++ varsML (l.drop i)∧ND (ns ++ varsML (l.drop i))∧(ns2.length:Int)≤c2)∧(ok = false → lookL (l.drop i) true d (300 - c) < 0∨¬ ND (ns ++ varsML (l.drop i))):=by
 induction n with
 | zero =>
  intro i c ns hi hc hn hnd
  refine ⟨true,ns,c,Ev.step (f:=fun _=>some (true,ns,(c:Int))) (fun k=>by simp only [impl_judge_pat.l0];rw [if_neg (by omega)]) (Ev.now _),fun _=>?_,fun h=>(by cases h)⟩
  rw [List.drop_eq_nil_of_le (by omega),lookL,varsML,List.append_nil]
  exact ⟨by omega,by omega,rfl,rfl,hnd,by omega⟩
 | succ n ih =>
  intro i c ns hi hc hn hnd
  have hlt:i < l.length:=by omega
  have hdr:l.drop i = l[i] :: l.drop (i + 1):=List.drop_eq_getElem_cons hlt
  obtain ⟨ok,ns1,c1,e,hok,hno⟩:=h l[i] (List.getElem_mem hlt) c ns hc hn hnd
  have st:∀ r,Ev (fun k=>if ok = true then (impl_judge_pat.l0 k dp l (l.length:Int) ((i + 1:Nat):Int) c1 ns1) else (some (false,ns1,c1))) r → Ev (fun k=>impl_judge_pat.l0 k dp l (l.length:Int) i (c:Int) ns) r:=by
   intro r er
   refine Ev.step (f:=fun k=>(impl_judge_pat.f k (c:Int) ns l[i].f0 l[i].f1 l[i].f2 l[i].f3 l[i].f4 (dp + 1)).bind fun bt264=>(if bt264.1 = true then (impl_judge_pat.l0 k dp l (l.length:Int) ((i + 1:Nat):Int) bt264.2.2 bt264.2.1) else (some (false,bt264.2.1,bt264.2.2)))) (fun k=>?_) (Ev.bind e er)
   simp only [impl_judge_pat.l0]
   have e1:(i:Int) + 1 = ((i + 1:Nat):Int):=by omega
   rw [if_pos (by omega),if_pos (by omega),if_pos (by omega),rdE l i hlt,w64 (dp + 1) (by omega) (by omega),w64 ((i:Int) + 1) (by omega) (by omega),e1]
  rw [hdr,lookL,if_pos (by omega),varsML,← List.append_assoc]
  cases ok with
  | true =>
   obtain ⟨a1,a2,a3,a4,a5,a6⟩:=hok rfl
   obtain ⟨c1n,rfl⟩:∃ m:Nat,c1 = (m:Int):=⟨c1.toNat,by omega⟩
   subst a4
   obtain ⟨ok2,ns2,c2,e2,q1,q2⟩:=ih (i + 1) c1n (ns ++ varsM l[i]) (by omega) (by omega) (by omega) a5
   rw [a3]
   exact ⟨ok2,ns2,c2,st _ (ev_pos rfl e2),q1,q2⟩
  | false =>
   refine ⟨false,ns1,c1,st _ (ev_neg (by decide) (Ev.now _)),fun h=>(by cases h),fun _=>?_⟩
   rcases hno rfl with h2|h2
   ·exact .inl (by rw [lookL_neg _ _ _ _ h2];exact h2)
   ·exact .inr (fun h3=>h2 (ND_left h3))
theorem jp_all:∀ x,(budX x:Int)≤2097152 → ∀ (d:Nat) (dp:Int),dp + d = 11 → 1≤dp → ∀ (c:Nat) (ns:List ByteArray),c≤300 → ns.length≤c → ND ns →
  ∃ ok ns2 c2,Ev (fun k=>impl_judge_pat.f k (c:Int) ns x.f0 x.f1 x.f2 x.f3 x.f4 dp) (ok,ns2,c2)∧JP x d c ns ok ns2 c2:=by
 refine indE (fun a b s l m ihE _ hb d dp hd h1 c ns hc hn hnd=>?_)
 rw [budX] at hb
 show ∃ ok ns2 c2,Ev (fun k=>impl_judge_pat.f k (c:Int) ns a b s l m dp) (ok,ns2,c2)∧JP ⟨a,b,s,l,m⟩ d c ns ok ns2 c2
 have hc1:(c:Int) + 1 = ((c + 1:Nat):Int):=by omega
 have bad:Ev (fun k=>impl_judge_pat.j0 k dp true ((c + 1:Nat):Int) ns a b s l m) (false,ns,((c + 1:Nat):Int)):=Ev.step (f:=fun _=>some (false,ns,((c + 1:Nat):Int))) (fun k=>by simp only [impl_judge_pat.j0];rw [if_pos trivial]) (Ev.now _)
 have no:(lookX ⟨a,b,s,l,m⟩ true d (300 - c) < 0) → JP ⟨a,b,s,l,m⟩ d c ns false ns ((c + 1:Nat):Int):=fun h=>⟨fun h=>(by cases h),fun _=>.inl h⟩
 cases d with
 | zero =>
  refine ⟨false,ns,((c + 1:Nat):Int),Ev.step (fun k=>?_) bad,no (by rw [lookX];omega)⟩
  simp only [impl_judge_pat.f]
  rw [if_pos (by omega),w64 ((c:Int) + 1) (by omega) (by omega),hc1]
 | succ d =>
  have hlook:lookX ⟨a,b,s,l,m⟩ true (d + 1) (300 - c) = if (300 - c:Int) < 1∨shapeX a b s l.length m.length true = false then -1 else lookC m d (lookL l true d (300 - c - 1)):=by rw [lookX]
  have hd10 : ¬ dp > 10:=by omega
  by_cases hcc:((c + 1:Nat):Int) > 300
  ·refine ⟨false,ns,((c + 1:Nat):Int),Ev.step (fun k=>?_) bad,no (by rw [hlook,if_pos (.inl (by omega))];omega)⟩
   simp only [impl_judge_pat.f]
   rw [if_neg hd10,w64 ((c:Int) + 1) (by omega) (by omega),hc1,if_pos hcc]
  have hsx:shapeX a b s l.length m.length true = (decide (a≤6) && (decide (m.length = 0) && shOk a b s l.length)):=by unfold shapeX;rw [if_pos rfl]
  by_cases h6:a > 6
  ·have hbad:shapeX a b s l.length m.length true = false:=by rw [hsx,decide_eq_false (by omega)];rfl
   refine ⟨false,ns,((c + 1:Nat):Int),Ev.step (fun k=>?_) bad,no (by rw [hlook,if_pos (.inr hbad)];omega)⟩
   simp only [impl_judge_pat.f]
   rw [if_neg hd10,w64 ((c:Int) + 1) (by omega) (by omega),hc1,if_neg hcc,if_pos h6]
  by_cases hm:(m.length:Int) > 0
  ·have hbad:shapeX a b s l.length m.length true = false:=by rw [hsx,decide_eq_false (show ¬ m.length = 0 by omega),Bool.false_and,Bool.and_false]
   refine ⟨false,ns,((c + 1:Nat):Int),Ev.step (fun k=>?_) bad,no (by rw [hlook,if_pos (.inr hbad)];omega)⟩
   simp only [impl_judge_pat.f]
   rw [if_neg hd10,w64 ((c:Int) + 1) (by omega) (by omega),hc1,if_neg hcc,if_neg h6,if_pos hm]
  have hm0:m = []:=List.eq_nil_of_length_eq_zero (by omega)
  subst hm0
  rw [decide_eq_true (show a≤6 by omega),decide_eq_true (show ([]:List (P53 S31)).length = 0 from rfl),Bool.true_and,Bool.true_and] at hsx
  have es:=impl_shapeOk_ev a b s l.length (by omega)
  have top:∀ r,Ev (fun k=>impl_judge_pat.j0 k dp (!(shOk a b s l.length)) ((c + 1:Nat):Int) ns a b s l []) r → Ev (fun k=>impl_judge_pat.f k (c:Int) ns a b s l [] dp) r:=by
   intro r er
   refine Ev.step (f:=fun k=>(impl_shapeOk.f k a b s (l.length:Int)).bind fun t257=>(impl_judge_pat.j0 k dp (!t257) ((c + 1:Nat):Int) ns a b s l [])) (fun k=>?_) (Ev.bind es er)
   simp only [impl_judge_pat.f]
   rw [if_neg hd10,w64 ((c:Int) + 1) (by omega) (by omega),hc1,if_neg hcc,if_neg h6,if_neg hm]
  cases hs:shOk a b s l.length with
  | false =>
   rw [hs] at top hsx
   exact ⟨false,ns,((c + 1:Nat):Int),top _ bad,no (by rw [hlook,if_pos (.inr hsx)];omega)⟩
  | true =>
   rw [hs] at top hsx
   rw [hsx,if_neg (by simp;omega)] at hlook
   rw [lookC] at hlook
   have hcc2:(300:Int) - c - 1 = 300 - ((c + 1:Nat):Int):=by omega
   rw [hcc2] at hlook
   have run:∀ ns1:List ByteArray,ns1.length≤c + 1 → ND ns1 → ∃ ok ns2 c2,Ev (fun k=>impl_judge_pat.j2 k dp ((c + 1:Nat):Int) ns1 a b s l []) (ok,ns2,c2) ∧
     (ok = true → c2≤300∧0≤c2∧lookL l true d (300 - ((c + 1:Nat):Int)) = 300 - c2∧ns2 = ns1 ++ varsML l∧ND (ns1 ++ varsML l)∧(ns2.length:Int)≤c2)∧(ok = false → lookL l true d (300 - ((c + 1:Nat):Int)) < 0∨¬ ND (ns1 ++ varsML l)):=by
    intro ns1 hn1 hnd1
    obtain ⟨ok,ns2,c2,e,q1,q2⟩:=jp_loop dp d (by omega) h1 l (by omega) (fun x hx c ns hc hn hnd=>ihE x hx (by have:=budXL_mem l x hx;omega) d (dp + 1) (by omega) (by omega) c ns hc hn hnd) l.length 0 (c + 1) ns1 (by omega) (by omega) hn1 hnd1
    rw [List.drop_zero] at q1 q2
    exact ⟨ok,ns2,c2,Ev.step (f:=fun k=>impl_judge_pat.l0 k dp l (l.length:Int) 0 ((c + 1:Nat):Int) ns1) (fun k=>by simp only [impl_judge_pat.j2]) e,q1,q2⟩
   have j0:∀ (q:Bool) r,(q = true ↔ a = 3∧s.toList≠([95]:List UInt8)) → Ev (fun k=>impl_judge_pat.j1 k dp q ((c + 1:Nat):Int) ns a b s l []) r → Ev (fun k=>impl_judge_pat.f k (c:Int) ns a b s l [] dp) r:=by
    intro q r hq er
    refine top r ?_
    by_cases c3:a = 3
    ·have:q = (s.toList != ([95]:List UInt8)):=by
      by_cases h:s.toList = ([95]:List UInt8)
      ·have hq2:q = false:=by
        cases q with
        | false=>rfl
        | true=>exact absurd h (hq.1 rfl).2
       rw [hq2];simp [h]
      ·rw [hq.2 ⟨c3,h⟩];simp [h]
     subst this
     exact Ev.step (fun k=>by simp only [impl_judge_pat.j0];rw [if_neg (by decide),if_pos c3]) er
    ·have:q = false:=by
      cases q with
      | false=>rfl
      | true=>exact absurd (hq.1 rfl).1 c3
     subst this
     exact Ev.step (fun k=>by simp only [impl_judge_pat.j0];rw [if_neg (by decide),if_neg c3]) er
   by_cases c3:a = 3
   ·have hl0:l = []:=by
     have h2:=hs
     unfold shOk at h2
     rw [if_neg (by omega),if_neg (by omega),if_pos c3] at h2
     simp only [Bool.and_eq_true,decide_eq_true_eq] at h2
     exact List.eq_nil_of_length_eq_zero h2.2.2
    subst hl0
    rw [lookL] at hlook
    have hv:varsM ⟨a,b,s,[],[]⟩ = if s.toList = ([95]:List UInt8) then [] else [s]:=by rw [varsM,if_pos c3]
    by_cases h95:s.toList = ([95]:List UInt8)
    ·rw [if_pos h95] at hv
     obtain ⟨ok,ns2,c2,e,q1,q2⟩:=run ns (by omega) hnd
     rw [lookL,varsML,List.append_nil] at q1 q2
     refine ⟨ok,ns2,c2,j0 false _ ⟨fun h=>(by cases h),fun h=>absurd h95 h.2⟩ (Ev.step (fun k=>by simp only [impl_judge_pat.j1];rw [if_neg (by decide)]) e),?_⟩
     unfold JP
     rw [hlook,hv,List.append_nil]
     exact ⟨q1,q2⟩
    ·rw [if_neg h95] at hv
     have ec:=sContains_ev ns (by omega) s
     have na:=ND_app ns s
     have st:∀ r,Ev (fun k=>if hasM ns s = true then (some (false,ns,((c + 1:Nat):Int))) else (if ns.length < 8796093022208 then (impl_judge_pat.j2 k dp ((c + 1:Nat):Int) (ns ++ [s]) a b s [] []) else (none))) r → Ev (fun k=>impl_judge_pat.f k (c:Int) ns a b s [] [] dp) r:=by
      intro r er
      refine j0 true r ⟨fun _=>⟨c3,h95⟩,fun _=>rfl⟩ (Ev.step (f:=fun k=>(slices_Contains_string_string.f k ns s).bind fun t258=>(if t258 = true then (some (false,ns,((c + 1:Nat):Int))) else (if ns.length < 8796093022208 then (impl_judge_pat.j2 k dp ((c + 1:Nat):Int) (ns ++ [s]) a b s [] []) else (none)))) (fun k=>by simp only [impl_judge_pat.j1];rw [if_pos trivial]) (Ev.bind ec er))
     by_cases hm:s.toList ∈ ns.map ByteArray.toList
     ·refine ⟨false,ns,((c + 1:Nat):Int),st _ (ev_pos (decide_eq_true hm) (Ev.now _)),fun h=>(by cases h),fun _=>.inr ?_⟩
      rw [hv]
      exact fun h=>(na.1 h).2 hm
     ·have hnd1:ND (ns ++ [s]):=na.2 ⟨hnd,hm⟩
      obtain ⟨ok,ns2,c2,e,q1,q2⟩:=run (ns ++ [s]) (by rw [List.length_append];simp;omega) hnd1
      rw [lookL,varsML,List.append_nil] at q1 q2
      refine ⟨ok,ns2,c2,st _ (ev_neg (by unfold hasM;rw [decide_eq_false hm];decide) (ev_pos (by omega) e)),?_⟩
      unfold JP
      rw [hlook,hv]
      exact ⟨q1,q2⟩
   ·have hv:varsM ⟨a,b,s,l,[]⟩ = varsML l:=by rw [varsM,if_neg c3]
    obtain ⟨ok,ns2,c2,e,q1,q2⟩:=run ns (by omega) hnd
    refine ⟨ok,ns2,c2,j0 false _ ⟨fun h=>(by cases h),fun h=>absurd h.1 c3⟩ (Ev.step (fun k=>by simp only [impl_judge_pat.j1];rw [if_neg (by decide)]) e),?_⟩
    unfold JP
    rw [hlook,hv]
    exact ⟨q1,q2⟩
/-- What a run over an expression has come to: of x, from count c. -/
def JE (x:S31) (d c:Nat) (ok:Bool) (c2:Int):Prop :=
 (ok = true → c2≤300∧0≤c2∧lookX x false d (300 - c) = 300 - c2)∧(ok = false → lookX x false d (300 - c) < 0)
theorem je_l1 (dp:Int) (d:Nat) (hd:dp + d = 10) (h1:1≤dp) (m:List (P53 S31)) (hm:(m.length:Int) + budXC m≤2097152)
  (h:∀ c ∈ m,∀ (n:Nat) (ns:List ByteArray),n≤300 → ∃ ok ns2 c2,Ev (fun k=>impl_judge_expr.f k (n:Int) ns c.f1.f0 c.f1.f1 c.f1.f2 c.f1.f3 c.f1.f4 (dp + 1)) (ok,ns2,c2)∧JE c.f1 d n ok c2) (e:Nat) :
  ∀ (i c:Nat) (ns:List ByteArray),i + e = m.length → c≤300 → ∃ ok ns2 c2,Ev (fun k=>impl_judge_expr.l1 k dp m (m.length:Int) i (c:Int) ns) (ok,ns2,c2) ∧
   (ok = true → c2≤300∧0≤c2∧lookC (m.drop i) d (300 - c) = 300 - c2)∧(ok = false → lookC (m.drop i) d (300 - c) < 0):=by
 induction e with
 | zero =>
  intro i c ns hi hc
  refine ⟨true,ns,c,Ev.step (f:=fun _=>some (true,ns,(c:Int))) (fun k=>by simp only [impl_judge_expr.l1];rw [if_neg (by omega)]) (Ev.now _),fun _=>?_,fun h=>(by cases h)⟩
  rw [List.drop_eq_nil_of_le (by omega),lookC]
  exact ⟨by omega,by omega,rfl⟩
 | succ e ih =>
  intro i c ns hi hc
  have hlt:i < m.length:=by omega
  have hdr:m.drop i = m[i] :: m.drop (i + 1):=List.drop_eq_getElem_cons hlt
  have hmem:=List.getElem_mem hlt
  have hbud:=budXC_mem m m[i] hmem
  have hr:=rdC m i hlt
  have hq:=h m[i] hmem
  rw [hdr,lookC,if_pos (by omega)]
  generalize hy:m[i] = cl at *
  obtain ⟨p,q⟩:=cl
  replace hbud:budX p + budX q≤budXC m:=hbud
  obtain ⟨ok,ns1,c1,ep,hok,hno⟩:=jp_all p (by omega) d (dp + 1) (by omega) (by omega) c [] hc (by simp) ND_nil
  rw [List.nil_append] at hok hno
  have st:∀ r,Ev (fun k=>if ok = true then ((impl_judge_expr.f k c1 ns1 q.f0 q.f1 q.f2 q.f3 q.f4 (dp + 1)).bind fun bt202=>(if bt202.1 = true then (impl_judge_expr.l1 k dp m (m.length:Int) ((i + 1:Nat):Int) bt202.2.2 bt202.2.1) else (some (false,bt202.2.1,bt202.2.2)))) else (some (false,ns1,c1))) r → Ev (fun k=>impl_judge_expr.l1 k dp m (m.length:Int) i (c:Int) ns) r:=by
   intro r er
   refine Ev.step (f:=fun k=>(impl_judge_pat.f k (c:Int) [] p.f0 p.f1 p.f2 p.f3 p.f4 (dp + 1)).bind fun bt197=>(if bt197.1 = true then ((impl_judge_expr.f k bt197.2.2 bt197.2.1 q.f0 q.f1 q.f2 q.f3 q.f4 (dp + 1)).bind fun bt202=>(if bt202.1 = true then (impl_judge_expr.l1 k dp m (m.length:Int) ((i + 1:Nat):Int) bt202.2.2 bt202.2.1) else (some (false,bt202.2.1,bt202.2.2)))) else (some (false,bt197.2.1,bt197.2.2)))) (fun k=>?_) (Ev.bind ep er)
   simp only [impl_judge_expr.l1]
   have e1:(i:Int) + 1 = ((i + 1:Nat):Int):=by omega
   rw [if_pos (by omega),if_pos (by omega),if_pos (by omega),hr,w64 (dp + 1) (by omega) (by omega),w64 ((i:Int) + 1) (by omega) (by omega),e1]
  rw [lookc]
  cases ok with
  | true =>
   obtain ⟨a1,a2,a3,a4,a5,a6⟩:=hok rfl
   obtain ⟨c1n,rfl⟩:∃ z:Nat,c1 = (z:Int):=⟨c1.toNat,by omega⟩
   rw [if_pos a5,a3,if_pos (by omega)]
   obtain ⟨ok2,ns2,c2,eq,q1,q2⟩:=hq c1n ns1 (by omega)
   cases ok2 with
   | true =>
    obtain ⟨b1,b2,b3⟩:=q1 rfl
    obtain ⟨c2n,rfl⟩:∃ z:Nat,c2 = (z:Int):=⟨c2.toNat,by omega⟩
    obtain ⟨ok3,ns3,c3,e3,r1,r2⟩:=ih (i + 1) c2n ns2 (by omega) (by omega)
    rw [show lookX q false d (300 - (c1n:Int)) = 300 - (c2n:Int) from b3]
    exact ⟨ok3,ns3,c3,st _ (ev_pos rfl (Ev.bind eq (ev_pos rfl e3))),r1,r2⟩
   | false =>
    have hn:lookX q false d (300 - (c1n:Int)) < 0:=q2 rfl
    refine ⟨false,ns2,c2,st _ (ev_pos rfl (Ev.bind eq (ev_neg (by simp) (Ev.now _)))),fun h=>(by cases h),fun _=>?_⟩
    rw [lookC_neg _ _ _ hn];exact hn
  | false =>
   refine ⟨false,ns1,c1,st _ (ev_neg (by decide) (Ev.now _)),fun h=>(by cases h),fun _=>?_⟩
   by_cases hnd:ND (varsM p)
   ·have hn:lookX p true d (300 - (c:Int)) < 0:=by
     rcases hno rfl with h2|h2
     ·exact h2
     ·exact absurd hnd h2
    rw [if_pos hnd,if_neg (by omega),lookC_neg _ _ _ hn];exact hn
   ·rw [if_neg hnd,lookC_neg _ _ _ (by omega)];omega
theorem je_l0 (dp:Int) (d:Nat) (hd:dp + d = 10) (h1:1≤dp) (a b:Int) (s:ByteArray) (l:List S31) (m:List (P53 S31)) (hl:(l.length:Int)≤4194304)
  (h:∀ x ∈ l,∀ (n:Nat) (ns:List ByteArray),n≤300 → ∃ ok ns2 c2,Ev (fun k=>impl_judge_expr.f k (n:Int) ns x.f0 x.f1 x.f2 x.f3 x.f4 (dp + 1)) (ok,ns2,c2)∧JE x d n ok c2)
  (hC:∀ (c:Nat) (ns:List ByteArray),c≤300 → ∃ ok ns2 c2,Ev (fun k=>impl_judge_expr.l1 k dp m (m.length:Int) 0 (c:Int) ns) (ok,ns2,c2)∧(ok = true → c2≤300∧0≤c2∧lookC m d (300 - c) = 300 - c2)∧(ok = false → lookC m d (300 - c) < 0)) (e:Nat) :
  ∀ (i c:Nat) (ns:List ByteArray),i + e = l.length → c≤300 → ∃ ok ns2 c2,Ev (fun k=>impl_judge_expr.l0 k dp l (l.length:Int) i (c:Int) ns a b s l m) (ok,ns2,c2) ∧
   (ok = true → c2≤300∧0≤c2∧lookC m d (lookL (l.drop i) false d (300 - c)) = 300 - c2)∧(ok = false → lookC m d (lookL (l.drop i) false d (300 - c)) < 0):=by
 induction e with
 | zero =>
  intro i c ns hi hc
  obtain ⟨ok,ns2,c2,e,q1,q2⟩:=hC c ns hc
  rw [List.drop_eq_nil_of_le (by omega),lookL]
  exact ⟨ok,ns2,c2,Ev.step (f:=fun k=>impl_judge_expr.l1 k dp m (m.length:Int) 0 (c:Int) ns) (fun k=>by simp only [impl_judge_expr.l0];rw [if_neg (by omega)]) e,q1,q2⟩
 | succ e ih =>
  intro i c ns hi hc
  have hlt:i < l.length:=by omega
  have hdr:l.drop i = l[i] :: l.drop (i + 1):=List.drop_eq_getElem_cons hlt
  obtain ⟨ok,ns1,c1,ee,hok,hno⟩:=h l[i] (List.getElem_mem hlt) c ns hc
  have st:∀ r,Ev (fun k=>if ok = true then (impl_judge_expr.l0 k dp l (l.length:Int) ((i + 1:Nat):Int) c1 ns1 a b s l m) else (some (false,ns1,c1))) r → Ev (fun k=>impl_judge_expr.l0 k dp l (l.length:Int) i (c:Int) ns a b s l m) r:=by
   intro r er
   refine Ev.step (f:=fun k=>(impl_judge_expr.f k (c:Int) ns l[i].f0 l[i].f1 l[i].f2 l[i].f3 l[i].f4 (dp + 1)).bind fun bt190=>(if bt190.1 = true then (impl_judge_expr.l0 k dp l (l.length:Int) ((i + 1:Nat):Int) bt190.2.2 bt190.2.1 a b s l m) else (some (false,bt190.2.1,bt190.2.2)))) (fun k=>?_) (Ev.bind ee er)
   simp only [impl_judge_expr.l0]
   have e1:(i:Int) + 1 = ((i + 1:Nat):Int):=by omega
   rw [if_pos (by omega),if_pos (by omega),if_pos (by omega),rdE l i hlt,w64 (dp + 1) (by omega) (by omega),w64 ((i:Int) + 1) (by omega) (by omega),e1]
  rw [hdr,lookL,if_pos (by omega)]
  cases ok with
  | true =>
   obtain ⟨a1,a2,a3⟩:=hok rfl
   obtain ⟨c1n,rfl⟩:∃ z:Nat,c1 = (z:Int):=⟨c1.toNat,by omega⟩
   obtain ⟨ok2,ns2,c2,e2,q1,q2⟩:=ih (i + 1) c1n ns1 (by omega) (by omega)
   rw [a3]
   exact ⟨ok2,ns2,c2,st _ (ev_pos rfl e2),q1,q2⟩
  | false =>
   have hn:=hno rfl
   refine ⟨false,ns1,c1,st _ (ev_neg (by decide) (Ev.now _)),fun h=>(by cases h),fun _=>?_⟩
   rw [lookL_neg _ _ _ _ hn,lookC_neg _ _ _ hn];exact hn
theorem je_all:∀ x,(budX x:Int)≤2097152 → ∀ (d:Nat) (dp:Int),dp + d = 11 → 1≤dp → ∀ (c:Nat) (ns:List ByteArray),c≤300 →
  ∃ ok ns2 c2,Ev (fun k=>impl_judge_expr.f k (c:Int) ns x.f0 x.f1 x.f2 x.f3 x.f4 dp) (ok,ns2,c2)∧JE x d c ok c2:=by
 refine indE (fun a b s l m ihE ihC hb d dp hd h1 c ns hc=>?_)
 rw [budX] at hb
 show ∃ ok ns2 c2,Ev (fun k=>impl_judge_expr.f k (c:Int) ns a b s l m dp) (ok,ns2,c2)∧JE ⟨a,b,s,l,m⟩ d c ok c2
 have hc1:(c:Int) + 1 = ((c + 1:Nat):Int):=by omega
 have bad:Ev (fun k=>impl_judge_expr.j0 k dp true ((c + 1:Nat):Int) ns a b s l m) (false,ns,((c + 1:Nat):Int)):=Ev.step (f:=fun _=>some (false,ns,((c + 1:Nat):Int))) (fun k=>by simp only [impl_judge_expr.j0];rw [if_pos trivial]) (Ev.now _)
 have no:(lookX ⟨a,b,s,l,m⟩ false d (300 - c) < 0) → JE ⟨a,b,s,l,m⟩ d c false ((c + 1:Nat):Int):=fun h=>⟨fun h=>(by cases h),fun _=>h⟩
 cases d with
 | zero =>
  refine ⟨false,ns,((c + 1:Nat):Int),Ev.step (fun k=>?_) bad,no (by rw [lookX];omega)⟩
  simp only [impl_judge_expr.f]
  rw [if_pos (by omega),w64 ((c:Int) + 1) (by omega) (by omega),hc1]
 | succ d =>
  have hlook:lookX ⟨a,b,s,l,m⟩ false (d + 1) (300 - c) = if (300 - c:Int) < 1∨shapeX a b s l.length m.length false = false then -1 else lookC m d (lookL l false d (300 - c - 1)):=by rw [lookX]
  by_cases hcc:((c + 1:Nat):Int) > 300
  ·refine ⟨false,ns,((c + 1:Nat):Int),Ev.step (fun k=>?_) bad,no (by rw [hlook,if_pos (.inl (by omega))];omega)⟩
   simp only [impl_judge_expr.f]
   rw [if_neg (by omega),w64 ((c:Int) + 1) (by omega) (by omega),hc1,if_pos hcc]
  have hcc2:(300:Int) - c - 1 = 300 - ((c + 1:Nat):Int):=by omega
  have hsx:shapeX a b s l.length m.length false = ((shOk a b s l.length && !(decide (a = 3) && decide (s.toList = ([95]:List UInt8)))) && (decide (a = 9 ↔ 0 < m.length) && decide (m.length≤6))):=by unfold shapeX;rw [if_neg (by decide)]
  have es:=impl_shapeOk_ev a b s l.length (by omega)
  have fail:shapeX a b s l.length m.length false = false → Ev (fun k=>impl_judge_expr.f k (c:Int) ns a b s l m dp) (false,ns,((c + 1:Nat):Int)) → ∃ ok ns2 c2,Ev (fun k=>impl_judge_expr.f k (c:Int) ns a b s l m dp) (ok,ns2,c2)∧JE ⟨a,b,s,l,m⟩ (d + 1) c ok c2:=fun hf e=>⟨false,ns,_,e,no (by rw [hlook,if_pos (.inr hf)];omega)⟩
  have top:∀ r,Ev (fun k=>if shOk a b s l.length = true then (if a = 3 then (impl_judge_expr.j0 k dp (s.toList == ([95]:List UInt8)) ((c + 1:Nat):Int) ns a b s l m) else (impl_judge_expr.j0 k dp false ((c + 1:Nat):Int) ns a b s l m)) else (impl_judge_expr.j0 k dp true ((c + 1:Nat):Int) ns a b s l m)) r → Ev (fun k=>impl_judge_expr.f k (c:Int) ns a b s l m dp) r:=by
   intro r er
   refine Ev.step (f:=fun k=>(impl_shapeOk.f k a b s (l.length:Int)).bind fun t187=>(if t187 = true then (if a = 3 then (impl_judge_expr.j0 k dp (s.toList == ([95]:List UInt8)) ((c + 1:Nat):Int) ns a b s l m) else (impl_judge_expr.j0 k dp false ((c + 1:Nat):Int) ns a b s l m)) else (impl_judge_expr.j0 k dp true ((c + 1:Nat):Int) ns a b s l m))) (fun k=>?_) (Ev.bind es er)
   simp only [impl_judge_expr.f]
   rw [if_neg (by omega),w64 ((c:Int) + 1) (by omega) (by omega),hc1,if_neg hcc]
  by_cases hs:shOk a b s l.length = true
  rotate_left
  ·exact fail (by rw [hsx,Bool.eq_false_iff.mpr hs];rfl) (top _ (ev_neg hs bad))
  by_cases h95:a = 3∧s.toList = ([95]:List UInt8)
  ·refine fail ?_ (top _ (ev_pos hs (ev_pos h95.1 ?_)))
   ·rw [hsx,decide_eq_true h95.1,decide_eq_true h95.2,Bool.and_true,Bool.not_true,Bool.and_false,Bool.false_and]
   ·have:(s.toList == ([95]:List UInt8)) = true:=by simp [h95.2]
    rw [this]
    exact bad
  have hn95:(decide (a = 3) && decide (s.toList = ([95]:List UInt8))) = false:=by rw [← dec_and];exact decide_eq_false h95
  rw [hs,hn95,Bool.not_false,Bool.and_true,Bool.true_and] at hsx
  have top2:∀ r,Ev (fun k=>impl_judge_expr.j0 k dp false ((c + 1:Nat):Int) ns a b s l m) r → Ev (fun k=>impl_judge_expr.f k (c:Int) ns a b s l m dp) r:=by
   intro r er
   refine top r (ev_pos hs ?_)
   by_cases c3:a = 3
   ·have:(s.toList == ([95]:List UInt8)) = false:=by
     rw [beq_eq_false_iff_ne];exact fun h=>h95 ⟨c3,h⟩
    rw [this]
    exact ev_pos c3 er
   ·exact ev_neg c3 er
  have stop:Ev (fun k=>impl_judge_expr.j1 k dp true ((c + 1:Nat):Int) ns a b s l m) (false,ns,((c + 1:Nat):Int)):=Ev.step (f:=fun _=>some (false,ns,((c + 1:Nat):Int))) (fun k=>by simp only [impl_judge_expr.j1];rw [if_pos trivial]) (Ev.now _)
  by_cases h9:a = 9 ↔ 0 < m.length
  rotate_left
  ·refine fail (by rw [hsx,decide_eq_false h9];rfl) (top2 _ (Ev.step (fun k=>?_) stop))
   simp only [impl_judge_expr.j0]
   rw [if_neg (by decide),if_pos ?_]
   rw [bne_iff_ne]
   intro hh
   apply h9
   rw [Bool.eq_iff_iff,beq_iff_eq,decide_eq_true_eq] at hh
   omega
  have hbe : ¬ ((a == 9) != (decide ((m.length:Int) > 0))) = true:=by
   rw [bne_iff_ne]
   refine fun hh=>hh ?_
   rw [Bool.eq_iff_iff,beq_iff_eq,decide_eq_true_eq]
   omega
  by_cases h6:m.length≤6
  rotate_left
  ·refine fail (by rw [hsx,decide_eq_false h6,Bool.and_false]) (top2 _ (Ev.step (fun k=>?_) stop))
   simp only [impl_judge_expr.j0]
   rw [if_neg (by decide),if_neg hbe,decide_eq_true (show (m.length:Int) > 6 by omega)]
  rw [decide_eq_true h9,decide_eq_true h6] at hsx
  rw [if_neg (by rw [hsx];simp;omega),hcc2] at hlook
  have hC:∀ (c:Nat) (ns:List ByteArray),c≤300 → ∃ ok ns2 c2,Ev (fun k=>impl_judge_expr.l1 k dp m (m.length:Int) 0 (c:Int) ns) (ok,ns2,c2)∧(ok = true → c2≤300∧0≤c2∧lookC m d (300 - c) = 300 - c2)∧(ok = false → lookC m d (300 - c) < 0):=by
   intro c ns hc
   have:=je_l1 dp d (by omega) h1 m (by omega) (fun cl hcl n ns hn=>(ihC cl hcl).2 (by have:=budXC_mem m cl hcl;omega) d (dp + 1) (by omega) (by omega) n ns hn) m.length 0 c ns (by omega) hc
   rw [List.drop_zero] at this
   exact this
  obtain ⟨ok,ns2,c2,e,q1,q2⟩:=je_l0 dp d (by omega) h1 a b s l m (by omega) (fun x hx n ns hn=>ihE x hx (by have:=budXL_mem l x hx;omega) d (dp + 1) (by omega) (by omega) n ns hn) hC l.length 0 (c + 1) ns (by omega) (by omega)
  rw [List.drop_zero] at q1 q2
  refine ⟨ok,ns2,c2,top2 _ (Ev.step (f:=fun k=>impl_judge_expr.j1 k dp false ((c + 1:Nat):Int) ns a b s l m) (fun k=>?_) (Ev.step (f:=fun k=>impl_judge_expr.l0 k dp l (l.length:Int) 0 ((c + 1:Nat):Int) ns a b s l m) (fun k=>by simp only [impl_judge_expr.j1];rw [if_neg (by decide)]) e)),?_⟩
  ·simp only [impl_judge_expr.j0]
   rw [if_neg (by decide),if_neg hbe,decide_eq_false (show ¬ (m.length:Int) > 6 by omega)]
  ·unfold JE
   rw [hlook]
   exact ⟨q1,q2⟩
theorem impl_ExprOk_ev (x:S31) (hb:(budX x:Int)≤2097152):Ev (fun k=>impl_ExprOk.f k x.f0 x.f1 x.f2 x.f3 x.f4) (exprM x):=by
 obtain ⟨ok,ns2,c2,e,q1,q2⟩:=je_all x hb 10 1 (by omega) (by omega) 0 [] (by omega)
 unfold impl_ExprOk.f
 refine Ev.bind e (ev_cast ?_ (Ev.now _))
 show ok = exprM x
 unfold exprM
 have e300:(300:Int) - ((0:Nat):Int) = 300:=by omega
 rw [e300] at q1 q2
 cases ok with
 | true =>
  obtain ⟨a1,a2,a3⟩:=q1 rfl
  exact (decide_eq_true (by omega)).symm
 | false =>
  have:=q2 rfl
  exact (decide_eq_false (by omega)).symm
theorem FnExactExprOk:laws_FnExactExprOk.Pure:=by
 intro a b s l m hw
 refine Ev.rounds (g:=fun k=>laws_FnExactExprOk.f k a b s l m) ?_
 unfold laws_FnExactExprOk.f
 refine Ev.bind (szE_all ⟨a,b,s,l,m⟩ hw 1048576 (by omega) (by omega)) ?_
 unfold szRes
 by_cases hb:(budE ⟨a,b,s,l,m⟩:Int)≤1048576
 ·rw [if_pos hb]
  refine ev_neg (by omega) ?_
  have hi:(budX (cvE ⟨a,b,s,l,m⟩):Int)≤1048576:=by rw [budX_cv];exact hb
  rw [cvE] at hi
  have ht:Ev (fun k=>laws_toExpr.f k a b s l m) (a,b,s,cvEL l,cvCL m):=toE_all ⟨a,b,s,l,m⟩ hb
  have es:Ev (fun k=>spec_ExprOk.f k a b s (cvEL l) (cvCL m)) _:=spec_ExprOk_ev ⟨a,b,s,cvEL l,cvCL m⟩ (by omega)
  have ei:Ev (fun k=>impl_ExprOk.f k a b s (cvEL l) (cvCL m)) _:=impl_ExprOk_ev ⟨a,b,s,cvEL l,cvCL m⟩ (by omega)
  refine Ev.step (fun k=>by simp only [laws_FnExactExprOk.j0];rfl) ?_
  refine Ev.bind ht (Ev.bind es (Ev.bind ht (Ev.bind ei (ev_neg (by simp) (Ev.bind ht (Ev.bind (eqE_all ⟨a,b,s,cvEL l,cvCL m⟩ (by omega)) (ev_pos rfl (Ev.now _))))))))
 ·rw [if_neg hb]
  exact ev_pos (by omega) (Ev.now _)

end Go.Proofs.Ytjgegnkphkfmoaa.Pure
