-- Written by a program of this workplace (print2.py) for this claim, over the print's words.
import Derived.Test.YtkpompobnmdneaaQFnSortedx0
import Derived.Test.YtkpompobnmdneaaQFnSortedx4
namespace Go.Proofs.Ytkpompobnmdneaa.QFnSorted
open Go.RowKit Go.Proofs.YtkpompobnmdneaaW.PrintWords Go.Proofs.YtkpompobnmdneaaW.PrintLast Go.Proofs.YtkpompobnmdneaaW.PrintMore
attribute [local go_sem] binOp_string_gtr max2_int min2_int max_two min_two max_three min_three max_four min_four   -- for this text's walks alone
set_option linter.unusedVariables false
set_option linter.unusedSimpArgs false

/-! ### slices_insertionSortCmpFunc_of_impl_compareTerms: function 25 -/
theorem goesT_ {P : Program} {ops : Array Oper} {Q : Exit → Act → World → Prop} {oi : Oper} {N : Option Tmp} {a : Act} {w : World} {K : Act → World → Prop} {f : FuncId} {fn : Func} {xs_ : Array Operand} {ts : Array TypeId} {t : Tmp} (hf : P.funcs[f]? = some fn) (hname : (fn.name == "runtime.NumGoroutine") = false) (hb : fn.body.isSome = true) (args : Array Value)
  (hw:Region.wanted oi (yielded ops a.tmps) = true) (hN:oi.dst = N) (hop:oi.op = .call { callee:=.value (.tmp t),args:=xs_,argTypes:=ts }) (ht:a.eval (.tmp t) = .func (.func f) #[] #[]) (hargs:xs_.map a.eval = args)
  (h:Calls P f args w fun e w'=>∃ v,e = .returned v∧K (a.put N v) w'):if Region.wanted oi (yielded ops a.tmps) = true then Oper.wp P oi a w K Q else K (a.put N undef) w:=by
 refine call_ f args hw hN ?_ h
 have he:=enters_ hf hname hb args w
 unfold execOp
 simp [hop,resolve,Deferred.ofValue,invoke,ht,hargs,he]
mutual
def slices_insertionSortCmpFunc_of_impl_compareTerms.l0:Nat → List (S30) → Int → Int → Int → Option ((List (S30)))
 | 0,_,_,_,_=>none
 | k + 1,x0,x1,x2,x8=>if x8 < x2 then (slices_insertionSortCmpFunc_of_impl_compareTerms.l1 k x0 x1 x2 x8 x8) else (some x0)
def slices_insertionSortCmpFunc_of_impl_compareTerms.l1:Nat → List (S30) → Int → Int → Int → Int → Option ((List (S30)))
 | 0,_,_,_,_,_=>none
 | k + 1,x0,x1,x2,x8,x9=>if x9 > x1 then (if 0≤x9 then (if x9 < (x0.length:Int) then (if 0≤(wrap64 (x9 - 1)) then (if (wrap64 (x9 - 1)) < (x0.length:Int) then ((impl_compareTerms.f k ((rd_T30 x0 x9).f0) ((rd_T30 x0 x9).f1) ((rd_T30 x0 x9).f2) ((rd_T30 x0 x9).f3) ((rd_T30 x0 (wrap64 (x9 - 1))).f0) ((rd_T30 x0 (wrap64 (x9 - 1))).f1) ((rd_T30 x0 (wrap64 (x9 - 1))).f2) ((rd_T30 x0 (wrap64 (x9 - 1))).f3)).bind fun t224=>(if t224 < 0 then (slices_insertionSortCmpFunc_of_impl_compareTerms.l1 k ((x0.set (x9:Int).toNat (⟨(rd_T30 x0 (wrap64 (x9 - 1))).f0,(rd_T30 x0 (wrap64 (x9 - 1))).f1,(rd_T30 x0 (wrap64 (x9 - 1))).f2,(rd_T30 x0 (wrap64 (x9 - 1))).f3⟩:S30)).set ((wrap64 (x9 - 1)):Int).toNat (⟨(rd_T30 x0 x9).f0,(rd_T30 x0 x9).f1,(rd_T30 x0 x9).f2,(rd_T30 x0 x9).f3⟩:S30)) x1 x2 x8 (wrap64 (x9 - 1))) else (slices_insertionSortCmpFunc_of_impl_compareTerms.l0 k x0 x1 x2 (wrap64 (x8 + 1))))) else (none)) else (none)) else (none)) else (none)) else (slices_insertionSortCmpFunc_of_impl_compareTerms.l0 k x0 x1 x2 (wrap64 (x8 + 1)))
end
def slices_insertionSortCmpFunc_of_impl_compareTerms.f (k:Nat) (l0:List (S30)) (a1:Int) (a2:Int)  : Option ((List (S30))):=slices_insertionSortCmpFunc_of_impl_compareTerms.l0 k l0 a1 a2 (wrap64 (a1 + 1))
theorem slices_insertionSortCmpFunc_of_impl_compareTerms.mono_l:∀ k,(∀ y0 y1 y2 y3,LeO (slices_insertionSortCmpFunc_of_impl_compareTerms.l0 k y0 y1 y2 y3) (slices_insertionSortCmpFunc_of_impl_compareTerms.l0 (k + 1) y0 y1 y2 y3))∧(∀ y0 y1 y2 y3 y4,LeO (slices_insertionSortCmpFunc_of_impl_compareTerms.l1 k y0 y1 y2 y3 y4) (slices_insertionSortCmpFunc_of_impl_compareTerms.l1 (k + 1) y0 y1 y2 y3 y4))
 | 0=>⟨fun _ _ _ _ r h=>by simp [slices_insertionSortCmpFunc_of_impl_compareTerms.l0] at h,fun _ _ _ _ _ r h=>by simp [slices_insertionSortCmpFunc_of_impl_compareTerms.l1] at h⟩
 | k + 1=>by
  obtain ⟨ih0,ih1⟩:=slices_insertionSortCmpFunc_of_impl_compareTerms.mono_l k
  refine ⟨?_,?_⟩
  ·intro y0 y1 y2 y3
   unfold slices_insertionSortCmpFunc_of_impl_compareTerms.l0
   with_reducible repeat' first|apply ih0|apply ih1|apply impl_compareTerms.mono|apply LeO.refl|apply LeO.none|apply LeO.ite|refine LeO.bind ?_ (fun _=>?_)
  ·intro y0 y1 y2 y3 y4
   unfold slices_insertionSortCmpFunc_of_impl_compareTerms.l1
   with_reducible repeat' first|apply ih0|apply ih1|apply impl_compareTerms.mono|apply LeO.refl|apply LeO.none|apply LeO.ite|refine LeO.bind ?_ (fun _=>?_)
theorem slices_insertionSortCmpFunc_of_impl_compareTerms.mono:∀ a0 a1 a2 k,LeO (slices_insertionSortCmpFunc_of_impl_compareTerms.f k a0 a1 a2) (slices_insertionSortCmpFunc_of_impl_compareTerms.f (k + 1) a0 a1 a2):=by
 intro a0 a1 a2 k;obtain ⟨ih0,ih1⟩:=slices_insertionSortCmpFunc_of_impl_compareTerms.mono_l k
 unfold slices_insertionSortCmpFunc_of_impl_compareTerms.f
 with_reducible repeat' first|apply ih0|apply ih1|apply impl_compareTerms.mono|apply LeO.refl|apply LeO.none|apply LeO.ite|refine LeO.bind ?_ (fun _=>?_)
def slices_insertionSortCmpFunc_of_impl_compareTerms.T4:Bool × List (List Nat × List Nat):=(true,[([],[]),([],[]),([0,1],[0,1]),([2],[2]),([3],[3]),([3],[3]),([3],[3]),([5,6,3],[3,5,6]),([7,3],[3,7]),([3],[3]),([3],[3]),([10,3],[3,10]),([9,11,3],[3,9,11]),([12,3],[3,12]),([4,8,13,3,3],[3,4,8,13]),([14,3],[3,14]),([3,15],[3,15])])
def slices_insertionSortCmpFunc_of_impl_compareTerms.B4:List Nat:=[0,0,3,7,15,15,15,111,239,15,15,1039,3599,7695,16383,32767,65535]
theorem slices_insertionSortCmpFunc_of_impl_compareTerms.tab4:rtab .any (opsOf Try.f25 4) = slices_insertionSortCmpFunc_of_impl_compareTerms.T4:=by kernel_rfl
theorem slices_insertionSortCmpFunc_of_impl_compareTerms.bits4:waitsOk slices_insertionSortCmpFunc_of_impl_compareTerms.T4.2 slices_insertionSortCmpFunc_of_impl_compareTerms.B4 = true:=by kernel_rfl
def slices_insertionSortCmpFunc_of_impl_compareTerms.T6:Bool × List (List Nat × List Nat):=(true,[([],[]),([],[]),([],[]),([],[]),([3],[3]),([],[]),([],[]),([6],[6]),([5,7],[5,7]),([8],[8]),([],[]),([],[]),([10,11],[10,11]),([12],[12]),([0,1,0,1,5,6,7,8,9,13],[0,1]),([14,9,0,1,5,6,7,8,9,13],[9,14]),([2,4,0,1,2,3,4,5,6,7,8,9,10,11,12,13,14,15],[2,4]),([16,13,15,0,1,2,3,4,5,6,7,8,9,10,11,12,13,14,15],[13,16])])
def slices_insertionSortCmpFunc_of_impl_compareTerms.B6:List Nat:=[0,0,0,0,8,0,0,64,224,480,0,0,3072,7168,16355,32739,65535,131071]
theorem slices_insertionSortCmpFunc_of_impl_compareTerms.tab6:rtab .any (opsOf Try.f25 6) = slices_insertionSortCmpFunc_of_impl_compareTerms.T6:=by kernel_rfl
theorem slices_insertionSortCmpFunc_of_impl_compareTerms.bits6:waitsOk slices_insertionSortCmpFunc_of_impl_compareTerms.T6.2 slices_insertionSortCmpFunc_of_impl_compareTerms.B6 = true:=by kernel_rfl
set_option maxHeartbeats 8000000 in
set_option maxRecDepth 100000 in
theorem slices_insertionSortCmpFunc_of_impl_compareTerms.calls (k:Nat) (P0_:Nat → Prop) (u9000_:Value) (l0:List (S30)) (a1:Int) (a2:Int)  (r:List (S30)) (w0 w:World) (hB:Below w0.heap.size w0 w) (ho0:Kd.N k30 30 w w0.heap.size P0_ u9000_ l0) (h:slices_insertionSortCmpFunc_of_impl_compareTerms.f k l0 a1 a2 = some r) :
  Calls Try.prog 25 #[u9000_,.int .i64 a1,.int .i64 a2,.func (.func 15) #[] #[]] w fun e w'=>e = .returned (.tuple #[])∧Kd.N k30 30 w' w0.heap.size (fun k_=>(P0_ k_∨w.heap.size≤k_)) u9000_ r∧Below w0.heap.size w0 w'∧Kept w w' (fun k_=>P0_ k_):=by
 have hu30:=Try.underlying30;have HO0:=Aside0.mk (show Kd.N k30 30 w w0.heap.size (fun k_=>(P0_ k_∨w.heap.size≤k_)) u9000_ l0 from Kd.N_mono ho0 (fun k_ hk=>(.inl hk)));have HK:=Aside0.mk (Kept.refl w (fun k_=>P0_ k_));have HW0:=Aside0.mk hB.size;have HB:=Aside0.mk hB;clear hB;have H:(slices_insertionSortCmpFunc_of_impl_compareTerms.l0 k l0 a1 a2 (wrap64 (a1 + 1))) = some r:=h;clear h;have H':=Aside0.mk H;clear H
 go_enter Try.func25,Try.ntmps25
 go_wp2
 go_loopg [8] k (fun kq v8 w'=>∃ (x0_1:List (S30)) (x8_1:Int),v8 = .int .i64 x8_1∧Aside0 (slices_insertionSortCmpFunc_of_impl_compareTerms.l0 kq x0_1 a1 a2 x8_1 = some r)∧Aside0 (kq≤k)∧Aside0 (Kd.N k30 30 w' w0.heap.size (fun k_=>(P0_ k_∨w.heap.size≤k_)) u9000_ x0_1)∧Aside0 (Kept w w' (fun k_=>P0_ k_))∧Aside0 (Below w0.heap.size w0 w'))
 case atStart=>exact ⟨(l0),(wrap64 (a1 + 1)),(cl2),H',⟨Nat.le_refl _⟩,⟨ndm HO0.out⟩,⟨by repeat (first|(with_reducible first|exact HK.out|apply Kept.alloc|apply Kept.drewN|apply Kept.drew)|exact HK.out)⟩,⟨bl HB.out⟩⟩
 case round =>
  clear H';(try clear HK);(try clear HB);obtain ⟨x0_1,x8_1,rfl,HA,HK1,HO_0,HK,HB⟩:=hrel
  cases gk with
  | zero=>exact absurd HA.out (by simp [slices_insertionSortCmpFunc_of_impl_compareTerms.l0])
  | succ k1 =>
   have H:=HA.out;clear HA;simp only [slices_insertionSortCmpFunc_of_impl_compareTerms.l0] at H
   by_cases c5:x8_1 < a2
   ·rw [if_pos c5] at H
    have c5b0:decide (x8_1 < a2) = true:=decide_eq_true c5;clear c5;have H':=Aside0.mk H;clear H
    go_wp2
    go_loopg [9] k1 (fun kq v9 w'=>∃ (x0_2:List (S30)) (x9_2:Int),v9 = .int .i64 x9_2∧Aside0 (slices_insertionSortCmpFunc_of_impl_compareTerms.l1 kq x0_2 a1 a2 x8_1 x9_2 = some r)∧Aside0 (kq≤k1)∧Aside0 (Kd.N k30 30 w' w0.heap.size (fun k_=>(P0_ k_∨w.heap.size≤k_)) u9000_ x0_2)∧Aside0 (Kept w w' (fun k_=>P0_ k_))∧Aside0 (Below w0.heap.size w0 w'))
    case atStart=>exact ⟨(x0_1),(x8_1),(cl2),H',⟨Nat.le_refl _⟩,⟨ndm HO_0.out⟩,⟨by repeat (first|(with_reducible first|exact HK.out|apply Kept.alloc|apply Kept.drewN|apply Kept.drew)|exact HK.out)⟩,⟨bl HB.out⟩⟩
    case round =>
     clear H';(try clear c5);(try clear c5b0);(try clear p2);(try clear HO_0);(try clear HK);(try clear HB);obtain ⟨x0_2,x9_2,rfl,HA,HK2,HO_0,HK,HB⟩:=hrel
     cases gk with
     | zero=>exact absurd HA.out (by simp [slices_insertionSortCmpFunc_of_impl_compareTerms.l1])
     | succ k2 =>
      have H:=HA.out;clear HA;simp only [slices_insertionSortCmpFunc_of_impl_compareTerms.l1] at H
      by_cases c6:x9_2 > a1
      ·rw [if_pos c6] at H
       have c6b0:decide (a1 < x9_2) = true:=decide_eq_true c6;clear c6
       by_cases c7:0≤x9_2
       ·rw [if_pos c7] at H
        have c7b0:decide (0≤x9_2) = true:=decide_eq_true c7;clear c7
        by_cases c8:x9_2 < (x0_2.length:Int)
        ·rw [if_pos c8] at H
         have c8b0:decide (x9_2 < (x0_2.length:Int)) = true:=decide_eq_true c8;clear c8;obtain ⟨ji9,hji9⟩:∃ j_:Int,(wrap64 (x9_2 - 1)) = j_:=⟨_,rfl⟩;replace H:(if 0≤(ji9) then (if (ji9) < (x0_2.length:Int) then ((impl_compareTerms.f k2 ((rd_T30 x0_2 x9_2).f0) ((rd_T30 x0_2 x9_2).f1) ((rd_T30 x0_2 x9_2).f2) ((rd_T30 x0_2 x9_2).f3) ((rd_T30 x0_2 (ji9)).f0) ((rd_T30 x0_2 (ji9)).f1) ((rd_T30 x0_2 (ji9)).f2) ((rd_T30 x0_2 (ji9)).f3)).bind fun t224=>(if t224 < 0 then (slices_insertionSortCmpFunc_of_impl_compareTerms.l1 k2 ((x0_2.set (x9_2:Int).toNat (⟨(rd_T30 x0_2 (ji9)).f0,(rd_T30 x0_2 (ji9)).f1,(rd_T30 x0_2 (ji9)).f2,(rd_T30 x0_2 (ji9)).f3⟩:S30)).set ((ji9):Int).toNat (⟨(rd_T30 x0_2 x9_2).f0,(rd_T30 x0_2 x9_2).f1,(rd_T30 x0_2 x9_2).f2,(rd_T30 x0_2 x9_2).f3⟩:S30)) a1 a2 x8_1 ji9) else (slices_insertionSortCmpFunc_of_impl_compareTerms.l0 k2 x0_2 a1 a2 (wrap64 (x8_1 + 1))))) else (none)) else (none)) = some r:=by first|(rw [hji9] at H;exact H)|(simp only [hji9] at H ⊢;exact H)
         have hji9w:(IntKind.i64.wrap (x9_2 - 1)) = ji9:=(i64_w _).trans hji9
         by_cases c10:0≤(ji9)
         ·rw [if_pos c10] at H
          have c10b0:decide (0≤(ji9)) = true:=decide_eq_true c10;clear c10
          by_cases c11:(ji9) < (x0_2.length:Int)
          ·rw [if_pos c11] at H
           have c11b0:decide ((ji9) < (x0_2.length:Int)) = true:=decide_eq_true c11;clear c11;replace H:=Option.bind_eq_some_iff.mp H;obtain ⟨t224,A120,H⟩:=H;replace H:(if t224 < 0 then (slices_insertionSortCmpFunc_of_impl_compareTerms.l1 k2 ((x0_2.set (x9_2:Int).toNat (⟨(rd_T30 x0_2 (ji9)).f0,(rd_T30 x0_2 (ji9)).f1,(rd_T30 x0_2 (ji9)).f2,(rd_T30 x0_2 (ji9)).f3⟩:S30)).set ((ji9):Int).toNat (⟨(rd_T30 x0_2 x9_2).f0,(rd_T30 x0_2 x9_2).f1,(rd_T30 x0_2 x9_2).f2,(rd_T30 x0_2 x9_2).f3⟩:S30)) a1 a2 x8_1 ji9) else (slices_insertionSortCmpFunc_of_impl_compareTerms.l0 k2 x0_2 a1 a2 (wrap64 (x8_1 + 1)))) = some r:=H;have A12:=Aside0.mk A120;clear A120
           by_cases c13:t224 < 0
           ·rw [if_pos c13] at H
            have c13b0:decide (t224 < 0) = true:=decide_eq_true c13;clear c13;obtain ⟨y227,hy227⟩:∃ y_:List (S30),y_ = (x0_2.set (x9_2:Int).toNat (⟨(rd_T30 x0_2 (ji9)).f0,(rd_T30 x0_2 (ji9)).f1,(rd_T30 x0_2 (ji9)).f2,(rd_T30 x0_2 (ji9)).f3⟩:S30)):=⟨_,rfl⟩;replace H:(slices_insertionSortCmpFunc_of_impl_compareTerms.l1 k2 (y227.set ((ji9):Int).toNat (⟨(rd_T30 x0_2 x9_2).f0,(rd_T30 x0_2 x9_2).f1,(rd_T30 x0_2 x9_2).f2,(rd_T30 x0_2 x9_2).f3⟩:S30)) a1 a2 x8_1 ji9) = some r:=by first|(rw [hy227];with_reducible exact H)|(have H2_:=(Option.bind_some _ _).symm.trans H;rw [hy227];with_reducible exact H2_)|(have H2_:=(Option.bind_some _ _).symm.trans H;with_reducible exact H2_)|with_reducible exact H|(rw [hy227];exact H)|exact H
            have Ny227:=Aside0.mk hy227;clear hy227;obtain ⟨y228,hy228⟩:∃ y_:List (S30),y_ = (y227.set ((ji9):Int).toNat (⟨(rd_T30 x0_2 x9_2).f0,(rd_T30 x0_2 x9_2).f1,(rd_T30 x0_2 x9_2).f2,(rd_T30 x0_2 x9_2).f3⟩:S30)):=⟨_,rfl⟩;replace H:(slices_insertionSortCmpFunc_of_impl_compareTerms.l1 k2 y228 a1 a2 x8_1 ji9) = some r:=by first|(rw [hy228];with_reducible exact H)|(have H2_:=(Option.bind_some _ _).symm.trans H;rw [hy228];with_reducible exact H2_)|(have H2_:=(Option.bind_some _ _).symm.trans H;with_reducible exact H2_)|with_reducible exact H|(rw [hy228];exact H)|exact H
            have Ny228:=Aside0.mk hy228;clear hy228;have H':=Aside0.mk H;clear H
            try go_wp2
            have n_:=ai (Aside0.mk (Kd.N_drew HO_0.out)) <| ai (Aside0.mk (Kept.drew HK.out)) <| dh HB;clear HO_0 HK HB;obtain ⟨HO_0,HK,HB⟩:=n_;obtain ⟨Ao17,co17,eo17⟩:=Kd.N_slice HO_0.out
            (first|subst eo17|(injection eo17 with f1_ f2_ f3_;have f4_:=f1_.symm;have f5_:=f3_.symm;clear f1_ f2_ f3_;subst f4_;subst f5_))
            have p222:0≤(x9_2:Int):=od;have q222:x9_2 < (x0_2.length:Int):=od;obtain ⟨ad222,A222_3,c222_3,e222,hx222_0,hx222_1,hx222_2,hx222_3,hl222_3,hi222_3⟩:=at_T30 (Kd.N_reads' HO_0.out).2.2 x9_2 p222 q222;cases e222;obtain ⟨ce222,hce222,hMe222,hcc222⟩:=Kd.N_get HO_0.out z30 x9_2 p222 (by first|exact q222|exact od|(have e_:=(Kd.N_reads' HO_0.out).1;omega));obtain ⟨ua222_3,uc222_3,rfl,ul222_3,ge222_3⟩:=k30_openF hMe222;have hv222_3:=hcc222 3 _ rfl;rw [add_field _ _ 3 (by omega)] at hv222_3;replace hv222_3:=Option.some.inj (hv222_3.symm.trans hx222_3)
            injection hv222_3 with hva_ hvn_ hvc_
            rw [hva_] at ge222_3;rw [hvc_] at ul222_3;have HL222_3:=Aside0.mk (show Kd.V k30 30 _ w0.heap.size _ _ ((rd_T30 x0_2 x9_2).f3) from Kd.V_mk ul222_3 ge222_3);clear hva_ hvn_ hvc_ ge222_3 ul222_3;clear hcc222 hce222;have HR222_3:=Aside0.mk hi222_3;have HC222_3:=Aside0.mk hl222_3;clear hi222_3 hl222_3;replace p222:=eq_true p222;replace q222:=eq_true q222;have p223:0≤((ji9):Int):=od;have q223:(ji9) < (x0_2.length:Int):=od;obtain ⟨ad223,A223_3,c223_3,e223,hx223_0,hx223_1,hx223_2,hx223_3,hl223_3,hi223_3⟩:=at_T30 (Kd.N_reads' HO_0.out).2.2 (ji9) p223 q223;obtain rfl:ad222 = ad223:=(by injection e223);obtain ⟨ce223,hce223,hMe223,hcc223⟩:=Kd.N_get HO_0.out z30 (ji9) p223 (by first|exact q223|exact od|(have e_:=(Kd.N_reads' HO_0.out).1;omega));obtain ⟨ua223_3,uc223_3,rfl,ul223_3,ge223_3⟩:=k30_openF hMe223;have hv223_3:=hcc223 3 _ rfl;rw [add_field _ _ 3 (by omega)] at hv223_3;replace hv223_3:=Option.some.inj (hv223_3.symm.trans hx223_3)
            injection hv223_3 with hva_ hvn_ hvc_
            rw [hva_] at ge223_3;rw [hvc_] at ul223_3;have HL223_3:=Aside0.mk (show Kd.V k30 30 _ w0.heap.size _ _ ((rd_T30 x0_2 (ji9)).f3) from Kd.V_mk ul223_3 ge223_3);clear hva_ hvn_ hvc_ ge223_3 ul223_3;clear hcc223 hce223;have HR223_3:=Aside0.mk hi223_3;have HC223_3:=Aside0.mk hl223_3;clear hi223_3 hl223_3;replace p223:=eq_true p223;replace q223:=eq_true q223
            refine start_ (n:=17) (S:=fun w'=>w'.cell? (ad222.add ((x9_2).toNat * 4)) = some (.int .i64 ((rd_T30 x0_2 x9_2).f0))∧w'.cell? ⟨(ad222.add ((x9_2).toNat * 4)).block,(ad222.add ((x9_2).toNat * 4)).off + 1,none⟩ = some (.int .i64 ((rd_T30 x0_2 x9_2).f1))∧w'.cell? ⟨(ad222.add ((x9_2).toNat * 4)).block,(ad222.add ((x9_2).toNat * 4)).off + 2,none⟩ = some (.string ((rd_T30 x0_2 x9_2).f2))∧w'.cell? ⟨(ad222.add ((x9_2).toNat * 4)).block,(ad222.add ((x9_2).toNat * 4)).off + 3,none⟩ = some (.slice A222_3 ((rd_T30 x0_2 x9_2).f3).length c222_3)∧w'.cell? (ad222.add (((ji9)).toNat * 4)) = some (.int .i64 ((rd_T30 x0_2 (ji9)).f0))∧w'.cell? ⟨(ad222.add (((ji9)).toNat * 4)).block,(ad222.add (((ji9)).toNat * 4)).off + 1,none⟩ = some (.int .i64 ((rd_T30 x0_2 (ji9)).f1))∧w'.cell? ⟨(ad222.add (((ji9)).toNat * 4)).block,(ad222.add (((ji9)).toNat * 4)).off + 2,none⟩ = some (.string ((rd_T30 x0_2 (ji9)).f2))∧w'.cell? ⟨(ad222.add (((ji9)).toNat * 4)).block,(ad222.add (((ji9)).toNat * 4)).off + 3,none⟩ = some (.slice A223_3 ((rd_T30 x0_2 (ji9)).f3).length c223_3)) (ds:=[]) #[false,false,false,false,false,false,false,false,false,false,false,false,false,false,false,false,false] (by kernel_rfl) rfl rfl ⟨hx222_0,hx222_1,hx222_2,hx222_3,hx223_0,hx223_1,hx223_2,hx223_3⟩ (fun hHeld=>?_);refine with_tabW slices_insertionSortCmpFunc_of_impl_compareTerms.tab4 slices_insertionSortCmpFunc_of_impl_compareTerms.bits4 (fun HT_ HW_=>?_)
            generalize wr.drew = w16 at HO_0 HK HB HL222_3 HL223_3 HR222_3 HR223_3 hx222_0 hx222_1 hx222_2 hx222_3 hx223_0 hx223_1 hx223_2 hx223_3 hHeld ⊢;refine pu 0 18 ?_;refine pu 1 19 ?_;refine pu 2 20 ?_;refine pu 3 21 ?_;refine pu 4 22 ?_;refine pu 5 23 ?_;refine pu 6 24 ?_;refine pu 7 25 ?_;refine pu 9 27 ?_;refine pu 10 28 ?_;refine pu 11 29 ?_;refine pu 12 30 ?_;refine ta 8 26 hHeld ?_;refine ta 13 31 hHeld ?_
            refine one_ (i:=14) (N:=some 32) #[true,true,true,true,true,true,true,true,true,true,true,true,true,true,true,false,false] rfl rfl (one_of HT_.out (by kernel_rfl)) (by decide) (fun K hK=>?_)
            refine goesT_ (t:=22) Try.func15 (by kernel_rfl) rfl #[.agg #[.int .i64 ((rd_T30 x0_2 x9_2).f0),.int .i64 ((rd_T30 x0_2 x9_2).f1),.string ((rd_T30 x0_2 x9_2).f2),.slice A222_3 ((rd_T30 x0_2 x9_2).f3).length c222_3],.agg #[.int .i64 ((rd_T30 x0_2 (ji9)).f0),.int .i64 ((rd_T30 x0_2 (ji9)).f1),.string ((rd_T30 x0_2 (ji9)).f2),.slice A223_3 ((rd_T30 x0_2 (ji9)).f3).length c223_3]] (by rfl) rfl rfl rfl (by (try simp only [List.map_toArray,List.map_cons,List.map_nil]);first|done|(simp only [hji9];rfl)|rfl|(simp only [List.length_drop,List.length_take];rfl)) ?_
            with_reducible refine (impl_compareTerms.calls k2 ((rd_T30 x0_2 x9_2).f0) ((rd_T30 x0_2 x9_2).f1) ((rd_T30 x0_2 x9_2).f2) _ _ ((rd_T30 x0_2 x9_2).f3) ((rd_T30 x0_2 (ji9)).f0) ((rd_T30 x0_2 (ji9)).f1) ((rd_T30 x0_2 (ji9)).f2) _ _ ((rd_T30 x0_2 (ji9)).f3) t224 _ ?side1 ?side2 ?side3 ?side4 A12.out).mono ?_
            (case side1=>repeat (first|exact (by repeat (first|(with_reducible exact HR222_3.out)|(with_reducible refine Kd.C_alloc ?_ _)|(with_reducible refine Kd.C_drewN ?_ _)|(with_reducible refine Kd.C_drew ?_)|exact HR222_3.out))|(with_reducible refine Kd.C_alloc ?_ _)|(with_reducible refine Kd.C_drewN ?_ _)|(with_reducible refine Kd.C_drew ?_)))
            (case side2=>exact HC222_3.out)
            (case side3=>repeat (first|exact (by repeat (first|(with_reducible exact HR223_3.out)|(with_reducible refine Kd.C_alloc ?_ _)|(with_reducible refine Kd.C_drewN ?_ _)|(with_reducible refine Kd.C_drew ?_)|exact HR223_3.out))|(with_reducible refine Kd.C_alloc ?_ _)|(with_reducible refine Kd.C_drewN ?_ _)|(with_reducible refine Kd.C_drew ?_)))
            (case side4=>exact HC223_3.out)
            rintro e w18 ⟨rfl,hb⟩;have HS0_:=(hb.cell (World.block_lt_of_cell? _ _ (hHeld.1))).trans (hHeld.1);have HS1_:=(hb.cell (World.block_lt_of_cell? _ _ (hHeld.2.1))).trans (hHeld.2.1);have HS2_:=(hb.cell (World.block_lt_of_cell? _ _ (hHeld.2.2.1))).trans (hHeld.2.2.1);have HS3_:=(hb.cell (World.block_lt_of_cell? _ _ (hHeld.2.2.2.1))).trans (hHeld.2.2.2.1);have HS4_:=(hb.cell (World.block_lt_of_cell? _ _ (hHeld.2.2.2.2.1))).trans (hHeld.2.2.2.2.1);have HS5_:=(hb.cell (World.block_lt_of_cell? _ _ (hHeld.2.2.2.2.2.1))).trans (hHeld.2.2.2.2.2.1);have HS6_:=(hb.cell (World.block_lt_of_cell? _ _ (hHeld.2.2.2.2.2.2.1))).trans (hHeld.2.2.2.2.2.2.1);have HS7_:=(hb.cell (World.block_lt_of_cell? _ _ (hHeld.2.2.2.2.2.2.2))).trans (hHeld.2.2.2.2.2.2.2)
            refine ⟨_,rfl,?_⟩
            have n_:=ai (nwm HO_0 hb) <| ai (vwm HL222_3 hb) <| ai (vwm HL223_3 hb) <| ai (Aside0.mk (Kd.C_below (by repeat (first|(with_reducible exact HR222_3.out)|(with_reducible refine Kd.C_alloc ?_ _)|(with_reducible refine Kd.C_drewN ?_ _)|(with_reducible refine Kd.C_drew ?_)|exact HR222_3.out)) hb)) <| ai (Aside0.mk (Kd.C_below (by repeat (first|(with_reducible exact HR223_3.out)|(with_reducible refine Kd.C_alloc ?_ _)|(with_reducible refine Kd.C_drewN ?_ _)|(with_reducible refine Kd.C_drew ?_)|exact HR223_3.out)) hb)) <| ai (Aside0.mk (Kept.below (S:=(fun k_=>P0_ k_)) (by repeat (first|(with_reducible first|exact HK.out|apply Kept.alloc|apply Kept.drewN|apply Kept.drew)|exact HK.out)) hb)) <| bq HB hb;clear HO_0 HL222_3 HL223_3 HR222_3 HR223_3 HK HB;obtain ⟨HO_0,HL222_3,HL223_3,HR222_3,HR223_3,HK,HB⟩:=n_;(try clear hb);(try clear hk)
            refine hK.out _ _ ⟨HS0_,HS1_,HS2_,HS3_,HS4_,HS5_,HS6_,HS7_⟩ (fun hHeld=>?_)
            clear hK K
            refine norm_ (a':=?_) ?_ ?_
            rotate_left
            ·show Act.put _ (some 32) _ = _
             simp only [Act.put,List.setIfInBounds_toArray,List.set_cons_zero,List.set_cons_succ,i64_w,i32_w]
             rfl
            refine pu 15 33 ?_;refine pu 16 34 ?_
            refine done_ (done_of HT_.out (by kernel_rfl)) ?_
            try go_wp2
            have n_:=ai (Aside0.mk (Kd.N_drew HO_0.out)) <| ai (Aside0.mk (Kd.V_drew HL222_3.out)) <| ai (Aside0.mk (Kd.V_drew HL223_3.out)) <| ai (Aside0.mk (Kd.C_drew HR222_3.out)) <| ai (Aside0.mk (Kd.C_drew HR223_3.out)) <| ai (Aside0.mk (Kept.drew HK.out)) <| dh HB;clear HO_0 HL222_3 HL223_3 HR222_3 HR223_3 HK HB;obtain ⟨HO_0,HL222_3,HL223_3,HR222_3,HR223_3,HK,HB⟩:=n_;have p225:0≤((ji9):Int):=od;have q225:(ji9) < (x0_2.length:Int):=od;obtain ⟨ad225,A225_3,c225_3,e225,hx225_0,hx225_1,hx225_2,hx225_3,hl225_3,hi225_3⟩:=at_T30 (Kd.N_reads' HO_0.out).2.2 (ji9) p225 q225;obtain rfl:ad222 = ad225:=(by injection e225);obtain ⟨ce225,hce225,hMe225,hcc225⟩:=Kd.N_get HO_0.out z30 (ji9) p225 (by first|exact q225|exact od|(have e_:=(Kd.N_reads' HO_0.out).1;omega));obtain ⟨ua225_3,uc225_3,rfl,ul225_3,ge225_3⟩:=k30_openF hMe225;have hv225_3:=hcc225 3 _ rfl;rw [add_field _ _ 3 (by omega)] at hv225_3;replace hv225_3:=Option.some.inj (hv225_3.symm.trans hx225_3)
            injection hv225_3 with hva_ hvn_ hvc_
            rw [hva_] at ge225_3;rw [hvc_] at ul225_3;have HL225_3:=Aside0.mk (show Kd.V k30 30 _ w0.heap.size _ _ ((rd_T30 x0_2 (ji9)).f3) from Kd.V_mk ul225_3 ge225_3);clear hva_ hvn_ hvc_ ge225_3 ul225_3;clear hcc225 hce225;have HR225_3:=Aside0.mk hi225_3;have HC225_3:=Aside0.mk hl225_3;clear hi225_3 hl225_3;replace p225:=eq_true p225;replace q225:=eq_true q225;have p226:0≤(x9_2:Int):=od;have q226:x9_2 < (x0_2.length:Int):=od;obtain ⟨ad226,A226_3,c226_3,e226,hx226_0,hx226_1,hx226_2,hx226_3,hl226_3,hi226_3⟩:=at_T30 (Kd.N_reads' HO_0.out).2.2 x9_2 p226 q226;obtain rfl:ad222 = ad226:=(by injection e226);obtain ⟨ce226,hce226,hMe226,hcc226⟩:=Kd.N_get HO_0.out z30 x9_2 p226 (by first|exact q226|exact od|(have e_:=(Kd.N_reads' HO_0.out).1;omega));obtain ⟨ua226_3,uc226_3,rfl,ul226_3,ge226_3⟩:=k30_openF hMe226;have hv226_3:=hcc226 3 _ rfl;rw [add_field _ _ 3 (by omega)] at hv226_3;replace hv226_3:=Option.some.inj (hv226_3.symm.trans hx226_3)
            injection hv226_3 with hva_ hvn_ hvc_
            rw [hva_] at ge226_3;rw [hvc_] at ul226_3;have HL226_3:=Aside0.mk (show Kd.V k30 30 _ w0.heap.size _ _ ((rd_T30 x0_2 x9_2).f3) from Kd.V_mk ul226_3 ge226_3);clear hva_ hvn_ hvc_ ge226_3 ul226_3;clear hcc226 hce226;have HR226_3:=Aside0.mk hi226_3;have HC226_3:=Aside0.mk hl226_3;clear hi226_3 hl226_3;replace p226:=eq_true p226;replace q226:=eq_true q226;have p14:0≤(x9_2:Int):=od;have q14:(x9_2:Int) < ((x0_2.length:Int):Int):=od;obtain ⟨go14,co14,eo14,gb14,gl14,cl14,HG14⟩:=Kd.N_form HO_0.out (by omega)
            (first|cases eo14|(injection eo14 with ea_ en_ ec_;(first|subst ea_|(injection ea_ with ea_;subst ea_));subst ec_;clear en_))
            have GB14:=Aside0.mk gb14;have GG14:=Aside0.mk HG14;clear gb14 gl14 HG14;have HMgo14:=Aside0.mk (show (P0_ go14∨w.heap.size≤go14) from (HO_0.out.1 _ rfl))
            (first|simp only [add_plain] at hx222_0|skip)
            (first|simp only [add_plain] at hx222_1|skip)
            (first|simp only [add_plain] at hx222_2|skip)
            (first|simp only [add_plain] at hx222_3|skip)
            (first|simp only [add_plain] at hx223_0|skip)
            (first|simp only [add_plain] at hx223_1|skip)
            (first|simp only [add_plain] at hx223_2|skip)
            (first|simp only [add_plain] at hx223_3|skip)
            (first|simp only [add_plain] at hx225_0|skip)
            (first|simp only [add_plain] at hx225_1|skip)
            (first|simp only [add_plain] at hx225_2|skip)
            (first|simp only [add_plain] at hx225_3|skip)
            (first|simp only [add_plain] at hx226_0|skip)
            (first|simp only [add_plain] at hx226_1|skip)
            (first|simp only [add_plain] at hx226_2|skip)
            (first|simp only [add_plain] at hx226_3|skip)
            obtain ⟨ce14,hcl14,hM14,hcc14,hfr14⟩:=Kd.N_elem HO_0.out z30 (x9_2:Int) p14 q14;obtain ⟨ua14_3,uc14_3,rfl,ul14_3,ge14_3⟩:=k30_openF hM14;have hx14_0:World.cell? _ ⟨go14,(x9_2:Int).toNat * 4,none⟩ = some (.int .i64 ((rd_T30 x0_2 x9_2).f0)):=hcc14 0 _ rfl;have hx14_1:World.cell? _ ⟨go14,(x9_2:Int).toNat * 4 + 1,none⟩ = some (.int .i64 ((rd_T30 x0_2 x9_2).f1)):=hcc14 1 _ rfl;have hx14_2:World.cell? _ ⟨go14,(x9_2:Int).toNat * 4 + 2,none⟩ = some (.string ((rd_T30 x0_2 x9_2).f2)):=hcc14 2 _ rfl;have hx14_3:World.cell? _ ⟨go14,(x9_2:Int).toNat * 4 + 3,none⟩ = some (.slice ua14_3 ((rd_T30 x0_2 x9_2).f3).length uc14_3):=hcc14 3 _ rfl;have hf14_0:World.frozen? _ ⟨go14,(x9_2:Int).toNat * 4,none⟩ = false:=hfr14 0;have hf14_1:World.frozen? _ ⟨go14,(x9_2:Int).toNat * 4 + 1,none⟩ = false:=hfr14 1;have hf14_2:World.frozen? _ ⟨go14,(x9_2:Int).toNat * 4 + 2,none⟩ = false:=hfr14 2;have hf14_3:World.frozen? _ ⟨go14,(x9_2:Int).toNat * 4 + 3,none⟩ = false:=hfr14 3;clear hcl14 hcc14 hfr14 hM14;replace p14:=eq_true p14;replace q14:=eq_true q14;have HX20:=Aside0.mk (show Kd.N k30 30 _ w0.heap.size (fun k_=>(P0_ k_∨w.heap.size≤k_)) (.slice (some ⟨go14,0,none⟩) x0_2.length co17) x0_2 from (Kd.N_mono (HO_0.out) (fun k_ hk=>hk)));obtain ⟨ce20,hcl20,hM20,hcc20,hfr20⟩:=Kd.N_elem HX20.out z30 (x9_2:Int) (od) (by have h_:(x9_2:Int) < ((x0_2.length:Int):Int):=od;first|exact h_|(have e_:=(Kd.N_reads' HO_0.out).1;omega)|simpa using h_);obtain ⟨ua20_3,uc20_3,rfl,ul20_3,ge20_3⟩:=k30_openF hM20;have HP20:=(Kd.N_seg HX20.out (x9_2:Int) (od) (by have h_:(x9_2:Int) < ((x0_2.length:Int):Int):=od;first|exact h_|(have e_:=(Kd.N_reads' HO_0.out).1;omega)|simpa using h_) (seg:=[.int .i64 ((rd_T30 x0_2 (ji9)).f0),.int .i64 ((rd_T30 x0_2 (ji9)).f1),.string ((rd_T30 x0_2 (ji9)).f2),.slice A225_3 ((rd_T30 x0_2 (ji9)).f3).length c225_3]) (j:=0) hcl20 hcc20 (show 4≤4 from by decide) (x':=(⟨(rd_T30 x0_2 (ji9)).f0,(rd_T30 x0_2 (ji9)).f1,(rd_T30 x0_2 (ji9)).f2,(rd_T30 x0_2 (ji9)).f3⟩:S30)) (k30_mkF _ _ (⟨(rd_T30 x0_2 (ji9)).f0,(rd_T30 x0_2 (ji9)).f1,(rd_T30 x0_2 (ji9)).f2,(rd_T30 x0_2 (ji9)).f3⟩:S30) (Kd.V_reads' (Kd.V_mono (ok':=(fun k_=>((fun k_=>(P0_ k_∨w.heap.size≤k_))) k_∧k_≠go14)) (HL225_3.out) (fun k_ hk=>⟨hk.1,fun e_=>(hk.2) (by rw [e_];rfl)⟩))).2.1 (Kd.V_F (Kd.V_mono (ok':=(fun k_=>((fun k_=>(P0_ k_∨w.heap.size≤k_))) k_∧k_≠go14)) (HL225_3.out) (fun k_ hk=>⟨hk.1,fun e_=>(hk.2) (by rw [e_];rfl)⟩)))) (fun _ hk=>hk)).1;rw [← Ny227.out] at HP20;have HQ20:=Aside0.mk HP20;clear hcl20 hcc20 hfr20 hM20 HP20;have p15:0≤((ji9):Int):=od;have q15:((ji9):Int) < ((x0_2.length:Int):Int):=od;obtain ⟨ce15,hcl15,hM15,hcc15,hfr15⟩:=Kd.N_elem HQ20.out z30 ((ji9):Int) p15 q15;obtain ⟨ua15_3,uc15_3,rfl,ul15_3,ge15_3⟩:=k30_openF hM15
            have hx15_0:World.cell? _ ⟨go14,((ji9):Int).toNat * 4,none⟩ = some (.int .i64 ((rd_T30 y227 (ji9)).f0)):=hcc15 0 _ rfl;have hx15_1:World.cell? _ ⟨go14,((ji9):Int).toNat * 4 + 1,none⟩ = some (.int .i64 ((rd_T30 y227 (ji9)).f1)):=hcc15 1 _ rfl;have hx15_2:World.cell? _ ⟨go14,((ji9):Int).toNat * 4 + 2,none⟩ = some (.string ((rd_T30 y227 (ji9)).f2)):=hcc15 2 _ rfl;have hx15_3:World.cell? _ ⟨go14,((ji9):Int).toNat * 4 + 3,none⟩ = some (.slice ua15_3 ((rd_T30 y227 (ji9)).f3).length uc15_3):=hcc15 3 _ rfl;have hf15_0:World.frozen? _ ⟨go14,((ji9):Int).toNat * 4,none⟩ = false:=hfr15 0;have hf15_1:World.frozen? _ ⟨go14,((ji9):Int).toNat * 4 + 1,none⟩ = false:=hfr15 1;have hf15_2:World.frozen? _ ⟨go14,((ji9):Int).toNat * 4 + 2,none⟩ = false:=hfr15 2;have hf15_3:World.frozen? _ ⟨go14,((ji9):Int).toNat * 4 + 3,none⟩ = false:=hfr15 3;simp only [World.setCells,show (k30).sz = 4 from rfl,Nat.add_zero,Nat.add_assoc,Nat.reduceAdd] at hx15_0 hx15_1 hx15_2 hx15_3 hf15_0 hf15_1 hf15_2 hf15_3;clear hcl15 hcc15 hfr15 hM15;replace p15:=eq_true p15;replace q15:=eq_true q15;have HX21:=Aside0.mk (show Kd.N k30 30 _ w0.heap.size (fun k_=>(P0_ k_∨w.heap.size≤k_)) (.slice (some ⟨go14,0,none⟩) x0_2.length co17) y227 from (Kd.N_mono (HQ20.out) (fun k_ hk=>hk)));obtain ⟨ce21,hcl21,hM21,hcc21,hfr21⟩:=Kd.N_elem HX21.out z30 ((ji9):Int) (od) (by have h_:((ji9):Int) < ((x0_2.length:Int):Int):=od;first|exact h_|(have e_:=(Kd.N_reads' HO_0.out).1;omega)|simpa using h_);obtain ⟨ua21_3,uc21_3,rfl,ul21_3,ge21_3⟩:=k30_openF hM21;have HP21:=(Kd.N_seg HX21.out ((ji9):Int) (od) (by have h_:((ji9):Int) < ((x0_2.length:Int):Int):=od;first|exact h_|(have e_:=(Kd.N_reads' HO_0.out).1;omega)|simpa using h_) (seg:=[.int .i64 ((rd_T30 x0_2 x9_2).f0),.int .i64 ((rd_T30 x0_2 x9_2).f1),.string ((rd_T30 x0_2 x9_2).f2),.slice A226_3 ((rd_T30 x0_2 x9_2).f3).length c226_3]) (j:=0) hcl21 hcc21 (show 4≤4 from by decide) (x':=(⟨(rd_T30 x0_2 x9_2).f0,(rd_T30 x0_2 x9_2).f1,(rd_T30 x0_2 x9_2).f2,(rd_T30 x0_2 x9_2).f3⟩:S30)) (k30_mkF _ _ (⟨(rd_T30 x0_2 x9_2).f0,(rd_T30 x0_2 x9_2).f1,(rd_T30 x0_2 x9_2).f2,(rd_T30 x0_2 x9_2).f3⟩:S30) (Kd.V_reads' (Kd.V_mono (ok':=(fun k_=>((fun k_=>(P0_ k_∨w.heap.size≤k_))) k_∧k_≠go14)) (HL226_3.out) (fun k_ hk=>⟨hk.1,fun e_=>(hk.2) (by rw [e_];rfl)⟩))).2.1 (Kd.F_far (p:=⟨go14,(x9_2:Int).toNat * 4 + 3,none⟩) (Kd.F_far (p:=⟨go14,(x9_2:Int).toNat * 4 + 2,none⟩) (Kd.F_far (p:=⟨go14,(x9_2:Int).toNat * 4 + 1,none⟩) (Kd.F_far (p:=⟨go14,(x9_2:Int).toNat * 4,none⟩) (Kd.V_F (Kd.V_mono (ok':=(fun k_=>((fun k_=>(P0_ k_∨w.heap.size≤k_))) k_∧k_≠go14)) (HL226_3.out) (fun k_ hk=>⟨hk.1,fun e_=>(hk.2) (by rw [e_];rfl)⟩))) (fun _ hk=>hk.2) (.int .i64 ((rd_T30 x0_2 (ji9)).f0))) (fun _ hk=>hk.2) (.int .i64 ((rd_T30 x0_2 (ji9)).f1))) (fun _ hk=>hk.2) (.string ((rd_T30 x0_2 (ji9)).f2))) (fun _ hk=>hk.2) (.slice A225_3 ((rd_T30 x0_2 (ji9)).f3).length c225_3))) (fun _ hk=>hk)).1
            rw [← Ny228.out] at HP21;have HQ21:=Aside0.mk HP21;clear hcl21 hcc21 hfr21 hM21 HP21
            refine start_ (n:=18) (S:=fun w'=>w'.cell? ⟨go14,(((ji9)).toNat * 4),none⟩ = some (.int .i64 ((rd_T30 x0_2 (ji9)).f0))∧w'.cell? ⟨go14,(((ji9)).toNat * 4) + 1,none⟩ = some (.int .i64 ((rd_T30 x0_2 (ji9)).f1))∧w'.cell? ⟨go14,(((ji9)).toNat * 4) + 2,none⟩ = some (.string ((rd_T30 x0_2 (ji9)).f2))∧w'.cell? ⟨go14,(((ji9)).toNat * 4) + 3,none⟩ = some (.slice A225_3 ((rd_T30 x0_2 (ji9)).f3).length c225_3)∧w'.cell? ⟨go14,((x9_2).toNat * 4),none⟩ = some (.int .i64 ((rd_T30 x0_2 x9_2).f0))∧w'.cell? ⟨go14,((x9_2).toNat * 4) + 1,none⟩ = some (.int .i64 ((rd_T30 x0_2 x9_2).f1))∧w'.cell? ⟨go14,((x9_2).toNat * 4) + 2,none⟩ = some (.string ((rd_T30 x0_2 x9_2).f2))∧w'.cell? ⟨go14,((x9_2).toNat * 4) + 3,none⟩ = some (.slice A226_3 ((rd_T30 x0_2 x9_2).f3).length c226_3)) (ds:=[15,17]) #[false,false,false,false,false,false,false,false,false,false,false,false,false,false,false,false,false,false] (by kernel_rfl) rfl rfl ⟨hx225_0,hx225_1,hx225_2,hx225_3,hx226_0,hx226_1,hx226_2,hx226_3⟩ (fun hHeld=>?_);refine with_tabW slices_insertionSortCmpFunc_of_impl_compareTerms.tab6 slices_insertionSortCmpFunc_of_impl_compareTerms.bits6 (fun HT_ HW_=>?_)
            generalize w18.drew = w19 at HO_0 HL222_3 HL223_3 HR222_3 HR223_3 HK HB GG14 HL225_3 HL226_3 HQ20 HQ21 HR225_3 HR226_3 hf14_0 hf14_1 hf14_2 hf14_3 hf15_0 hf15_1 hf15_2 hf15_3 hx14_0 hx14_1 hx14_2 hx14_3 hx15_0 hx15_1 hx15_2 hx15_3 hx222_0 hx222_1 hx222_2 hx222_3 hx223_0 hx223_1 hx223_2 hx223_3 hx225_0 hx225_1 hx225_2 hx225_3 hx226_0 hx226_1 hx226_2 hx226_3 hHeld ⊢;refine pu 0 37 ?_;refine pu 1 38 ?_;refine pu 2 39 ?_;refine pu 3 40 ?_;refine pu 4 41 ?_;refine pu 5 42 ?_;refine pu 6 43 ?_;refine pu 7 44 ?_;refine pu 8 45 ?_;refine pu 10 47 ?_;refine pu 11 48 ?_;refine pu 12 49 ?_;refine ta 9 46 hHeld ?_;refine ta 13 50 hHeld ?_;refine pu 14 51 ?_
            refine last_ (i:=15) (N:=none) #[true,true,true,true,true,true,true,true,true,true,true,true,true,true,true,true,false,false] rfl rfl (one_of HT_.out (by kernel_rfl)) (by decide) (fun K hK=>?_)
            refine skip_ (w1:=?_) (by rfl) rfl ?_ ?_
            rotate_left
            ·go_simp
             rfl
            refine hK.out _ _ ?_
            clear hK K;refine pu 16 52 ?_
            refine last_ (i:=17) (N:=none) #[true,true,true,true,true,true,true,true,true,true,true,true,true,true,true,true,true,true] rfl rfl (one_of HT_.out (by kernel_rfl)) (by decide) (fun K hK=>?_)
            refine skip_ (w1:=?_) (by rfl) rfl ?_ ?_
            rotate_left
            ·go_simp
             rfl
            refine hK.out _ _ ?_
            clear hK K
            refine done_ (done_of HT_.out (by kernel_rfl)) ?_
            try go_wp2
            go_roundg k2
            case measure=>have:=HK1.out;have:=HK2.out;omega
            case rel=>exact ⟨(y228),(ji9),(by first|rfl|(simp;done)|(simp only [← hji9] <;> (first|rfl|simp))|(simp [*];done)),H',⟨by have:=HK1.out;have:=HK2.out;omega⟩,⟨by (with_reducible repeat (first|apply Kd.N_alloc|apply Kd.N_drewN|apply Kd.N_drew));exact HQ21.out⟩,⟨by repeat (first|(with_reducible first|exact HK.out|apply Kept.alloc|apply Kept.drewN|apply Kept.drew|refine Kept.setCell ?_ HMgo14.out _|refine Kept.setCell ?_ HMgo14.out _|refine Kept.setCell ?_ HMgo14.out _|refine Kept.setCell ?_ HMgo14.out _|refine Kept.setCell ?_ HMgo14.out _|refine Kept.setCell ?_ HMgo14.out _|refine Kept.setCell ?_ HMgo14.out _|refine Kept.setCell ?_ HMgo14.out _)|exact HK.out)⟩,⟨by repeat (first|(with_reducible first|exact HB.out|apply below_alloc|apply pw_below_drewN|apply below_drew1|refine below_set ?_ (GB14.out)|refine below_set ?_ (GB14.out)|refine below_set ?_ (GB14.out)|refine below_set ?_ (GB14.out)|refine below_set ?_ (GB14.out)|refine below_set ?_ (GB14.out)|refine below_set ?_ (GB14.out)|refine below_set ?_ (GB14.out))|exact HB.out)⟩⟩
           ·rw [if_neg c13] at H
            have c13b0:decide (t224 < 0) = false:=decide_eq_false c13;clear c13;have H':=Aside0.mk H;clear H
            try go_wp2
            have n_:=ai (Aside0.mk (Kd.N_drew HO_0.out)) <| ai (Aside0.mk (Kept.drew HK.out)) <| dh HB;clear HO_0 HK HB;obtain ⟨HO_0,HK,HB⟩:=n_;obtain ⟨Ao23,co23,eo23⟩:=Kd.N_slice HO_0.out
            (first|subst eo23|(injection eo23 with f1_ f2_ f3_;have f4_:=f1_.symm;have f5_:=f3_.symm;clear f1_ f2_ f3_;subst f4_;subst f5_))
            have p222:0≤(x9_2:Int):=od;have q222:x9_2 < (x0_2.length:Int):=od;obtain ⟨ad222,A222_3,c222_3,e222,hx222_0,hx222_1,hx222_2,hx222_3,hl222_3,hi222_3⟩:=at_T30 (Kd.N_reads' HO_0.out).2.2 x9_2 p222 q222;cases e222;obtain ⟨ce222,hce222,hMe222,hcc222⟩:=Kd.N_get HO_0.out z30 x9_2 p222 (by first|exact q222|exact od|(have e_:=(Kd.N_reads' HO_0.out).1;omega));obtain ⟨ua222_3,uc222_3,rfl,ul222_3,ge222_3⟩:=k30_openF hMe222;have hv222_3:=hcc222 3 _ rfl;rw [add_field _ _ 3 (by omega)] at hv222_3;replace hv222_3:=Option.some.inj (hv222_3.symm.trans hx222_3)
            injection hv222_3 with hva_ hvn_ hvc_
            rw [hva_] at ge222_3;rw [hvc_] at ul222_3;have HL222_3:=Aside0.mk (show Kd.V k30 30 _ w0.heap.size _ _ ((rd_T30 x0_2 x9_2).f3) from Kd.V_mk ul222_3 ge222_3);clear hva_ hvn_ hvc_ ge222_3 ul222_3;clear hcc222 hce222;have HR222_3:=Aside0.mk hi222_3;have HC222_3:=Aside0.mk hl222_3;clear hi222_3 hl222_3;replace p222:=eq_true p222;replace q222:=eq_true q222;have p223:0≤((ji9):Int):=od;have q223:(ji9) < (x0_2.length:Int):=od;obtain ⟨ad223,A223_3,c223_3,e223,hx223_0,hx223_1,hx223_2,hx223_3,hl223_3,hi223_3⟩:=at_T30 (Kd.N_reads' HO_0.out).2.2 (ji9) p223 q223;obtain rfl:ad222 = ad223:=(by injection e223);obtain ⟨ce223,hce223,hMe223,hcc223⟩:=Kd.N_get HO_0.out z30 (ji9) p223 (by first|exact q223|exact od|(have e_:=(Kd.N_reads' HO_0.out).1;omega));obtain ⟨ua223_3,uc223_3,rfl,ul223_3,ge223_3⟩:=k30_openF hMe223;have hv223_3:=hcc223 3 _ rfl;rw [add_field _ _ 3 (by omega)] at hv223_3;replace hv223_3:=Option.some.inj (hv223_3.symm.trans hx223_3)
            injection hv223_3 with hva_ hvn_ hvc_
            rw [hva_] at ge223_3;rw [hvc_] at ul223_3;have HL223_3:=Aside0.mk (show Kd.V k30 30 _ w0.heap.size _ _ ((rd_T30 x0_2 (ji9)).f3) from Kd.V_mk ul223_3 ge223_3);clear hva_ hvn_ hvc_ ge223_3 ul223_3;clear hcc223 hce223;have HR223_3:=Aside0.mk hi223_3;have HC223_3:=Aside0.mk hl223_3;clear hi223_3 hl223_3;replace p223:=eq_true p223;replace q223:=eq_true q223
            refine start_ (n:=17) (S:=fun w'=>w'.cell? (ad222.add ((x9_2).toNat * 4)) = some (.int .i64 ((rd_T30 x0_2 x9_2).f0))∧w'.cell? ⟨(ad222.add ((x9_2).toNat * 4)).block,(ad222.add ((x9_2).toNat * 4)).off + 1,none⟩ = some (.int .i64 ((rd_T30 x0_2 x9_2).f1))∧w'.cell? ⟨(ad222.add ((x9_2).toNat * 4)).block,(ad222.add ((x9_2).toNat * 4)).off + 2,none⟩ = some (.string ((rd_T30 x0_2 x9_2).f2))∧w'.cell? ⟨(ad222.add ((x9_2).toNat * 4)).block,(ad222.add ((x9_2).toNat * 4)).off + 3,none⟩ = some (.slice A222_3 ((rd_T30 x0_2 x9_2).f3).length c222_3)∧w'.cell? (ad222.add (((ji9)).toNat * 4)) = some (.int .i64 ((rd_T30 x0_2 (ji9)).f0))∧w'.cell? ⟨(ad222.add (((ji9)).toNat * 4)).block,(ad222.add (((ji9)).toNat * 4)).off + 1,none⟩ = some (.int .i64 ((rd_T30 x0_2 (ji9)).f1))∧w'.cell? ⟨(ad222.add (((ji9)).toNat * 4)).block,(ad222.add (((ji9)).toNat * 4)).off + 2,none⟩ = some (.string ((rd_T30 x0_2 (ji9)).f2))∧w'.cell? ⟨(ad222.add (((ji9)).toNat * 4)).block,(ad222.add (((ji9)).toNat * 4)).off + 3,none⟩ = some (.slice A223_3 ((rd_T30 x0_2 (ji9)).f3).length c223_3)) (ds:=[]) #[false,false,false,false,false,false,false,false,false,false,false,false,false,false,false,false,false] (by kernel_rfl) rfl rfl ⟨hx222_0,hx222_1,hx222_2,hx222_3,hx223_0,hx223_1,hx223_2,hx223_3⟩ (fun hHeld=>?_);refine with_tabW slices_insertionSortCmpFunc_of_impl_compareTerms.tab4 slices_insertionSortCmpFunc_of_impl_compareTerms.bits4 (fun HT_ HW_=>?_)
            generalize wr.drew = w22 at HO_0 HK HB HL222_3 HL223_3 HR222_3 HR223_3 hx222_0 hx222_1 hx222_2 hx222_3 hx223_0 hx223_1 hx223_2 hx223_3 hHeld ⊢;refine pu 0 18 ?_;refine pu 1 19 ?_;refine pu 2 20 ?_;refine pu 3 21 ?_;refine pu 4 22 ?_;refine pu 5 23 ?_;refine pu 6 24 ?_;refine pu 7 25 ?_;refine pu 9 27 ?_;refine pu 10 28 ?_;refine pu 11 29 ?_;refine pu 12 30 ?_;refine ta 8 26 hHeld ?_;refine ta 13 31 hHeld ?_
            refine one_ (i:=14) (N:=some 32) #[true,true,true,true,true,true,true,true,true,true,true,true,true,true,true,false,false] rfl rfl (one_of HT_.out (by kernel_rfl)) (by decide) (fun K hK=>?_)
            refine goesT_ (t:=22) Try.func15 (by kernel_rfl) rfl #[.agg #[.int .i64 ((rd_T30 x0_2 x9_2).f0),.int .i64 ((rd_T30 x0_2 x9_2).f1),.string ((rd_T30 x0_2 x9_2).f2),.slice A222_3 ((rd_T30 x0_2 x9_2).f3).length c222_3],.agg #[.int .i64 ((rd_T30 x0_2 (ji9)).f0),.int .i64 ((rd_T30 x0_2 (ji9)).f1),.string ((rd_T30 x0_2 (ji9)).f2),.slice A223_3 ((rd_T30 x0_2 (ji9)).f3).length c223_3]] (by rfl) rfl rfl rfl (by (try simp only [List.map_toArray,List.map_cons,List.map_nil]);first|done|(simp only [hji9];rfl)|rfl|(simp only [List.length_drop,List.length_take];rfl)) ?_
            with_reducible refine (impl_compareTerms.calls k2 ((rd_T30 x0_2 x9_2).f0) ((rd_T30 x0_2 x9_2).f1) ((rd_T30 x0_2 x9_2).f2) _ _ ((rd_T30 x0_2 x9_2).f3) ((rd_T30 x0_2 (ji9)).f0) ((rd_T30 x0_2 (ji9)).f1) ((rd_T30 x0_2 (ji9)).f2) _ _ ((rd_T30 x0_2 (ji9)).f3) t224 _ ?side1 ?side2 ?side3 ?side4 A12.out).mono ?_
            (case side1=>repeat (first|exact (by repeat (first|(with_reducible exact HR222_3.out)|(with_reducible refine Kd.C_alloc ?_ _)|(with_reducible refine Kd.C_drewN ?_ _)|(with_reducible refine Kd.C_drew ?_)|exact HR222_3.out))|(with_reducible refine Kd.C_alloc ?_ _)|(with_reducible refine Kd.C_drewN ?_ _)|(with_reducible refine Kd.C_drew ?_)))
            (case side2=>exact HC222_3.out)
            (case side3=>repeat (first|exact (by repeat (first|(with_reducible exact HR223_3.out)|(with_reducible refine Kd.C_alloc ?_ _)|(with_reducible refine Kd.C_drewN ?_ _)|(with_reducible refine Kd.C_drew ?_)|exact HR223_3.out))|(with_reducible refine Kd.C_alloc ?_ _)|(with_reducible refine Kd.C_drewN ?_ _)|(with_reducible refine Kd.C_drew ?_)))
            (case side4=>exact HC223_3.out)
            rintro e w24 ⟨rfl,hb⟩;have HS0_:=(hb.cell (World.block_lt_of_cell? _ _ (hHeld.1))).trans (hHeld.1);have HS1_:=(hb.cell (World.block_lt_of_cell? _ _ (hHeld.2.1))).trans (hHeld.2.1);have HS2_:=(hb.cell (World.block_lt_of_cell? _ _ (hHeld.2.2.1))).trans (hHeld.2.2.1);have HS3_:=(hb.cell (World.block_lt_of_cell? _ _ (hHeld.2.2.2.1))).trans (hHeld.2.2.2.1);have HS4_:=(hb.cell (World.block_lt_of_cell? _ _ (hHeld.2.2.2.2.1))).trans (hHeld.2.2.2.2.1);have HS5_:=(hb.cell (World.block_lt_of_cell? _ _ (hHeld.2.2.2.2.2.1))).trans (hHeld.2.2.2.2.2.1);have HS6_:=(hb.cell (World.block_lt_of_cell? _ _ (hHeld.2.2.2.2.2.2.1))).trans (hHeld.2.2.2.2.2.2.1);have HS7_:=(hb.cell (World.block_lt_of_cell? _ _ (hHeld.2.2.2.2.2.2.2))).trans (hHeld.2.2.2.2.2.2.2)
            refine ⟨_,rfl,?_⟩
            have n_:=ai (nwm HO_0 hb) <| ai (vwm HL222_3 hb) <| ai (vwm HL223_3 hb) <| ai (Aside0.mk (Kd.C_below (by repeat (first|(with_reducible exact HR222_3.out)|(with_reducible refine Kd.C_alloc ?_ _)|(with_reducible refine Kd.C_drewN ?_ _)|(with_reducible refine Kd.C_drew ?_)|exact HR222_3.out)) hb)) <| ai (Aside0.mk (Kd.C_below (by repeat (first|(with_reducible exact HR223_3.out)|(with_reducible refine Kd.C_alloc ?_ _)|(with_reducible refine Kd.C_drewN ?_ _)|(with_reducible refine Kd.C_drew ?_)|exact HR223_3.out)) hb)) <| ai (Aside0.mk (Kept.below (S:=(fun k_=>P0_ k_)) (by repeat (first|(with_reducible first|exact HK.out|apply Kept.alloc|apply Kept.drewN|apply Kept.drew)|exact HK.out)) hb)) <| bq HB hb;clear HO_0 HL222_3 HL223_3 HR222_3 HR223_3 HK HB;obtain ⟨HO_0,HL222_3,HL223_3,HR222_3,HR223_3,HK,HB⟩:=n_;(try clear hb);(try clear hk)
            refine hK.out _ _ ⟨HS0_,HS1_,HS2_,HS3_,HS4_,HS5_,HS6_,HS7_⟩ (fun hHeld=>?_)
            clear hK K
            refine norm_ (a':=?_) ?_ ?_
            rotate_left
            ·show Act.put _ (some 32) _ = _
             simp only [Act.put,List.setIfInBounds_toArray,List.set_cons_zero,List.set_cons_succ,i64_w,i32_w]
             rfl
            refine pu 15 33 ?_;refine pu 16 34 ?_
            refine done_ (done_of HT_.out (by kernel_rfl)) ?_
            try go_wp2
            go_roundg k2
            case measure=>have:=HK1.out;have:=HK2.out;omega
            case rel=>exact ⟨(x0_2),(wrap64 (x8_1 + 1)),(cl2),H',⟨by have:=HK1.out;have:=HK2.out;omega⟩,⟨ndm HO_0.out⟩,⟨by repeat (first|(with_reducible first|exact HK.out|apply Kept.alloc|apply Kept.drewN|apply Kept.drew)|exact HK.out)⟩,⟨bl HB.out⟩⟩
          ·rw [if_neg c11] at H
           exact absurd H (by simp)
         ·rw [if_neg c10] at H
          exact absurd H (by simp)
        ·rw [if_neg c8] at H
         exact absurd H (by simp)
       ·rw [if_neg c7] at H
        exact absurd H (by simp)
      ·rw [if_neg c6] at H
       have c6b0:decide (a1 < x9_2) = false:=decide_eq_false c6;clear c6;have H':=Aside0.mk H;clear H
       try go_wp2
       have n_:=ai (Aside0.mk (Kd.N_drew HO_0.out)) <| ai (Aside0.mk (Kept.drew HK.out)) <| dh HB;clear HO_0 HK HB;obtain ⟨HO_0,HK,HB⟩:=n_
       refine start_ (n:=17) (S:=fun w'=>True) (ds:=[]) #[false,false,false,false,false,false,false,false,false,false,false,false,false,false,false,false,false] (by kernel_rfl) rfl rfl trivial (fun hHeld=>?_);refine with_tabW slices_insertionSortCmpFunc_of_impl_compareTerms.tab4 slices_insertionSortCmpFunc_of_impl_compareTerms.bits4 (fun HT_ HW_=>?_)
       generalize wr.drew = w25 at HO_0 HK HB hHeld ⊢;refine pu 0 18 ?_;refine pu 1 19 ?_;refine pu 2 20 ?_;refine pu 3 21 ?_;refine pu 4 22 ?_;refine pu 5 23 ?_;refine pu 6 24 ?_;refine pu 7 25 ?_;refine pu 8 26 ?_;refine pu 9 27 ?_;refine pu 10 28 ?_;refine pu 11 29 ?_;refine pu 12 30 ?_;refine pu 13 31 ?_;refine pu 14 32 ?_;refine pu 15 33 ?_;refine pu 16 34 ?_
       refine done_ (done_of HT_.out (by kernel_rfl)) ?_
       try go_wp2
       go_roundg k2
       case measure=>have:=HK1.out;have:=HK2.out;omega
       case rel=>exact ⟨(x0_2),(wrap64 (x8_1 + 1)),(cl2),H',⟨by have:=HK1.out;have:=HK2.out;omega⟩,⟨ndm HO_0.out⟩,⟨by repeat (first|(with_reducible first|exact HK.out|apply Kept.alloc|apply Kept.drewN|apply Kept.drew)|exact HK.out)⟩,⟨bl HB.out⟩⟩
   ·rw [if_neg c5] at H
    have c5b0:decide (x8_1 < a2) = false:=decide_eq_false c5;clear c5;obtain rfl:=Option.some.inj H
    go_wp2
    first|go_end0|((try simp only [Exit.inBlock,Exit.then]);refine bodyPost_ret (results_none rfl _ _ _) rfl ?_)
    exact ⟨cl,ndm HO_0.out,bl HB.out,by repeat (first|(with_reducible first|exact HK.out|apply Kept.alloc|apply Kept.drewN|apply Kept.drew)|exact HK.out)⟩

end Go.Proofs.Ytkpompobnmdneaa.QFnSorted
