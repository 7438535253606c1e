/- Walks of this program by an abstract machine: the text ShB. No conditions. -/
import Derived.Test.YtnbiilpcidglpaaShA
set_option linter.unusedSimpArgs false
set_option linter.unusedVariables false

namespace Go.Aw
open Go.Proofs

section
variable {ext : FuncId → List AV → Option AV} (hx : ∀ f args, ext f args = none)
include hx

theorem agree_spec (a b : List Sc.Strm) (ha : okS a) (hb : okS b) : cL (EE ext) n_law52_agree [.list (a.map encS), .list (b.map encS)] = some (.agg (vd (Sc.agree a b))) := by
  have hA := Agree_spec hx a b ha hb
  rcases hv : Sc.agree a b with _ | ⟨n, k⟩
  · simp only [hv, vd] at hA
    refine cL_walk (fn := c_law52_agree) t_law52_agree (hx _ _) rfl fun s hl g => ?_
    have g0 : gt s 0 = _ := g 0 (Nat.lt_of_sub_eq_succ rfl)
    have g1 : gt s 1 = _ := g 1 (Nat.lt_of_sub_eq_succ rfl)
    clear g
    replace hl : s.length = 19 := hl
    simp only [List.getD_cons_zero, List.getD_cons_succ] at g0 g1
    simp only [c_law52_agree]
    repeat first
      | apply Xw_seq
      | apply Xw_block
      | (apply Xw_region; · (simp only [xr, xl, xm, xh, xb, eq_self, Nat.reduceLT, Nat.reduceEqDiff, Nat.reduceAdd, Nat.reduceSub, Nat.reduceMul, Nat.reduceLeDiff, Int.reduceToNat, Int.reduceLE, Int.reduceLT, Int.reduceNeg, Int.reduceEq, runOps, runOp, runOp1, inlined, evOp, putD, amin, amax, abin, abinb, aun, AV.idx, sub, fillB, splice, AV.solid, AV.one, List.all_cons, List.all_nil, Bool.and_true, Bool.true_and, Bool.false_and, Bool.and_false, Bool.not_true, Bool.not_false, if_true, if_false, Nat.le_refl, Nat.zero_add, Bool.false_eq_true, reduceCtorEq, not_false_eq_true, ne_eq, hl, g0, g1, acall, xt, frz, es, hA]; with_reducible rfl)
         · rfl
         (try simp only [onEx_normal, outOf_normal]))
      | (apply Xw_skip; (try simp only [onEx_normal, outOf_normal]))
      | (apply Xw_exit; (try simp only [onEx_exit, outOf_exit, onEx_normal, outOf_normal, if_true, Nat.reduceEqDiff, if_false]))
    apply Xw_ret
    (try simp only [onEx_ret, outOf_ret])
    refine ⟨(by simp), _, (by simp only [getAll, ARes.get, xr, xl, xm, xh, xb, eq_self, Nat.reduceLT, Nat.reduceEqDiff, Nat.reduceAdd, Nat.reduceSub, Nat.reduceMul, Nat.reduceLeDiff, Int.reduceToNat, Int.reduceLE, Int.reduceLT, Int.reduceNeg, Int.reduceEq, runOps, runOp, runOp1, inlined, evOp, putD, amin, amax, abin, abinb, aun, AV.idx, sub, fillB, splice, AV.solid, AV.one, List.all_cons, List.all_nil, Bool.and_true, Bool.true_and, Bool.false_and, Bool.and_false, Bool.not_true, Bool.not_false, if_true, if_false, Nat.le_refl, Nat.zero_add, Bool.false_eq_true, reduceCtorEq, not_false_eq_true, ne_eq, hl]; rfl), ?_⟩
    (try simp only [handBack, xt, xl])
    rfl
  · simp only [hv, vd] at hA
    refine cL_walk (fn := c_law52_agree) t_law52_agree (hx _ _) rfl fun s hl g => ?_
    have g0 : gt s 0 = _ := g 0 (Nat.lt_of_sub_eq_succ rfl)
    have g1 : gt s 1 = _ := g 1 (Nat.lt_of_sub_eq_succ rfl)
    clear g
    replace hl : s.length = 19 := hl
    simp only [List.getD_cons_zero, List.getD_cons_succ] at g0 g1
    simp only [c_law52_agree]
    repeat first
      | apply Xw_seq
      | apply Xw_block
      | (apply Xw_region; · (simp only [xr, xl, xm, xh, xb, eq_self, Nat.reduceLT, Nat.reduceEqDiff, Nat.reduceAdd, Nat.reduceSub, Nat.reduceMul, Nat.reduceLeDiff, Int.reduceToNat, Int.reduceLE, Int.reduceLT, Int.reduceNeg, Int.reduceEq, runOps, runOp, runOp1, inlined, evOp, putD, amin, amax, abin, abinb, aun, AV.idx, sub, fillB, splice, AV.solid, AV.one, List.all_cons, List.all_nil, Bool.and_true, Bool.true_and, Bool.false_and, Bool.and_false, Bool.not_true, Bool.not_false, if_true, if_false, Nat.le_refl, Nat.zero_add, Bool.false_eq_true, reduceCtorEq, not_false_eq_true, ne_eq, hl, g0, g1, acall, xt, frz, es, hA]; with_reducible rfl)
         · rfl
         (try simp only [onEx_normal, outOf_normal]))
      | (apply Xw_skip; (try simp only [onEx_normal, outOf_normal]))
      | (apply Xw_exit; (try simp only [onEx_exit, outOf_exit, onEx_normal, outOf_normal, if_true, Nat.reduceEqDiff, if_false]))
    apply Xw_ret
    (try simp only [onEx_ret, outOf_ret])
    refine ⟨(by simp), _, (by simp only [getAll, ARes.get, xr, xl, xm, xh, xb, eq_self, Nat.reduceLT, Nat.reduceEqDiff, Nat.reduceAdd, Nat.reduceSub, Nat.reduceMul, Nat.reduceLeDiff, Int.reduceToNat, Int.reduceLE, Int.reduceLT, Int.reduceNeg, Int.reduceEq, runOps, runOp, runOp1, inlined, evOp, putD, amin, amax, abin, abinb, aun, AV.idx, sub, fillB, splice, AV.solid, AV.one, List.all_cons, List.all_nil, Bool.and_true, Bool.true_and, Bool.false_and, Bool.and_false, Bool.not_true, Bool.not_false, if_true, if_false, Nat.le_refl, Nat.zero_add, Bool.false_eq_true, reduceCtorEq, not_false_eq_true, ne_eq, hl]; rfl), ?_⟩
    (try simp only [handBack, xt, xl])
    rfl

def cnt (c : Int) (l : List Sc.Strm) : Int := l.foldl (fun c x => IntKind.i64.wrap (c + IntKind.i64.wrap (((x.1.size : Nat) : Int) + ((x.2.1.length : Nat) : Int)))) c

theorem count_spec (a : List Sc.Strm) (ha : okS a) : cL (EE ext) n_law52_count [.list (a.map encS)] = some (.int .i64 (cnt a.length a)) := by
  have hal := ha.1
  refine cL_walk (fn := c_law52_count) t_law52_count (hx _ _) rfl fun s hl g => ?_
  have g0 : gt s 0 = _ := g 0 (Nat.lt_of_sub_eq_succ rfl)
  clear g
  replace hl : s.length = 29 := hl
  simp only [List.getD_cons_zero, List.getD_cons_succ] at g0
  simp only [c_law52_count]
  repeat first
    | apply Xw_seq
    | apply Xw_block
    | (apply Xw_region; · (simp only [xr, xl, xm, xh, xb, eq_self, Nat.reduceLT, Nat.reduceEqDiff, Nat.reduceAdd, Nat.reduceSub, Nat.reduceMul, Nat.reduceLeDiff, Int.reduceToNat, Int.reduceLE, Int.reduceLT, Int.reduceNeg, Int.reduceEq, runOps, runOp, runOp1, inlined, evOp, putD, amin, amax, abin, abinb, aun, AV.idx, sub, fillB, splice, AV.solid, AV.one, List.all_cons, List.all_nil, Bool.and_true, Bool.true_and, Bool.false_and, Bool.and_false, Bool.not_true, Bool.not_false, if_true, if_false, Nat.le_refl, Nat.zero_add, Bool.false_eq_true, reduceCtorEq, not_false_eq_true, ne_eq, hl, g0]; with_reducible rfl)
       · rfl
       (try simp only [onEx_normal, outOf_normal]))
    | (apply Xw_skip; (try simp only [onEx_normal, outOf_normal]))
    | (apply Xw_exit; (try simp only [onEx_exit, outOf_exit, onEx_normal, outOf_normal, if_true, Nat.reduceEqDiff, if_false]))
  apply Xw_loop (fun m st => ∃ i : Nat, m = a.length - i ∧ i ≤ a.length ∧ st.s.length = 29 ∧ gt st.s 0 = .list (a.map encS) ∧ gt st.s 3 = .int .i64 (cnt a.length (a.take i)) ∧ gt st.s 4 = .int .i64 i) a.length
  · refine ⟨0, rfl, Nat.zero_le _, ?_⟩
    simp only [xr, xl, xm, xh, xb, eq_self, Nat.reduceLT, Nat.reduceEqDiff, Nat.reduceAdd, Nat.reduceSub, Nat.reduceMul, Nat.reduceLeDiff, Int.reduceToNat, Int.reduceLE, Int.reduceLT, Int.reduceNeg, Int.reduceEq, runOps, runOp, runOp1, inlined, evOp, putD, amin, amax, abin, abinb, aun, AV.idx, sub, fillB, splice, AV.solid, AV.one, List.all_cons, List.all_nil, Bool.and_true, Bool.true_and, Bool.false_and, Bool.and_false, Bool.not_true, Bool.not_false, if_true, if_false, Nat.le_refl, Nat.zero_add, Bool.false_eq_true, reduceCtorEq, not_false_eq_true, ne_eq, hl, g0, cnt, List.foldl_nil]
  clear hl g0 s
  rintro m s h ck ⟨i, hm, hi, hl, g0, g3, g4⟩
  simp only at hl g0 g3 g4
  repeat first
    | apply Xw_seq
    | apply Xw_block
    | (apply Xw_region; · (simp only [xr, xl, xm, xh, xb, eq_self, Nat.reduceLT, Nat.reduceEqDiff, Nat.reduceAdd, Nat.reduceSub, Nat.reduceMul, Nat.reduceLeDiff, Int.reduceToNat, Int.reduceLE, Int.reduceLT, Int.reduceNeg, Int.reduceEq, runOps, runOp, runOp1, inlined, evOp, putD, amin, amax, abin, abinb, aun, AV.idx, sub, fillB, splice, AV.solid, AV.one, List.all_cons, List.all_nil, Bool.and_true, Bool.true_and, Bool.false_and, Bool.and_false, Bool.not_true, Bool.not_false, if_true, if_false, Nat.le_refl, Nat.zero_add, Bool.false_eq_true, reduceCtorEq, not_false_eq_true, ne_eq, hl, g0, g4]; with_reducible rfl)
       · rfl
       (try simp only [onEx_normal, outOf_normal]))
    | (apply Xw_skip; (try simp only [onEx_normal, outOf_normal]))
    | (apply Xw_exit; (try simp only [onEx_exit, outOf_exit, onEx_normal, outOf_normal, if_true, Nat.reduceEqDiff, if_false]))
  refine Xw_cond (by simp only [xr, xl, xm, xh, xb, eq_self, Nat.reduceLT, Nat.reduceEqDiff, Nat.reduceAdd, Nat.reduceSub, Nat.reduceMul, Nat.reduceLeDiff, Int.reduceToNat, Int.reduceLE, Int.reduceLT, Int.reduceNeg, Int.reduceEq, runOps, runOp, runOp1, inlined, evOp, putD, amin, amax, abin, abinb, aun, AV.idx, sub, fillB, splice, AV.solid, AV.one, List.all_cons, List.all_nil, Bool.and_true, Bool.true_and, Bool.false_and, Bool.and_false, Bool.not_true, Bool.not_false, if_true, if_false, Nat.le_refl, Nat.zero_add, Bool.false_eq_true, reduceCtorEq, not_false_eq_true, ne_eq, hl]; with_reducible rfl) (fun hc => ?_) (fun hc => ?_)
  · have hlt : i < a.length := by simpa using hc
    obtain ⟨x, hix⟩ : ∃ x, a[i]? = some x := ⟨a[i]'(by omega), List.getElem?_eq_getElem _⟩
    have htk : cnt a.length (a.take (i + 1)) = IntKind.i64.wrap (cnt a.length (a.take i) + IntKind.i64.wrap (((x.1.size : Nat) : Int) + ((x.2.1.length : Nat) : Int))) := by
      unfold cnt
      rw [List.take_add_one, hix, List.foldl_append]
      rfl
    clear hc
    repeat first
      | apply Xw_seq
      | apply Xw_block
      | (apply Xw_region; · (simp only [xr, xl, xm, xh, xb, eq_self, Nat.reduceLT, Nat.reduceEqDiff, Nat.reduceAdd, Nat.reduceSub, Nat.reduceMul, Nat.reduceLeDiff, Int.reduceToNat, Int.reduceLE, Int.reduceLT, Int.reduceNeg, Int.reduceEq, runOps, runOp, runOp1, inlined, evOp, putD, amin, amax, abin, abinb, aun, AV.idx, sub, fillB, splice, AV.solid, AV.one, List.all_cons, List.all_nil, Bool.and_true, Bool.true_and, Bool.false_and, Bool.and_false, Bool.not_true, Bool.not_false, if_true, if_false, Nat.le_refl, Nat.zero_add, Bool.false_eq_true, reduceCtorEq, not_false_eq_true, ne_eq, hl, g0, g3, g4, hix, encS, wrap_succ (show i < 9223372036854775807 by omega)]; with_reducible rfl)
         · rfl
         (try simp only [onEx_normal, outOf_normal]))
      | (apply Xw_skip; (try simp only [onEx_normal, outOf_normal]))
      | (apply Xw_exit; (try simp only [onEx_exit, outOf_exit, onEx_normal, outOf_normal, if_true, Nat.reduceEqDiff, if_false]))
    exact ⟨a.length - (i + 1), by omega, i + 1, rfl, by omega, by simp only [xr, xl, xm, xh, xb, eq_self, Nat.reduceLT, Nat.reduceEqDiff, Nat.reduceAdd, Nat.reduceSub, Nat.reduceMul, Nat.reduceLeDiff, Int.reduceToNat, Int.reduceLE, Int.reduceLT, Int.reduceNeg, Int.reduceEq, runOps, runOp, runOp1, inlined, evOp, putD, amin, amax, abin, abinb, aun, AV.idx, sub, fillB, splice, AV.solid, AV.one, List.all_cons, List.all_nil, Bool.and_true, Bool.true_and, Bool.false_and, Bool.and_false, Bool.not_true, Bool.not_false, if_true, if_false, Nat.le_refl, Nat.zero_add, Bool.false_eq_true, reduceCtorEq, not_false_eq_true, ne_eq, hl, g0, htk]⟩
  · skip
    repeat first
      | apply Xw_seq
      | apply Xw_block
      | (apply Xw_region; · (simp only [xr, xl, xm, xh, xb, eq_self, Nat.reduceLT, Nat.reduceEqDiff, Nat.reduceAdd, Nat.reduceSub, Nat.reduceMul, Nat.reduceLeDiff, Int.reduceToNat, Int.reduceLE, Int.reduceLT, Int.reduceNeg, Int.reduceEq, runOps, runOp, runOp1, inlined, evOp, putD, amin, amax, abin, abinb, aun, AV.idx, sub, fillB, splice, AV.solid, AV.one, List.all_cons, List.all_nil, Bool.and_true, Bool.true_and, Bool.false_and, Bool.and_false, Bool.not_true, Bool.not_false, if_true, if_false, Nat.le_refl, Nat.zero_add, Bool.false_eq_true, reduceCtorEq, not_false_eq_true, ne_eq, hl, g3]; with_reducible rfl)
         · rfl
         (try simp only [onEx_normal, outOf_normal]))
      | (apply Xw_skip; (try simp only [onEx_normal, outOf_normal]))
      | (apply Xw_exit; (try simp only [onEx_exit, outOf_exit, onEx_normal, outOf_normal, if_true, Nat.reduceEqDiff, if_false]))
    apply Xw_ret
    (try simp only [onEx_ret, outOf_ret])
    refine ⟨(by simp), _, (by simp only [getAll, ARes.get, xr, xl, xm, xh, xb, eq_self, Nat.reduceLT, Nat.reduceEqDiff, Nat.reduceAdd, Nat.reduceSub, Nat.reduceMul, Nat.reduceLeDiff, Int.reduceToNat, Int.reduceLE, Int.reduceLT, Int.reduceNeg, Int.reduceEq, runOps, runOp, runOp1, inlined, evOp, putD, amin, amax, abin, abinb, aun, AV.idx, sub, fillB, splice, AV.solid, AV.one, List.all_cons, List.all_nil, Bool.and_true, Bool.true_and, Bool.false_and, Bool.and_false, Bool.not_true, Bool.not_false, if_true, if_false, Nat.le_refl, Nat.zero_add, Bool.false_eq_true, reduceCtorEq, not_false_eq_true, ne_eq, hl]; rfl), ?_⟩
    (try simp only [handBack, xt, xl])
    have : i = a.length := by simp only [decide_eq_false_iff_not] at hc; omega
    rw [this, List.take_length]

theorem settled1_spec (x y : Sc.Strm) : cL (EE ext) n_shadow_Settled_1 [encS x, encS y] = some (.bool (decide (x.1 = y.1) && decide (x.2.1.length = y.2.1.length))) := by
  by_cases h : x.1 = y.1
  · have hd : decide (x.1 = y.1) = true := by simpa using h
    refine cL_walk (fn := c_shadow_Settled_1) t_shadow_Settled_1 (hx _ _) rfl fun s hl g => ?_
    have g0 : gt s 0 = _ := g 0 (Nat.lt_of_sub_eq_succ rfl)
    have g1 : gt s 1 = _ := g 1 (Nat.lt_of_sub_eq_succ rfl)
    clear g
    replace hl : s.length = 19 := hl
    simp only [List.getD_cons_zero, List.getD_cons_succ, encS] at g0 g1
    simp only [c_shadow_Settled_1]
    repeat first
      | apply Xw_seq
      | apply Xw_block
      | (apply Xw_region; · (simp only [xr, xl, xm, xh, xb, eq_self, Nat.reduceLT, Nat.reduceEqDiff, Nat.reduceAdd, Nat.reduceSub, Nat.reduceMul, Nat.reduceLeDiff, Int.reduceToNat, Int.reduceLE, Int.reduceLT, Int.reduceNeg, Int.reduceEq, runOps, runOp, runOp1, inlined, evOp, putD, amin, amax, abin, abinb, aun, AV.idx, sub, fillB, splice, AV.solid, AV.one, List.all_cons, List.all_nil, Bool.and_true, Bool.true_and, Bool.false_and, Bool.and_false, Bool.not_true, Bool.not_false, if_true, if_false, Nat.le_refl, Nat.zero_add, Bool.false_eq_true, reduceCtorEq, not_false_eq_true, ne_eq, hl, g0, g1, hd]; with_reducible rfl)
         · rfl
         (try simp only [onEx_normal, outOf_normal]))
      | (apply Xw_skip; (try simp only [onEx_normal, outOf_normal]))
      | (apply Xw_exit; (try simp only [onEx_exit, outOf_exit, onEx_normal, outOf_normal, if_true, Nat.reduceEqDiff, if_false]))
    apply Xw_ret
    (try simp only [onEx_ret, outOf_ret])
    refine ⟨(by simp), _, (by simp only [getAll, ARes.get, xr, xl, xm, xh, xb, eq_self, Nat.reduceLT, Nat.reduceEqDiff, Nat.reduceAdd, Nat.reduceSub, Nat.reduceMul, Nat.reduceLeDiff, Int.reduceToNat, Int.reduceLE, Int.reduceLT, Int.reduceNeg, Int.reduceEq, runOps, runOp, runOp1, inlined, evOp, putD, amin, amax, abin, abinb, aun, AV.idx, sub, fillB, splice, AV.solid, AV.one, List.all_cons, List.all_nil, Bool.and_true, Bool.true_and, Bool.false_and, Bool.and_false, Bool.not_true, Bool.not_false, if_true, if_false, Nat.le_refl, Nat.zero_add, Bool.false_eq_true, reduceCtorEq, not_false_eq_true, ne_eq, hl, hd]; rfl), ?_⟩
    (try simp only [handBack, xt, xl])
    simp [h]
    omega
  · have hd : decide (x.1 = y.1) = false := by simpa using h
    refine cL_walk (fn := c_shadow_Settled_1) t_shadow_Settled_1 (hx _ _) rfl fun s hl g => ?_
    have g0 : gt s 0 = _ := g 0 (Nat.lt_of_sub_eq_succ rfl)
    have g1 : gt s 1 = _ := g 1 (Nat.lt_of_sub_eq_succ rfl)
    clear g
    replace hl : s.length = 19 := hl
    simp only [List.getD_cons_zero, List.getD_cons_succ, encS] at g0 g1
    simp only [c_shadow_Settled_1]
    repeat first
      | apply Xw_seq
      | apply Xw_block
      | (apply Xw_region; · (simp only [xr, xl, xm, xh, xb, eq_self, Nat.reduceLT, Nat.reduceEqDiff, Nat.reduceAdd, Nat.reduceSub, Nat.reduceMul, Nat.reduceLeDiff, Int.reduceToNat, Int.reduceLE, Int.reduceLT, Int.reduceNeg, Int.reduceEq, runOps, runOp, runOp1, inlined, evOp, putD, amin, amax, abin, abinb, aun, AV.idx, sub, fillB, splice, AV.solid, AV.one, List.all_cons, List.all_nil, Bool.and_true, Bool.true_and, Bool.false_and, Bool.and_false, Bool.not_true, Bool.not_false, if_true, if_false, Nat.le_refl, Nat.zero_add, Bool.false_eq_true, reduceCtorEq, not_false_eq_true, ne_eq, hl, g0, g1, hd]; with_reducible rfl)
         · rfl
         (try simp only [onEx_normal, outOf_normal]))
      | (apply Xw_skip; (try simp only [onEx_normal, outOf_normal]))
      | (apply Xw_exit; (try simp only [onEx_exit, outOf_exit, onEx_normal, outOf_normal, if_true, Nat.reduceEqDiff, if_false]))
    apply Xw_ret
    (try simp only [onEx_ret, outOf_ret])
    refine ⟨(by simp), _, (by simp only [getAll, ARes.get, xr, xl, xm, xh, xb, eq_self, Nat.reduceLT, Nat.reduceEqDiff, Nat.reduceAdd, Nat.reduceSub, Nat.reduceMul, Nat.reduceLeDiff, Int.reduceToNat, Int.reduceLE, Int.reduceLT, Int.reduceNeg, Int.reduceEq, runOps, runOp, runOp1, inlined, evOp, putD, amin, amax, abin, abinb, aun, AV.idx, sub, fillB, splice, AV.solid, AV.one, List.all_cons, List.all_nil, Bool.and_true, Bool.true_and, Bool.false_and, Bool.and_false, Bool.not_true, Bool.not_false, if_true, if_false, Nat.le_refl, Nat.zero_add, Bool.false_eq_true, reduceCtorEq, not_false_eq_true, ne_eq, hl, hd]; rfl), ?_⟩
    (try simp only [handBack, xt, xl])
    simp [h]

theorem stream1_spec (a : List Sc.Strm) (ha : okS a) (n : ByteArray) : cL (EE ext) n_law52_stream1 [.list (a.map encS), .str n] = some (.list ((Sc.stream1 a n).map encS)) := by
  have hal := ha.1
  refine cL_walk (fn := c_law52_stream1) t_law52_stream1 (hx _ _) rfl fun s hl g => ?_
  have g0 : gt s 0 = _ := g 0 (Nat.lt_of_sub_eq_succ rfl)
  have g1 : gt s 1 = _ := g 1 (Nat.lt_of_sub_eq_succ rfl)
  clear g
  replace hl : s.length = 24 := hl
  simp only [List.getD_cons_zero, List.getD_cons_succ] at g0 g1
  simp only [c_law52_stream1]
  repeat first
    | apply Xw_seq
    | apply Xw_block
    | (apply Xw_region; · (simp only [xr, xl, xm, xh, xb, eq_self, Nat.reduceLT, Nat.reduceEqDiff, Nat.reduceAdd, Nat.reduceSub, Nat.reduceMul, Nat.reduceLeDiff, Int.reduceToNat, Int.reduceLE, Int.reduceLT, Int.reduceNeg, Int.reduceEq, runOps, runOp, runOp1, inlined, evOp, putD, amin, amax, abin, abinb, aun, AV.idx, sub, fillB, splice, AV.solid, AV.one, List.all_cons, List.all_nil, Bool.and_true, Bool.true_and, Bool.false_and, Bool.and_false, Bool.not_true, Bool.not_false, if_true, if_false, Nat.le_refl, Nat.zero_add, Bool.false_eq_true, reduceCtorEq, not_false_eq_true, ne_eq, hl, g0, g1]; with_reducible rfl)
       · rfl
       (try simp only [onEx_normal, outOf_normal]))
    | (apply Xw_skip; (try simp only [onEx_normal, outOf_normal]))
    | (apply Xw_exit; (try simp only [onEx_exit, outOf_exit, onEx_normal, outOf_normal, if_true, Nat.reduceEqDiff, if_false]))
  apply Xw_loop (fun m st => ∃ i : Nat, m = a.length - i ∧ i ≤ a.length ∧ (∀ j x, j < i → a[j]? = some x → ¬ x.1 = n) ∧ st.s.length = 24 ∧ gt st.s 0 = .list (a.map encS) ∧ gt st.s 1 = .str n ∧ gt st.s 5 = .int .i64 i) a.length
  · refine ⟨0, rfl, Nat.zero_le _, fun j x h => absurd h (Nat.not_lt_zero _), ?_⟩
    simp only [xr, xl, xm, xh, xb, eq_self, Nat.reduceLT, Nat.reduceEqDiff, Nat.reduceAdd, Nat.reduceSub, Nat.reduceMul, Nat.reduceLeDiff, Int.reduceToNat, Int.reduceLE, Int.reduceLT, Int.reduceNeg, Int.reduceEq, runOps, runOp, runOp1, inlined, evOp, putD, amin, amax, abin, abinb, aun, AV.idx, sub, fillB, splice, AV.solid, AV.one, List.all_cons, List.all_nil, Bool.and_true, Bool.true_and, Bool.false_and, Bool.and_false, Bool.not_true, Bool.not_false, if_true, if_false, Nat.le_refl, Nat.zero_add, Bool.false_eq_true, reduceCtorEq, not_false_eq_true, ne_eq, hl, g0, g1]
  clear hl g0 g1 s
  rintro m s h ck ⟨i, hm, hi, hp, hl, g0, g1, g5⟩
  simp only at hl g0 g1 g5
  repeat first
    | apply Xw_seq
    | apply Xw_block
    | (apply Xw_region; · (simp only [xr, xl, xm, xh, xb, eq_self, Nat.reduceLT, Nat.reduceEqDiff, Nat.reduceAdd, Nat.reduceSub, Nat.reduceMul, Nat.reduceLeDiff, Int.reduceToNat, Int.reduceLE, Int.reduceLT, Int.reduceNeg, Int.reduceEq, runOps, runOp, runOp1, inlined, evOp, putD, amin, amax, abin, abinb, aun, AV.idx, sub, fillB, splice, AV.solid, AV.one, List.all_cons, List.all_nil, Bool.and_true, Bool.true_and, Bool.false_and, Bool.and_false, Bool.not_true, Bool.not_false, if_true, if_false, Nat.le_refl, Nat.zero_add, Bool.false_eq_true, reduceCtorEq, not_false_eq_true, ne_eq, hl, g0, g5]; with_reducible rfl)
       · rfl
       (try simp only [onEx_normal, outOf_normal]))
    | (apply Xw_skip; (try simp only [onEx_normal, outOf_normal]))
    | (apply Xw_exit; (try simp only [onEx_exit, outOf_exit, onEx_normal, outOf_normal, if_true, Nat.reduceEqDiff, if_false]))
  refine Xw_cond (by simp only [xr, xl, xm, xh, xb, eq_self, Nat.reduceLT, Nat.reduceEqDiff, Nat.reduceAdd, Nat.reduceSub, Nat.reduceMul, Nat.reduceLeDiff, Int.reduceToNat, Int.reduceLE, Int.reduceLT, Int.reduceNeg, Int.reduceEq, runOps, runOp, runOp1, inlined, evOp, putD, amin, amax, abin, abinb, aun, AV.idx, sub, fillB, splice, AV.solid, AV.one, List.all_cons, List.all_nil, Bool.and_true, Bool.true_and, Bool.false_and, Bool.and_false, Bool.not_true, Bool.not_false, if_true, if_false, Nat.le_refl, Nat.zero_add, Bool.false_eq_true, reduceCtorEq, not_false_eq_true, ne_eq, hl]; with_reducible rfl) (fun hc => ?_) (fun hc => ?_)
  · have hlt : i < a.length := by simpa using hc
    obtain ⟨x, hix⟩ : ∃ x, a[i]? = some x := ⟨a[i]'(by omega), List.getElem?_eq_getElem _⟩
    clear hc
    repeat first
      | apply Xw_seq
      | apply Xw_block
      | (apply Xw_region; · (simp only [xr, xl, xm, xh, xb, eq_self, Nat.reduceLT, Nat.reduceEqDiff, Nat.reduceAdd, Nat.reduceSub, Nat.reduceMul, Nat.reduceLeDiff, Int.reduceToNat, Int.reduceLE, Int.reduceLT, Int.reduceNeg, Int.reduceEq, runOps, runOp, runOp1, inlined, evOp, putD, amin, amax, abin, abinb, aun, AV.idx, sub, fillB, splice, AV.solid, AV.one, List.all_cons, List.all_nil, Bool.and_true, Bool.true_and, Bool.false_and, Bool.and_false, Bool.not_true, Bool.not_false, if_true, if_false, Nat.le_refl, Nat.zero_add, Bool.false_eq_true, reduceCtorEq, not_false_eq_true, ne_eq, hl, g0, g1, g5, hix, encS]; with_reducible rfl)
         · rfl
         (try simp only [onEx_normal, outOf_normal]))
      | (apply Xw_skip; (try simp only [onEx_normal, outOf_normal]))
      | (apply Xw_exit; (try simp only [onEx_exit, outOf_exit, onEx_normal, outOf_normal, if_true, Nat.reduceEqDiff, if_false]))
    refine Xw_cond (by simp only [xr, xl, xm, xh, xb, eq_self, Nat.reduceLT, Nat.reduceEqDiff, Nat.reduceAdd, Nat.reduceSub, Nat.reduceMul, Nat.reduceLeDiff, Int.reduceToNat, Int.reduceLE, Int.reduceLT, Int.reduceNeg, Int.reduceEq, runOps, runOp, runOp1, inlined, evOp, putD, amin, amax, abin, abinb, aun, AV.idx, sub, fillB, splice, AV.solid, AV.one, List.all_cons, List.all_nil, Bool.and_true, Bool.true_and, Bool.false_and, Bool.and_false, Bool.not_true, Bool.not_false, if_true, if_false, Nat.le_refl, Nat.zero_add, Bool.false_eq_true, reduceCtorEq, not_false_eq_true, ne_eq, hl]; with_reducible rfl) (fun hc => ?_) (fun hc => ?_)
    · have hsz : sized1 2 (a.map encS) = true := by cases a <;> rfl
      have hle : i + 1 ≤ a.length := hlt
      repeat first
        | apply Xw_seq
        | apply Xw_block
        | (apply Xw_region; · (simp only [xr, xl, xm, xh, xb, eq_self, Nat.reduceLT, Nat.reduceEqDiff, Nat.reduceAdd, Nat.reduceSub, Nat.reduceMul, Nat.reduceLeDiff, Int.reduceToNat, Int.reduceLE, Int.reduceLT, Int.reduceNeg, Int.reduceEq, runOps, runOp, runOp1, inlined, evOp, putD, amin, amax, abin, abinb, aun, AV.idx, sub, fillB, splice, AV.solid, AV.one, List.all_cons, List.all_nil, Bool.and_true, Bool.true_and, Bool.false_and, Bool.and_false, Bool.not_true, Bool.not_false, if_true, if_false, Nat.le_refl, Nat.zero_add, Bool.false_eq_true, reduceCtorEq, not_false_eq_true, ne_eq, hl, g0, g5, wrap_succ (show i < 9223372036854775807 by omega), aslice1, hsz, hle, Nat.le_add_right]; with_reducible rfl)
           · rfl
           (try simp only [onEx_normal, outOf_normal]))
        | (apply Xw_skip; (try simp only [onEx_normal, outOf_normal]))
        | (apply Xw_exit; (try simp only [onEx_exit, outOf_exit, onEx_normal, outOf_normal, if_true, Nat.reduceEqDiff, if_false]))
      apply Xw_ret
      (try simp only [onEx_ret, outOf_ret])
      refine ⟨(by simp), _, (by simp only [getAll, ARes.get, xr, xl, xm, xh, xb, eq_self, Nat.reduceLT, Nat.reduceEqDiff, Nat.reduceAdd, Nat.reduceSub, Nat.reduceMul, Nat.reduceLeDiff, Int.reduceToNat, Int.reduceLE, Int.reduceLT, Int.reduceNeg, Int.reduceEq, runOps, runOp, runOp1, inlined, evOp, putD, amin, amax, abin, abinb, aun, AV.idx, sub, fillB, splice, AV.solid, AV.one, List.all_cons, List.all_nil, Bool.and_true, Bool.true_and, Bool.false_and, Bool.and_false, Bool.not_true, Bool.not_false, if_true, if_false, Nat.le_refl, Nat.zero_add, Bool.false_eq_true, reduceCtorEq, not_false_eq_true, ne_eq, hl]; rfl), ?_⟩
      (try simp only [handBack, xt, xl])
      have : Sc.firstOf a n = some x := by
        unfold Sc.firstOf
        rw [List.find?_eq_some_iff_getElem]
        rw [List.getElem?_eq_getElem hlt] at hix
        cases hix
        exact ⟨hc, i, hlt, rfl, fun j hj => by
          have := hp j _ hj (List.getElem?_eq_getElem (by omega))
          rw [Bool.not_eq_true']
          exact decide_eq_false this⟩
      unfold Sc.stream1
      rw [this, ← List.map_drop, ← List.map_take, show i + 1 - i = 1 by omega, List.drop_eq_getElem_cons hlt]
      rw [List.getElem?_eq_getElem hlt] at hix
      cases hix
      rfl
    · skip
      repeat first
        | apply Xw_seq
        | apply Xw_block
        | (apply Xw_region; · (simp only [xr, xl, xm, xh, xb, eq_self, Nat.reduceLT, Nat.reduceEqDiff, Nat.reduceAdd, Nat.reduceSub, Nat.reduceMul, Nat.reduceLeDiff, Int.reduceToNat, Int.reduceLE, Int.reduceLT, Int.reduceNeg, Int.reduceEq, runOps, runOp, runOp1, inlined, evOp, putD, amin, amax, abin, abinb, aun, AV.idx, sub, fillB, splice, AV.solid, AV.one, List.all_cons, List.all_nil, Bool.and_true, Bool.true_and, Bool.false_and, Bool.and_false, Bool.not_true, Bool.not_false, if_true, if_false, Nat.le_refl, Nat.zero_add, Bool.false_eq_true, reduceCtorEq, not_false_eq_true, ne_eq, hl, g5, wrap_succ (show i < 9223372036854775807 by omega)]; with_reducible rfl)
           · rfl
           (try simp only [onEx_normal, outOf_normal]))
        | (apply Xw_skip; (try simp only [onEx_normal, outOf_normal]))
        | (apply Xw_exit; (try simp only [onEx_exit, outOf_exit, onEx_normal, outOf_normal, if_true, Nat.reduceEqDiff, if_false]))
      exact ⟨a.length - (i + 1), by omega, i + 1, rfl, by omega, fun j y hj hy => by
        by_cases e : j = i
        · subst e; rw [hix] at hy; cases hy; simpa using hc
        · exact hp j y (by omega) hy, by simp only [xr, xl, xm, xh, xb, eq_self, Nat.reduceLT, Nat.reduceEqDiff, Nat.reduceAdd, Nat.reduceSub, Nat.reduceMul, Nat.reduceLeDiff, Int.reduceToNat, Int.reduceLE, Int.reduceLT, Int.reduceNeg, Int.reduceEq, runOps, runOp, runOp1, inlined, evOp, putD, amin, amax, abin, abinb, aun, AV.idx, sub, fillB, splice, AV.solid, AV.one, List.all_cons, List.all_nil, Bool.and_true, Bool.true_and, Bool.false_and, Bool.and_false, Bool.not_true, Bool.not_false, if_true, if_false, Nat.le_refl, Nat.zero_add, Bool.false_eq_true, reduceCtorEq, not_false_eq_true, ne_eq, hl, g0, g1]⟩
  · skip
    repeat first
      | apply Xw_seq
      | apply Xw_block
      | (apply Xw_region; · (simp only [xr, xl, xm, xh, xb, eq_self, Nat.reduceLT, Nat.reduceEqDiff, Nat.reduceAdd, Nat.reduceSub, Nat.reduceMul, Nat.reduceLeDiff, Int.reduceToNat, Int.reduceLE, Int.reduceLT, Int.reduceNeg, Int.reduceEq, runOps, runOp, runOp1, inlined, evOp, putD, amin, amax, abin, abinb, aun, AV.idx, sub, fillB, splice, AV.solid, AV.one, List.all_cons, List.all_nil, Bool.and_true, Bool.true_and, Bool.false_and, Bool.and_false, Bool.not_true, Bool.not_false, if_true, if_false, Nat.le_refl, Nat.zero_add, Bool.false_eq_true, reduceCtorEq, not_false_eq_true, ne_eq, hl]; with_reducible rfl)
         · rfl
         (try simp only [onEx_normal, outOf_normal]))
      | (apply Xw_skip; (try simp only [onEx_normal, outOf_normal]))
      | (apply Xw_exit; (try simp only [onEx_exit, outOf_exit, onEx_normal, outOf_normal, if_true, Nat.reduceEqDiff, if_false]))
    apply Xw_ret
    (try simp only [onEx_ret, outOf_ret])
    refine ⟨(by simp), _, (by simp only [getAll, ARes.get, xr, xl, xm, xh, xb, eq_self, Nat.reduceLT, Nat.reduceEqDiff, Nat.reduceAdd, Nat.reduceSub, Nat.reduceMul, Nat.reduceLeDiff, Int.reduceToNat, Int.reduceLE, Int.reduceLT, Int.reduceNeg, Int.reduceEq, runOps, runOp, runOp1, inlined, evOp, putD, amin, amax, abin, abinb, aun, AV.idx, sub, fillB, splice, AV.solid, AV.one, List.all_cons, List.all_nil, Bool.and_true, Bool.true_and, Bool.false_and, Bool.and_false, Bool.not_true, Bool.not_false, if_true, if_false, Nat.le_refl, Nat.zero_add, Bool.false_eq_true, reduceCtorEq, not_false_eq_true, ne_eq, hl]; rfl), ?_⟩
    (try simp only [handBack, xt, xl])
    have : Sc.firstOf a n = none := by
      unfold Sc.firstOf
      rw [List.find?_eq_none]
      intro x hxm
      obtain ⟨j, hj⟩ := List.getElem?_of_mem hxm
      simp only [decide_eq_false_iff_not] at hc
      rw [decide_eq_true_eq]
      exact hp j x (by have := (List.getElem?_eq_some_iff.1 hj).1; omega) hj
    unfold Sc.stream1
    rw [this]
    rfl

theorem settled_no (a b : List Sc.Strm) (ha : okS a) (hb : okS b) (h : Sc.agree a b ≠ none) : cL (EE ext) n_shadow_Settled [.list (a.map encS), .list (b.map encS)] = some (.bool false) := by
  have hA := Agree_spec hx a b ha hb
  rcases hv : Sc.agree a b with _ | ⟨n, k⟩
  · exact absurd hv h
  · simp only [hv, vd] at hA
    refine cL_walk (fn := c_shadow_Settled) t_shadow_Settled (hx _ _) rfl fun s hl g => ?_
    have g0 : gt s 0 = _ := g 0 (Nat.lt_of_sub_eq_succ rfl)
    have g1 : gt s 1 = _ := g 1 (Nat.lt_of_sub_eq_succ rfl)
    clear g
    replace hl : s.length = 21 := hl
    simp only [List.getD_cons_zero, List.getD_cons_succ] at g0 g1
    simp only [c_shadow_Settled]
    repeat first
      | apply Xw_seq
      | apply Xw_block
      | (apply Xw_region; · (simp only [xr, xl, xm, xh, xb, eq_self, Nat.reduceLT, Nat.reduceEqDiff, Nat.reduceAdd, Nat.reduceSub, Nat.reduceMul, Nat.reduceLeDiff, Int.reduceToNat, Int.reduceLE, Int.reduceLT, Int.reduceNeg, Int.reduceEq, runOps, runOp, runOp1, inlined, evOp, putD, amin, amax, abin, abinb, aun, AV.idx, sub, fillB, splice, AV.solid, AV.one, List.all_cons, List.all_nil, Bool.and_true, Bool.true_and, Bool.false_and, Bool.and_false, Bool.not_true, Bool.not_false, if_true, if_false, Nat.le_refl, Nat.zero_add, Bool.false_eq_true, reduceCtorEq, not_false_eq_true, ne_eq, hl, g0, g1, acall, xt, frz, es, hA]; with_reducible rfl)
         · rfl
         (try simp only [onEx_normal, outOf_normal]))
      | (apply Xw_skip; (try simp only [onEx_normal, outOf_normal]))
      | (apply Xw_exit; (try simp only [onEx_exit, outOf_exit, onEx_normal, outOf_normal, if_true, Nat.reduceEqDiff, if_false]))
    apply Xw_ret
    (try simp only [onEx_ret, outOf_ret])
    refine ⟨(by simp), _, (by simp only [getAll, ARes.get, xr, xl, xm, xh, xb, eq_self, Nat.reduceLT, Nat.reduceEqDiff, Nat.reduceAdd, Nat.reduceSub, Nat.reduceMul, Nat.reduceLeDiff, Int.reduceToNat, Int.reduceLE, Int.reduceLT, Int.reduceNeg, Int.reduceEq, runOps, runOp, runOp1, inlined, evOp, putD, amin, amax, abin, abinb, aun, AV.idx, sub, fillB, splice, AV.solid, AV.one, List.all_cons, List.all_nil, Bool.and_true, Bool.true_and, Bool.false_and, Bool.and_false, Bool.not_true, Bool.not_false, if_true, if_false, Nat.le_refl, Nat.zero_add, Bool.false_eq_true, reduceCtorEq, not_false_eq_true, ne_eq, hl]; rfl), ?_⟩
    (try simp only [handBack, xt, xl])

def okB (l : List Sc.Strm) : Prop := l.length * 40 ≤ 140737488355328

def cellS (x : Sc.Strm) : List AV := [.str x.1, .list (x.2.1.map (.int .i64))]

theorem begin_spec (a : List Sc.Strm) (ha : okS a) (hb : okB a) (k : Nat) (hk : k ≤ 1000000000000000000) : cL (EE ext) n_law52_begin [.list (a.map encS), .int .i64 k] = some (.list ((Sc.begins a k).map encS)) := by
  have hal := ha.1
  unfold okB at hb
  refine cL_walk (fn := c_law52_begin) t_law52_begin (hx _ _) rfl fun s hl g => ?_
  have g0 : gt s 0 = _ := g 0 (Nat.lt_of_sub_eq_succ rfl)
  have g1 : gt s 1 = _ := g 1 (Nat.lt_of_sub_eq_succ rfl)
  clear g
  replace hl : s.length = 38 := hl
  simp only [List.getD_cons_zero, List.getD_cons_succ] at g0 g1
  simp only [c_law52_begin]
  repeat first
    | apply Xw_seq
    | apply Xw_block
    | (apply Xw_region; · (simp only [xr, xl, xm, xh, xb, eq_self, Nat.reduceLT, Nat.reduceEqDiff, Nat.reduceAdd, Nat.reduceSub, Nat.reduceMul, Nat.reduceLeDiff, Int.reduceToNat, Int.reduceLE, Int.reduceLT, Int.reduceNeg, Int.reduceEq, runOps, runOp, runOp1, inlined, evOp, putD, amin, amax, abin, abinb, aun, AV.idx, sub, fillB, splice, AV.solid, AV.one, List.all_cons, List.all_nil, Bool.and_true, Bool.true_and, Bool.false_and, Bool.and_false, Bool.not_true, Bool.not_false, if_true, if_false, Nat.le_refl, Nat.zero_add, Bool.false_eq_true, reduceCtorEq, not_false_eq_true, ne_eq, hl, g0, g1, fillS, inRow, inRow1, Ev.and, List.replicate_zero, List.replicate_succ, List.flatten_nil, List.flatten_cons]; with_reducible rfl)
       · rfl
       (try simp only [onEx_normal, outOf_normal]))
    | (apply Xw_skip; (try simp only [onEx_normal, outOf_normal]))
    | (apply Xw_exit; (try simp only [onEx_exit, outOf_exit, onEx_normal, outOf_normal, if_true, Nat.reduceEqDiff, if_false]))
  apply Xw_loop (fun m st => ∃ (i : Nat) (tk : Tok), m = a.length - i ∧ i ≤ a.length ∧ st.s.length = 38 ∧ gt st.s 0 = .list (a.map encS) ∧ gt st.s 1 = .int .i64 k ∧ gt st.s 5 = .sl [7] tk 0 i ∧ gt st.s 6 = .int .i64 i ∧
    st.h.row [7] tk = some ⟨(Sc.begins (a.take i) k).flatMap cellS, 2, true, tk, .W⟩) a.length
  · refine ⟨0, (1, 0, 0), rfl, Nat.zero_le _, ?_⟩
    simp only [xr, xl, xm, xh, xb, eq_self, Nat.reduceLT, Nat.reduceEqDiff, Nat.reduceAdd, Nat.reduceSub, Nat.reduceMul, Nat.reduceLeDiff, Int.reduceToNat, Int.reduceLE, Int.reduceLT, Int.reduceNeg, Int.reduceEq, runOps, runOp, runOp1, inlined, evOp, putD, amin, amax, abin, abinb, aun, AV.idx, sub, fillB, splice, AV.solid, AV.one, List.all_cons, List.all_nil, Bool.and_true, Bool.true_and, Bool.false_and, Bool.and_false, Bool.not_true, Bool.not_false, if_true, if_false, Nat.le_refl, Nat.zero_add, Bool.false_eq_true, reduceCtorEq, not_false_eq_true, ne_eq, hl, g0, g1, List.flatMap_nil, Sc.begins]
  clear hl g0 g1 s
  rintro m s h ck ⟨i, tk, hm, hi, hl, g0, g1, g5, g6, hr⟩
  simp only at hl g0 g1 g5 g6 hr
  repeat first
    | apply Xw_seq
    | apply Xw_block
    | (apply Xw_region; · (simp only [xr, xl, xm, xh, xb, eq_self, Nat.reduceLT, Nat.reduceEqDiff, Nat.reduceAdd, Nat.reduceSub, Nat.reduceMul, Nat.reduceLeDiff, Int.reduceToNat, Int.reduceLE, Int.reduceLT, Int.reduceNeg, Int.reduceEq, runOps, runOp, runOp1, inlined, evOp, putD, amin, amax, abin, abinb, aun, AV.idx, sub, fillB, splice, AV.solid, AV.one, List.all_cons, List.all_nil, Bool.and_true, Bool.true_and, Bool.false_and, Bool.and_false, Bool.not_true, Bool.not_false, if_true, if_false, Nat.le_refl, Nat.zero_add, Bool.false_eq_true, reduceCtorEq, not_false_eq_true, ne_eq, hl, g0, g6]; with_reducible rfl)
       · rfl
       (try simp only [onEx_normal, outOf_normal]))
    | (apply Xw_skip; (try simp only [onEx_normal, outOf_normal]))
    | (apply Xw_exit; (try simp only [onEx_exit, outOf_exit, onEx_normal, outOf_normal, if_true, Nat.reduceEqDiff, if_false]))
  refine Xw_cond (by simp only [xr, xl, xm, xh, xb, eq_self, Nat.reduceLT, Nat.reduceEqDiff, Nat.reduceAdd, Nat.reduceSub, Nat.reduceMul, Nat.reduceLeDiff, Int.reduceToNat, Int.reduceLE, Int.reduceLT, Int.reduceNeg, Int.reduceEq, runOps, runOp, runOp1, inlined, evOp, putD, amin, amax, abin, abinb, aun, AV.idx, sub, fillB, splice, AV.solid, AV.one, List.all_cons, List.all_nil, Bool.and_true, Bool.true_and, Bool.false_and, Bool.and_false, Bool.not_true, Bool.not_false, if_true, if_false, Nat.le_refl, Nat.zero_add, Bool.false_eq_true, reduceCtorEq, not_false_eq_true, ne_eq, hl]; with_reducible rfl) (fun hc => ?_) (fun hc => ?_)
  · have hlt : i < a.length := by simpa using hc
    obtain ⟨x, hix⟩ : ∃ x, a[i]? = some x := ⟨a[i]'(by omega), List.getElem?_eq_getElem _⟩
    clear hc
    have hsz : sized1 1 (x.2.1.map (AV.int .i64)) = true := by cases x.2.1 <;> rfl
    have hbl : ((Sc.begins (a.take i) k).flatMap cellS).length = i * 2 := by rw [flatMap_len cellS 2 _ (fun x _ => rfl)]; simp [Sc.begins]; omega
    have e1 : i ≤ 140737488355328 := by omega
    have e2 : (i + 1) * 40 ≤ 140737488355328 := by omega
    have e3 : ((Sc.begins (a.take i) k).flatMap cellS).take (i * 2) = (Sc.begins (a.take i) k).flatMap cellS := by rw [← hbl, List.take_length]
    have e4 : (Sc.begins (a.take (i + 1)) k).flatMap cellS = (Sc.begins (a.take i) k).flatMap cellS ++ [.str x.1, .list ((x.2.1.map (AV.int .i64)).take (min x.2.1.length k))] := by
      unfold Sc.begins
      rw [List.take_add_one, hix, List.map_append, List.flatMap_append]
      simp only [Option.toList_some, List.map_cons, List.map_nil, List.flatMap_cons, List.flatMap_nil, List.append_nil, cellS]
      rw [← List.map_take, take_min]
    repeat first
      | apply Xw_seq
      | apply Xw_block
      | (apply Xw_region; · (simp only [xr, xl, xm, xh, xb, eq_self, Nat.reduceLT, Nat.reduceEqDiff, Nat.reduceAdd, Nat.reduceSub, Nat.reduceMul, Nat.reduceLeDiff, Int.reduceToNat, Int.reduceLE, Int.reduceLT, Int.reduceNeg, Int.reduceEq, runOps, runOp, runOp1, inlined, evOp, putD, amin, amax, abin, abinb, aun, AV.idx, sub, fillB, splice, AV.solid, AV.one, List.all_cons, List.all_nil, Bool.and_true, Bool.true_and, Bool.false_and, Bool.and_false, Bool.not_true, Bool.not_false, if_true, if_false, Nat.le_refl, Nat.zero_add, Bool.false_eq_true, reduceCtorEq, not_false_eq_true, ne_eq, hl, g0, g1, g5, g6, hix, encS, hr, fillS, inRow, inRow1, Ev.and, List.replicate_zero, List.replicate_succ, List.flatten_nil, List.flatten_cons, aappend, source_sl, append1_sl, append1_nil, bound, and_self, or_true, true_or, and_true, true_and, aslice1, hsz, Nat.min_le_left, Nat.zero_le, Nat.sub_zero, hbl, e1, e2, e3, wrap_succ (show i < 9223372036854775807 by omega)]; with_reducible rfl)
         · rfl
         (try simp only [onEx_normal, outOf_normal]))
      | (apply Xw_skip; (try simp only [onEx_normal, outOf_normal]))
      | (apply Xw_exit; (try simp only [onEx_exit, outOf_exit, onEx_normal, outOf_normal, if_true, Nat.reduceEqDiff, if_false]))
    refine ⟨a.length - (i + 1), by omega, i + 1, (ck + 1, 22, 0), rfl, by omega, ?_⟩
    simp only [xr, xl, xm, xh, xb, eq_self, Nat.reduceLT, Nat.reduceEqDiff, Nat.reduceAdd, Nat.reduceSub, Nat.reduceMul, Nat.reduceLeDiff, Int.reduceToNat, Int.reduceLE, Int.reduceLT, Int.reduceNeg, Int.reduceEq, runOps, runOp, runOp1, inlined, evOp, putD, amin, amax, abin, abinb, aun, AV.idx, sub, fillB, splice, AV.solid, AV.one, List.all_cons, List.all_nil, Bool.and_true, Bool.true_and, Bool.false_and, Bool.and_false, Bool.not_true, Bool.not_false, if_true, if_false, Nat.le_refl, Nat.zero_add, Bool.false_eq_true, reduceCtorEq, not_false_eq_true, ne_eq, hl, g0, g1, e4]
  · have hia : i = a.length := by simp only [decide_eq_false_iff_not] at hc; omega
    subst hia
    rw [List.take_length] at hr
    have hbl : ((Sc.begins a k).flatMap cellS).length = a.length * 2 := by rw [flatMap_len cellS 2 _ (fun x _ => rfl)]; simp [Sc.begins]
    have hg := group_ag cellS 2 (Sc.begins a k) (fun x _ => rfl)
    have hbn : (Sc.begins a k).length = a.length := by simp [Sc.begins]
    rw [hbn] at hg
    repeat first
      | apply Xw_seq
      | apply Xw_block
      | (apply Xw_region; · (simp only [xr, xl, xm, xh, xb, eq_self, Nat.reduceLT, Nat.reduceEqDiff, Nat.reduceAdd, Nat.reduceSub, Nat.reduceMul, Nat.reduceLeDiff, Int.reduceToNat, Int.reduceLE, Int.reduceLT, Int.reduceNeg, Int.reduceEq, runOps, runOp, runOp1, inlined, evOp, putD, amin, amax, abin, abinb, aun, AV.idx, sub, fillB, splice, AV.solid, AV.one, List.all_cons, List.all_nil, Bool.and_true, Bool.true_and, Bool.false_and, Bool.and_false, Bool.not_true, Bool.not_false, if_true, if_false, Nat.le_refl, Nat.zero_add, Bool.false_eq_true, reduceCtorEq, not_false_eq_true, ne_eq, hl, g5]; with_reducible rfl)
         · rfl
         (try simp only [onEx_normal, outOf_normal]))
      | (apply Xw_skip; (try simp only [onEx_normal, outOf_normal]))
      | (apply Xw_exit; (try simp only [onEx_exit, outOf_exit, onEx_normal, outOf_normal, if_true, Nat.reduceEqDiff, if_false]))
    apply Xw_ret
    (try simp only [onEx_ret, outOf_ret])
    refine ⟨(by simp), _, (by simp only [getAll, ARes.get, xr, xl, xm, xh, xb, eq_self, Nat.reduceLT, Nat.reduceEqDiff, Nat.reduceAdd, Nat.reduceSub, Nat.reduceMul, Nat.reduceLeDiff, Int.reduceToNat, Int.reduceLE, Int.reduceLT, Int.reduceNeg, Int.reduceEq, runOps, runOp, runOp1, inlined, evOp, putD, amin, amax, abin, abinb, aun, AV.idx, sub, fillB, splice, AV.solid, AV.one, List.all_cons, List.all_nil, Bool.and_true, Bool.true_and, Bool.false_and, Bool.and_false, Bool.not_true, Bool.not_false, if_true, if_false, Nat.le_refl, Nat.zero_add, Bool.false_eq_true, reduceCtorEq, not_false_eq_true, ne_eq, hl, g5]; rfl), ?_⟩
    (try simp only [handBack, xt, xl])
    simp only [hr, hbl, xl, xr, xl, xm, xh, xb, eq_self, Nat.reduceLT, Nat.reduceEqDiff, Nat.reduceAdd, Nat.reduceSub, Nat.reduceMul, Nat.reduceLeDiff, Int.reduceToNat, Int.reduceLE, Int.reduceLT, Int.reduceNeg, Int.reduceEq, runOps, runOp, runOp1, inlined, evOp, putD, amin, amax, abin, abinb, aun, AV.idx, sub, fillB, splice, AV.solid, AV.one, List.all_cons, List.all_nil, Bool.and_true, Bool.true_and, Bool.false_and, Bool.and_false, Bool.not_true, Bool.not_false, if_true, if_false, Nat.le_refl, Nat.zero_add, Bool.false_eq_true, reduceCtorEq, not_false_eq_true, ne_eq, hg]
    rw [mapT_map (fun x => AV.agg (cellS x)) _ (fun x _ => rfl)]
    rfl
end
end Go.Aw
