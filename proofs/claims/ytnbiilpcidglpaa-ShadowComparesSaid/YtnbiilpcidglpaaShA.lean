/- Walks of this program by an abstract machine: the text ShA. No conditions. -/
import Derived.Test.YtnbiilpcidglpaaAwD
import Derived.Test.YtnbiilpcidglpaaSA0
import Derived.Test.YtnbiilpcidglpaaSc0
set_option linter.unusedSimpArgs false
set_option linter.unusedVariables false

namespace Go.Aw
open Go.Proofs

def encS (x : Sc.Strm) : AV := .agg [.str x.1, .list (x.2.1.map (.int .i64))]

section
variable {ext : FuncId → List AV → Option AV} (hx : ∀ f args, ext f args = none)
include hx

theorem agree1_spec (x : Sc.Strm) (n : ByteArray) (r : List AV) :
    cL (EE ext) n_shadow_Agree_1 [encS x, .fptr (.str n :: r)] = some (.bool (decide (x.1 = n))) := by
  refine cL_walk (fn := c_shadow_Agree_1) t_shadow_Agree_1 (hx _ _) rfl fun s hl g => ?_
  have g0 : gt s 0 = _ := g 0 (Nat.lt_of_sub_eq_succ rfl)
  have g1 : gt s 1 = _ := g 1 (Nat.lt_of_sub_eq_succ rfl)
  clear g
  replace hl : s.length = 9 := hl
  simp only [List.getD_cons_zero, List.getD_cons_succ, encS] at g0 g1
  simp only [c_shadow_Agree_1]
  repeat first
    | apply Xw_seq
    | apply Xw_block
    | (apply Xw_region; · (simp only [xr, xl, xm, xh, xb, eq_self, Nat.reduceLT, Nat.reduceEqDiff, Nat.reduceAdd, Nat.reduceSub, Nat.reduceMul, Nat.reduceLeDiff, Int.reduceToNat, Int.reduceLE, Int.reduceLT, Int.reduceNeg, Int.reduceEq, runOps, runOp, runOp1, inlined, evOp, putD, amin, amax, abin, abinb, aun, AV.idx, sub, fillB, splice, AV.solid, AV.one, List.all_cons, List.all_nil, Bool.and_true, Bool.true_and, Bool.false_and, Bool.and_false, Bool.not_true, Bool.not_false, if_true, if_false, Nat.le_refl, Nat.zero_add, Bool.false_eq_true, reduceCtorEq, not_false_eq_true, ne_eq, hl, g0, g1]; with_reducible rfl)
       · rfl
       (try simp only [onEx_normal, outOf_normal]))
    | (apply Xw_skip; (try simp only [onEx_normal, outOf_normal]))
    | (apply Xw_exit; (try simp only [onEx_exit, outOf_exit, onEx_normal, outOf_normal, if_true, Nat.reduceEqDiff, if_false]))
  apply Xw_ret
  (try simp only [onEx_ret, outOf_ret])
  refine ⟨(by simp), _, (by simp only [getAll, ARes.get, xr, xl, xm, xh, xb, eq_self, Nat.reduceLT, Nat.reduceEqDiff, Nat.reduceAdd, Nat.reduceSub, Nat.reduceMul, Nat.reduceLeDiff, Int.reduceToNat, Int.reduceLE, Int.reduceLT, Int.reduceNeg, Int.reduceEq, runOps, runOp, runOp1, inlined, evOp, putD, amin, amax, abin, abinb, aun, AV.idx, sub, fillB, splice, AV.solid, AV.one, List.all_cons, List.all_nil, Bool.and_true, Bool.true_and, Bool.false_and, Bool.and_false, Bool.not_true, Bool.not_false, if_true, if_false, Nat.le_refl, Nat.zero_add, Bool.false_eq_true, reduceCtorEq, not_false_eq_true, ne_eq, hl]; rfl), ?_⟩
  (try simp only [handBack, xt, xl])

theorem indexS_spec (l : List Sc.Strm) (hlen : l.length ≤ 1000000000000000000) (g : FuncId) (cap : List AV) (p : Sc.Strm → Bool) (hcap : ∀ h, mapT (toTree h 8) cap = some (cap, []))
    (hp : ∀ x ∈ l, cL (EE ext) g (encS x :: cap) = some (.bool (p x))) (hg : (EE ext).inl g = false) (hg' : (EE ext).own g = none) :
    cL (EE ext) n_IndexFunc___Stream_Stream_ [.list (l.map encS), .fn g cap] = some (.int .i64 (match l.findIdx? p with | some i => (i : Int) | none => -1)) := by
  refine cL_walk (fn := c_IndexFunc___Stream_Stream_) t_IndexFunc___Stream_Stream_ (hx _ _) rfl fun s hl g => ?_
  have g0 : gt s 0 = _ := g 0 (Nat.lt_of_sub_eq_succ rfl)
  have g1 : gt s 1 = _ := g 1 (Nat.lt_of_sub_eq_succ rfl)
  clear g
  replace hl : s.length = 19 := hl
  simp only [List.getD_cons_zero, List.getD_cons_succ] at g0 g1
  simp only [c_IndexFunc___Stream_Stream_]
  repeat first
    | apply Xw_seq
    | apply Xw_block
    | (apply Xw_region; · (simp only [xr, xl, xm, xh, xb, eq_self, Nat.reduceLT, Nat.reduceEqDiff, Nat.reduceAdd, Nat.reduceSub, Nat.reduceMul, Nat.reduceLeDiff, Int.reduceToNat, Int.reduceLE, Int.reduceLT, Int.reduceNeg, Int.reduceEq, runOps, runOp, runOp1, inlined, evOp, putD, amin, amax, abin, abinb, aun, AV.idx, sub, fillB, splice, AV.solid, AV.one, List.all_cons, List.all_nil, Bool.and_true, Bool.true_and, Bool.false_and, Bool.and_false, Bool.not_true, Bool.not_false, if_true, if_false, Nat.le_refl, Nat.zero_add, Bool.false_eq_true, reduceCtorEq, not_false_eq_true, ne_eq, hl, g0, g1]; with_reducible rfl)
       · rfl
       (try simp only [onEx_normal, outOf_normal]))
    | (apply Xw_skip; (try simp only [onEx_normal, outOf_normal]))
    | (apply Xw_exit; (try simp only [onEx_exit, outOf_exit, onEx_normal, outOf_normal, if_true, Nat.reduceEqDiff, if_false]))
  apply Xw_loop (fun m st => ∃ i : Nat, m = l.length - i ∧ i ≤ l.length ∧ (∀ j x, j < i → l[j]? = some x → p x = false) ∧ st.s.length = 19 ∧ gt st.s 0 = .list (l.map encS) ∧ gt st.s 1 = .fn g cap ∧ gt st.s 7 = .int .i64 l.length ∧ gt st.s 8 = .int .i64 i) l.length
  · refine ⟨0, rfl, Nat.zero_le _, fun j x h => absurd h (Nat.not_lt_zero _), ?_⟩
    simp only [xr, xl, xm, xh, xb, eq_self, Nat.reduceLT, Nat.reduceEqDiff, Nat.reduceAdd, Nat.reduceSub, Nat.reduceMul, Nat.reduceLeDiff, Int.reduceToNat, Int.reduceLE, Int.reduceLT, Int.reduceNeg, Int.reduceEq, runOps, runOp, runOp1, inlined, evOp, putD, amin, amax, abin, abinb, aun, AV.idx, sub, fillB, splice, AV.solid, AV.one, List.all_cons, List.all_nil, Bool.and_true, Bool.true_and, Bool.false_and, Bool.and_false, Bool.not_true, Bool.not_false, if_true, if_false, Nat.le_refl, Nat.zero_add, Bool.false_eq_true, reduceCtorEq, not_false_eq_true, ne_eq, hl, g0, g1]
  clear hl g0 g1 s
  rintro m s h ck ⟨i, hm, hi, hq, hl, g0, g1, g7, g8⟩
  simp only at hl g0 g1 g7 g8
  repeat first
    | apply Xw_seq
    | apply Xw_block
    | (apply Xw_region; · (simp only [xr, xl, xm, xh, xb, eq_self, Nat.reduceLT, Nat.reduceEqDiff, Nat.reduceAdd, Nat.reduceSub, Nat.reduceMul, Nat.reduceLeDiff, Int.reduceToNat, Int.reduceLE, Int.reduceLT, Int.reduceNeg, Int.reduceEq, runOps, runOp, runOp1, inlined, evOp, putD, amin, amax, abin, abinb, aun, AV.idx, sub, fillB, splice, AV.solid, AV.one, List.all_cons, List.all_nil, Bool.and_true, Bool.true_and, Bool.false_and, Bool.and_false, Bool.not_true, Bool.not_false, if_true, if_false, Nat.le_refl, Nat.zero_add, Bool.false_eq_true, reduceCtorEq, not_false_eq_true, ne_eq, hl, g7, g8]; with_reducible rfl)
       · rfl
       (try simp only [onEx_normal, outOf_normal]))
    | (apply Xw_skip; (try simp only [onEx_normal, outOf_normal]))
    | (apply Xw_exit; (try simp only [onEx_exit, outOf_exit, onEx_normal, outOf_normal, if_true, Nat.reduceEqDiff, if_false]))
  refine Xw_cond (by simp only [xr, xl, xm, xh, xb, eq_self, Nat.reduceLT, Nat.reduceEqDiff, Nat.reduceAdd, Nat.reduceSub, Nat.reduceMul, Nat.reduceLeDiff, Int.reduceToNat, Int.reduceLE, Int.reduceLT, Int.reduceNeg, Int.reduceEq, runOps, runOp, runOp1, inlined, evOp, putD, amin, amax, abin, abinb, aun, AV.idx, sub, fillB, splice, AV.solid, AV.one, List.all_cons, List.all_nil, Bool.and_true, Bool.true_and, Bool.false_and, Bool.and_false, Bool.not_true, Bool.not_false, if_true, if_false, Nat.le_refl, Nat.zero_add, Bool.false_eq_true, reduceCtorEq, not_false_eq_true, ne_eq, hl]; with_reducible rfl) (fun hc => ?_) (fun hc => ?_)
  · have hlt : i < l.length := by simpa using hc
    obtain ⟨x, hix⟩ : ∃ x, l[i]? = some x := ⟨l[i]'(by omega), List.getElem?_eq_getElem _⟩
    have hpx := hp x (List.mem_of_getElem? hix)
    clear hc
    simp only [encS] at hpx
    repeat first
      | apply Xw_seq
      | apply Xw_block
      | (apply Xw_region; · (simp only [xr, xl, xm, xh, xb, eq_self, Nat.reduceLT, Nat.reduceEqDiff, Nat.reduceAdd, Nat.reduceSub, Nat.reduceMul, Nat.reduceLeDiff, Int.reduceToNat, Int.reduceLE, Int.reduceLT, Int.reduceNeg, Int.reduceEq, runOps, runOp, runOp1, inlined, evOp, putD, amin, amax, abin, abinb, aun, AV.idx, sub, fillB, splice, AV.solid, AV.one, List.all_cons, List.all_nil, Bool.and_true, Bool.true_and, Bool.false_and, Bool.and_false, Bool.not_true, Bool.not_false, if_true, if_false, Nat.le_refl, Nat.zero_add, Bool.false_eq_true, reduceCtorEq, not_false_eq_true, ne_eq, hl, g8, g0, g1, hix, encS, hg, hg', hcap, hpx, acall, xt, frz, es]; with_reducible rfl)
         · rfl
         (try simp only [onEx_normal, outOf_normal]))
      | (apply Xw_skip; (try simp only [onEx_normal, outOf_normal]))
      | (apply Xw_exit; (try simp only [onEx_exit, outOf_exit, onEx_normal, outOf_normal, if_true, Nat.reduceEqDiff, if_false]))
    refine Xw_cond (by simp only [xr, xl, xm, xh, xb, eq_self, Nat.reduceLT, Nat.reduceEqDiff, Nat.reduceAdd, Nat.reduceSub, Nat.reduceMul, Nat.reduceLeDiff, Int.reduceToNat, Int.reduceLE, Int.reduceLT, Int.reduceNeg, Int.reduceEq, runOps, runOp, runOp1, inlined, evOp, putD, amin, amax, abin, abinb, aun, AV.idx, sub, fillB, splice, AV.solid, AV.one, List.all_cons, List.all_nil, Bool.and_true, Bool.true_and, Bool.false_and, Bool.and_false, Bool.not_true, Bool.not_false, if_true, if_false, Nat.le_refl, Nat.zero_add, Bool.false_eq_true, reduceCtorEq, not_false_eq_true, ne_eq, hl]; with_reducible rfl) (fun hc => ?_) (fun hc => ?_)
    · skip
      repeat first
        | apply Xw_seq
        | apply Xw_block
        | (apply Xw_region; · (simp only [xr, xl, xm, xh, xb, eq_self, Nat.reduceLT, Nat.reduceEqDiff, Nat.reduceAdd, Nat.reduceSub, Nat.reduceMul, Nat.reduceLeDiff, Int.reduceToNat, Int.reduceLE, Int.reduceLT, Int.reduceNeg, Int.reduceEq, runOps, runOp, runOp1, inlined, evOp, putD, amin, amax, abin, abinb, aun, AV.idx, sub, fillB, splice, AV.solid, AV.one, List.all_cons, List.all_nil, Bool.and_true, Bool.true_and, Bool.false_and, Bool.and_false, Bool.not_true, Bool.not_false, if_true, if_false, Nat.le_refl, Nat.zero_add, Bool.false_eq_true, reduceCtorEq, not_false_eq_true, ne_eq, hl]; with_reducible rfl)
           · rfl
           (try simp only [onEx_normal, outOf_normal]))
        | (apply Xw_skip; (try simp only [onEx_normal, outOf_normal]))
        | (apply Xw_exit; (try simp only [onEx_exit, outOf_exit, onEx_normal, outOf_normal, if_true, Nat.reduceEqDiff, if_false]))
      apply Xw_ret
      (try simp only [onEx_ret, outOf_ret])
      refine ⟨(by simp), _, (by simp only [getAll, ARes.get, xr, xl, xm, xh, xb, eq_self, Nat.reduceLT, Nat.reduceEqDiff, Nat.reduceAdd, Nat.reduceSub, Nat.reduceMul, Nat.reduceLeDiff, Int.reduceToNat, Int.reduceLE, Int.reduceLT, Int.reduceNeg, Int.reduceEq, runOps, runOp, runOp1, inlined, evOp, putD, amin, amax, abin, abinb, aun, AV.idx, sub, fillB, splice, AV.solid, AV.one, List.all_cons, List.all_nil, Bool.and_true, Bool.true_and, Bool.false_and, Bool.and_false, Bool.not_true, Bool.not_false, if_true, if_false, Nat.le_refl, Nat.zero_add, Bool.false_eq_true, reduceCtorEq, not_false_eq_true, ne_eq, hl]; rfl), ?_⟩
      (try simp only [handBack, xt, xl])
      rw [show l.findIdx? p = some i from List.findIdx?_eq_some_iff_getElem.2 ⟨hlt, by rw [List.getElem?_eq_getElem hlt] at hix; cases hix; exact hc, fun j hj => by simpa using hq j _ hj (List.getElem?_eq_getElem (by omega))⟩]
    · skip
      repeat first
        | apply Xw_seq
        | apply Xw_block
        | (apply Xw_region; · (simp only [xr, xl, xm, xh, xb, eq_self, Nat.reduceLT, Nat.reduceEqDiff, Nat.reduceAdd, Nat.reduceSub, Nat.reduceMul, Nat.reduceLeDiff, Int.reduceToNat, Int.reduceLE, Int.reduceLT, Int.reduceNeg, Int.reduceEq, runOps, runOp, runOp1, inlined, evOp, putD, amin, amax, abin, abinb, aun, AV.idx, sub, fillB, splice, AV.solid, AV.one, List.all_cons, List.all_nil, Bool.and_true, Bool.true_and, Bool.false_and, Bool.and_false, Bool.not_true, Bool.not_false, if_true, if_false, Nat.le_refl, Nat.zero_add, Bool.false_eq_true, reduceCtorEq, not_false_eq_true, ne_eq, hl, g8, wrap_succ (show i < 9223372036854775807 by omega)]; with_reducible rfl)
           · rfl
           (try simp only [onEx_normal, outOf_normal]))
        | (apply Xw_skip; (try simp only [onEx_normal, outOf_normal]))
        | (apply Xw_exit; (try simp only [onEx_exit, outOf_exit, onEx_normal, outOf_normal, if_true, Nat.reduceEqDiff, if_false]))
      refine ⟨l.length - (i + 1), by omega, i + 1, rfl, by omega, fun j y hj hy => ?_, ?_⟩
      · by_cases e : j = i
        · subst e; rw [hix] at hy; cases hy; exact hc
        · exact hq j y (by omega) hy
      · skip
        simp only [xr, xl, xm, xh, xb, eq_self, Nat.reduceLT, Nat.reduceEqDiff, Nat.reduceAdd, Nat.reduceSub, Nat.reduceMul, Nat.reduceLeDiff, Int.reduceToNat, Int.reduceLE, Int.reduceLT, Int.reduceNeg, Int.reduceEq, runOps, runOp, runOp1, inlined, evOp, putD, amin, amax, abin, abinb, aun, AV.idx, sub, fillB, splice, AV.solid, AV.one, List.all_cons, List.all_nil, Bool.and_true, Bool.true_and, Bool.false_and, Bool.and_false, Bool.not_true, Bool.not_false, if_true, if_false, Nat.le_refl, Nat.zero_add, Bool.false_eq_true, reduceCtorEq, not_false_eq_true, ne_eq, hl, g0, g1, g7]
  · skip
    repeat first
      | apply Xw_seq
      | apply Xw_block
      | (apply Xw_region; · (simp only [xr, xl, xm, xh, xb, eq_self, Nat.reduceLT, Nat.reduceEqDiff, Nat.reduceAdd, Nat.reduceSub, Nat.reduceMul, Nat.reduceLeDiff, Int.reduceToNat, Int.reduceLE, Int.reduceLT, Int.reduceNeg, Int.reduceEq, runOps, runOp, runOp1, inlined, evOp, putD, amin, amax, abin, abinb, aun, AV.idx, sub, fillB, splice, AV.solid, AV.one, List.all_cons, List.all_nil, Bool.and_true, Bool.true_and, Bool.false_and, Bool.and_false, Bool.not_true, Bool.not_false, if_true, if_false, Nat.le_refl, Nat.zero_add, Bool.false_eq_true, reduceCtorEq, not_false_eq_true, ne_eq, hl]; with_reducible rfl)
         · rfl
         (try simp only [onEx_normal, outOf_normal]))
      | (apply Xw_skip; (try simp only [onEx_normal, outOf_normal]))
      | (apply Xw_exit; (try simp only [onEx_exit, outOf_exit, onEx_normal, outOf_normal, if_true, Nat.reduceEqDiff, if_false]))
    apply Xw_ret
    (try simp only [onEx_ret, outOf_ret])
    refine ⟨(by simp), _, (by simp only [getAll, ARes.get, xr, xl, xm, xh, xb, eq_self, Nat.reduceLT, Nat.reduceEqDiff, Nat.reduceAdd, Nat.reduceSub, Nat.reduceMul, Nat.reduceLeDiff, Int.reduceToNat, Int.reduceLE, Int.reduceLT, Int.reduceNeg, Int.reduceEq, runOps, runOp, runOp1, inlined, evOp, putD, amin, amax, abin, abinb, aun, AV.idx, sub, fillB, splice, AV.solid, AV.one, List.all_cons, List.all_nil, Bool.and_true, Bool.true_and, Bool.false_and, Bool.and_false, Bool.not_true, Bool.not_false, if_true, if_false, Nat.le_refl, Nat.zero_add, Bool.false_eq_true, reduceCtorEq, not_false_eq_true, ne_eq, hl]; rfl), ?_⟩
    (try simp only [handBack, xt, xl])
    rw [show l.findIdx? p = none from List.findIdx?_eq_none_iff.2 (fun x hxm => by
      obtain ⟨j, hj⟩ := List.getElem?_of_mem hxm
      simp only [decide_eq_false_iff_not] at hc
      exact hq j x (by have := (List.getElem?_eq_some_iff.1 hj).1; omega) hj)]

theorem firstS_spec (l : List Sc.Strm) (hlen : l.length ≤ 1000000000000000000) (g : FuncId) (cap : List AV) (p : Sc.Strm → Bool) (hcap : ∀ h, mapT (toTree h 7) cap = some (cap, [])) (hcap' : ∀ h, mapT (toTree h 8) cap = some (cap, []))
    (hp : ∀ x ∈ l, cL (EE ext) g (encS x :: cap) = some (.bool (p x))) (hg : (EE ext).inl g = false) (hg' : (EE ext).own g = none) :
    cL (EE ext) n_shadow_first_Stream_ [.list (l.map encS), .fn g cap] = some (match l.findIdx? p with | some i => .tup [encS (l.getD i (⟨#[]⟩, [], ())), .int .i64 i] | none => .tup [encS (⟨#[]⟩, [], ()), .int .i64 (-1)]) := by
  have hf := indexS_spec hx l hlen g cap p hcap' hp hg hg'
  refine cL_walk (fn := c_shadow_first_Stream_) t_shadow_first_Stream_ (hx _ _) rfl fun s hl g => ?_
  have g0 : gt s 0 = _ := g 0 (Nat.lt_of_sub_eq_succ rfl)
  have g1 : gt s 1 = _ := g 1 (Nat.lt_of_sub_eq_succ rfl)
  clear g
  replace hl : s.length = 20 := hl
  simp only [List.getD_cons_zero, List.getD_cons_succ] at g0 g1
  simp only [c_shadow_first_Stream_]
  repeat first
    | apply Xw_seq
    | apply Xw_block
    | (apply Xw_region; · (simp only [xr, xl, xm, xh, xb, eq_self, Nat.reduceLT, Nat.reduceEqDiff, Nat.reduceAdd, Nat.reduceSub, Nat.reduceMul, Nat.reduceLeDiff, Int.reduceToNat, Int.reduceLE, Int.reduceLT, Int.reduceNeg, Int.reduceEq, runOps, runOp, runOp1, inlined, evOp, putD, amin, amax, abin, abinb, aun, AV.idx, sub, fillB, splice, AV.solid, AV.one, List.all_cons, List.all_nil, Bool.and_true, Bool.true_and, Bool.false_and, Bool.and_false, Bool.not_true, Bool.not_false, if_true, if_false, Nat.le_refl, Nat.zero_add, Bool.false_eq_true, reduceCtorEq, not_false_eq_true, ne_eq, hl, g0, g1, acall, xt, frz, es, hcap, hf]; with_reducible rfl)
       · rfl
       (try simp only [onEx_normal, outOf_normal]))
    | (apply Xw_skip; (try simp only [onEx_normal, outOf_normal]))
    | (apply Xw_exit; (try simp only [onEx_exit, outOf_exit, onEx_normal, outOf_normal, if_true, Nat.reduceEqDiff, if_false]))
  cases hi : l.findIdx? p with
  | none =>
    simp only [hi]
    refine Xw_cond (by simp only [xr, xl, xm, xh, xb, eq_self, Nat.reduceLT, Nat.reduceEqDiff, Nat.reduceAdd, Nat.reduceSub, Nat.reduceMul, Nat.reduceLeDiff, Int.reduceToNat, Int.reduceLE, Int.reduceLT, Int.reduceNeg, Int.reduceEq, runOps, runOp, runOp1, inlined, evOp, putD, amin, amax, abin, abinb, aun, AV.idx, sub, fillB, splice, AV.solid, AV.one, List.all_cons, List.all_nil, Bool.and_true, Bool.true_and, Bool.false_and, Bool.and_false, Bool.not_true, Bool.not_false, if_true, if_false, Nat.le_refl, Nat.zero_add, Bool.false_eq_true, reduceCtorEq, not_false_eq_true, ne_eq, hl]; with_reducible rfl) (fun hc => ?_) (fun hc => ?_)
    · skip
      repeat first
        | apply Xw_seq
        | apply Xw_block
        | (apply Xw_region; · (simp only [xr, xl, xm, xh, xb, eq_self, Nat.reduceLT, Nat.reduceEqDiff, Nat.reduceAdd, Nat.reduceSub, Nat.reduceMul, Nat.reduceLeDiff, Int.reduceToNat, Int.reduceLE, Int.reduceLT, Int.reduceNeg, Int.reduceEq, runOps, runOp, runOp1, inlined, evOp, putD, amin, amax, abin, abinb, aun, AV.idx, sub, fillB, splice, AV.solid, AV.one, List.all_cons, List.all_nil, Bool.and_true, Bool.true_and, Bool.false_and, Bool.and_false, Bool.not_true, Bool.not_false, if_true, if_false, Nat.le_refl, Nat.zero_add, Bool.false_eq_true, reduceCtorEq, not_false_eq_true, ne_eq, hl, acall, xt, frz, es]; with_reducible rfl)
           · rfl
           (try simp only [onEx_normal, outOf_normal]))
        | (apply Xw_skip; (try simp only [onEx_normal, outOf_normal]))
        | (apply Xw_exit; (try simp only [onEx_exit, outOf_exit, onEx_normal, outOf_normal, if_true, Nat.reduceEqDiff, if_false]))
      apply Xw_ret
      (try simp only [onEx_ret, outOf_ret])
      refine ⟨(by simp), _, (by simp only [getAll, ARes.get, xr, xl, xm, xh, xb, eq_self, Nat.reduceLT, Nat.reduceEqDiff, Nat.reduceAdd, Nat.reduceSub, Nat.reduceMul, Nat.reduceLeDiff, Int.reduceToNat, Int.reduceLE, Int.reduceLT, Int.reduceNeg, Int.reduceEq, runOps, runOp, runOp1, inlined, evOp, putD, amin, amax, abin, abinb, aun, AV.idx, sub, fillB, splice, AV.solid, AV.one, List.all_cons, List.all_nil, Bool.and_true, Bool.true_and, Bool.false_and, Bool.and_false, Bool.not_true, Bool.not_false, if_true, if_false, Nat.le_refl, Nat.zero_add, Bool.false_eq_true, reduceCtorEq, not_false_eq_true, ne_eq, hl]; rfl), ?_⟩
      (try simp only [handBack, xt, xl])
      rfl
    · simp at hc
  | some i =>
    simp only [hi]
    obtain ⟨hlt, _⟩ := List.findIdx?_eq_some_iff_getElem.1 hi
    have hix : l[i]? = some (l.getD i (⟨#[]⟩, [], ())) := by rw [List.getD_eq_getElem?_getD, List.getElem?_eq_getElem hlt]; rfl
    refine Xw_cond (by simp only [xr, xl, xm, xh, xb, eq_self, Nat.reduceLT, Nat.reduceEqDiff, Nat.reduceAdd, Nat.reduceSub, Nat.reduceMul, Nat.reduceLeDiff, Int.reduceToNat, Int.reduceLE, Int.reduceLT, Int.reduceNeg, Int.reduceEq, runOps, runOp, runOp1, inlined, evOp, putD, amin, amax, abin, abinb, aun, AV.idx, sub, fillB, splice, AV.solid, AV.one, List.all_cons, List.all_nil, Bool.and_true, Bool.true_and, Bool.false_and, Bool.and_false, Bool.not_true, Bool.not_false, if_true, if_false, Nat.le_refl, Nat.zero_add, Bool.false_eq_true, reduceCtorEq, not_false_eq_true, ne_eq, hl]; with_reducible rfl) (fun hc => ?_) (fun hc => ?_)
    · simp at hc
      omega
    · skip
      repeat first
        | apply Xw_seq
        | apply Xw_block
        | (apply Xw_region; · (simp only [xr, xl, xm, xh, xb, eq_self, Nat.reduceLT, Nat.reduceEqDiff, Nat.reduceAdd, Nat.reduceSub, Nat.reduceMul, Nat.reduceLeDiff, Int.reduceToNat, Int.reduceLE, Int.reduceLT, Int.reduceNeg, Int.reduceEq, runOps, runOp, runOp1, inlined, evOp, putD, amin, amax, abin, abinb, aun, AV.idx, sub, fillB, splice, AV.solid, AV.one, List.all_cons, List.all_nil, Bool.and_true, Bool.true_and, Bool.false_and, Bool.and_false, Bool.not_true, Bool.not_false, if_true, if_false, Nat.le_refl, Nat.zero_add, Bool.false_eq_true, reduceCtorEq, not_false_eq_true, ne_eq, hl, acall, xt, frz, es, hix, g0, encS]; with_reducible rfl)
           · rfl
           (try simp only [onEx_normal, outOf_normal]))
        | (apply Xw_skip; (try simp only [onEx_normal, outOf_normal]))
        | (apply Xw_exit; (try simp only [onEx_exit, outOf_exit, onEx_normal, outOf_normal, if_true, Nat.reduceEqDiff, if_false]))
      apply Xw_ret
      (try simp only [onEx_ret, outOf_ret])
      refine ⟨(by simp), _, (by simp only [getAll, ARes.get, xr, xl, xm, xh, xb, eq_self, Nat.reduceLT, Nat.reduceEqDiff, Nat.reduceAdd, Nat.reduceSub, Nat.reduceMul, Nat.reduceLeDiff, Int.reduceToNat, Int.reduceLE, Int.reduceLT, Int.reduceNeg, Int.reduceEq, runOps, runOp, runOp1, inlined, evOp, putD, amin, amax, abin, abinb, aun, AV.idx, sub, fillB, splice, AV.solid, AV.one, List.all_cons, List.all_nil, Bool.and_true, Bool.true_and, Bool.false_and, Bool.and_false, Bool.not_true, Bool.not_false, if_true, if_false, Nat.le_refl, Nat.zero_add, Bool.false_eq_true, reduceCtorEq, not_false_eq_true, ne_eq, hl]; rfl), ?_⟩
      (try simp only [handBack, xt, xl])
      rfl

theorem difference_spec (a b : List Int) (ha : a.length ≤ 1000000000000000000) (hb : b.length ≤ 1000000000000000000) :
    cL (EE ext) n_shadow_difference [.list (a.map (.int .i64)), .list (b.map (.int .i64))] = some (.int .i64 (match Sc.diff a b with | some k => k | none => -1)) := by
  refine cL_walk (fn := c_shadow_difference) t_shadow_difference (hx _ _) rfl fun s hl g => ?_
  have g0 : gt s 0 = _ := g 0 (Nat.lt_of_sub_eq_succ rfl)
  have g1 : gt s 1 = _ := g 1 (Nat.lt_of_sub_eq_succ rfl)
  clear g
  replace hl : s.length = 25 := hl
  simp only [List.getD_cons_zero, List.getD_cons_succ] at g0 g1
  simp only [c_shadow_difference]
  repeat first
    | apply Xw_seq
    | apply Xw_block
    | (apply Xw_region; · (simp only [xr, xl, xm, xh, xb, eq_self, Nat.reduceLT, Nat.reduceEqDiff, Nat.reduceAdd, Nat.reduceSub, Nat.reduceMul, Nat.reduceLeDiff, Int.reduceToNat, Int.reduceLE, Int.reduceLT, Int.reduceNeg, Int.reduceEq, runOps, runOp, runOp1, inlined, evOp, putD, amin, amax, abin, abinb, aun, AV.idx, sub, fillB, splice, AV.solid, AV.one, List.all_cons, List.all_nil, Bool.and_true, Bool.true_and, Bool.false_and, Bool.and_false, Bool.not_true, Bool.not_false, if_true, if_false, Nat.le_refl, Nat.zero_add, Bool.false_eq_true, reduceCtorEq, not_false_eq_true, ne_eq, hl, g0, g1]; with_reducible rfl)
       · rfl
       (try simp only [onEx_normal, outOf_normal]))
    | (apply Xw_skip; (try simp only [onEx_normal, outOf_normal]))
    | (apply Xw_exit; (try simp only [onEx_exit, outOf_exit, onEx_normal, outOf_normal, if_true, Nat.reduceEqDiff, if_false]))
  apply Xw_loop (fun m st => ∃ i : Nat, m = min a.length b.length - i ∧ i ≤ min a.length b.length ∧ (∀ j, j < i → a[j]? = b[j]?) ∧ st.s.length = 25 ∧ gt st.s 0 = .list (a.map (.int .i64)) ∧ gt st.s 1 = .list (b.map (.int .i64)) ∧ gt st.s 10 = .int .i64 (min a.length b.length : Nat) ∧ gt st.s 11 = .int .i64 i) (min a.length b.length)
  · refine ⟨0, rfl, Nat.zero_le _, fun j h => absurd h (Nat.not_lt_zero _), ?_⟩
    simp only [xr, xl, xm, xh, xb, eq_self, Nat.reduceLT, Nat.reduceEqDiff, Nat.reduceAdd, Nat.reduceSub, Nat.reduceMul, Nat.reduceLeDiff, Int.reduceToNat, Int.reduceLE, Int.reduceLT, Int.reduceNeg, Int.reduceEq, runOps, runOp, runOp1, inlined, evOp, putD, amin, amax, abin, abinb, aun, AV.idx, sub, fillB, splice, AV.solid, AV.one, List.all_cons, List.all_nil, Bool.and_true, Bool.true_and, Bool.false_and, Bool.and_false, Bool.not_true, Bool.not_false, if_true, if_false, Nat.le_refl, Nat.zero_add, Bool.false_eq_true, reduceCtorEq, not_false_eq_true, ne_eq, hl, g0, g1]
  clear hl g0 g1 s
  rintro m s h ck ⟨i, hm, hi, hp, hl, g0, g1, g10, g11⟩
  simp only at hl g0 g1 g10 g11
  repeat first
    | apply Xw_seq
    | apply Xw_block
    | (apply Xw_region; · (simp only [xr, xl, xm, xh, xb, eq_self, Nat.reduceLT, Nat.reduceEqDiff, Nat.reduceAdd, Nat.reduceSub, Nat.reduceMul, Nat.reduceLeDiff, Int.reduceToNat, Int.reduceLE, Int.reduceLT, Int.reduceNeg, Int.reduceEq, runOps, runOp, runOp1, inlined, evOp, putD, amin, amax, abin, abinb, aun, AV.idx, sub, fillB, splice, AV.solid, AV.one, List.all_cons, List.all_nil, Bool.and_true, Bool.true_and, Bool.false_and, Bool.and_false, Bool.not_true, Bool.not_false, if_true, if_false, Nat.le_refl, Nat.zero_add, Bool.false_eq_true, reduceCtorEq, not_false_eq_true, ne_eq, hl, g10, g11]; with_reducible rfl)
       · rfl
       (try simp only [onEx_normal, outOf_normal]))
    | (apply Xw_skip; (try simp only [onEx_normal, outOf_normal]))
    | (apply Xw_exit; (try simp only [onEx_exit, outOf_exit, onEx_normal, outOf_normal, if_true, Nat.reduceEqDiff, if_false]))
  refine Xw_cond (by simp only [xr, xl, xm, xh, xb, eq_self, Nat.reduceLT, Nat.reduceEqDiff, Nat.reduceAdd, Nat.reduceSub, Nat.reduceMul, Nat.reduceLeDiff, Int.reduceToNat, Int.reduceLE, Int.reduceLT, Int.reduceNeg, Int.reduceEq, runOps, runOp, runOp1, inlined, evOp, putD, amin, amax, abin, abinb, aun, AV.idx, sub, fillB, splice, AV.solid, AV.one, List.all_cons, List.all_nil, Bool.and_true, Bool.true_and, Bool.false_and, Bool.and_false, Bool.not_true, Bool.not_false, if_true, if_false, Nat.le_refl, Nat.zero_add, Bool.false_eq_true, reduceCtorEq, not_false_eq_true, ne_eq, hl]; with_reducible rfl) (fun hc => ?_) (fun hc => ?_)
  · have hlt : i < min a.length b.length := by simpa using hc
    obtain ⟨x, hx⟩ : ∃ x, a[i]? = some x := ⟨a[i]'(by omega), List.getElem?_eq_getElem _⟩
    obtain ⟨y, hy⟩ : ∃ x, b[i]? = some x := ⟨b[i]'(by omega), List.getElem?_eq_getElem _⟩
    clear hc
    repeat first
      | apply Xw_seq
      | apply Xw_block
      | (apply Xw_region; · (simp only [xr, xl, xm, xh, xb, eq_self, Nat.reduceLT, Nat.reduceEqDiff, Nat.reduceAdd, Nat.reduceSub, Nat.reduceMul, Nat.reduceLeDiff, Int.reduceToNat, Int.reduceLE, Int.reduceLT, Int.reduceNeg, Int.reduceEq, runOps, runOp, runOp1, inlined, evOp, putD, amin, amax, abin, abinb, aun, AV.idx, sub, fillB, splice, AV.solid, AV.one, List.all_cons, List.all_nil, Bool.and_true, Bool.true_and, Bool.false_and, Bool.and_false, Bool.not_true, Bool.not_false, if_true, if_false, Nat.le_refl, Nat.zero_add, Bool.false_eq_true, reduceCtorEq, not_false_eq_true, ne_eq, hl, g11, g0, g1, hx, hy]; with_reducible rfl)
         · rfl
         (try simp only [onEx_normal, outOf_normal]))
      | (apply Xw_skip; (try simp only [onEx_normal, outOf_normal]))
      | (apply Xw_exit; (try simp only [onEx_exit, outOf_exit, onEx_normal, outOf_normal, if_true, Nat.reduceEqDiff, if_false]))
    refine Xw_cond (by simp only [xr, xl, xm, xh, xb, eq_self, Nat.reduceLT, Nat.reduceEqDiff, Nat.reduceAdd, Nat.reduceSub, Nat.reduceMul, Nat.reduceLeDiff, Int.reduceToNat, Int.reduceLE, Int.reduceLT, Int.reduceNeg, Int.reduceEq, runOps, runOp, runOp1, inlined, evOp, putD, amin, amax, abin, abinb, aun, AV.idx, sub, fillB, splice, AV.solid, AV.one, List.all_cons, List.all_nil, Bool.and_true, Bool.true_and, Bool.false_and, Bool.and_false, Bool.not_true, Bool.not_false, if_true, if_false, Nat.le_refl, Nat.zero_add, Bool.false_eq_true, reduceCtorEq, not_false_eq_true, ne_eq, hl]; with_reducible rfl) (fun hc => ?_) (fun hc => ?_)
    · skip
      repeat first
        | apply Xw_seq
        | apply Xw_block
        | (apply Xw_region; · (simp only [xr, xl, xm, xh, xb, eq_self, Nat.reduceLT, Nat.reduceEqDiff, Nat.reduceAdd, Nat.reduceSub, Nat.reduceMul, Nat.reduceLeDiff, Int.reduceToNat, Int.reduceLE, Int.reduceLT, Int.reduceNeg, Int.reduceEq, runOps, runOp, runOp1, inlined, evOp, putD, amin, amax, abin, abinb, aun, AV.idx, sub, fillB, splice, AV.solid, AV.one, List.all_cons, List.all_nil, Bool.and_true, Bool.true_and, Bool.false_and, Bool.and_false, Bool.not_true, Bool.not_false, if_true, if_false, Nat.le_refl, Nat.zero_add, Bool.false_eq_true, reduceCtorEq, not_false_eq_true, ne_eq, hl]; with_reducible rfl)
           · rfl
           (try simp only [onEx_normal, outOf_normal]))
        | (apply Xw_skip; (try simp only [onEx_normal, outOf_normal]))
        | (apply Xw_exit; (try simp only [onEx_exit, outOf_exit, onEx_normal, outOf_normal, if_true, Nat.reduceEqDiff, if_false]))
      apply Xw_ret
      (try simp only [onEx_ret, outOf_ret])
      refine ⟨(by simp), _, (by simp only [getAll, ARes.get, xr, xl, xm, xh, xb, eq_self, Nat.reduceLT, Nat.reduceEqDiff, Nat.reduceAdd, Nat.reduceSub, Nat.reduceMul, Nat.reduceLeDiff, Int.reduceToNat, Int.reduceLE, Int.reduceLT, Int.reduceNeg, Int.reduceEq, runOps, runOp, runOp1, inlined, evOp, putD, amin, amax, abin, abinb, aun, AV.idx, sub, fillB, splice, AV.solid, AV.one, List.all_cons, List.all_nil, Bool.and_true, Bool.true_and, Bool.false_and, Bool.and_false, Bool.not_true, Bool.not_false, if_true, if_false, Nat.le_refl, Nat.zero_add, Bool.false_eq_true, reduceCtorEq, not_false_eq_true, ne_eq, hl]; rfl), ?_⟩
      (try simp only [handBack, xt, xl])
      have : Sc.diff a b = some i := Sc.diff_get a b i (fun j hj => ⟨hp j hj, by omega⟩) (by omega) (by omega) (by rw [hx, hy]; simpa using hc)
      rw [this]
    · skip
      repeat first
        | apply Xw_seq
        | apply Xw_block
        | (apply Xw_region; · (simp only [xr, xl, xm, xh, xb, eq_self, Nat.reduceLT, Nat.reduceEqDiff, Nat.reduceAdd, Nat.reduceSub, Nat.reduceMul, Nat.reduceLeDiff, Int.reduceToNat, Int.reduceLE, Int.reduceLT, Int.reduceNeg, Int.reduceEq, runOps, runOp, runOp1, inlined, evOp, putD, amin, amax, abin, abinb, aun, AV.idx, sub, fillB, splice, AV.solid, AV.one, List.all_cons, List.all_nil, Bool.and_true, Bool.true_and, Bool.false_and, Bool.and_false, Bool.not_true, Bool.not_false, if_true, if_false, Nat.le_refl, Nat.zero_add, Bool.false_eq_true, reduceCtorEq, not_false_eq_true, ne_eq, hl, g11, wrap_succ (show i < 9223372036854775807 by omega)]; with_reducible rfl)
           · rfl
           (try simp only [onEx_normal, outOf_normal]))
        | (apply Xw_skip; (try simp only [onEx_normal, outOf_normal]))
        | (apply Xw_exit; (try simp only [onEx_exit, outOf_exit, onEx_normal, outOf_normal, if_true, Nat.reduceEqDiff, if_false]))
      refine ⟨min a.length b.length - (i + 1), by omega, i + 1, rfl, by omega, fun j hj => ?_, ?_⟩
      · by_cases e : j = i
        · rw [e, hx, hy]; simpa using hc
        · exact hp j (by omega)
      · skip
        simp only [xr, xl, xm, xh, xb, eq_self, Nat.reduceLT, Nat.reduceEqDiff, Nat.reduceAdd, Nat.reduceSub, Nat.reduceMul, Nat.reduceLeDiff, Int.reduceToNat, Int.reduceLE, Int.reduceLT, Int.reduceNeg, Int.reduceEq, runOps, runOp, runOp1, inlined, evOp, putD, amin, amax, abin, abinb, aun, AV.idx, sub, fillB, splice, AV.solid, AV.one, List.all_cons, List.all_nil, Bool.and_true, Bool.true_and, Bool.false_and, Bool.and_false, Bool.not_true, Bool.not_false, if_true, if_false, Nat.le_refl, Nat.zero_add, Bool.false_eq_true, reduceCtorEq, not_false_eq_true, ne_eq, hl, g0, g1, g10]
  · skip
    repeat first
      | apply Xw_seq
      | apply Xw_block
      | (apply Xw_region; · (simp only [xr, xl, xm, xh, xb, eq_self, Nat.reduceLT, Nat.reduceEqDiff, Nat.reduceAdd, Nat.reduceSub, Nat.reduceMul, Nat.reduceLeDiff, Int.reduceToNat, Int.reduceLE, Int.reduceLT, Int.reduceNeg, Int.reduceEq, runOps, runOp, runOp1, inlined, evOp, putD, amin, amax, abin, abinb, aun, AV.idx, sub, fillB, splice, AV.solid, AV.one, List.all_cons, List.all_nil, Bool.and_true, Bool.true_and, Bool.false_and, Bool.and_false, Bool.not_true, Bool.not_false, if_true, if_false, Nat.le_refl, Nat.zero_add, Bool.false_eq_true, reduceCtorEq, not_false_eq_true, ne_eq, hl]; with_reducible rfl)
         · rfl
         (try simp only [onEx_normal, outOf_normal]))
      | (apply Xw_skip; (try simp only [onEx_normal, outOf_normal]))
      | (apply Xw_exit; (try simp only [onEx_exit, outOf_exit, onEx_normal, outOf_normal, if_true, Nat.reduceEqDiff, if_false]))
    apply Xw_ret
    (try simp only [onEx_ret, outOf_ret])
    refine ⟨(by simp), _, (by simp only [getAll, ARes.get, xr, xl, xm, xh, xb, eq_self, Nat.reduceLT, Nat.reduceEqDiff, Nat.reduceAdd, Nat.reduceSub, Nat.reduceMul, Nat.reduceLeDiff, Int.reduceToNat, Int.reduceLE, Int.reduceLT, Int.reduceNeg, Int.reduceEq, runOps, runOp, runOp1, inlined, evOp, putD, amin, amax, abin, abinb, aun, AV.idx, sub, fillB, splice, AV.solid, AV.one, List.all_cons, List.all_nil, Bool.and_true, Bool.true_and, Bool.false_and, Bool.and_false, Bool.not_true, Bool.not_false, if_true, if_false, Nat.le_refl, Nat.zero_add, Bool.false_eq_true, reduceCtorEq, not_false_eq_true, ne_eq, hl]; rfl), ?_⟩
    (try simp only [handBack, xt, xl])
    have : Sc.diff a b = none := Sc.diff_none a b (fun j h1 h2 => hp j (by simp only [decide_eq_false_iff_not] at hc; omega))
    rw [this]

def vd : Option (ByteArray × Nat) → List AV
  | some (n, k) => [.str n, .int .i64 k, .bool false]
  | none => [.str ⟨#[]⟩, .int .i64 0, .bool true]

def okS (l : List Sc.Strm) : Prop := l.length ≤ 1000000000000000000 ∧ ∀ x ∈ l, x.2.1.length ≤ 1000000000000000000


theorem Agree_spec (a b : List Sc.Strm) (ha : okS a) (hb : okS b) :
    cL (EE ext) n_shadow_Agree [.list (a.map encS), .list (b.map encS)] = some (.tup (vd (Sc.agree a b))) := by
  have hal := ha.1
  refine cL_walk (fn := c_shadow_Agree) t_shadow_Agree (hx _ _) rfl fun s hl g => ?_
  have g0 : gt s 0 = _ := g 0 (Nat.lt_of_sub_eq_succ rfl)
  have g1 : gt s 1 = _ := g 1 (Nat.lt_of_sub_eq_succ rfl)
  clear g
  replace hl : s.length = 53 := hl
  simp only [List.getD_cons_zero, List.getD_cons_succ] at g0 g1
  simp only [c_shadow_Agree]
  repeat first
    | apply Xw_seq
    | apply Xw_block
    | (apply Xw_region; · (simp only [xr, xl, xm, xh, xb, eq_self, Nat.reduceLT, Nat.reduceEqDiff, Nat.reduceAdd, Nat.reduceSub, Nat.reduceMul, Nat.reduceLeDiff, Int.reduceToNat, Int.reduceLE, Int.reduceLT, Int.reduceNeg, Int.reduceEq, runOps, runOp, runOp1, inlined, evOp, putD, amin, amax, abin, abinb, aun, AV.idx, sub, fillB, splice, AV.solid, AV.one, List.all_cons, List.all_nil, Bool.and_true, Bool.true_and, Bool.false_and, Bool.and_false, Bool.not_true, Bool.not_false, if_true, if_false, Nat.le_refl, Nat.zero_add, Bool.false_eq_true, reduceCtorEq, not_false_eq_true, ne_eq, hl, g0, g1]; with_reducible rfl)
       · rfl
       (try simp only [onEx_normal, outOf_normal]))
    | (apply Xw_skip; (try simp only [onEx_normal, outOf_normal]))
    | (apply Xw_exit; (try simp only [onEx_exit, outOf_exit, onEx_normal, outOf_normal, if_true, Nat.reduceEqDiff, if_false]))
  apply Xw_loop (fun m st => ∃ i : Nat, m = a.length - i ∧ i ≤ a.length ∧ (∀ j x, j < i → a[j]? = some x → Sc.one a b (0 + j) x = none) ∧ st.s.length = 53 ∧ gt st.s 0 = .list (a.map encS) ∧ gt st.s 1 = .list (b.map encS) ∧ gt st.s 15 = .list (a.map encS) ∧ gt st.s 16 = .int .i64 a.length ∧ gt st.s 17 = .int .i64 i) a.length
  · refine ⟨0, rfl, Nat.zero_le _, fun j x h => absurd h (Nat.not_lt_zero _), ?_⟩
    simp only [xr, xl, xm, xh, xb, eq_self, Nat.reduceLT, Nat.reduceEqDiff, Nat.reduceAdd, Nat.reduceSub, Nat.reduceMul, Nat.reduceLeDiff, Int.reduceToNat, Int.reduceLE, Int.reduceLT, Int.reduceNeg, Int.reduceEq, runOps, runOp, runOp1, inlined, evOp, putD, amin, amax, abin, abinb, aun, AV.idx, sub, fillB, splice, AV.solid, AV.one, List.all_cons, List.all_nil, Bool.and_true, Bool.true_and, Bool.false_and, Bool.and_false, Bool.not_true, Bool.not_false, if_true, if_false, Nat.le_refl, Nat.zero_add, Bool.false_eq_true, reduceCtorEq, not_false_eq_true, ne_eq, hl, g0, g1]
  clear hl g0 g1 s
  rintro m s h ck ⟨i, hm, hi, hp, hl, g0, g1, g15, g16, g17⟩
  simp only at hl g0 g1 g15 g16 g17
  repeat first
    | apply Xw_seq
    | apply Xw_block
    | (apply Xw_region; · (simp only [xr, xl, xm, xh, xb, eq_self, Nat.reduceLT, Nat.reduceEqDiff, Nat.reduceAdd, Nat.reduceSub, Nat.reduceMul, Nat.reduceLeDiff, Int.reduceToNat, Int.reduceLE, Int.reduceLT, Int.reduceNeg, Int.reduceEq, runOps, runOp, runOp1, inlined, evOp, putD, amin, amax, abin, abinb, aun, AV.idx, sub, fillB, splice, AV.solid, AV.one, List.all_cons, List.all_nil, Bool.and_true, Bool.true_and, Bool.false_and, Bool.and_false, Bool.not_true, Bool.not_false, if_true, if_false, Nat.le_refl, Nat.zero_add, Bool.false_eq_true, reduceCtorEq, not_false_eq_true, ne_eq, hl, g16, g17]; with_reducible rfl)
       · rfl
       (try simp only [onEx_normal, outOf_normal]))
    | (apply Xw_skip; (try simp only [onEx_normal, outOf_normal]))
    | (apply Xw_exit; (try simp only [onEx_exit, outOf_exit, onEx_normal, outOf_normal, if_true, Nat.reduceEqDiff, if_false]))
  refine Xw_cond (by simp only [xr, xl, xm, xh, xb, eq_self, Nat.reduceLT, Nat.reduceEqDiff, Nat.reduceAdd, Nat.reduceSub, Nat.reduceMul, Nat.reduceLeDiff, Int.reduceToNat, Int.reduceLE, Int.reduceLT, Int.reduceNeg, Int.reduceEq, runOps, runOp, runOp1, inlined, evOp, putD, amin, amax, abin, abinb, aun, AV.idx, sub, fillB, splice, AV.solid, AV.one, List.all_cons, List.all_nil, Bool.and_true, Bool.true_and, Bool.false_and, Bool.and_false, Bool.not_true, Bool.not_false, if_true, if_false, Nat.le_refl, Nat.zero_add, Bool.false_eq_true, reduceCtorEq, not_false_eq_true, ne_eq, hl]; with_reducible rfl) (fun hc => ?_) (fun hc => ?_)
  · have hlt : i < a.length := by simpa using hc
    obtain ⟨x, hix⟩ : ∃ x, a[i]? = some x := ⟨a[i]'(by omega), List.getElem?_eq_getElem _⟩
    clear hc
    have hfa := firstS_spec hx a ha.1 n_shadow_Agree_1 [.fptr [.str x.1, .list (x.2.1.map (.int .i64))]] (fun y => decide (y.1 = x.1)) (fun _ => rfl) (fun _ => rfl) (fun y _ => agree1_spec hx y x.1 _) rfl rfl
    have hfb := firstS_spec hx b hb.1 n_shadow_Agree_1 [.fptr [.str x.1, .list (x.2.1.map (.int .i64))]] (fun y => decide (y.1 = x.1)) (fun _ => rfl) (fun _ => rfl) (fun y _ => agree1_spec hx y x.1 _) rfl rfl
    have hone := Sc.one_eq (b := b) hix
    unfold Sc.idxOf Sc.nm at hone
    cases hia : a.findIdx? (fun y => decide (y.1 = x.1)) with
    | none =>
      exfalso
      have := List.findIdx?_eq_none_iff.1 hia x (List.mem_of_getElem? hix)
      simp at this
    | some ja =>
      simp only [hia] at hfa
      cases hib : b.findIdx? (fun y => decide (y.1 = x.1)) with
      | none =>
        have hno : Sc.one a b i x = none := by rw [hone, hib]; split <;> rfl
        simp only [hib, encS] at hfb hfa
        by_cases hji : ja = i
        · subst hji
          have hd : decide (((ja : Nat) : Int) = (ja : Nat)) = true := by simp
          repeat first
            | apply Xw_seq
            | apply Xw_block
            | (apply Xw_region; · (simp only [xr, xl, xm, xh, xb, eq_self, Nat.reduceLT, Nat.reduceEqDiff, Nat.reduceAdd, Nat.reduceSub, Nat.reduceMul, Nat.reduceLeDiff, Int.reduceToNat, Int.reduceLE, Int.reduceLT, Int.reduceNeg, Int.reduceEq, runOps, runOp, runOp1, inlined, evOp, putD, amin, amax, abin, abinb, aun, AV.idx, sub, fillB, splice, AV.solid, AV.one, List.all_cons, List.all_nil, Bool.and_true, Bool.true_and, Bool.false_and, Bool.and_false, Bool.not_true, Bool.not_false, if_true, if_false, Nat.le_refl, Nat.zero_add, Bool.false_eq_true, reduceCtorEq, not_false_eq_true, ne_eq, hl, g0, g1, g15, g17, hix, encS, acall, xt, frz, es, hfa, hfb, hd, decide_true]; with_reducible rfl)
               · rfl
               (try simp only [onEx_normal, outOf_normal]))
            | (apply Xw_skip; (try simp only [onEx_normal, outOf_normal]))
            | (apply Xw_exit; (try simp only [onEx_exit, outOf_exit, onEx_normal, outOf_normal, if_true, Nat.reduceEqDiff, if_false]))
          refine Xw_cond (by simp only [xr, xl, xm, xh, xb, eq_self, Nat.reduceLT, Nat.reduceEqDiff, Nat.reduceAdd, Nat.reduceSub, Nat.reduceMul, Nat.reduceLeDiff, Int.reduceToNat, Int.reduceLE, Int.reduceLT, Int.reduceNeg, Int.reduceEq, runOps, runOp, runOp1, inlined, evOp, putD, amin, amax, abin, abinb, aun, AV.idx, sub, fillB, splice, AV.solid, AV.one, List.all_cons, List.all_nil, Bool.and_true, Bool.true_and, Bool.false_and, Bool.and_false, Bool.not_true, Bool.not_false, if_true, if_false, Nat.le_refl, Nat.zero_add, Bool.false_eq_true, reduceCtorEq, not_false_eq_true, ne_eq, hl, hd]; with_reducible rfl) (fun hc => ?_) (fun hc => ?_)
          · skip
            repeat first
              | apply Xw_seq
              | apply Xw_block
              | (apply Xw_region; · (simp only [xr, xl, xm, xh, xb, eq_self, Nat.reduceLT, Nat.reduceEqDiff, Nat.reduceAdd, Nat.reduceSub, Nat.reduceMul, Nat.reduceLeDiff, Int.reduceToNat, Int.reduceLE, Int.reduceLT, Int.reduceNeg, Int.reduceEq, runOps, runOp, runOp1, inlined, evOp, putD, amin, amax, abin, abinb, aun, AV.idx, sub, fillB, splice, AV.solid, AV.one, List.all_cons, List.all_nil, Bool.and_true, Bool.true_and, Bool.false_and, Bool.and_false, Bool.not_true, Bool.not_false, if_true, if_false, Nat.le_refl, Nat.zero_add, Bool.false_eq_true, reduceCtorEq, not_false_eq_true, ne_eq, hl, g17, wrap_succ (show ja < 9223372036854775807 by omega)]; with_reducible rfl)
                 · rfl
                 (try simp only [onEx_normal, outOf_normal]))
              | (apply Xw_skip; (try simp only [onEx_normal, outOf_normal]))
              | (apply Xw_exit; (try simp only [onEx_exit, outOf_exit, onEx_normal, outOf_normal, if_true, Nat.reduceEqDiff, if_false]))
            exact ⟨a.length - (ja + 1), by omega, ja + 1, rfl, by omega, fun j y hj hy => by
              by_cases e : j = ja
              · subst e; rw [hix] at hy; cases hy; rw [Nat.zero_add]; exact hno
              · exact hp j y (by omega) hy, by simp only [xr, xl, xm, xh, xb, eq_self, Nat.reduceLT, Nat.reduceEqDiff, Nat.reduceAdd, Nat.reduceSub, Nat.reduceMul, Nat.reduceLeDiff, Int.reduceToNat, Int.reduceLE, Int.reduceLT, Int.reduceNeg, Int.reduceEq, runOps, runOp, runOp1, inlined, evOp, putD, amin, amax, abin, abinb, aun, AV.idx, sub, fillB, splice, AV.solid, AV.one, List.all_cons, List.all_nil, Bool.and_true, Bool.true_and, Bool.false_and, Bool.and_false, Bool.not_true, Bool.not_false, if_true, if_false, Nat.le_refl, Nat.zero_add, Bool.false_eq_true, reduceCtorEq, not_false_eq_true, ne_eq, hl, g0, g1, g15, g16]⟩
          · simp at hc
            try omega
        · have hd : decide (((ja : Nat) : Int) = (i : Nat)) = false := by simp only [decide_eq_false_iff_not]; omega
          repeat first
            | apply Xw_seq
            | apply Xw_block
            | (apply Xw_region; · (simp only [xr, xl, xm, xh, xb, eq_self, Nat.reduceLT, Nat.reduceEqDiff, Nat.reduceAdd, Nat.reduceSub, Nat.reduceMul, Nat.reduceLeDiff, Int.reduceToNat, Int.reduceLE, Int.reduceLT, Int.reduceNeg, Int.reduceEq, runOps, runOp, runOp1, inlined, evOp, putD, amin, amax, abin, abinb, aun, AV.idx, sub, fillB, splice, AV.solid, AV.one, List.all_cons, List.all_nil, Bool.and_true, Bool.true_and, Bool.false_and, Bool.and_false, Bool.not_true, Bool.not_false, if_true, if_false, Nat.le_refl, Nat.zero_add, Bool.false_eq_true, reduceCtorEq, not_false_eq_true, ne_eq, hl, g0, g1, g15, g17, hix, encS, acall, xt, frz, es, hfa, hfb, hd]; with_reducible rfl)
               · rfl
               (try simp only [onEx_normal, outOf_normal]))
            | (apply Xw_skip; (try simp only [onEx_normal, outOf_normal]))
            | (apply Xw_exit; (try simp only [onEx_exit, outOf_exit, onEx_normal, outOf_normal, if_true, Nat.reduceEqDiff, if_false]))
          refine Xw_cond (by simp only [xr, xl, xm, xh, xb, eq_self, Nat.reduceLT, Nat.reduceEqDiff, Nat.reduceAdd, Nat.reduceSub, Nat.reduceMul, Nat.reduceLeDiff, Int.reduceToNat, Int.reduceLE, Int.reduceLT, Int.reduceNeg, Int.reduceEq, runOps, runOp, runOp1, inlined, evOp, putD, amin, amax, abin, abinb, aun, AV.idx, sub, fillB, splice, AV.solid, AV.one, List.all_cons, List.all_nil, Bool.and_true, Bool.true_and, Bool.false_and, Bool.and_false, Bool.not_true, Bool.not_false, if_true, if_false, Nat.le_refl, Nat.zero_add, Bool.false_eq_true, reduceCtorEq, not_false_eq_true, ne_eq, hl, hd]; with_reducible rfl) (fun hc => ?_) (fun hc => ?_)
          · skip
            repeat first
              | apply Xw_seq
              | apply Xw_block
              | (apply Xw_region; · (simp only [xr, xl, xm, xh, xb, eq_self, Nat.reduceLT, Nat.reduceEqDiff, Nat.reduceAdd, Nat.reduceSub, Nat.reduceMul, Nat.reduceLeDiff, Int.reduceToNat, Int.reduceLE, Int.reduceLT, Int.reduceNeg, Int.reduceEq, runOps, runOp, runOp1, inlined, evOp, putD, amin, amax, abin, abinb, aun, AV.idx, sub, fillB, splice, AV.solid, AV.one, List.all_cons, List.all_nil, Bool.and_true, Bool.true_and, Bool.false_and, Bool.and_false, Bool.not_true, Bool.not_false, if_true, if_false, Nat.le_refl, Nat.zero_add, Bool.false_eq_true, reduceCtorEq, not_false_eq_true, ne_eq, hl, g17, wrap_succ (show i < 9223372036854775807 by omega)]; with_reducible rfl)
                 · rfl
                 (try simp only [onEx_normal, outOf_normal]))
              | (apply Xw_skip; (try simp only [onEx_normal, outOf_normal]))
              | (apply Xw_exit; (try simp only [onEx_exit, outOf_exit, onEx_normal, outOf_normal, if_true, Nat.reduceEqDiff, if_false]))
            exact ⟨a.length - (i + 1), by omega, i + 1, rfl, by omega, fun j y hj hy => by
              by_cases e : j = i
              · subst e; rw [hix] at hy; cases hy; rw [Nat.zero_add]; exact hno
              · exact hp j y (by omega) hy, by simp only [xr, xl, xm, xh, xb, eq_self, Nat.reduceLT, Nat.reduceEqDiff, Nat.reduceAdd, Nat.reduceSub, Nat.reduceMul, Nat.reduceLeDiff, Int.reduceToNat, Int.reduceLE, Int.reduceLT, Int.reduceNeg, Int.reduceEq, runOps, runOp, runOp1, inlined, evOp, putD, amin, amax, abin, abinb, aun, AV.idx, sub, fillB, splice, AV.solid, AV.one, List.all_cons, List.all_nil, Bool.and_true, Bool.true_and, Bool.false_and, Bool.and_false, Bool.not_true, Bool.not_false, if_true, if_false, Nat.le_refl, Nat.zero_add, Bool.false_eq_true, reduceCtorEq, not_false_eq_true, ne_eq, hl, g0, g1, g15, g16]⟩
          · simp at hc
            try omega
      | some kb =>
        obtain ⟨hkl, _⟩ := List.findIdx?_eq_some_iff_getElem.1 hib
        have hby : b.getD kb (⟨#[]⟩, [], ()) ∈ b := by rw [List.getD_eq_getElem?_getD, List.getElem?_eq_getElem hkl]; exact List.getElem_mem _
        simp only [hib, encS] at hfb hfa
        by_cases hji : ja = i
        · subst hji
          have hd : decide (((ja : Nat) : Int) = (ja : Nat)) = true := by simp
          have hdf := difference_spec hx x.2.1 (b.getD kb (⟨#[]⟩, [], ())).2.1 (ha.2 _ (List.mem_of_getElem? hix)) (hb.2 _ hby)
          have hone' : Sc.one a b ja x = (Sc.diff x.2.1 (b.getD kb (⟨#[]⟩, [], ())).2.1).map fun k => (x.1, k) := by rw [hone, hia, hib, if_pos rfl]; rfl
          repeat first
            | apply Xw_seq
            | apply Xw_block
            | (apply Xw_region; · (simp only [xr, xl, xm, xh, xb, eq_self, Nat.reduceLT, Nat.reduceEqDiff, Nat.reduceAdd, Nat.reduceSub, Nat.reduceMul, Nat.reduceLeDiff, Int.reduceToNat, Int.reduceLE, Int.reduceLT, Int.reduceNeg, Int.reduceEq, runOps, runOp, runOp1, inlined, evOp, putD, amin, amax, abin, abinb, aun, AV.idx, sub, fillB, splice, AV.solid, AV.one, List.all_cons, List.all_nil, Bool.and_true, Bool.true_and, Bool.false_and, Bool.and_false, Bool.not_true, Bool.not_false, if_true, if_false, Nat.le_refl, Nat.zero_add, Bool.false_eq_true, reduceCtorEq, not_false_eq_true, ne_eq, hl, g0, g1, g15, g17, hix, encS, acall, xt, frz, es, hfa, hfb, hd, decide_true]; with_reducible rfl)
               · rfl
               (try simp only [onEx_normal, outOf_normal]))
            | (apply Xw_skip; (try simp only [onEx_normal, outOf_normal]))
            | (apply Xw_exit; (try simp only [onEx_exit, outOf_exit, onEx_normal, outOf_normal, if_true, Nat.reduceEqDiff, if_false]))
          refine Xw_cond (by simp only [xr, xl, xm, xh, xb, eq_self, Nat.reduceLT, Nat.reduceEqDiff, Nat.reduceAdd, Nat.reduceSub, Nat.reduceMul, Nat.reduceLeDiff, Int.reduceToNat, Int.reduceLE, Int.reduceLT, Int.reduceNeg, Int.reduceEq, runOps, runOp, runOp1, inlined, evOp, putD, amin, amax, abin, abinb, aun, AV.idx, sub, fillB, splice, AV.solid, AV.one, List.all_cons, List.all_nil, Bool.and_true, Bool.true_and, Bool.false_and, Bool.and_false, Bool.not_true, Bool.not_false, if_true, if_false, Nat.le_refl, Nat.zero_add, Bool.false_eq_true, reduceCtorEq, not_false_eq_true, ne_eq, hl]; with_reducible rfl) (fun hc => ?_) (fun hc => ?_)
          · exfalso
            simp at hc
            omega
          · cases hdd : Sc.diff x.2.1 (b.getD kb (⟨#[]⟩, [], ())).2.1 with
            | none =>
              rw [hdd] at hdf hone'
              simp only at hdf
              repeat first
                | apply Xw_seq
                | apply Xw_block
                | (apply Xw_region; · (simp only [xr, xl, xm, xh, xb, eq_self, Nat.reduceLT, Nat.reduceEqDiff, Nat.reduceAdd, Nat.reduceSub, Nat.reduceMul, Nat.reduceLeDiff, Int.reduceToNat, Int.reduceLE, Int.reduceLT, Int.reduceNeg, Int.reduceEq, runOps, runOp, runOp1, inlined, evOp, putD, amin, amax, abin, abinb, aun, AV.idx, sub, fillB, splice, AV.solid, AV.one, List.all_cons, List.all_nil, Bool.and_true, Bool.true_and, Bool.false_and, Bool.and_false, Bool.not_true, Bool.not_false, if_true, if_false, Nat.le_refl, Nat.zero_add, Bool.false_eq_true, reduceCtorEq, not_false_eq_true, ne_eq, hl, acall, xt, frz, es, hdf]; with_reducible rfl)
                   · rfl
                   (try simp only [onEx_normal, outOf_normal]))
                | (apply Xw_skip; (try simp only [onEx_normal, outOf_normal]))
                | (apply Xw_exit; (try simp only [onEx_exit, outOf_exit, onEx_normal, outOf_normal, if_true, Nat.reduceEqDiff, if_false]))
              refine Xw_cond (by simp only [xr, xl, xm, xh, xb, eq_self, Nat.reduceLT, Nat.reduceEqDiff, Nat.reduceAdd, Nat.reduceSub, Nat.reduceMul, Nat.reduceLeDiff, Int.reduceToNat, Int.reduceLE, Int.reduceLT, Int.reduceNeg, Int.reduceEq, runOps, runOp, runOp1, inlined, evOp, putD, amin, amax, abin, abinb, aun, AV.idx, sub, fillB, splice, AV.solid, AV.one, List.all_cons, List.all_nil, Bool.and_true, Bool.true_and, Bool.false_and, Bool.and_false, Bool.not_true, Bool.not_false, if_true, if_false, Nat.le_refl, Nat.zero_add, Bool.false_eq_true, reduceCtorEq, not_false_eq_true, ne_eq, hl]; with_reducible rfl) (fun hc => ?_) (fun hc => ?_)
              · simp at hc
              · skip
                repeat first
                  | apply Xw_seq
                  | apply Xw_block
                  | (apply Xw_region; · (simp only [xr, xl, xm, xh, xb, eq_self, Nat.reduceLT, Nat.reduceEqDiff, Nat.reduceAdd, Nat.reduceSub, Nat.reduceMul, Nat.reduceLeDiff, Int.reduceToNat, Int.reduceLE, Int.reduceLT, Int.reduceNeg, Int.reduceEq, runOps, runOp, runOp1, inlined, evOp, putD, amin, amax, abin, abinb, aun, AV.idx, sub, fillB, splice, AV.solid, AV.one, List.all_cons, List.all_nil, Bool.and_true, Bool.true_and, Bool.false_and, Bool.and_false, Bool.not_true, Bool.not_false, if_true, if_false, Nat.le_refl, Nat.zero_add, Bool.false_eq_true, reduceCtorEq, not_false_eq_true, ne_eq, hl, g17, wrap_succ (show ja < 9223372036854775807 by omega)]; with_reducible rfl)
                     · rfl
                     (try simp only [onEx_normal, outOf_normal]))
                  | (apply Xw_skip; (try simp only [onEx_normal, outOf_normal]))
                  | (apply Xw_exit; (try simp only [onEx_exit, outOf_exit, onEx_normal, outOf_normal, if_true, Nat.reduceEqDiff, if_false]))
                exact ⟨a.length - (ja + 1), by omega, ja + 1, rfl, by omega, fun j y hj hy => by
                  by_cases e : j = ja
                  · subst e; rw [hix] at hy; cases hy; rw [Nat.zero_add]; exact hone'
                  · exact hp j y (by omega) hy, by simp only [xr, xl, xm, xh, xb, eq_self, Nat.reduceLT, Nat.reduceEqDiff, Nat.reduceAdd, Nat.reduceSub, Nat.reduceMul, Nat.reduceLeDiff, Int.reduceToNat, Int.reduceLE, Int.reduceLT, Int.reduceNeg, Int.reduceEq, runOps, runOp, runOp1, inlined, evOp, putD, amin, amax, abin, abinb, aun, AV.idx, sub, fillB, splice, AV.solid, AV.one, List.all_cons, List.all_nil, Bool.and_true, Bool.true_and, Bool.false_and, Bool.and_false, Bool.not_true, Bool.not_false, if_true, if_false, Nat.le_refl, Nat.zero_add, Bool.false_eq_true, reduceCtorEq, not_false_eq_true, ne_eq, hl, g0, g1, g15, g16]⟩
            | some kd =>
              rw [hdd] at hdf hone'
              simp only at hdf
              repeat first
                | apply Xw_seq
                | apply Xw_block
                | (apply Xw_region; · (simp only [xr, xl, xm, xh, xb, eq_self, Nat.reduceLT, Nat.reduceEqDiff, Nat.reduceAdd, Nat.reduceSub, Nat.reduceMul, Nat.reduceLeDiff, Int.reduceToNat, Int.reduceLE, Int.reduceLT, Int.reduceNeg, Int.reduceEq, runOps, runOp, runOp1, inlined, evOp, putD, amin, amax, abin, abinb, aun, AV.idx, sub, fillB, splice, AV.solid, AV.one, List.all_cons, List.all_nil, Bool.and_true, Bool.true_and, Bool.false_and, Bool.and_false, Bool.not_true, Bool.not_false, if_true, if_false, Nat.le_refl, Nat.zero_add, Bool.false_eq_true, reduceCtorEq, not_false_eq_true, ne_eq, hl, acall, xt, frz, es, hdf]; with_reducible rfl)
                   · rfl
                   (try simp only [onEx_normal, outOf_normal]))
                | (apply Xw_skip; (try simp only [onEx_normal, outOf_normal]))
                | (apply Xw_exit; (try simp only [onEx_exit, outOf_exit, onEx_normal, outOf_normal, if_true, Nat.reduceEqDiff, if_false]))
              refine Xw_cond (by simp only [xr, xl, xm, xh, xb, eq_self, Nat.reduceLT, Nat.reduceEqDiff, Nat.reduceAdd, Nat.reduceSub, Nat.reduceMul, Nat.reduceLeDiff, Int.reduceToNat, Int.reduceLE, Int.reduceLT, Int.reduceNeg, Int.reduceEq, runOps, runOp, runOp1, inlined, evOp, putD, amin, amax, abin, abinb, aun, AV.idx, sub, fillB, splice, AV.solid, AV.one, List.all_cons, List.all_nil, Bool.and_true, Bool.true_and, Bool.false_and, Bool.and_false, Bool.not_true, Bool.not_false, if_true, if_false, Nat.le_refl, Nat.zero_add, Bool.false_eq_true, reduceCtorEq, not_false_eq_true, ne_eq, hl]; with_reducible rfl) (fun hc => ?_) (fun hc => ?_)
              · skip
                repeat first
                  | apply Xw_seq
                  | apply Xw_block
                  | (apply Xw_region; · (simp only [xr, xl, xm, xh, xb, eq_self, Nat.reduceLT, Nat.reduceEqDiff, Nat.reduceAdd, Nat.reduceSub, Nat.reduceMul, Nat.reduceLeDiff, Int.reduceToNat, Int.reduceLE, Int.reduceLT, Int.reduceNeg, Int.reduceEq, runOps, runOp, runOp1, inlined, evOp, putD, amin, amax, abin, abinb, aun, AV.idx, sub, fillB, splice, AV.solid, AV.one, List.all_cons, List.all_nil, Bool.and_true, Bool.true_and, Bool.false_and, Bool.and_false, Bool.not_true, Bool.not_false, if_true, if_false, Nat.le_refl, Nat.zero_add, Bool.false_eq_true, reduceCtorEq, not_false_eq_true, ne_eq, hl]; with_reducible rfl)
                     · rfl
                     (try simp only [onEx_normal, outOf_normal]))
                  | (apply Xw_skip; (try simp only [onEx_normal, outOf_normal]))
                  | (apply Xw_exit; (try simp only [onEx_exit, outOf_exit, onEx_normal, outOf_normal, if_true, Nat.reduceEqDiff, if_false]))
                apply Xw_ret
                (try simp only [onEx_ret, outOf_ret])
                refine ⟨(by simp), _, (by simp only [getAll, ARes.get, xr, xl, xm, xh, xb, eq_self, Nat.reduceLT, Nat.reduceEqDiff, Nat.reduceAdd, Nat.reduceSub, Nat.reduceMul, Nat.reduceLeDiff, Int.reduceToNat, Int.reduceLE, Int.reduceLT, Int.reduceNeg, Int.reduceEq, runOps, runOp, runOp1, inlined, evOp, putD, amin, amax, abin, abinb, aun, AV.idx, sub, fillB, splice, AV.solid, AV.one, List.all_cons, List.all_nil, Bool.and_true, Bool.true_and, Bool.false_and, Bool.and_false, Bool.not_true, Bool.not_false, if_true, if_false, Nat.le_refl, Nat.zero_add, Bool.false_eq_true, reduceCtorEq, not_false_eq_true, ne_eq, hl]; rfl), ?_⟩
                (try simp only [handBack, xt, xl])
                rw [show Sc.agree a b = some (x.1, kd) from Sc.agreeFrom_stop hix hp (by rw [Nat.zero_add]; exact hone')]
                rfl
              · simp at hc
        · have hd : decide (((ja : Nat) : Int) = (i : Nat)) = false := by simp only [decide_eq_false_iff_not]; omega
          have hno : Sc.one a b i x = none := by rw [hone, hia, if_neg (by simpa using hji)]
          repeat first
            | apply Xw_seq
            | apply Xw_block
            | (apply Xw_region; · (simp only [xr, xl, xm, xh, xb, eq_self, Nat.reduceLT, Nat.reduceEqDiff, Nat.reduceAdd, Nat.reduceSub, Nat.reduceMul, Nat.reduceLeDiff, Int.reduceToNat, Int.reduceLE, Int.reduceLT, Int.reduceNeg, Int.reduceEq, runOps, runOp, runOp1, inlined, evOp, putD, amin, amax, abin, abinb, aun, AV.idx, sub, fillB, splice, AV.solid, AV.one, List.all_cons, List.all_nil, Bool.and_true, Bool.true_and, Bool.false_and, Bool.and_false, Bool.not_true, Bool.not_false, if_true, if_false, Nat.le_refl, Nat.zero_add, Bool.false_eq_true, reduceCtorEq, not_false_eq_true, ne_eq, hl, g0, g1, g15, g17, hix, encS, acall, xt, frz, es, hfa, hfb, hd]; with_reducible rfl)
               · rfl
               (try simp only [onEx_normal, outOf_normal]))
            | (apply Xw_skip; (try simp only [onEx_normal, outOf_normal]))
            | (apply Xw_exit; (try simp only [onEx_exit, outOf_exit, onEx_normal, outOf_normal, if_true, Nat.reduceEqDiff, if_false]))
          refine Xw_cond (by simp only [xr, xl, xm, xh, xb, eq_self, Nat.reduceLT, Nat.reduceEqDiff, Nat.reduceAdd, Nat.reduceSub, Nat.reduceMul, Nat.reduceLeDiff, Int.reduceToNat, Int.reduceLE, Int.reduceLT, Int.reduceNeg, Int.reduceEq, runOps, runOp, runOp1, inlined, evOp, putD, amin, amax, abin, abinb, aun, AV.idx, sub, fillB, splice, AV.solid, AV.one, List.all_cons, List.all_nil, Bool.and_true, Bool.true_and, Bool.false_and, Bool.and_false, Bool.not_true, Bool.not_false, if_true, if_false, Nat.le_refl, Nat.zero_add, Bool.false_eq_true, reduceCtorEq, not_false_eq_true, ne_eq, hl, hd]; with_reducible rfl) (fun hc => ?_) (fun hc => ?_)
          · skip
            repeat first
              | apply Xw_seq
              | apply Xw_block
              | (apply Xw_region; · (simp only [xr, xl, xm, xh, xb, eq_self, Nat.reduceLT, Nat.reduceEqDiff, Nat.reduceAdd, Nat.reduceSub, Nat.reduceMul, Nat.reduceLeDiff, Int.reduceToNat, Int.reduceLE, Int.reduceLT, Int.reduceNeg, Int.reduceEq, runOps, runOp, runOp1, inlined, evOp, putD, amin, amax, abin, abinb, aun, AV.idx, sub, fillB, splice, AV.solid, AV.one, List.all_cons, List.all_nil, Bool.and_true, Bool.true_and, Bool.false_and, Bool.and_false, Bool.not_true, Bool.not_false, if_true, if_false, Nat.le_refl, Nat.zero_add, Bool.false_eq_true, reduceCtorEq, not_false_eq_true, ne_eq, hl, g17, wrap_succ (show i < 9223372036854775807 by omega)]; with_reducible rfl)
                 · rfl
                 (try simp only [onEx_normal, outOf_normal]))
              | (apply Xw_skip; (try simp only [onEx_normal, outOf_normal]))
              | (apply Xw_exit; (try simp only [onEx_exit, outOf_exit, onEx_normal, outOf_normal, if_true, Nat.reduceEqDiff, if_false]))
            exact ⟨a.length - (i + 1), by omega, i + 1, rfl, by omega, fun j y hj hy => by
              by_cases e : j = i
              · subst e; rw [hix] at hy; cases hy; rw [Nat.zero_add]; exact hno
              · exact hp j y (by omega) hy, by simp only [xr, xl, xm, xh, xb, eq_self, Nat.reduceLT, Nat.reduceEqDiff, Nat.reduceAdd, Nat.reduceSub, Nat.reduceMul, Nat.reduceLeDiff, Int.reduceToNat, Int.reduceLE, Int.reduceLT, Int.reduceNeg, Int.reduceEq, runOps, runOp, runOp1, inlined, evOp, putD, amin, amax, abin, abinb, aun, AV.idx, sub, fillB, splice, AV.solid, AV.one, List.all_cons, List.all_nil, Bool.and_true, Bool.true_and, Bool.false_and, Bool.and_false, Bool.not_true, Bool.not_false, if_true, if_false, Nat.le_refl, Nat.zero_add, Bool.false_eq_true, reduceCtorEq, not_false_eq_true, ne_eq, hl, g0, g1, g15, g16]⟩
          · simp at hc
            try omega
  · skip
    repeat first
      | apply Xw_seq
      | apply Xw_block
      | (apply Xw_region; · (simp only [xr, xl, xm, xh, xb, eq_self, Nat.reduceLT, Nat.reduceEqDiff, Nat.reduceAdd, Nat.reduceSub, Nat.reduceMul, Nat.reduceLeDiff, Int.reduceToNat, Int.reduceLE, Int.reduceLT, Int.reduceNeg, Int.reduceEq, runOps, runOp, runOp1, inlined, evOp, putD, amin, amax, abin, abinb, aun, AV.idx, sub, fillB, splice, AV.solid, AV.one, List.all_cons, List.all_nil, Bool.and_true, Bool.true_and, Bool.false_and, Bool.and_false, Bool.not_true, Bool.not_false, if_true, if_false, Nat.le_refl, Nat.zero_add, Bool.false_eq_true, reduceCtorEq, not_false_eq_true, ne_eq, hl]; with_reducible rfl)
         · rfl
         (try simp only [onEx_normal, outOf_normal]))
      | (apply Xw_skip; (try simp only [onEx_normal, outOf_normal]))
      | (apply Xw_exit; (try simp only [onEx_exit, outOf_exit, onEx_normal, outOf_normal, if_true, Nat.reduceEqDiff, if_false]))
    apply Xw_ret
    (try simp only [onEx_ret, outOf_ret])
    refine ⟨(by simp), _, (by simp only [getAll, ARes.get, xr, xl, xm, xh, xb, eq_self, Nat.reduceLT, Nat.reduceEqDiff, Nat.reduceAdd, Nat.reduceSub, Nat.reduceMul, Nat.reduceLeDiff, Int.reduceToNat, Int.reduceLE, Int.reduceLT, Int.reduceNeg, Int.reduceEq, runOps, runOp, runOp1, inlined, evOp, putD, amin, amax, abin, abinb, aun, AV.idx, sub, fillB, splice, AV.solid, AV.one, List.all_cons, List.all_nil, Bool.and_true, Bool.true_and, Bool.false_and, Bool.and_false, Bool.not_true, Bool.not_false, if_true, if_false, Nat.le_refl, Nat.zero_add, Bool.false_eq_true, reduceCtorEq, not_false_eq_true, ne_eq, hl]; rfl), ?_⟩
    (try simp only [handBack, xt, xl])
    rw [show Sc.agree a b = none from Sc.agreeFrom_end (fun k y hk => hp k y (by have := (List.getElem?_eq_some_iff.1 hk).1; simp only [decide_eq_false_iff_not] at hc; omega) hk)]
    rfl
end
end Go.Aw
