/- Walks of this program by an abstract machine: the text ShC. No conditions. -/
import Derived.Test.YtnbiilpcidglpaaShB
set_option linter.unusedSimpArgs false
set_option linter.unusedVariables false

namespace Go.Aw
open Go.Proofs

theorem okS_begins {a : List Sc.Strm} (h : okS a) (k : Nat) : okS (Sc.begins a k) := by
  refine ⟨by simpa [Sc.begins] using h.1, fun x hx => ?_⟩
  obtain ⟨y, hy, rfl⟩ := List.mem_map.1 hx
  have := h.2 y hy
  simp only [List.length_take]
  omega
theorem okS_stream1 {a : List Sc.Strm} (h : okS a) (n : ByteArray) : okS (Sc.stream1 a n) := by
  unfold Sc.stream1
  cases hf : Sc.firstOf a n with
  | none => exact ⟨by simp, fun x hx => by simp at hx⟩
  | some x => exact ⟨by simp, fun y hy => by simp at hy; subst hy; exact h.2 _ (List.mem_of_find?_eq_some hf)⟩
theorem okB_stream1 (a : List Sc.Strm) (n : ByteArray) : okB (Sc.stream1 a n) := by
  unfold okB Sc.stream1
  cases Sc.firstOf a n <;> simp

section
variable {ext : FuncId → List AV → Option AV} (hx : ∀ f args, ext f args = none)
include hx

set_option maxHeartbeats 4000000 in
theorem law_spec (hex : cL (EE ext) n_law52_examples [] = some (.bool true)) (a b : List Sc.Strm) (ha : okS a) (hb : okS b) (ba : okB a) (bb : okB b) (k0 k1 : Int) (h0 : 0 ≤ k0) (h0' : k0 ≤ 255) (h1 : 0 ≤ k1) (h1' : k1 ≤ 255) :
    cL (EE ext) n_law52_ShadowCompares [.list (a.map encS), .list (b.map encS), .agg [.int .u8 k0, .int .u8 k1]] = some (.bool true) := by
  obtain ⟨q0, e0, l0⟩ : ∃ q : Nat, IntKind.i64.wrap (k0.tmod 8) = (q : Int) ∧ q ≤ 7 := by
    have : k0.tmod 8 = k0 % 8 := Int.tmod_eq_emod_of_nonneg h0
    refine ⟨(k0 % 8).toNat, ?_, by omega⟩
    rw [this, wrap_id (by omega) (by omega)]; omega
  obtain ⟨q1, e1, l1⟩ : ∃ q : Nat, IntKind.i64.wrap (k1.tmod 8) = (q : Int) ∧ q ≤ 7 := by
    have : k1.tmod 8 = k1 % 8 := Int.tmod_eq_emod_of_nonneg h1
    refine ⟨(k1 % 8).toNat, ?_, by omega⟩
    rw [this, wrap_id (by omega) (by omega)]; omega
  have hca := count_spec hx a ha
  have hcb := count_spec hx b hb
  have hab := agree_spec hx a b ha hb
  have hba := agree_spec hx b a hb ha
  have haa := agree_spec hx a a ha ha
  have hc0 := begin_spec hx a ha ba q0 (by omega)
  have hc1 := begin_spec hx b hb bb q1 (by omega)
  have hz := begin_spec hx a ha ba 0 (by omega)
  rw [show ((0 : Nat) : Int) = 0 from rfl] at hz
  have hcd := agree_spec hx _ _ (okS_begins ha q0) (okS_begins hb q1)
  have hcb' := agree_spec hx _ _ (okS_begins ha q0) hb
  have hzb := agree_spec hx _ _ (okS_begins ha 0) hb
  rw [Sc.agree_self] at haa
  rw [Sc.agree_begins0] at hzb
  simp only [vd] at haa hzb
  rcases hv : Sc.agree a b with _ | ⟨n, k⟩
  · have hw : Sc.agree b a = none := (Sc.agree_comm a b).1 hv
    rw [hv] at hab
    rw [hw] at hba
    rw [Sc.agree_begins_l q0 (Sc.agree_begins_r q1 hv)] at hcd
    rw [Sc.agree_begins_l q0 hv] at hcb'
    simp only [vd] at hab hba hcd hcb'
    refine cL_walk (fn := c_law52_ShadowCompares) t_law52_ShadowCompares (hx _ _) rfl fun s hl g => ?_
    have g0 : gt s 0 = _ := g 0 (Nat.lt_of_sub_eq_succ rfl)
    have g1 : gt s 1 = _ := g 1 (Nat.lt_of_sub_eq_succ rfl)
    have g2 : gt s 2 = _ := g 2 (Nat.lt_of_sub_eq_succ rfl)
    clear g
    replace hl : s.length = 124 := hl
    simp only [List.getD_cons_zero, List.getD_cons_succ] at g0 g1 g2
    simp only [c_law52_ShadowCompares]
    repeat first
      | apply Xw_seq
      | apply Xw_block
      | (apply Xw_region; · (simp only [xr, xl, xm, xh, xb, eq_self, Nat.reduceLT, Nat.reduceEqDiff, Nat.reduceAdd, Nat.reduceSub, Nat.reduceMul, Nat.reduceLeDiff, Int.reduceToNat, Int.reduceLE, Int.reduceLT, Int.reduceNeg, Int.reduceEq, runOps, runOp, runOp1, inlined, evOp, putD, amin, amax, abin, abinb, aun, AV.idx, sub, fillB, splice, AV.solid, AV.one, List.all_cons, List.all_nil, Bool.and_true, Bool.true_and, Bool.false_and, Bool.and_false, Bool.not_true, Bool.not_false, if_true, if_false, Nat.le_refl, Nat.zero_add, Bool.false_eq_true, reduceCtorEq, not_false_eq_true, ne_eq, hl, g0, g1, g2, acall, xt, frz, es, hex, hca, hcb]; with_reducible rfl)
         · rfl
         (try simp only [onEx_normal, outOf_normal]))
      | (apply Xw_skip; (try simp only [onEx_normal, outOf_normal]))
      | (apply Xw_exit; (try simp only [onEx_exit, outOf_exit, onEx_normal, outOf_normal, if_true, Nat.reduceEqDiff, if_false]))
    refine Xw_cond (by simp only [xr, xl, xm, xh, xb, eq_self, Nat.reduceLT, Nat.reduceEqDiff, Nat.reduceAdd, Nat.reduceSub, Nat.reduceMul, Nat.reduceLeDiff, Int.reduceToNat, Int.reduceLE, Int.reduceLT, Int.reduceNeg, Int.reduceEq, runOps, runOp, runOp1, inlined, evOp, putD, amin, amax, abin, abinb, aun, AV.idx, sub, fillB, splice, AV.solid, AV.one, List.all_cons, List.all_nil, Bool.and_true, Bool.true_and, Bool.false_and, Bool.and_false, Bool.not_true, Bool.not_false, if_true, if_false, Nat.le_refl, Nat.zero_add, Bool.false_eq_true, reduceCtorEq, not_false_eq_true, ne_eq, hl]; with_reducible rfl) (fun hc => ?_) (fun hc => ?_)
    · simp at hc
    · skip
      repeat first
        | apply Xw_seq
        | apply Xw_block
        | (apply Xw_region; · (simp only [xr, xl, xm, xh, xb, eq_self, Nat.reduceLT, Nat.reduceEqDiff, Nat.reduceAdd, Nat.reduceSub, Nat.reduceMul, Nat.reduceLeDiff, Int.reduceToNat, Int.reduceLE, Int.reduceLT, Int.reduceNeg, Int.reduceEq, runOps, runOp, runOp1, inlined, evOp, putD, amin, amax, abin, abinb, aun, AV.idx, sub, fillB, splice, AV.solid, AV.one, List.all_cons, List.all_nil, Bool.and_true, Bool.true_and, Bool.false_and, Bool.and_false, Bool.not_true, Bool.not_false, if_true, if_false, Nat.le_refl, Nat.zero_add, Bool.false_eq_true, reduceCtorEq, not_false_eq_true, ne_eq, hl, g0, g1, g2, acall, xt, frz, es, hex, hca, hcb]; with_reducible rfl)
           · rfl
           (try simp only [onEx_normal, outOf_normal]))
        | (apply Xw_skip; (try simp only [onEx_normal, outOf_normal]))
        | (apply Xw_exit; (try simp only [onEx_exit, outOf_exit, onEx_normal, outOf_normal, if_true, Nat.reduceEqDiff, if_false]))
      refine Xw_cond (by simp only [xr, xl, xm, xh, xb, eq_self, Nat.reduceLT, Nat.reduceEqDiff, Nat.reduceAdd, Nat.reduceSub, Nat.reduceMul, Nat.reduceLeDiff, Int.reduceToNat, Int.reduceLE, Int.reduceLT, Int.reduceNeg, Int.reduceEq, runOps, runOp, runOp1, inlined, evOp, putD, amin, amax, abin, abinb, aun, AV.idx, sub, fillB, splice, AV.solid, AV.one, List.all_cons, List.all_nil, Bool.and_true, Bool.true_and, Bool.false_and, Bool.and_false, Bool.not_true, Bool.not_false, if_true, if_false, Nat.le_refl, Nat.zero_add, Bool.false_eq_true, reduceCtorEq, not_false_eq_true, ne_eq, hl]; with_reducible rfl) (fun hc => ?_) (fun hc => ?_)
      · skip
        repeat first
          | apply Xw_seq
          | apply Xw_block
          | (apply Xw_region; · (simp only [xr, xl, xm, xh, xb, eq_self, Nat.reduceLT, Nat.reduceEqDiff, Nat.reduceAdd, Nat.reduceSub, Nat.reduceMul, Nat.reduceLeDiff, Int.reduceToNat, Int.reduceLE, Int.reduceLT, Int.reduceNeg, Int.reduceEq, runOps, runOp, runOp1, inlined, evOp, putD, amin, amax, abin, abinb, aun, AV.idx, sub, fillB, splice, AV.solid, AV.one, List.all_cons, List.all_nil, Bool.and_true, Bool.true_and, Bool.false_and, Bool.and_false, Bool.not_true, Bool.not_false, if_true, if_false, Nat.le_refl, Nat.zero_add, Bool.false_eq_true, reduceCtorEq, not_false_eq_true, ne_eq, hl]; with_reducible rfl)
             · rfl
             (try simp only [onEx_normal, outOf_normal]))
          | (apply Xw_skip; (try simp only [onEx_normal, outOf_normal]))
          | (apply Xw_exit; (try simp only [onEx_exit, outOf_exit, onEx_normal, outOf_normal, if_true, Nat.reduceEqDiff, if_false]))
        apply Xw_ret
        (try simp only [onEx_ret, outOf_ret])
        refine ⟨(by simp), _, (by simp only [getAll, ARes.get, xr, xl, xm, xh, xb, eq_self, Nat.reduceLT, Nat.reduceEqDiff, Nat.reduceAdd, Nat.reduceSub, Nat.reduceMul, Nat.reduceLeDiff, Int.reduceToNat, Int.reduceLE, Int.reduceLT, Int.reduceNeg, Int.reduceEq, runOps, runOp, runOp1, inlined, evOp, putD, amin, amax, abin, abinb, aun, AV.idx, sub, fillB, splice, AV.solid, AV.one, List.all_cons, List.all_nil, Bool.and_true, Bool.true_and, Bool.false_and, Bool.and_false, Bool.not_true, Bool.not_false, if_true, if_false, Nat.le_refl, Nat.zero_add, Bool.false_eq_true, reduceCtorEq, not_false_eq_true, ne_eq, hl]; rfl), ?_⟩
        (try simp only [handBack, xt, xl])
      · clear hc
        repeat first
          | apply Xw_seq
          | apply Xw_block
          | (apply Xw_region; · (simp only [xr, xl, xm, xh, xb, eq_self, Nat.reduceLT, Nat.reduceEqDiff, Nat.reduceAdd, Nat.reduceSub, Nat.reduceMul, Nat.reduceLeDiff, Int.reduceToNat, Int.reduceLE, Int.reduceLT, Int.reduceNeg, Int.reduceEq, runOps, runOp, runOp1, inlined, evOp, putD, amin, amax, abin, abinb, aun, AV.idx, sub, fillB, splice, AV.solid, AV.one, List.all_cons, List.all_nil, Bool.and_true, Bool.true_and, Bool.false_and, Bool.and_false, Bool.not_true, Bool.not_false, if_true, if_false, Nat.le_refl, Nat.zero_add, Bool.false_eq_true, reduceCtorEq, not_false_eq_true, ne_eq, hl, g0, g1, g2, acall, xt, frz, es, hex, hca, hcb, hab, hba, hc0, hc1, hz, hcd, hcb', hzb, haa, e0, e1]; with_reducible rfl)
             · rfl
             (try simp only [onEx_normal, outOf_normal]))
          | (apply Xw_skip; (try simp only [onEx_normal, outOf_normal]))
          | (apply Xw_exit; (try simp only [onEx_exit, outOf_exit, onEx_normal, outOf_normal, if_true, Nat.reduceEqDiff, if_false]))
        refine Xw_cond (by simp only [xr, xl, xm, xh, xb, eq_self, Nat.reduceLT, Nat.reduceEqDiff, Nat.reduceAdd, Nat.reduceSub, Nat.reduceMul, Nat.reduceLeDiff, Int.reduceToNat, Int.reduceLE, Int.reduceLT, Int.reduceNeg, Int.reduceEq, runOps, runOp, runOp1, inlined, evOp, putD, amin, amax, abin, abinb, aun, AV.idx, sub, fillB, splice, AV.solid, AV.one, List.all_cons, List.all_nil, Bool.and_true, Bool.true_and, Bool.false_and, Bool.and_false, Bool.not_true, Bool.not_false, if_true, if_false, Nat.le_refl, Nat.zero_add, Bool.false_eq_true, reduceCtorEq, not_false_eq_true, ne_eq, hl]; with_reducible rfl) (fun hc => ?_) (fun hc => ?_)
        · simp at hc
        · skip
          repeat first
            | apply Xw_seq
            | apply Xw_block
            | (apply Xw_region; · (simp only [xr, xl, xm, xh, xb, eq_self, Nat.reduceLT, Nat.reduceEqDiff, Nat.reduceAdd, Nat.reduceSub, Nat.reduceMul, Nat.reduceLeDiff, Int.reduceToNat, Int.reduceLE, Int.reduceLT, Int.reduceNeg, Int.reduceEq, runOps, runOp, runOp1, inlined, evOp, putD, amin, amax, abin, abinb, aun, AV.idx, sub, fillB, splice, AV.solid, AV.one, List.all_cons, List.all_nil, Bool.and_true, Bool.true_and, Bool.false_and, Bool.and_false, Bool.not_true, Bool.not_false, if_true, if_false, Nat.le_refl, Nat.zero_add, Bool.false_eq_true, reduceCtorEq, not_false_eq_true, ne_eq, hl]; with_reducible rfl)
               · rfl
               (try simp only [onEx_normal, outOf_normal]))
            | (apply Xw_skip; (try simp only [onEx_normal, outOf_normal]))
            | (apply Xw_exit; (try simp only [onEx_exit, outOf_exit, onEx_normal, outOf_normal, if_true, Nat.reduceEqDiff, if_false]))
          refine Xw_cond (by simp only [xr, xl, xm, xh, xb, eq_self, Nat.reduceLT, Nat.reduceEqDiff, Nat.reduceAdd, Nat.reduceSub, Nat.reduceMul, Nat.reduceLeDiff, Int.reduceToNat, Int.reduceLE, Int.reduceLT, Int.reduceNeg, Int.reduceEq, runOps, runOp, runOp1, inlined, evOp, putD, amin, amax, abin, abinb, aun, AV.idx, sub, fillB, splice, AV.solid, AV.one, List.all_cons, List.all_nil, Bool.and_true, Bool.true_and, Bool.false_and, Bool.and_false, Bool.not_true, Bool.not_false, if_true, if_false, Nat.le_refl, Nat.zero_add, Bool.false_eq_true, reduceCtorEq, not_false_eq_true, ne_eq, hl]; with_reducible rfl) (fun hc => ?_) (fun hc => ?_)
          · skip
            repeat first
              | apply Xw_seq
              | apply Xw_block
              | (apply Xw_region; · (simp only [xr, xl, xm, xh, xb, eq_self, Nat.reduceLT, Nat.reduceEqDiff, Nat.reduceAdd, Nat.reduceSub, Nat.reduceMul, Nat.reduceLeDiff, Int.reduceToNat, Int.reduceLE, Int.reduceLT, Int.reduceNeg, Int.reduceEq, runOps, runOp, runOp1, inlined, evOp, putD, amin, amax, abin, abinb, aun, AV.idx, sub, fillB, splice, AV.solid, AV.one, List.all_cons, List.all_nil, Bool.and_true, Bool.true_and, Bool.false_and, Bool.and_false, Bool.not_true, Bool.not_false, if_true, if_false, Nat.le_refl, Nat.zero_add, Bool.false_eq_true, reduceCtorEq, not_false_eq_true, ne_eq, hl, aeqs, aeq1, decide_true]; with_reducible rfl)
                 · rfl
                 (try simp only [onEx_normal, outOf_normal]))
              | (apply Xw_skip; (try simp only [onEx_normal, outOf_normal]))
              | (apply Xw_exit; (try simp only [onEx_exit, outOf_exit, onEx_normal, outOf_normal, if_true, Nat.reduceEqDiff, if_false]))
            apply Xw_ret
            (try simp only [onEx_ret, outOf_ret])
            refine ⟨(by simp), _, (by simp only [getAll, ARes.get, xr, xl, xm, xh, xb, eq_self, Nat.reduceLT, Nat.reduceEqDiff, Nat.reduceAdd, Nat.reduceSub, Nat.reduceMul, Nat.reduceLeDiff, Int.reduceToNat, Int.reduceLE, Int.reduceLT, Int.reduceNeg, Int.reduceEq, runOps, runOp, runOp1, inlined, evOp, putD, amin, amax, abin, abinb, aun, AV.idx, sub, fillB, splice, AV.solid, AV.one, List.all_cons, List.all_nil, Bool.and_true, Bool.true_and, Bool.false_and, Bool.and_false, Bool.not_true, Bool.not_false, if_true, if_false, Nat.le_refl, Nat.zero_add, Bool.false_eq_true, reduceCtorEq, not_false_eq_true, ne_eq, hl]; rfl), ?_⟩
            (try simp only [handBack, xt, xl])
          · simp at hc
  · have hw : Sc.agree b a ≠ none := fun e => by rw [(Sc.agree_comm b a).1 e] at hv; cases hv
    obtain ⟨⟨n', k'⟩, hw⟩ := Option.ne_none_iff_exists'.1 hw
    obtain ⟨h2, h3⟩ := Sc.agree_at hv
    obtain ⟨⟨n3, k3⟩, h3⟩ := Option.ne_none_iff_exists'.1 h3
    have hkl : k < 1000000000000000000 := by
      obtain ⟨x, hxm, hlt⟩ := Sc.agree_lt hv
      have := ha.2 x hxm
      omega
    have hs1 := stream1_spec hx a ha n
    have hk0 := begin_spec hx _ (okS_stream1 ha n) (okB_stream1 a n) k (by omega)
    have hk1 := begin_spec hx _ (okS_stream1 ha n) (okB_stream1 a n) (k + 1) (by omega)
    have ha0 := agree_spec hx _ _ (okS_begins (okS_stream1 ha n) k) hb
    have ha1 := agree_spec hx _ _ (okS_begins (okS_stream1 ha n) (k + 1)) hb
    have hset := settled_no hx a b ha hb (by rw [hv]; simp)
    rw [hv] at hab
    rw [hw] at hba
    rw [h2] at ha0
    rw [h3] at ha1
    simp only [vd] at hab hba ha0 ha1
    refine cL_walk (fn := c_law52_ShadowCompares) t_law52_ShadowCompares (hx _ _) rfl fun s hl g => ?_
    have g0 : gt s 0 = _ := g 0 (Nat.lt_of_sub_eq_succ rfl)
    have g1 : gt s 1 = _ := g 1 (Nat.lt_of_sub_eq_succ rfl)
    have g2 : gt s 2 = _ := g 2 (Nat.lt_of_sub_eq_succ rfl)
    clear g
    replace hl : s.length = 124 := hl
    simp only [List.getD_cons_zero, List.getD_cons_succ] at g0 g1 g2
    simp only [c_law52_ShadowCompares]
    repeat first
      | apply Xw_seq
      | apply Xw_block
      | (apply Xw_region; · (simp only [xr, xl, xm, xh, xb, eq_self, Nat.reduceLT, Nat.reduceEqDiff, Nat.reduceAdd, Nat.reduceSub, Nat.reduceMul, Nat.reduceLeDiff, Int.reduceToNat, Int.reduceLE, Int.reduceLT, Int.reduceNeg, Int.reduceEq, runOps, runOp, runOp1, inlined, evOp, putD, amin, amax, abin, abinb, aun, AV.idx, sub, fillB, splice, AV.solid, AV.one, List.all_cons, List.all_nil, Bool.and_true, Bool.true_and, Bool.false_and, Bool.and_false, Bool.not_true, Bool.not_false, if_true, if_false, Nat.le_refl, Nat.zero_add, Bool.false_eq_true, reduceCtorEq, not_false_eq_true, ne_eq, hl, g0, g1, g2, acall, xt, frz, es, hex, hca, hcb]; with_reducible rfl)
         · rfl
         (try simp only [onEx_normal, outOf_normal]))
      | (apply Xw_skip; (try simp only [onEx_normal, outOf_normal]))
      | (apply Xw_exit; (try simp only [onEx_exit, outOf_exit, onEx_normal, outOf_normal, if_true, Nat.reduceEqDiff, if_false]))
    refine Xw_cond (by simp only [xr, xl, xm, xh, xb, eq_self, Nat.reduceLT, Nat.reduceEqDiff, Nat.reduceAdd, Nat.reduceSub, Nat.reduceMul, Nat.reduceLeDiff, Int.reduceToNat, Int.reduceLE, Int.reduceLT, Int.reduceNeg, Int.reduceEq, runOps, runOp, runOp1, inlined, evOp, putD, amin, amax, abin, abinb, aun, AV.idx, sub, fillB, splice, AV.solid, AV.one, List.all_cons, List.all_nil, Bool.and_true, Bool.true_and, Bool.false_and, Bool.and_false, Bool.not_true, Bool.not_false, if_true, if_false, Nat.le_refl, Nat.zero_add, Bool.false_eq_true, reduceCtorEq, not_false_eq_true, ne_eq, hl]; with_reducible rfl) (fun hc => ?_) (fun hc => ?_)
    · simp at hc
    · skip
      repeat first
        | apply Xw_seq
        | apply Xw_block
        | (apply Xw_region; · (simp only [xr, xl, xm, xh, xb, eq_self, Nat.reduceLT, Nat.reduceEqDiff, Nat.reduceAdd, Nat.reduceSub, Nat.reduceMul, Nat.reduceLeDiff, Int.reduceToNat, Int.reduceLE, Int.reduceLT, Int.reduceNeg, Int.reduceEq, runOps, runOp, runOp1, inlined, evOp, putD, amin, amax, abin, abinb, aun, AV.idx, sub, fillB, splice, AV.solid, AV.one, List.all_cons, List.all_nil, Bool.and_true, Bool.true_and, Bool.false_and, Bool.and_false, Bool.not_true, Bool.not_false, if_true, if_false, Nat.le_refl, Nat.zero_add, Bool.false_eq_true, reduceCtorEq, not_false_eq_true, ne_eq, hl, g0, g1, g2, acall, xt, frz, es, hex, hca, hcb]; with_reducible rfl)
           · rfl
           (try simp only [onEx_normal, outOf_normal]))
        | (apply Xw_skip; (try simp only [onEx_normal, outOf_normal]))
        | (apply Xw_exit; (try simp only [onEx_exit, outOf_exit, onEx_normal, outOf_normal, if_true, Nat.reduceEqDiff, if_false]))
      refine Xw_cond (by simp only [xr, xl, xm, xh, xb, eq_self, Nat.reduceLT, Nat.reduceEqDiff, Nat.reduceAdd, Nat.reduceSub, Nat.reduceMul, Nat.reduceLeDiff, Int.reduceToNat, Int.reduceLE, Int.reduceLT, Int.reduceNeg, Int.reduceEq, runOps, runOp, runOp1, inlined, evOp, putD, amin, amax, abin, abinb, aun, AV.idx, sub, fillB, splice, AV.solid, AV.one, List.all_cons, List.all_nil, Bool.and_true, Bool.true_and, Bool.false_and, Bool.and_false, Bool.not_true, Bool.not_false, if_true, if_false, Nat.le_refl, Nat.zero_add, Bool.false_eq_true, reduceCtorEq, not_false_eq_true, ne_eq, hl]; with_reducible rfl) (fun hc => ?_) (fun hc => ?_)
      · skip
        repeat first
          | apply Xw_seq
          | apply Xw_block
          | (apply Xw_region; · (simp only [xr, xl, xm, xh, xb, eq_self, Nat.reduceLT, Nat.reduceEqDiff, Nat.reduceAdd, Nat.reduceSub, Nat.reduceMul, Nat.reduceLeDiff, Int.reduceToNat, Int.reduceLE, Int.reduceLT, Int.reduceNeg, Int.reduceEq, runOps, runOp, runOp1, inlined, evOp, putD, amin, amax, abin, abinb, aun, AV.idx, sub, fillB, splice, AV.solid, AV.one, List.all_cons, List.all_nil, Bool.and_true, Bool.true_and, Bool.false_and, Bool.and_false, Bool.not_true, Bool.not_false, if_true, if_false, Nat.le_refl, Nat.zero_add, Bool.false_eq_true, reduceCtorEq, not_false_eq_true, ne_eq, hl]; with_reducible rfl)
             · rfl
             (try simp only [onEx_normal, outOf_normal]))
          | (apply Xw_skip; (try simp only [onEx_normal, outOf_normal]))
          | (apply Xw_exit; (try simp only [onEx_exit, outOf_exit, onEx_normal, outOf_normal, if_true, Nat.reduceEqDiff, if_false]))
        apply Xw_ret
        (try simp only [onEx_ret, outOf_ret])
        refine ⟨(by simp), _, (by simp only [getAll, ARes.get, xr, xl, xm, xh, xb, eq_self, Nat.reduceLT, Nat.reduceEqDiff, Nat.reduceAdd, Nat.reduceSub, Nat.reduceMul, Nat.reduceLeDiff, Int.reduceToNat, Int.reduceLE, Int.reduceLT, Int.reduceNeg, Int.reduceEq, runOps, runOp, runOp1, inlined, evOp, putD, amin, amax, abin, abinb, aun, AV.idx, sub, fillB, splice, AV.solid, AV.one, List.all_cons, List.all_nil, Bool.and_true, Bool.true_and, Bool.false_and, Bool.and_false, Bool.not_true, Bool.not_false, if_true, if_false, Nat.le_refl, Nat.zero_add, Bool.false_eq_true, reduceCtorEq, not_false_eq_true, ne_eq, hl]; rfl), ?_⟩
        (try simp only [handBack, xt, xl])
      · clear hc
        repeat first
          | apply Xw_seq
          | apply Xw_block
          | (apply Xw_region; · (simp only [xr, xl, xm, xh, xb, eq_self, Nat.reduceLT, Nat.reduceEqDiff, Nat.reduceAdd, Nat.reduceSub, Nat.reduceMul, Nat.reduceLeDiff, Int.reduceToNat, Int.reduceLE, Int.reduceLT, Int.reduceNeg, Int.reduceEq, runOps, runOp, runOp1, inlined, evOp, putD, amin, amax, abin, abinb, aun, AV.idx, sub, fillB, splice, AV.solid, AV.one, List.all_cons, List.all_nil, Bool.and_true, Bool.true_and, Bool.false_and, Bool.and_false, Bool.not_true, Bool.not_false, if_true, if_false, Nat.le_refl, Nat.zero_add, Bool.false_eq_true, reduceCtorEq, not_false_eq_true, ne_eq, hl, g0, g1, g2, acall, xt, frz, es, hex, hab, hba, hc0, hc1, hz, hzb, haa, e0, e1]; with_reducible rfl)
             · rfl
             (try simp only [onEx_normal, outOf_normal]))
          | (apply Xw_skip; (try simp only [onEx_normal, outOf_normal]))
          | (apply Xw_exit; (try simp only [onEx_exit, outOf_exit, onEx_normal, outOf_normal, if_true, Nat.reduceEqDiff, if_false]))
        refine Xw_cond (by simp only [xr, xl, xm, xh, xb, eq_self, Nat.reduceLT, Nat.reduceEqDiff, Nat.reduceAdd, Nat.reduceSub, Nat.reduceMul, Nat.reduceLeDiff, Int.reduceToNat, Int.reduceLE, Int.reduceLT, Int.reduceNeg, Int.reduceEq, runOps, runOp, runOp1, inlined, evOp, putD, amin, amax, abin, abinb, aun, AV.idx, sub, fillB, splice, AV.solid, AV.one, List.all_cons, List.all_nil, Bool.and_true, Bool.true_and, Bool.false_and, Bool.and_false, Bool.not_true, Bool.not_false, if_true, if_false, Nat.le_refl, Nat.zero_add, Bool.false_eq_true, reduceCtorEq, not_false_eq_true, ne_eq, hl]; with_reducible rfl) (fun hc => ?_) (fun hc => ?_)
        · simp at hc
        · skip
          repeat first
            | apply Xw_seq
            | apply Xw_block
            | (apply Xw_region; · (simp only [xr, xl, xm, xh, xb, eq_self, Nat.reduceLT, Nat.reduceEqDiff, Nat.reduceAdd, Nat.reduceSub, Nat.reduceMul, Nat.reduceLeDiff, Int.reduceToNat, Int.reduceLE, Int.reduceLT, Int.reduceNeg, Int.reduceEq, runOps, runOp, runOp1, inlined, evOp, putD, amin, amax, abin, abinb, aun, AV.idx, sub, fillB, splice, AV.solid, AV.one, List.all_cons, List.all_nil, Bool.and_true, Bool.true_and, Bool.false_and, Bool.and_false, Bool.not_true, Bool.not_false, if_true, if_false, Nat.le_refl, Nat.zero_add, Bool.false_eq_true, reduceCtorEq, not_false_eq_true, ne_eq, hl]; with_reducible rfl)
               · rfl
               (try simp only [onEx_normal, outOf_normal]))
            | (apply Xw_skip; (try simp only [onEx_normal, outOf_normal]))
            | (apply Xw_exit; (try simp only [onEx_exit, outOf_exit, onEx_normal, outOf_normal, if_true, Nat.reduceEqDiff, if_false]))
          refine Xw_cond (by simp only [xr, xl, xm, xh, xb, eq_self, Nat.reduceLT, Nat.reduceEqDiff, Nat.reduceAdd, Nat.reduceSub, Nat.reduceMul, Nat.reduceLeDiff, Int.reduceToNat, Int.reduceLE, Int.reduceLT, Int.reduceNeg, Int.reduceEq, runOps, runOp, runOp1, inlined, evOp, putD, amin, amax, abin, abinb, aun, AV.idx, sub, fillB, splice, AV.solid, AV.one, List.all_cons, List.all_nil, Bool.and_true, Bool.true_and, Bool.false_and, Bool.and_false, Bool.not_true, Bool.not_false, if_true, if_false, Nat.le_refl, Nat.zero_add, Bool.false_eq_true, reduceCtorEq, not_false_eq_true, ne_eq, hl]; with_reducible rfl) (fun hc => ?_) (fun hc => ?_)
          · simp at hc
          · have hge : decide (0 ≤ ((k : Nat) : Int)) = true := by simp
            repeat first
              | apply Xw_seq
              | apply Xw_block
              | (apply Xw_region; · (simp only [xr, xl, xm, xh, xb, eq_self, Nat.reduceLT, Nat.reduceEqDiff, Nat.reduceAdd, Nat.reduceSub, Nat.reduceMul, Nat.reduceLeDiff, Int.reduceToNat, Int.reduceLE, Int.reduceLT, Int.reduceNeg, Int.reduceEq, runOps, runOp, runOp1, inlined, evOp, putD, amin, amax, abin, abinb, aun, AV.idx, sub, fillB, splice, AV.solid, AV.one, List.all_cons, List.all_nil, Bool.and_true, Bool.true_and, Bool.false_and, Bool.and_false, Bool.not_true, Bool.not_false, if_true, if_false, Nat.le_refl, Nat.zero_add, Bool.false_eq_true, reduceCtorEq, not_false_eq_true, ne_eq, hl, g0, g1, acall, xt, frz, es, hge, decide_true, hs1, hk0, hk1, ha0, ha1, hset, wrap_succ (show k < 9223372036854775807 by omega)]; with_reducible rfl)
                 · rfl
                 (try simp only [onEx_normal, outOf_normal]))
              | (apply Xw_skip; (try simp only [onEx_normal, outOf_normal]))
              | (apply Xw_exit; (try simp only [onEx_exit, outOf_exit, onEx_normal, outOf_normal, if_true, Nat.reduceEqDiff, if_false]))
            apply Xw_ret
            (try simp only [onEx_ret, outOf_ret])
            refine ⟨(by simp), _, (by simp only [getAll, ARes.get, xr, xl, xm, xh, xb, eq_self, Nat.reduceLT, Nat.reduceEqDiff, Nat.reduceAdd, Nat.reduceSub, Nat.reduceMul, Nat.reduceLeDiff, Int.reduceToNat, Int.reduceLE, Int.reduceLT, Int.reduceNeg, Int.reduceEq, runOps, runOp, runOp1, inlined, evOp, putD, amin, amax, abin, abinb, aun, AV.idx, sub, fillB, splice, AV.solid, AV.one, List.all_cons, List.all_nil, Bool.and_true, Bool.true_and, Bool.false_and, Bool.and_false, Bool.not_true, Bool.not_false, if_true, if_false, Nat.le_refl, Nat.zero_add, Bool.false_eq_true, reduceCtorEq, not_false_eq_true, ne_eq, hl]; rfl), ?_⟩
            (try simp only [handBack, xt, xl])
end
end Go.Aw
