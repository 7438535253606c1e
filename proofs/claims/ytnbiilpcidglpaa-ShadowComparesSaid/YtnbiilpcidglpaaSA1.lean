/- Walks of this program by an abstract machine: the text SA1. No conditions. -/
import Derived.Test.YtnbiilpcidglpaaSA0
import Derived.Shelf.RegionOpenPlain
import Derived.WalkKit
import Derived.Deep.LoopGhost
import Derived.Lib.Walk
import Derived.Lib.SliceRun
set_option linter.unusedSimpArgs false
set_option linter.unusedVariables false

/-
  Copies of rows (slices.Clone), walked.
-/
namespace Go.Aw
open Go.Proofs Go.RowKit Go.Lib

/-- What a row's copy shows, out of an owned row. -/
theorem clone_done {w w' : World} {e : TypeId} {size : Nat} {v : Value} {m : Nat} {xs : List Value} (h : w'.ownsRow w.heap.size e size v m xs) (hm : m ≠ 0) :
    ∃ b arr E cap, w.heap.size ≤ b ∧ w'.heap[b]? = some (Go.Obj.cells arr E (0, 0)) ∧ v = .slice (some ⟨b, 0, none⟩) m cap ∧ m ≤ cap ∧ cap ≤ maxLen ∧ cap * size ≤ arr.size ∧ ∀ (j : Nat) (y : Value), xs[j]? = some y → arr[j]? = some y := by
  obtain ⟨hl, hx⟩ := h
  rcases hx with ⟨_, h0⟩ | ⟨g, cap, cur, rfl, hg, hh, h1, h2, h3, h4⟩
  · exact absurd h0 hm
  · refine ⟨g, cur, e, cap, hg, hh, rfl, h1, h2, by omega, fun j y hy => ?_⟩
    rw [← h4, List.getElem?_take] at hy
    split at hy
    · rw [← Array.getElem?_toList]; exact hy
    · cases hy

theorem clone_zero {w w' : World} {e : TypeId} {size : Nat} {v : Value} {xs : List Value} (h : w'.ownsRow w.heap.size e size v 0 xs) : ∃ q c', v = .slice q 0 c' ∧ c' ≤ maxLen := by
  obtain ⟨hl, hx⟩ := h
  rcases hx with ⟨rfl, h0⟩ | ⟨g, cap, cur, rfl, hg, hh, h1, h2, h3, h4⟩
  · exact ⟨none, 0, rfl, Nat.zero_le _⟩
  · exact ⟨_, cap, rfl, h2⟩

set_option maxHeartbeats 2000000 in
set_option maxRecDepth 100000 in
theorem clone140 (w : World) (p : Option Addr) (m c : Nat) (news : List Value) (hl : news.length = m * 1) (hat : m ≠ 0 → ∃ b o, p = some ⟨b, o, none⟩ ∧ ∀ (j : Nat) (x : Value), news[j]? = some x → w.cell? ⟨b, o + j, none⟩ = some x)
    (h1 : ∀ x ∈ news, x.oneCell' = true) (hb : m ≤ bound) (hby : m * 8 ≤ bound) :
    Calls Try.prog 140 #[.slice p m c] w fun e w' => ∃ x, e = .returned x ∧ Below w.heap.size w w' ∧
      ((m = 0 ∧ ∃ q c', x = .slice q 0 c' ∧ c' ≤ maxLen ∧ (p = none → c = 0 → x = .slice none 0 0)) ∨
       (m ≠ 0 ∧ ∃ b arr E cap, w.heap.size ≤ b ∧ w'.heap[b]? = some (Go.Obj.cells arr E (0, 0)) ∧ x = .slice (some ⟨b, 0, none⟩) m cap ∧ m ≤ cap ∧ cap ≤ maxLen ∧ cap * 1 ≤ arr.size ∧ ∀ (j : Nat) (y : Value), news[j]? = some y → arr[j]? = some y)) := by
  have hbd : bound = 140737488355328 := rfl
  have q38 : ∀ (w : World) (a : Option Addr) (n c n' c' : Nat), (binOp .eql 38 (.slice a n c) (.slice none n' c')).run Try.prog w = .ok (.bool a.isNone) w := fun w a n c n' c' => Lib.run_eql_slice_nil w _ _ a n c n' c' Try.underlying38
  cases p with
  | none =>
    have hm : m = 0 := Classical.byContradiction fun h => by obtain ⟨b, o, h2, _⟩ := hat h; cases h2
    go_enter Try.func140, (show Try.f140.ntmps = 8 from rfl)
    go_wp2
    go_ret
    exact ⟨_, rfl, .refl _ _, .inl ⟨hm, none, 0, rfl, Nat.zero_le _, fun _ _ => rfl⟩⟩
  | some ad =>
    have A : Aside (∀ j u, news[j]? = some u → w.cell? (ad.add j) = some u) := fun j u hj => by
      by_cases hm : m = 0
      · subst hm; simp at hl; subst hl; simp at hj
      · obtain ⟨b, o, h2, h3⟩ := hat hm
        cases h2
        rw [Addr.add_lit]
        exact h3 j u hj
    clear hat
    go_enter Try.func140, (show Try.f140.ntmps = 8 from rfl)
    go_wp2_with (at_builtin; refine wpList_append_own _ rfl _ _ 38 rfl w.heap.size 3 Try.t3 (.int .i64 0) 1 8 Try.underlying38 Try.type3 rfl rfl rfl rfl (by decide) _ _ _ rfl (World.ownsRow_made w #[] 0 (Nat.le_refl _) (Nat.zero_le _) rfl) ad m c news rfl ?qc1 ?qc2 ?qc3 ?qc4 ?qc5 ?qc6 ?_)
    case qc1 => omega
    case qc2 =>
      intro j u hj
      exact Lib.cell?_alloc_some _ (A.out j u hj)
    case qc3 => exact h1
    case qc4 => unfold maxLen; omega
    case qc5 => omega
    case qc6 => simp
    intro v' w1 hown hgrow hnil
    go_wp2
    go_ret
    have hbel : Below w.heap.size w w1 := ((Below.refl _ w).alloc (Nat.le_refl _) _).grown hgrow (by simp) (by intro k hk; simp [Value.ownBlock] at hk; omega)
    have hown' : w1.ownsRow w.heap.size 3 1 v' m news := by simpa using hown
    refine ⟨v', rfl, hbel, ?_⟩
    by_cases hm : m = 0
    · subst hm
      obtain ⟨q, c', rfl, hc'⟩ := clone_zero hown'
      exact .inl ⟨rfl, q, c', rfl, hc', fun h => by cases h⟩
    · exact .inr ⟨hm, clone_done hown' hm⟩

set_option maxHeartbeats 2000000 in
set_option maxRecDepth 100000 in
theorem clone210 (w : World) (p : Option Addr) (m c : Nat) (news : List Value) (hl : news.length = m * 2) (hat : m ≠ 0 → ∃ b o, p = some ⟨b, o, none⟩ ∧ ∀ (j : Nat) (x : Value), news[j]? = some x → w.cell? ⟨b, o + j, none⟩ = some x)
    (h1 : ∀ x ∈ news, x.oneCell' = true) (hb : m ≤ bound) (hby : m * 48 ≤ bound) :
    Calls Try.prog 210 #[.slice p m c] w fun e w' => ∃ x, e = .returned x ∧ Below w.heap.size w w' ∧
      ((m = 0 ∧ ∃ q c', x = .slice q 0 c' ∧ c' ≤ maxLen ∧ (p = none → c = 0 → x = .slice none 0 0)) ∨
       (m ≠ 0 ∧ ∃ b arr E cap, w.heap.size ≤ b ∧ w'.heap[b]? = some (Go.Obj.cells arr E (0, 0)) ∧ x = .slice (some ⟨b, 0, none⟩) m cap ∧ m ≤ cap ∧ cap ≤ maxLen ∧ cap * 2 ≤ arr.size ∧ ∀ (j : Nat) (y : Value), news[j]? = some y → arr[j]? = some y)) := by
  have hbd : bound = 140737488355328 := rfl
  have q43 : ∀ (w : World) (a : Option Addr) (n c n' c' : Nat), (binOp .eql 43 (.slice a n c) (.slice none n' c')).run Try.prog w = .ok (.bool a.isNone) w := fun w a n c n' c' => Lib.run_eql_slice_nil w _ _ a n c n' c' Try.underlying43
  cases p with
  | none =>
    have hm : m = 0 := Classical.byContradiction fun h => by obtain ⟨b, o, h2, _⟩ := hat h; cases h2
    go_enter Try.func210, (show Try.f210.ntmps = 8 from rfl)
    go_wp2
    go_ret
    exact ⟨_, rfl, .refl _ _, .inl ⟨hm, none, 0, rfl, Nat.zero_le _, fun _ _ => rfl⟩⟩
  | some ad =>
    have A : Aside (∀ j u, news[j]? = some u → w.cell? (ad.add j) = some u) := fun j u hj => by
      by_cases hm : m = 0
      · subst hm; simp at hl; subst hl; simp at hj
      · obtain ⟨b, o, h2, h3⟩ := hat hm
        cases h2
        rw [Addr.add_lit]
        exact h3 j u hj
    clear hat
    go_enter Try.func210, (show Try.f210.ntmps = 8 from rfl)
    go_wp2_with (at_builtin; refine wpList_append_own _ rfl _ _ 43 rfl w.heap.size 121 Try.t121 (.agg #[.slice none 0 0, .slice none 0 0]) 2 48 Try.underlying43 Try.type121 rfl rfl rfl rfl (by decide) _ _ _ rfl (World.ownsRow_made w #[] 0 (Nat.le_refl _) (Nat.zero_le _) rfl) ad m c news rfl ?qc1 ?qc2 ?qc3 ?qc4 ?qc5 ?qc6 ?_)
    case qc1 => omega
    case qc2 =>
      intro j u hj
      exact Lib.cell?_alloc_some _ (A.out j u hj)
    case qc3 => exact h1
    case qc4 => unfold maxLen; omega
    case qc5 => omega
    case qc6 => simp
    intro v' w1 hown hgrow hnil
    go_wp2
    go_ret
    have hbel : Below w.heap.size w w1 := ((Below.refl _ w).alloc (Nat.le_refl _) _).grown hgrow (by simp) (by intro k hk; simp [Value.ownBlock] at hk; omega)
    have hown' : w1.ownsRow w.heap.size 121 2 v' m news := by simpa using hown
    refine ⟨v', rfl, hbel, ?_⟩
    by_cases hm : m = 0
    · subst hm
      obtain ⟨q, c', rfl, hc'⟩ := clone_zero hown'
      exact .inl ⟨rfl, q, c', rfl, hc', fun h => by cases h⟩
    · exact .inr ⟨hm, clone_done hown' hm⟩

set_option maxHeartbeats 2000000 in
set_option maxRecDepth 100000 in
theorem clone211 (w : World) (p : Option Addr) (m c : Nat) (news : List Value) (hl : news.length = m * 1) (hat : m ≠ 0 → ∃ b o, p = some ⟨b, o, none⟩ ∧ ∀ (j : Nat) (x : Value), news[j]? = some x → w.cell? ⟨b, o + j, none⟩ = some x)
    (h1 : ∀ x ∈ news, x.oneCell' = true) (hb : m ≤ bound) (hby : m * 24 ≤ bound) :
    Calls Try.prog 211 #[.slice p m c] w fun e w' => ∃ x, e = .returned x ∧ Below w.heap.size w w' ∧
      ((m = 0 ∧ ∃ q c', x = .slice q 0 c' ∧ c' ≤ maxLen ∧ (p = none → c = 0 → x = .slice none 0 0)) ∨
       (m ≠ 0 ∧ ∃ b arr E cap, w.heap.size ≤ b ∧ w'.heap[b]? = some (Go.Obj.cells arr E (0, 0)) ∧ x = .slice (some ⟨b, 0, none⟩) m cap ∧ m ≤ cap ∧ cap ≤ maxLen ∧ cap * 1 ≤ arr.size ∧ ∀ (j : Nat) (y : Value), news[j]? = some y → arr[j]? = some y)) := by
  have hbd : bound = 140737488355328 := rfl
  have q44 : ∀ (w : World) (a : Option Addr) (n c n' c' : Nat), (binOp .eql 44 (.slice a n c) (.slice none n' c')).run Try.prog w = .ok (.bool a.isNone) w := fun w a n c n' c' => Lib.run_eql_slice_nil w _ _ a n c n' c' Try.underlying44
  cases p with
  | none =>
    have hm : m = 0 := Classical.byContradiction fun h => by obtain ⟨b, o, h2, _⟩ := hat h; cases h2
    go_enter Try.func211, (show Try.f211.ntmps = 8 from rfl)
    go_wp2
    go_ret
    exact ⟨_, rfl, .refl _ _, .inl ⟨hm, none, 0, rfl, Nat.zero_le _, fun _ _ => rfl⟩⟩
  | some ad =>
    have A : Aside (∀ j u, news[j]? = some u → w.cell? (ad.add j) = some u) := fun j u hj => by
      by_cases hm : m = 0
      · subst hm; simp at hl; subst hl; simp at hj
      · obtain ⟨b, o, h2, h3⟩ := hat hm
        cases h2
        rw [Addr.add_lit]
        exact h3 j u hj
    clear hat
    go_enter Try.func211, (show Try.f211.ntmps = 8 from rfl)
    go_wp2_with (at_builtin; refine wpList_append_own _ rfl _ _ 44 rfl w.heap.size 38 Try.t38 (.slice none 0 0) 1 24 Try.underlying44 Try.type38 rfl rfl rfl rfl (by decide) _ _ _ rfl (World.ownsRow_made w #[] 0 (Nat.le_refl _) (Nat.zero_le _) rfl) ad m c news rfl ?qc1 ?qc2 ?qc3 ?qc4 ?qc5 ?qc6 ?_)
    case qc1 => omega
    case qc2 =>
      intro j u hj
      exact Lib.cell?_alloc_some _ (A.out j u hj)
    case qc3 => exact h1
    case qc4 => unfold maxLen; omega
    case qc5 => omega
    case qc6 => simp
    intro v' w1 hown hgrow hnil
    go_wp2
    go_ret
    have hbel : Below w.heap.size w w1 := ((Below.refl _ w).alloc (Nat.le_refl _) _).grown hgrow (by simp) (by intro k hk; simp [Value.ownBlock] at hk; omega)
    have hown' : w1.ownsRow w.heap.size 38 1 v' m news := by simpa using hown
    refine ⟨v', rfl, hbel, ?_⟩
    by_cases hm : m = 0
    · subst hm
      obtain ⟨q, c', rfl, hc'⟩ := clone_zero hown'
      exact .inl ⟨rfl, q, c', rfl, hc', fun h => by cases h⟩
    · exact .inr ⟨hm, clone_done hown' hm⟩


theorem cloneOk : CloneOk Fence.wide Try.prog own0 := fun f u hu => by
  unfold own0 at hu
  split at hu
  · cases hu
    rename_i hf
    subst hf
    exact ⟨⟨Try.f140, Try.func140, rfl, rfl⟩, fun _ => rfl, fun n w p m c news hmc hl hat h1 hb hby => callsIn_wide.2 (clone140 w p m c news hl hat h1 hb hby)⟩
  · split at hu
    · cases hu
      rename_i hf
      subst hf
      exact ⟨⟨Try.f210, Try.func210, rfl, rfl⟩, (fun h => by cases h), fun n w p m c news hmc hl hat h1 hb hby => callsIn_wide.2 (clone210 w p m c news hl hat h1 hb hby)⟩
    · split at hu
      · cases hu
        rename_i hf
        subst hf
        exact ⟨⟨Try.f211, Try.func211, rfl, rfl⟩, fun _ => rfl, fun n w p m c news hmc hl hat h1 hb hby => callsIn_wide.2 (clone211 w p m c news hl hat h1 hb hby)⟩
      · cases hu
end Go.Aw
