/- Walks of this program by an abstract machine: the text AwC. No conditions. -/
import Derived.Test.YtnbiilpcidglpaaAwB
import Derived.Laws.Slices
import Derived.CallsIn
import Derived.OrdersIn
set_option linter.unusedSimpArgs false
set_option linter.unusedVariables false

/-
  make, slices of slices, copy.
-/
namespace Go.Aw
open Go.RowKit

variable {P : Program} {n0 : Base} {K : Kx} {h : Heap} {w : World} {s : List AV} {a : Act} {tk : Tok}

theorem zero_cells {e : TypeId} {u : Ty} (hc : cTy P e = some u) {i : TypeInfo} {z : Value} (hi : P.info? e = some i) (hz : i.zero = some z) :
    z.cells.size = u.sz ∧ u.sz = i.size ∧ u.by_ = i.bytes ∧ ∀ (K : Kx) (w : World), FR K w u.zero z.cells := by
  obtain ⟨i', d, z', h1, h2, h3, h4, h5, _⟩ := cTy_spec hc
  have : i' = i := by rw [hi] at h1; cases h1; rfl
  subst this
  have : z' = z := by rw [hz] at h3; cases h3; rfl
  subst this
  have key : ∀ (K : Kx) (w : World), FR K w u.zero z'.cells ∧ z'.cells.size = u.sz := fun K w => by
    obtain ⟨y, g1, g2, g3⟩ := zero_FR (K := K) (w := w) hc
    have : y = z' := by
      simp [zeroValue, run_typeInfo1 hi, hz] at g1
      exact g1.symm
    subst this
    exact ⟨g2, g3⟩
  exact ⟨(key ⟨fun _ _ => False, fun _ => False, fun _ => none, fun _ => (0, 0), fun _ => 0⟩ default).2, h4, h5, fun K w => (key K w).1⟩

/-- n zeros, of which the first ones are told. -/
theorem zeros_rep {u : Ty} {z : Array Value} (hfr : FR K w u.zero z) (hz : z.size = u.sz) (h0 : u.sz ≠ 0) {n : Nat} {arr : Array Value} (ha : ∀ j, j < n * u.sz → arr[j]? = some (z[j % z.size]!)) :
    (∀ (j : Nat) (c : AV), ((List.replicate n u.zero).flatten)[j]? = some c → Rep K w c (arr.getD j undef)) ∧ (∀ c ∈ (List.replicate n u.zero).flatten, c.flat = true) ∧ ((List.replicate n u.zero).flatten).length = n * u.sz := by
  have hl : u.zero.length = u.sz := by rw [hfr.size, hz]
  refine ⟨fun j c hj => ?_, fun c hc => ?_, by rw [replicate_length, hl]⟩
  · have hlt : j < n * u.sz := by
      have := (List.getElem?_eq_some_iff.1 hj).1
      rw [replicate_length, hl] at this; exact this
    rw [replicate_get _ _ hl (by omega) n j hlt] at hj
    have hrep := hfr.rep _ c hj
    have hmod : j % u.sz < u.sz := Nat.mod_lt _ (by omega)
    rw [Array.getD_eq_getD_getElem?, ha j hlt, hz]
    rw [Array.getD_eq_getD_getElem?, Array.getElem?_eq_getElem (by omega)] at hrep
    rw [getElem!_pos _ _ (by omega)]
    exact hrep
  · obtain ⟨l, hl1, hl2⟩ := List.mem_flatten.1 hc
    have := (List.mem_replicate.1 hl1).2
    subst this
    exact hfr.flat c hl2

theorem ok_mkslice (hs : Slots K w s a.tmps) (hI : Inv n0 K h w) (hf : Fresh K tk) (o : Oper) (t el : TypeId) (x y : Operand) (ho : o.op = .makeSlice t x y) {u : Ty} (ht : P.underlying t = some (.slice el)) (hc : cTy P el = some u)
    {call : FuncId → List AV → Option AV} {own : FuncId → Option Ty} {id : Id} {e : Ev} (he : evOp call own s h id tk (.mkslice u (cX x) (cX y)) = some e) : ∃ v w', Comes1 P a o w v w' ∧ Out n0 K w tk (h.act e) e.v v w' := by
  have hx := rep_X hs x
  have hy := rep_X hs y
  have hbd : bound = 140737488355328 := rfl
  have hmx : maxLen = 9223372036854775807 := rfl
  simp only [evOp] at he
  split at he
  · rename_i n m hxv hyv
    rw [hxv] at hx
    rw [hyv] at hy
    split at he
    · rename_i hcond
      obtain ⟨c1, c2, c3, c4, c5⟩ := hcond
      cases he
      obtain ⟨i, d, z, h1, h2, h3, _⟩ := cTy_spec hc
      obtain ⟨z1, z2, z3, z4⟩ := zero_cells hc h1 h3
      have hb : (i.bytes : Int) * m ≤ 281474976710656 := by
        have e1 : (m.toNat : Int) = m := Int.toNat_of_nonneg (by omega)
        have e2 : ((i.bytes * m.toNat : Nat) : Int) = (i.bytes : Int) * m := by rw [Int.natCast_mul, e1]
        rw [← e2]
        rw [z3, Nat.mul_comm] at c3
        omega
      have hrun := run_make (P := P) w t el i z ht h1 h3 .i64 .i64 n m c1 c2 hb (by omega)
      rw [← z2] at hrun
      have hget : ∀ j, j < m.toNat * u.sz → (madeCells z.cells (m.toNat * u.sz))[j]? = some (z.cells[j % z.cells.size]!) := fun j hj => by simp [madeCells, hj]
      have hnm : n.toNat ≤ m.toNat := by omega
      have hle : n.toNat * u.sz ≤ m.toNat * u.sz := Nat.mul_le_mul_right _ hnm
      obtain ⟨r1, r2, r3⟩ := zeros_rep (z4 K w) z1 c5 (fun j hj => hget j (Nat.lt_of_lt_of_le hj hle))
      have hsz : (madeCells z.cells (m.toNat * u.sz)).size = m.toNat * u.sz := size_madeCells _ _
      refine ⟨_, _, .inl (by simp only [execOp, ho, hx.int_inv, hy.int_inv]; simp [hrun]; exact ⟨rfl, rfl⟩), ?_⟩
      refine out_alloc hI id hf _ el _ u.sz u.ag u.sz _ _ _ _ (by rw [r3, hsz]; exact hle) r2 r1 (fun _ => ⟨rfl, ?_⟩) ?_
      · obtain ⟨_, _, _, _, _, _, _, _, _, _, g, _⟩ := cTy_spec hc
        exact g
      · refine .sl id tk 0 n.toNat m.toNat w.heap.size (by simp) hnm (by omega) ?_
        simp [hsz]
    · cases he
  · cases he

theorem run_appendz {t t2 ty e : TypeId} {k2 k : IntKind} {u : Ty} (ht : P.underlying t = some (.slice e)) (ht2 : P.underlying t2 = some (.int k2)) (hc : cTy P e = some u) {i : TypeInfo} {z : Value} (hi : P.info? e = some i) (hz : i.zero = some z) {n : Nat}
    (h0 : n ≠ 0) (hb : n ≤ bound) (hby : n * u.by_ ≤ bound) (hsz : u.sz ≠ 0) :
    (Builtin.append_ #[t, t2] ty #[.slice none 0 0, .int k n]).run P w = .ok (.slice (some ⟨w.heap.size, 0, none⟩) n (grownCap w n 0 e)) (w.drew.alloc (.cells (Builtin.zeroCells z.cells n ++ Builtin.zeroCells z.cells (grownCap w n 0 e - n)) e)) := by
  have hbd : bound = 140737488355328 := rfl
  obtain ⟨z1, z2, z3, _⟩ := zero_cells hc hi hz
  have wl : IntKind.i64.wrap (n : Int) = n := by rw [IntKind.wrap_i64]; omega
  have n1 : ¬ ((n : Int) < 0) := by omega
  have n2 : ¬ (281474976710656 < (n : Int) * (i.bytes : Int)) := by
    have e2 : ((n * i.bytes : Nat) : Int) = (n : Int) * i.bytes := by rw [Int.natCast_mul]
    rw [← e2, ← z3]; omega
  have h63' : ¬ (9223372036854775807 < (n : Int)) := by omega
  have h48' : ¬ (281474976710656 < Builtin.nextslicecap n 0 * i.bytes) := by rw [nextslicecap_zero (by omega), ← z3]; omega
  have hs : ¬ n * i.size = 0 := by rw [← z2]; exact Nat.mul_ne_zero h0 hsz
  simp [Builtin.append_, run_underlying1 ht, run_underlying1 ht2, sizeOf, typeInfo, zeroValue, hi, hz, asInt, asIntOf, wl, n1, n2, h0, h63', h48', Question.forced, run_firstCells_none, newRow, grownCap]
  intro h; exact absurd h hs

theorem ok_appendz (hs : Slots K w s a.tmps) (hI : Inv n0 K h w) (hf : Fresh K tk) (o : Oper) (c : Call) (ho : o.op = .call c) (hb : c.callee = .builtin .append) (x y : Operand) (hx1 : c.args = #[x, y]) (t t2 el : TypeId) (ht1 : c.argTypes = #[t, t2])
    {u : Ty} (ht : P.underlying t = some (.slice el)) {k2 : IntKind} (ht2 : P.underlying t2 = some (.int k2)) (hc : cTy P el = some u) {call : FuncId → List AV → Option AV} {own : FuncId → Option Ty} {id : Id} {e : Ev} (he : evOp call own s h id tk (.appendz u (cX x) (cX y)) = some e) :
    ∃ v w', Comes1 P a o w v w' ∧ Out n0 K w tk (h.act e) e.v v w' := by
  have hx := rep_X hs x
  have hy := rep_X hs y
  have hbd : bound = 140737488355328 := rfl
  have hmx : maxLen = 9223372036854775807 := rfl
  simp only [evOp] at he
  split at he
  · rename_i n hxv hyv
    split at he
    · rename_i hcond
      obtain ⟨c1, c2, c3, c4⟩ := hcond
      cases he
      rw [hxv] at hx
      obtain ⟨k, j, hyv', hj0, hnj⟩ := idx_spec hyv
      rw [hyv'] at hy
      have hyi := hy.int_inv
      have : j = (n : Int) := by omega
      subst this
      obtain ⟨i, d, z, h1, h2, h3, _⟩ := cTy_spec hc
      obtain ⟨z1, z2, z3, z4⟩ := zero_cells hc h1 h3
      have hrun := run_appendz (P := P) (w := w) (ty := o.type) (k := k) ht ht2 hc h1 h3 c1 c2 c3 c4
      have hge := grownCap_ge w n 0 el
      have hle := grownCap_le_maxLen w n 0 el (by omega)
      generalize hnew : Builtin.zeroCells z.cells n ++ Builtin.zeroCells z.cells (grownCap w n 0 el - n) = arr at hrun
      have hsz : arr.size = grownCap w n 0 el * u.sz := by
        rw [← hnew]
        simp only [Array.size_append, size_zeroCells, z1, ← Nat.add_mul]
        congr 1; omega
      obtain ⟨r1, r2, r3⟩ := zeros_rep (n := n) (arr := arr) (z4 K w.drew) z1 c4 (fun j hj => by
        rw [← hnew, Array.getElem?_append_left (by simp [size_zeroCells, z1]; exact hj)]
        simp [Builtin.zeroCells, z1, hj])
      have hexec := exec_builtin (P := P) (w := w) (a := a) o .append c ho hb
      rw [hx1, ht1] at hexec
      refine ⟨_, _, .inl (by rw [hexec]; simp only [builtin, List.map_toArray, List.map_cons, List.map_nil, hx.nil_inv, hyi]; simp [hrun]; exact ⟨rfl, rfl⟩), Out.drew ?_⟩
      refine out_alloc hI.drew.2 id hf arr el _ u.sz u.ag u.sz _ _ _ _ (by rw [r3, hsz]; exact Nat.mul_le_mul_right _ hge) r2 r1 (fun _ => ⟨rfl, ?_⟩) ?_
      · obtain ⟨_, _, _, _, _, _, _, _, _, _, g, _⟩ := cTy_spec hc
        exact g
      · refine .sl id tk 0 n _ w.heap.size (by simp) hge hle ?_
        simp [hsz]
    · cases he
  · cases he

/-! ### slices of slices -/
theorem run_slice1 {t el : TypeId} {u : Ty} (ht : P.underlying t = some (.slice el)) (hc : cTy P el = some u) (p : Option Addr) (len cap : Nat) (lo hi : Option Value) (l hh : Nat)
    (hlo : (lo = none ∧ l = 0) ∨ ∃ k, lo = some (.int k l)) (hhi : (hi = none ∧ hh = len) ∨ ∃ k, hi = some (.int k hh)) (h1 : l ≤ hh) (h2 : hh ≤ cap) :
    (Instr.sliceAt t (.slice p len cap) lo hi none).run P w = .ok (.slice (if cap = l then p else p.map (·.add (l * u.sz))) (hh - l) (cap - l)) w := by
  have hs := run_sizeOf1 (w := w) hc
  have b1 : (Instr.sliceBounds true len cap lo hi none).run P w = .ok (l, hh, cap) w := by
    rcases hlo with ⟨rfl, rfl⟩ | ⟨k, rfl⟩ <;> rcases hhi with ⟨rfl, rfl⟩ | ⟨k', rfl⟩
    · simp [Instr.sliceBounds]
    · simp [Instr.sliceBounds, run_sliceBound, h2]
    · simp [Instr.sliceBounds, run_sliceBound, h1]
    · simp [Instr.sliceBounds, run_sliceBound, h1, h2]
  have e1 : P.elem t = el := by simp [Program.elem, ht]
  rw [run_sliceAt_slice w t _ lo hi none (by rw [e1]; exact ht)]
  simp only [Instr.slice, Sem.run_bind, run_underlying1 ht, Result.andThen_ok, b1, hs, Sem.run_pure]

/-- A part of the elements. -/
theorem part_list {vs : List AV} {v : Value} {u : Nat} (hv : Rep K w (.list vs) v) (hs : sized1 u vs = true) {l hh : Nat} (h1 : l ≤ hh) (h2 : hh ≤ vs.length) :
    ∃ p cap, v = .slice p vs.length cap ∧ hh ≤ cap ∧ Rep K w (.list ((vs.drop l).take (hh - l))) (.slice (if cap = l then p else p.map (·.add (l * u))) (hh - l) (cap - l)) := by
  obtain ⟨p, cap, sz, b, o, val, rfl, hc, hm, hsz, ha, hval, hrep, hfl⟩ := hv.list_inv
  have hlen : ((vs.drop l).take (hh - l)).length = hh - l := by simp; omega
  refine ⟨p, cap, rfl, by omega, ?_⟩
  have hmem : ∀ e ∈ (vs.drop l).take (hh - l), e ∈ vs := fun e he => List.mem_of_mem_drop (List.mem_of_mem_take he)
  have hget : ∀ (j : Nat) (c : AV), (((vs.drop l).take (hh - l)).flatMap AV.cells)[j]? = some c → (vs.flatMap AV.cells)[l * sz + j]? = some c := fun j c hj => by
    obtain ⟨i, j', e, rfl, hj', g1, g2⟩ := flat_get_inv (s := sz) (fun e he => hsz e (hmem e he)) hj
    rw [List.getElem?_take] at g1
    split at g1
    · rw [List.getElem?_drop] at g1
      have := flat_get hsz g1 g2
      rw [show l * sz + (i * sz + j') = (l + i) * sz + j' by rw [Nat.add_mul]; omega]
      exact this
    · cases g1
  have key : Rep K w (.list ((vs.drop l).take (hh - l))) (.slice (if cap = l then p else p.map (·.add (l * u))) ((vs.drop l).take (hh - l)).length (cap - l)) := by
    refine .list _ _ (cap - l) sz b (o + l * u) (fun j => val (l * sz + j)) (by rw [hlen]; omega) (by omega) (fun c hc => ?_) (fun e he => hsz e (hmem e he)) (fun hne => ?_) (fun j c hj => ?_) (fun j c hj => hrep _ c (hget j c hj))
    · obtain ⟨e, he, hc⟩ := List.mem_flatMap.1 hc
      exact hfl c (List.mem_flatMap.2 ⟨e, hmem e he, hc⟩)
    · have h3 : 0 < hh - l := by rw [← hlen]; exact List.length_pos_iff.2 hne
      rw [if_neg (by omega), ha (by intro e; subst e; simp at hne)]
      simp [addr_add]
    · have hne : vs ≠ [] := by intro e; subst e; simp at hj
      have hu : sz = u := by
        cases vs with
        | nil => exact absurd rfl hne
        | cons v r =>
          simp only [sized1, beq_iff_eq] at hs
          rw [← hs, hsz v (by simp)]
      subst hu
      have := hval _ c (hget j c hj)
      rw [Nat.add_assoc]; exact this
  rw [hlen] at key
  exact key

theorem rl_list {vs : List AV} {r : Tok} {v : Value} (hx : Rep K w (.rl vs r) v) : Rep K w (.list vs) v := by
  obtain ⟨cap, sz, b, val, rfl, hc, hm, hs, _, _, _, _, hv, hr, hf⟩ := hx.rl_inv
  exact .list vs _ cap sz b 0 val hc hm hf hs (fun _ => rfl) (fun j c hj => by rw [Nat.zero_add]; exact ⟨(hv j c hj).1, (hv j c hj).2⟩) hr

theorem ok_slice (hs : Slots K w s a.tmps) (hI : Inv n0 K h w) (o : Oper) (t el : TypeId) (x : Operand) (lo hi : Option Operand) (ho : o.op = .slice t x lo hi none) {u : Ty} (ht : P.underlying t = some (.slice el)) (hc : cTy P el = some u)
    {call : FuncId → List AV → Option AV} {own : FuncId → Option Ty} {id : Id} {e : Ev} (he : evOp call own s h id tk (.slice u (cX x) (lo.map cX) (hi.map cX)) = some e) : ∃ v w', Comes1 P a o w v w' ∧ Out n0 K w tk (h.act e) e.v v w' := by
  have hx := rep_X hs x
  have hidx : ∀ (z : Operand) (n : Nat), ((cX z).ev s).idx = some n → ∃ k, a.eval z = .int k n := fun z n hz => by
    obtain ⟨k, j, h1, h2, h3⟩ := idx_spec hz
    have := rep_X hs z
    rw [h1] at this
    exact ⟨k, by rw [this.int_inv, h3, Int.toNat_of_nonneg h2]⟩
  simp only [evOp] at he
  split at he
  case h_2 => cases he
  rename_i hh l hhi hlo
  have hlo' : (lo.map a.eval = none ∧ l = 0) ∨ ∃ k, lo.map a.eval = some (.int k l) := by
    cases lo with
    | none => simp at hlo; exact .inl ⟨rfl, hlo.symm⟩
    | some z => simp at hlo; obtain ⟨k, hk⟩ := hidx z l hlo; exact .inr ⟨k, by simp [hk]⟩
  have hhi' : ∀ len, (hi.map a.eval = none ∧ hh.getD len = len) ∨ ∃ k, hi.map a.eval = some (.int k (hh.getD len)) := fun len => by
    cases hi with
    | none => simp at hhi; subst hhi; exact .inl ⟨rfl, rfl⟩
    | some z =>
      simp at hhi
      obtain ⟨n, hn, rfl⟩ := hhi
      obtain ⟨k, hk⟩ := hidx z n hn
      exact .inr ⟨k, by simp [hk]⟩
  have hexec : ∀ v, (Instr.sliceAt t (a.eval x) (lo.map a.eval) (hi.map a.eval) none).run P w = .ok v w → Comes1 P a o w v w := fun v hv => .inl (by simp [execOp, ho, hv])
  unfold aslice1 at he
  split at he
  · rename_i hxv
    split at he
    · rename_i hcond
      obtain ⟨rfl, h0⟩ := hcond
      cases he
      rw [hxv] at hx
      have ev := hx.nil_inv
      rw [Heap.act_pure _ _ rfl rfl rfl]
      refine ⟨.slice none 0 0, w, hexec _ ?_, Out.pure hI .nil⟩
      rw [ev, run_slice1 ht hc none 0 0 _ _ 0 0 hlo' (by have := hhi' 0; rw [h0] at this; exact this) (Nat.le_refl _) (Nat.le_refl _)]
      simp
    · cases he
  · rename_i vs hxv
    split at he
    · rename_i hcond
      obtain ⟨h1, h2, h3⟩ := hcond
      cases he
      rw [hxv] at hx
      obtain ⟨p, cap, ev, hcap, hr⟩ := part_list hx h3 h2 h1
      rw [Heap.act_pure _ _ rfl rfl rfl]
      refine ⟨_, w, hexec _ ?_, Out.pure hI hr⟩
      rw [ev]
      exact run_slice1 ht hc p vs.length cap _ _ l _ hlo' (hhi' _) h2 hcap
    · cases he
  · rename_i vs r hxv
    split at he
    · rename_i hcond
      obtain ⟨h1, h2, h3⟩ := hcond
      cases he
      rw [hxv] at hx
      obtain ⟨p, cap, ev, hcap, hr⟩ := part_list (rl_list hx) h3 h2 h1
      rw [Heap.act_pure _ _ rfl rfl rfl]
      refine ⟨_, w, hexec _ ?_, Out.pure hI hr⟩
      rw [ev]
      exact run_slice1 ht hc p vs.length cap _ _ l _ hlo' (hhi' _) h2 hcap
    · cases he
  · rename_i i t' off n hxv
    split at he
    · rename_i ob hrow
      split at he
      · rename_i hcond
        obtain ⟨h1, h2, h3, h4⟩ := hcond
        rw [hxv] at hx
        obtain ⟨b, cap, hb, ev, hle, hm, hz⟩ := hx.sl_inv
        obtain ⟨cs, E, _, _, hes, _⟩ := hI.cells hrow hb
        have hrun := run_slice1 (w := w) ht hc (some ⟨b, off, none⟩) n cap _ _ l _ hlo' (hhi' n) h4 (by omega)
        rw [← ev] at hrun
        split at he
        · rename_i heq
          cases he
          rw [Heap.act_pure _ _ rfl rfl rfl]
          refine ⟨_, w, hexec _ hrun, Out.pure hI ?_⟩
          rw [← heq.1, Nat.sub_self]
          exact .list [] _ _ 0 0 0 (fun _ => default) (Nat.zero_le _) (by omega) (fun x h => by simp at h) (fun e h => by simp at h) (fun h => absurd rfl h) (fun j c h => by simp at h) (fun j c h => by simp at h)
        · rename_i hne
          cases he
          rw [Heap.act_pure _ _ rfl rfl rfl]
          refine ⟨_, w, hexec _ hrun, Out.pure hI ?_⟩
          have hsl : Rep K w (.sl i t' (off + l * u.sz) (hh.getD n - l)) (.slice (some ⟨b, off + l * u.sz, none⟩) (hh.getD n - l) (cap - l)) := by
            refine .sl i t' _ _ _ b hb (by omega) (by omega) ?_
            rw [(hes h2).1, h1] at hz ⊢
            rw [Nat.sub_mul]
            have : l * u.sz ≤ cap * u.sz := Nat.mul_le_mul_right _ (by omega)
            omega
          by_cases hcl : cap = l
          · have hl0 : l = 0 := by
              by_cases h0 : l = 0
              · exact h0
              · exact absurd ⟨by omega, h0⟩ hne
            rw [if_pos hcl]
            subst hl0
            simpa using hsl
          · rw [if_neg hcl]
            simpa [addr_add] using hsl
      · cases he
    · cases he
  · cases he

end Go.Aw

/-
  Copies, rows out of arrays, structs compared, maps asked.
-/
namespace Go.Aw
open Go.RowKit

variable {P : Program} {n0 : Base} {K : Kx} {h : Heap} {w : World} {s : List AV} {a : Act} {tk : Tok}

theorem ok_aslice (hs : Slots K w s a.tmps) (hI : Inv n0 K h w) (hf : Fresh K tk) (o : Oper) (t el : TypeId) (n : Nat) (x : Operand) (ho : o.op = .slice t x none none none) {u : Ty} (ht : P.underlying t = some (.array n el)) (hc : cTy P el = some u)
    {call : FuncId → List AV → Option AV} {own : FuncId → Option Ty} {id : Id} {e : Ev} (he : evOp call own s h id tk (.aslice u n (cX x)) = some e) : ∃ v w', Comes1 P a o w v w' ∧ Out n0 K w tk (h.act e) e.v v w' := by
  have hx := rep_X hs x
  have hbd : bound = 140737488355328 := rfl
  have hmx : maxLen = 9223372036854775807 := rfl
  simp only [evOp] at he
  split at he
  · rename_i i t' hxv
    rw [hxv] at hx
    obtain ⟨b, hb, ev⟩ := hx.ptr_inv
    split at he
    · rename_i ob hrow
      split at he
      · rename_i hcond
        obtain ⟨c1, c2, c3, c4, c5, c6⟩ := hcond
        cases he
        obtain ⟨hget, ht0⟩ := row_spec hrow
        obtain ⟨b', cs, E, h1, h2, h3, h4, h5, h6, h7, h8, h9, h10⟩ := hI.objs i ob hget
        have : b' = b := by rw [ht0, hb] at h1; cases h1; rfl
        subst this
        have hfresh : K.bl tk = none := hf tk rfl rfl
        have hput := Kx.le_put hfresh b' (1, cs.size) n
        have hrun : (Instr.sliceAt t (.pointer (some ⟨b', 0, none⟩)) none none none).run P w = .ok (.slice (some ⟨b', 0, none⟩) n n) w := by
          have hsz := run_sizeOf1 (w := w) hc
          simp [Instr.sliceAt, Instr.sureAddr, run_underlying1 ht, Instr.sliceBounds, hsz, addr_add]
        refine ⟨_, w, .inl (by simp [execOp, ho, ev, hrun]; rfl), ?_⟩
        rw [Heap.act_up1]
        have key := hI.turn (w' := w) (K' := K.put tk b' (1, cs.size) n) (o' := { ob with esz := 1, ag := u.ag, t := tk }) hget (by rw [c6]; decide) h1 h3 rfl h3 rfl (fun _ _ => rfl) (fun i v _ hv => hv) hput (fun c i hp => .inr hp) (fun c hc => hc)
          (fun t c hc => (Kx.put_bl_inv hc).elim (fun h => .inr h) .inl)
          ⟨b', cs, E, by simp, h2, h3, by simp, fun _ => ⟨by simp, fun _ => rfl⟩, ⟨h6.1, by simp [c1], h6.2.2⟩, fun j c hj => (h7 j c hj).mono hput (.refl _ _), fun _ i hp => h8 c6 i hp, fun hF => (by
            have : ob.md = .F := hF
            rw [c6] at this; cases this), fun hF => absurd c6 hF⟩ (by simp)
        refine ⟨_, hput, key.1, key.2, ?_, .refl _ _, fun t c hc => ?_⟩
        · refine .sl i tk 0 n n b' (by simp) (Nat.le_refl _) (by omega) ?_
          simp only [Kx.put_es]; omega
        · rcases Kx.put_bl_inv hc with ⟨rfl, _⟩ | hc
          · exact .inr ⟨rfl, rfl⟩
          · exact .inl hc
      · cases he
    · cases he
  · cases he

/-- What is told besides. -/
theorem Out.told {h' : Heap} {r : AV} {v : Value} {w' : World} (ho : Out n0 K w tk h' r v w') (r' : AV) (v' : Value) (hr : ∀ K' w', Rep K' w' r' v') : Out n0 K w tk h' r' v' w' := by
  obtain ⟨K', k1, k2, k3, _, k5, k6⟩ := ho
  exact ⟨K', k1, k2, k3, hr _ _, k5, k6⟩

theorem run_copy1 {t t2 ty el : TypeId} {u : Ty} (ht : P.underlying t = some (.slice el)) (hc : cTy P el = some u) {g off dLen dCap sLen sCap : Nat} {cur : Array Value} {E : TypeId} {p : Option Addr} {news : List Value} (hg : w.heap[g]? = some (.cells cur E (0, 0)))
    (hl : news.length = Nat.min sLen dLen * u.sz) (hat : Nat.min sLen dLen ≠ 0 → ∃ b o, p = some ⟨b, o, none⟩ ∧ ∀ (j : Nat) (x : Value), news[j]? = some x → w.cell? ⟨b, o + j, none⟩ = some x) (hfit : off + news.length ≤ cur.size) (h1 : ∀ u ∈ news, u.oneCell' = true) :
    (Builtin.copy_ #[t, t2] ty #[.slice (some ⟨g, off, none⟩) dLen dCap, .slice p sLen sCap]).run P w = .ok (.int .i64 (Nat.min sLen dLen : Nat)) (w.setRow g (cur.toList.take off ++ news ++ cur.toList.drop (off + news.length)).toArray) := by
  have hs := run_sizeOf1 (w := w) hc
  have hf : (Builtin.firstCells u.sz (Nat.min sLen dLen) (.slice p sLen sCap)).run P w = .ok news.toArray w := by
    by_cases h0 : Nat.min sLen dLen = 0
    · have hn : news = [] := List.eq_nil_of_length_eq_zero (by rw [hl, h0, Nat.zero_mul])
      subst hn
      cases p with
      | none => exact run_firstCells_none _ _ _ _ _
      | some b => exact run_firstCells_some (P := P) w u.sz _ b sLen sCap [] (by rw [h0]; simp) (by simp)
    · obtain ⟨b, o, rfl, hat'⟩ := hat h0
      exact run_firstCells_some (P := P) w u.sz _ ⟨b, o, none⟩ sLen sCap news hl (fun j v hj => by rw [addr_add]; exact hat' j v hj)
  have hst := run_storeCells_at P g off E news 0 cur w hg (by simpa using hfit) h1
  simp only [Nat.add_zero] at hst
  simp [Builtin.copy_, run_underlying1 ht, hs, Builtin.lenOf, hf, hst, goInt]

theorem ok_copy (hs : Slots K w s a.tmps) (hI : Inv n0 K h w) (o : Oper) (c : Call) (ho : o.op = .call c) (hb : c.callee = .builtin .copy) (x y : Operand) (hx1 : c.args = #[x, y]) (t t2 el : TypeId) (ht1 : c.argTypes = #[t, t2])
    {u : Ty} (ht : P.underlying t = some (.slice el)) (hc : cTy P el = some u) {call : FuncId → List AV → Option AV} {own : FuncId → Option Ty} {id : Id} {e : Ev} (he : evOp call own s h id tk (.copy u (cX x) (cX y)) = some e) :
    ∃ v w', Comes1 P a o w v w' ∧ Out n0 K w tk (h.act e) e.v v w' := by
  have hx := rep_X hs x
  have hy := rep_X hs y
  simp only [evOp, acopy] at he
  split at he
  case h_2 => cases he
  rename_i cs n rd hsrc
  split at he
  case isFalse => cases he
  rename_i hcond
  obtain ⟨hcl, hz⟩ := hcond
  split at he
  case h_2 => cases he
  rename_i i t' off len hxv
  split at he
  case h_2 => cases he
  rename_i ob hrow
  split at he
  case isFalse => cases he
  rename_i hcond
  obtain ⟨hW, hesz, hfit⟩ := hcond
  split at he
  case h_2 => cases he
  rename_i new f hrow1
  split at he
  case isTrue => cases he
  rename_i hnw
  cases he
  rw [hxv] at hx
  obtain ⟨p, c', news, hy', src⟩ := source_ok hI hy hsrc hcl hz
  obtain ⟨b, cap, hbt, hxe, hcap, _, _⟩ := hx.sl_inv
  obtain ⟨hget, ht0⟩ := row_spec hrow
  have hbo : K.bl ob.t = some b := by rw [ht0]; exact hbt
  obtain ⟨cur, E, hheap, _, _, hlen, _, _⟩ := hI.cells hrow hbt
  have hmin : Nat.min n len * u.sz ≤ n * u.sz := Nat.mul_le_mul_right _ (Nat.min_le_left _ _)
  have hnl : (news.take (Nat.min n len * u.sz)).length = Nat.min n len * u.sz := by rw [List.length_take, src.len, Nat.min_eq_left hmin]
  have htk : ∀ (j : Nat) (c : AV), (cs.take (Nat.min n len * u.sz))[j]? = some c → j < Nat.min n len * u.sz ∧ cs[j]? = some c := fun j c hj => by
    rw [List.getElem?_take] at hj
    split at hj
    · exact ⟨‹_›, hj⟩
    · cases hj
  have hrepT : ∀ (j : Nat) (c : AV), (cs.take (Nat.min n len * u.sz))[j]? = some c → Rep K w c ((news.take (Nat.min n len * u.sz)).getD j undef) := fun j c hj => by
    obtain ⟨h1, h2⟩ := htk j c hj
    have := src.rep j c h2
    rw [List.getD_eq_getElem?_getD] at this ⊢
    rw [List.getElem?_take, if_pos h1]
    exact this
  obtain ⟨K1, k1, k2, k3, k4, k5, k6, k7⟩ := inRow_ok (n0 := n0) (w := w) _ K h (fun j => (news.take (Nat.min n len * u.sz)).getD j undef) new f hI hrepT hrow1
  have hnewl : new.length = (news.take (Nat.min n len * u.sz)).length := by rw [k4, List.length_take, hcl, Nat.min_eq_left hmin, hnl]
  have honev : ∀ v ∈ news.take (Nat.min n len * u.sz), v.oneCell' = true := fun v hv => by
    obtain ⟨j, hj, rfl⟩ := List.getElem_of_mem hv
    have hj' : j < new.length := by rw [hnewl]; exact hj
    have h1 := k5 j _ (List.getElem?_eq_getElem hj')
    have h3 := one_cell h1 (k6 _ (List.getElem_mem hj')).1
    rw [List.getD_eq_getElem?_getD, List.getElem?_eq_getElem hj] at h3
    exact h3
  have hrun := run_copy1 (P := P) (t2 := t2) (ty := o.type) (dLen := len) (dCap := cap) (sLen := n) (sCap := c') (p := p) (off := off) (news := news.take (Nat.min n len * u.sz)) ht hc hheap hnl (fun hne => by
    obtain ⟨b', o', e1, e2⟩ := src.at_ (by intro h; subst h; simp at hne)
    refine ⟨b', o', e1, fun j v hj => e2 j v ?_⟩
    rw [List.getElem?_take] at hj
    split at hj
    · exact hj
    · cases hj) (by rw [hnl]; have := hlen.1; omega) honev
  have hexec := exec_builtin (P := P) (w := w) (a := a) o .copy c ho hb
  rw [hx1, ht1] at hexec
  have hwr := inRow_wr _ _ _ _ hrow1
  have hget1 : (h.act f).get i = some ob := by
    rw [get_act_other h f i (fun p hp e => ?_)]
    · exact hget
    · have := hwr p hp
      rw [e] at this
      exact hnw (by simpa using this)
  rw [act_and h f _ _ k7 rfl]
  refine ⟨.int .i64 (Nat.min n len : Nat), _, .inl (by rw [hexec]; simp only [builtin, List.map_toArray, List.map_cons, List.map_nil, hxe, hy', Sem.run_bind]; rw [hrun]; rfl), Out.after k1 k2 ?_⟩
  exact Out.told (out_store (tk := tk) k3 hget1 hW (by rw [k2]; exact hbo) hheap hnewl (by rw [hnewl, hnl]; exact hfit) k5 (fun c hc => (k6 c hc).2) (i :: rd) [i] undef) _ _ (fun _ _ => .int _ _)

/-! ### structs compared -/
theorem aeq1_get {k : Nat} {x y : AV} {b : Bool} (he : aeq1 k x y = some b) : (k = 0 ∧ ∃ i m n, x = .int i m ∧ y = .int i n ∧ b = decide (m = n)) ∨ (k = 1 ∧ ∃ m n, x = .bool m ∧ y = .bool n ∧ b = (m == n)) ∨ (k = 2 ∧ ∃ m n, x = .str m ∧ y = .str n ∧ b = decide (m = n)) := by
  unfold aeq1 at he
  split at he
  · split at he
    · rename_i hk; subst hk; cases he; exact .inl ⟨rfl, _, _, _, rfl, rfl, rfl⟩
    · cases he
  · cases he; exact .inr (.inl ⟨rfl, _, _, rfl, rfl, rfl⟩)
  · cases he; exact .inr (.inr ⟨rfl, _, _, rfl, rfl, rfl⟩)
  · cases he

theorem plainKind_spec {t : TypeId} {k : Nat} (h : plainKind P t = some k) : (k = 0 ∧ ∃ j, P.underlying t = some (.int j)) ∨ (k = 1 ∧ P.underlying t = some .bool) ∨ (k = 2 ∧ P.underlying t = some .string) := by
  unfold plainKind at h
  split at h
  · cases h; exact .inl ⟨rfl, _, ‹_›⟩
  · cases h; exact .inr (.inl ⟨rfl, ‹_›⟩)
  · cases h; exact .inr (.inr ⟨rfl, ‹_›⟩)
  · cases h

theorem eqFields_ok {xs ys : List AV} {ax ay : Array Value} (lx : ax.size = xs.length) (ly : ay.size = ys.length) (fx : ∀ x ∈ xs, x.flat = true) (fy : ∀ x ∈ ys, x.flat = true)
    (rx : ∀ (j : Nat) (c : AV), xs[j]? = some c → Rep K w c (ax.getD j undef)) (ry : ∀ (j : Nat) (c : AV), ys[j]? = some c → Rep K w c (ay.getD j undef)) (d : Nat) :
    ∀ (fs : List Field) (pl : List (Nat × Nat)) (b : Bool), (fs.mapM fun f => if f.name ≠ "_" ∧ (cTy P f.type).any (fun u => !u.ag) then (plainKind P f.type).map fun k => (f.offset, k) else none) = some pl → aeqs pl xs ys = some b →
      (Op.eqFields (d + 1) ax ay fs).run P w = .ok b w
  | [], pl, b, hm, he => by
    simp at hm
    subst hm
    simp only [aeqs] at he
    cases he
    rfl
  | f :: fs, pl, b, hm, he => by
    simp only [List.mapM_cons] at hm
    split at hm
    case isFalse => simp at hm
    rename_i hcond
    obtain ⟨hname, hcty⟩ := hcond
    cases hk : plainKind P f.type with
    | none => rw [hk] at hm; simp at hm
    | some k =>
      rw [hk] at hm
      cases hr : (fs.mapM fun f => if f.name ≠ "_" ∧ (cTy P f.type).any (fun u => !u.ag) then (plainKind P f.type).map fun k => (f.offset, k) else none) with
      | none => rw [hr] at hm; simp at hm
      | some rest =>
        rw [hr] at hm
        simp at hm
        subst hm
        simp only [aeqs] at he
        split at he
        case h_2 => cases he
        rename_i q hq
        cases hc : cTy P f.type with
        | none => rw [hc] at hcty; simp at hcty
        | some u =>
          rw [hc] at hcty
          simp at hcty
          have h1 : u.sz = 1 := by
            obtain ⟨_, _, _, _, _, _, _, _, _, _, g, _⟩ := cTy_spec hc
            exact g hcty
          have look : ∀ (zs : List AV) (az : Array Value), az.size = zs.length → (∀ x ∈ zs, x.flat = true) → (∀ (j : Nat) (c : AV), zs[j]? = some c → Rep K w c (az.getD j undef)) → zs.getD f.offset .undef ≠ .undef → ∃ v, (part f.type az f.offset).run P w = .ok v w ∧ Rep K w (zs.getD f.offset .undef) v := fun zs az lz fz rz hne => by
            have hlt : f.offset < zs.length := by
              by_cases hlt : f.offset < zs.length
              · exact hlt
              · rw [List.getD_eq_getElem?_getD, List.getElem?_eq_none (by omega)] at hne
                exact absurd rfl hne
            have hsub : sub zs f.offset u.sz = some [zs[f.offset]] := by
              unfold sub
              rw [if_pos (by omega), h1]
              congr 1
              rw [List.take_one, List.head?_drop, List.getElem?_eq_getElem hlt]
              rfl
            obtain ⟨v, g1, g2⟩ := part_spec (P := P) hc lz fz rz hsub
            rw [hcty] at g2
            refine ⟨v, g1, ?_⟩
            rw [List.getD_eq_getElem?_getD, List.getElem?_eq_getElem hlt]
            exact g2
          have hgx := aeq1_get hq
          obtain ⟨vx, px, qx⟩ := look xs ax lx fx rx (by intro e; rw [e] at hgx; simp at hgx)
          obtain ⟨vy, py, qy⟩ := look ys ay ly fy ry (by intro e; rw [e] at hgx; simp at hgx)
          have heq : (Op.equalIn (d + 1) f.type vx vy).run P w = .ok q w := by
            rcases plainKind_spec hk with ⟨rfl, j, hu⟩ | ⟨rfl, hu⟩ | ⟨rfl, hu⟩
            · rcases hgx with ⟨_, i, m, n, ex, ey, rfl⟩ | ⟨h, _⟩ | ⟨h, _⟩
              · rw [ex] at qx; rw [ey] at qy
                rw [qx.int_inv, qy.int_inv, run_equalIn_int d hu]
                congr 1
              · cases h
              · cases h
            · rcases hgx with ⟨h, _⟩ | ⟨_, m, n, ex, ey, rfl⟩ | ⟨h, _⟩
              · cases h
              · rw [ex] at qx; rw [ey] at qy
                rw [qx.bool_inv, qy.bool_inv, run_equalIn_bool d hu]
              · cases h
            · rcases hgx with ⟨h, _⟩ | ⟨h, _⟩ | ⟨_, m, n, ex, ey, rfl⟩
              · cases h
              · cases h
              · rw [ex] at qx; rw [ey] at qy
                rw [qx.str_inv, qy.str_inv, run_equalIn_str d hu, beq_toListBytes, str_eq]
          have ih := eqFields_ok lx ly fx fy rx ry d fs rest
          simp only [Op.eqFields, if_pos hname, Sem.run_bind, px, py, heq, Result.andThen_ok]
          split at he
          · rename_i hqt
            subst hqt
            simp
            exact ih b hr he
          · rename_i hqf
            cases he
            have : q = false := by cases q; rfl; exact absurd rfl hqf
            subst this
            simp

theorem ok_eqs (hs : Slots K w s a.tmps) (hI : Inv n0 K h w) (o : Oper) (neg : Bool) (t t' : TypeId) (x y : Operand) (ho : o.op = .binOp (if neg then .neq else .eql) t x y t') {fs : Array Field} (ht : P.underlying t = some (.struct fs)) {pl : List (Nat × Nat)} (hpl : eqFields P t = some pl)
    {call : FuncId → List AV → Option AV} {own : FuncId → Option Ty} {id : Id} {e : Ev} (he : evOp call own s h id tk (.eqs neg pl (cX x) (cX y)) = some e) : ∃ v w', Comes1 P a o w v w' ∧ Out n0 K w tk (h.act e) e.v v w' := by
  have hx := rep_X hs x
  have hy := rep_X hs y
  simp only [evOp] at he
  split at he
  case h_2 => cases he
  rename_i xs ys hxv hyv
  split at he
  case h_2 => cases he
  rename_i b hb
  cases he
  rw [hxv] at hx
  rw [hyv] at hy
  obtain ⟨ax, ex, lx, rx, fx⟩ := hx.agg_inv
  obtain ⟨ay, ey, ly, ry, fy⟩ := hy.agg_inv
  unfold eqFields at hpl
  rw [ht] at hpl
  simp only at hpl
  split at hpl
  case isTrue => cases hpl
  rename_i hg
  simp at hg
  obtain ⟨g1, g2⟩ := hg
  have e1 : P.fieldsOf t = fs := by simp [Program.fieldsOf, ht]
  have hrun := eqFields_ok (P := P) lx ly fx fy rx ry 9998 fs.toList pl b hpl hb
  have heq : (Op.equal t (.agg ax) (.agg ay)).run P w = .ok b w := by
    show (Op.equalIn (9999 + 1) t (.agg ax) (.agg ay)).run P w = _
    rw [run_equalIn_struct w 9999 t ax ay (by rw [e1]; exact ht) g2, e1]
    exact hrun
  have hguard : (eqGuard (if neg then .neq else .eql) t x y (.agg ax) (.agg ay)).run P w = .ok () w := by
    cases neg <;> simp [eqGuard, g1]
  rw [Heap.act_pure _ _ rfl rfl rfl]
  refine ⟨.bool (b != neg), w, .inl ?_, Out.pure hI (.bool _)⟩
  simp only [execOp, ho, ex, ey, Sem.run_bind, hguard, Result.andThen_ok]
  cases neg <;> simp [binOp, heq]

/-! ### maps asked -/
theorem find_ok {q : TypeId} {d : Nat} {u : TypeDesc} {kv : AV} {k : Value} (hk : Rep K w kv k) (hd : plainKind P q = some d) (hu : P.underlying q = some u) : ∀ (es : List (AV × AV)) (ents : List MapEntry) (i : Nat) (r : Option AV), ents.length = es.length →
    (∀ (j : Nat) (e : AV × AV), es[j]? = some e → Rep K w e.1 (ents.getD j default).key) → (∀ (j : Nat) (e : AV × AV), es[j]? = some e → Rep K w e.2 (ents.getD j default).val) → find d kv es = some r →
      ∃ r', Instr.findNow u k ents i = some r' ∧ ((r = none ∧ r' = none) ∨ ∃ v n x, r = some v ∧ r' = some (n, x) ∧ Rep K w v x)
  | [], ents, i, r, hl, _, _, hf => by
    have : ents = [] := List.eq_nil_of_length_eq_zero (by simpa using hl)
    subst this
    simp only [find] at hf
    cases hf
    exact ⟨none, rfl, .inl ⟨rfl, rfl⟩⟩
  | (j, v) :: es, [], i, r, hl, _, _, hf => by simp at hl
  | (j, v) :: es, m :: ents, i, r, hl, h1, h2, hf => by
    simp only [find] at hf
    split at hf
    case h_2 => cases hf
    rename_i b hb
    have hj := h1 0 (j, v) rfl
    have hv := h2 0 (j, v) rfl
    simp at hj hv
    have hsame : Instr.sameNow u k m.key = some b := by
      rcases plainKind_spec hd with ⟨rfl, i, hu'⟩ | ⟨rfl, hu'⟩ | ⟨rfl, hu'⟩ <;> (rw [hu] at hu'; cases hu') <;> rcases aeq1_get hb with ⟨h, i', m', n', rfl, rfl, rfl⟩ | ⟨h, m', n', rfl, rfl, rfl⟩ | ⟨h, m', n', rfl, rfl, rfl⟩ <;> first | (cases h; done) | skip
      · rw [hk.int_inv, hj.int_inv]; simp [Instr.sameNow]; rfl
      · rw [hk.bool_inv, hj.bool_inv]; simp [Instr.sameNow]
      · rw [hk.str_inv, hj.str_inv]; simp only [Instr.sameNow, beq_toListBytes, str_eq]
    simp only [Instr.findNow, hsame]
    cases b with
    | true =>
      simp at hf
      subst hf
      exact ⟨_, rfl, .inr ⟨v, i, m.val, rfl, rfl, hv⟩⟩
    | false =>
      simp at hf
      exact find_ok hk hd hu es ents (i + 1) r (by simpa using hl) (fun j e he => by have := h1 (j + 1) e (by simpa using he); simpa using this) (fun j e he => by have := h2 (j + 1) e (by simpa using he); simpa using this) hf

theorem run_checkKey {q : TypeId} {d : Nat} (hd : plainKind P q = some d) (em : Bool) (n : Nat) (k : Value) : (Instr.checkKey em (n + 1) q k).run P w = .ok () w := by
  rcases plainKind_spec hd with ⟨rfl, i, hu⟩ | ⟨rfl, hu⟩ | ⟨rfl, hu⟩ <;> simp [Instr.checkKey, run_underlying1 hu]

theorem ok_lookup (hs : Slots K w s a.tmps) (hI : Inv n0 K h w) (o : Oper) (t q el : TypeId) (m k : Operand) (ok : Bool) (ho : o.op = .lookup t m k ok) {i : TypeInfo} {z : Value} (ht : P.underlying t = some (.map q el)) (hi : P.info? el = some i) (hz : i.zero = some z) {d : Nat} (hd : plainKind P q = some d)
    {call : FuncId → List AV → Option AV} {own : FuncId → Option Ty} {id : Id} {e : Ev} (he : evOp call own s h id tk (.lookup d (ofConst1 z) ok (cX m) (cX k)) = some e) : ∃ v w', Comes1 P a o w v w' ∧ Out n0 K w tk (h.act e) e.v v w' := by
  have hm := rep_X hs m
  have hk := rep_X hs k
  simp only [evOp] at he
  split at he
  case h_2 => cases he
  rename_i es hmv
  rw [hmv] at hm
  obtain ⟨b, c, ents, ev, hp, hb, hl, hkr, hvr⟩ := hm.map_inv
  have hu : ∃ uq, P.underlying q = some uq := by
    rcases plainKind_spec hd with ⟨_, i, hu⟩ | ⟨_, hu⟩ | ⟨_, hu⟩ <;> exact ⟨_, hu⟩
  obtain ⟨uq, hu⟩ := hu
  have hzr : (zeroValue el).run P w = .ok z w := by simp [zeroValue, run_typeInfo1 hi, hz]
  have hget : (getObj b).run P w = .ok (.map ents c) w := by simp [getObj, Sem.run, hb]
  cases hf : find d ((cX k).ev s) es with
  | none => rw [hf] at he; cases he
  | some r =>
    rw [hf] at he
    obtain ⟨r', hr1, hr2⟩ := find_ok hk hd hu es ents.toList 0 r (by simpa using hl) (fun j e he => by have := (hkr j e he).unbare; rw [Array.getD_eq_getD_getElem?] at this; simpa [List.getD_eq_getElem?_getD] using this) (fun j e he => by have := (hvr j e he).unbare; rw [Array.getD_eq_getD_getElem?] at this; simpa [List.getD_eq_getElem?_getD] using this) hf
    have hcheck : (Instr.checkKey ents.isEmpty 10000 q (a.eval k)).run P w = .ok () w := run_checkKey hd _ 9999 _
    have hfind : (Instr.findKey q (a.eval k) ents.toList).run P w = .ok r' w := by
      simp [Instr.findKey, run_underlying1 hu, hr1]
    rcases hr2 with ⟨rfl, rfl⟩ | ⟨v, n, x, rfl, rfl, hx⟩
    · simp only at he
      cases he
      rw [Heap.act_pure _ _ rfl rfl rfl]
      have hrun : (Instr.lookup t (a.eval m) (a.eval k) ok).run P w = .ok (if ok then .tuple #[z, .bool false] else z) w := by
        simp [Instr.lookup, run_underlying1 ht, ev, hget, hcheck, hfind, hzr]
      refine ⟨_, w, .inl (by simp only [execOp, ho, Sem.run_bind, hrun]; rfl), Out.pure hI ?_⟩
      cases ok with
      | true => exact .tup _ _ (by simp) (fun j c hj => by
          match j, hj with
          | 0, hj => simp at hj; subst hj; exact rep_const1 z
          | 1, hj => simp at hj; subst hj; exact .bool _
          | n + 2, hj => simp at hj)
      | false => exact rep_const1 z
    · simp only at he
      cases he
      rw [Heap.act_pure _ _ rfl rfl rfl]
      have hrun : (Instr.lookup t (a.eval m) (a.eval k) ok).run P w = .ok (if ok then .tuple #[x, .bool true] else x) w := by
        simp [Instr.lookup, run_underlying1 ht, ev, hget, hcheck, hfind]
      refine ⟨_, w, .inl (by simp only [execOp, ho, Sem.run_bind, hrun]; rfl), Out.pure hI ?_⟩
      cases ok with
      | true => exact .tup _ _ (by simp) (fun j c hj => by
          match j, hj with
          | 0, hj => simp at hj; subst hj; exact hx
          | 1, hj => simp at hj; subst hj; exact .bool _
          | n + 2, hj => simp at hj)
      | false => exact hx

end Go.Aw

/-
  Calls: what a call leaves to its caller.
-/
namespace Go.Aw
open Go.RowKit

variable {P : Program} {n0 : Base} {K : Kx} {h : Heap} {w : World} {s : List AV} {a : Act} {tk : Tok}

theorem scal_any {K' : Kx} {w' : World} {x : AV} {v : Value} (hs : x.scal = true) (h : Rep K w x v) : Rep K' w' x v := by
  cases h with
  | undef v => exact .undef _
  | bool b => exact .bool _
  | int k n => exact .int _ _
  | str b => exact .str _
  | nilfn => exact .nilfn
  | fn f cap cs hl hr =>
    cases cap with
    | nil => exact .fn f [] cs hl (fun j a h => by simp at h)
    | cons c r => simp [AV.scal] at hs
  | _ => simp [AV.scal] at hs

theorem scal1_any {K' : Kx} {w' : World} {x : AV} {v : Value} (hs : x.scal1 = true) (h : Rep K w x v) : Rep K' w' x v := by
  cases x with
  | agg cs =>
    obtain ⟨arr, rfl, hl, hr, hf⟩ := h.agg_inv
    exact .agg cs arr hf hl (fun j c hj => scal_any ((List.all_eq_true.1 hs) c (List.mem_of_getElem? hj)) (hr j c hj))
  | _ => exact scal_any hs h

theorem scal2_any {K' : Kx} {w' : World} {x : AV} {v : Value} (hs : x.scal2 = true) (h : Rep K w x v) : Rep K' w' x v := by
  cases x with
  | tup cs =>
    obtain ⟨arr, rfl, hl, hr⟩ := h.tup_inv
    exact .tup cs arr hl (fun j c hj => scal1_any ((List.all_eq_true.1 hs) c (List.mem_of_getElem? hj)) (hr j c hj))
  | _ => exact scal1_any hs h

/-- What a function that was handed trees leaves behind. -/
def Gives (S : Kx) (w w' : World) (r : AV) (v : Value) : Prop :=
  ∃ K' : Kx, (∀ b i, S.prot b i → K'.prot b i) ∧ (∀ b, S.pm b → K'.pm b) ∧ (∀ b i, K'.prot b i → S.prot b i ∨ w.heap.size ≤ b) ∧ (∀ b, K'.pm b → S.pm b ∨ w.heap.size ≤ b) ∧
    (∀ b i, K'.prot b i → b < w'.heap.size) ∧ (∀ b, K'.pm b → b < w'.heap.size) ∧ Rep K'.bare w' r v ∧ Below w.heap.size w w'

def Callable (P : Program) (f : FuncId) : Prop := ∃ fn, P.funcs[f]? = some fn ∧ (fn.name == "runtime.NumGoroutine") = false ∧ fn.body.isSome = true

/-- What a world that has only grown keeps. -/
theorem kept_below {w' : World} (hb : Below w.heap.size w w') (hp : ∀ b i, K.prot b i → b < w.heap.size) : Kept K w w' :=
  ⟨fun b i v hc hv => by
    have := hb.block b (hp b i hc)
    unfold World.cell? at hv ⊢
    simp only [this]; exact hv, fun b es c hc hv => by
    rw [hb.block b (Array.getElem?_eq_some_iff.1 hv).1]; exact hv⟩

/-- What a function asks for, and what it gives. -/
def CallOk (F : Fence) (P : Program) (call : FuncId → List AV → Option AV) : Prop :=
  ∀ f ts r, call f ts = some r → Callable P f ∧ ∀ (n : Nat) (S : Kx) (w : World) (args : Array Value), args.size = ts.length → (∀ b i, S.prot b i → b < w.heap.size) → (∀ b, S.pm b → b < w.heap.size) →
    (∀ (j : Nat) (t : AV), ts[j]? = some t → Rep S.bare w t (args.getD j undef)) → CallsIn F n P f args w fun e w' => ∃ v, e = .returned v ∧ Gives S w w' r v

/-- The world has grown; the heap stands. -/
theorem Inv.later {w' : World} (hI : Inv n0 K h w) (hb : Below w.heap.size w w') : Kept K w w' ∧ Inv n0 K h w' := by
  have hk : Kept K w w' := kept_below hb hI.pb
  have blk : ∀ (b : Nat) (cs : Array Value) (E : TypeId), w.heap[b]? = some (Go.Obj.cells cs E (0, 0)) → w'.heap[b]? = some (Go.Obj.cells cs E (0, 0)) := fun b cs E h => by
    rw [hb.block b (Array.getElem?_eq_some_iff.1 h).1]; exact h
  exact ⟨hk, ⟨Nat.le_trans hI.size hb.size, fun b i h => Nat.lt_of_lt_of_le (hI.pb b i h) hb.size, fun b h => Nat.lt_of_lt_of_le (hI.mb b h) hb.size, fun t b h => Nat.lt_of_lt_of_le (hI.tb t b h) hb.size,
    fun id o hg => (hI.objs id o hg).mono (.refl K) hk (fun b cs E _ h => ⟨cs, blk b cs E h, rfl, fun _ _ => rfl⟩) (fun _ _ _ _ h => h),
    fun r hr => (hI.rts r hr).mono (.refl K) (fun b cs E _ h => ⟨cs, blk b cs E h, rfl⟩) (fun _ _ _ h => h), hI.u1, hI.u2, hI.u3, hI.pz, hI.mz⟩⟩

/-- A new block of the world's becomes a row. -/
theorem Inv.adopt {w' : World} (hI : Inv n0 K h w) (hw : Below w.heap.size w w') (id : Id) (tk : Tok) {b0 : Nat} (hb0 : w.heap.size ≤ b0) (cs : Array Value) (E : TypeId) (hbk : w'.heap[b0]? = some (Go.Obj.cells cs E (0, 0))) (cells : List AV) (esz : Nat) (ag : Bool) (e1 : Nat)
    (hf : K.bl tk = none) (hsz : cells.length ≤ cs.size) (hfl : ∀ x ∈ cells, x.flat = true) (hrep : ∀ j c, cells[j]? = some c → Rep K w' c (cs.getD j undef)) (he : esz ≠ 0 → e1 = esz ∧ (ag = false → esz = 1)) :
    K.le (K.put tk b0 (e1, cs.size) cells.length) ∧ Kept K w w' ∧ Inv n0 (K.put tk b0 (e1, cs.size) cells.length) (h.upd id ⟨cells, esz, ag, tk, .W⟩) w' := by
  have hK := Kx.le_put hf b0 (e1, cs.size) cells.length
  obtain ⟨hkw, hJ⟩ := hI.later hw
  have hlt : b0 < w'.heap.size := (Array.getElem?_eq_some_iff.1 hbk).1
  have hnew : ObjOk n0 (K.put tk b0 (e1, cs.size) cells.length) w' ⟨cells, esz, ag, tk, .W⟩ :=
    ⟨b0, cs, E, by simp, Nat.le_trans hI.size hb0, hbk, by simp, by simpa using he, ⟨hsz, by simp, hfl⟩, fun j c hj => (hrep j c hj).mono hK (.refl K w'), fun _ i hi => absurd (hI.pb _ _ hi) (by omega), fun h => by simp at h, fun h => by simp at h⟩
  refine ⟨hK, hkw, ⟨hJ.size, hJ.pb, hJ.mb, fun t b hb => ?_, fun i o hg => ?_, fun r hr => ?_, fun i j o p b hi hj ho hp hbo hbp => ?_, fun i o b r hi ho hr hbo hbr => ?_, fun r q b hr hq hbr hbq => ?_, hJ.pz, hJ.mz⟩⟩
  · rcases Kx.put_bl_inv hb with ⟨_, rfl⟩ | hb
    · exact hlt
    · exact hJ.tb t b hb
  · rw [Heap.get_upd] at hg
    split at hg
    · cases hg; exact hnew
    · exact (hJ.objs i o hg).mono hK (.refl K w') (fun b cs' E' _ hb => ⟨cs', hb, rfl, fun _ _ => rfl⟩) (fun _ _ _ _ h => h)
  · exact (hJ.rts r hr).mono hK (fun b cs' E' _ hb => ⟨cs', hb, rfl⟩) (fun _ _ _ h => h)
  · rw [Heap.get_upd] at hi hj
    have key : ∀ o i, h.get i = some o → ∀ b, (K.put tk b0 (e1, cs.size) cells.length).bl o.t = some b → K.bl o.t = some b ∧ b < w.heap.size := fun o i hi b hb => by
      obtain ⟨b', _, _, h1, _⟩ := hI.objs i o hi
      have : b = b' := by rw [hK.bl _ _ h1] at hb; cases hb; rfl
      subst this
      exact ⟨h1, hI.tb _ _ h1⟩
    split at hi <;> split at hj
    · rename_i e1 e2; exact e1.symm.trans e2
    · cases hi
      have := (key p j hj b hbp).2
      simp at hbo; omega
    · cases hj
      have := (key o i hi b hbo).2
      simp at hbp; omega
    · exact hI.u1 i j o p b hi hj ho hp (key o i hi b hbo).1 (key p j hj b hbp).1
  · rw [Heap.get_upd] at hi
    obtain ⟨b', _, _, h1, _⟩ := hI.rts r hr
    have : b = b' := by rw [hK.bl _ _ h1] at hbr; cases hbr; rfl
    subst this
    split at hi
    · cases hi
      simp at hbo
      have := hI.tb _ _ h1
      omega
    · obtain ⟨b2, _, _, h2, _⟩ := hI.objs i o hi
      have : b = b2 := by rw [hK.bl _ _ h2] at hbo; cases hbo; rfl
      subst this
      exact hI.u2 i o b r hi ho hr h2 h1
  · obtain ⟨b1, _, _, h1, _⟩ := hI.rts r hr
    obtain ⟨b2, _, _, h2, _⟩ := hI.rts q hq
    have e1 : b = b1 := by rw [hK.bl _ _ h1] at hbr; cases hbr; rfl
    have e2 : b = b2 := by rw [hK.bl _ _ h2] at hbq; cases hbq; rfl
    subst e1; subst e2
    exact hI.u3 r q _ hr hq h1 h2

theorem frz_get (h : Heap) (ids : List Id) : ∀ (i : Id), (h.ups (frz h ids)).get i = (match h.get i with | some o => if i ∈ ids ∧ o.md = .W then some { o with md := .F } else some o | none => none) := by
  have key : ∀ (l : List Id) (g : Heap) (i : Id), (g.ups (frz h l)).get i = (match h.get i with | some o => if i ∈ l ∧ o.md = .W then some { o with md := .F } else g.get i | none => g.get i) := fun l => by
    induction l with
    | nil => intro g i; simp only [frz, Heap.ups]; cases h.get i <;> simp
    | cons j r ih =>
      intro g i
      simp only [frz]
      cases hj : h.get j with
      | none =>
        simp only
        rw [ih g i]
        cases hi : h.get i with
        | none => rfl
        | some o =>
          have : i ≠ j := fun e => by subst e; rw [hi] at hj; cases hj
          simp [this]
      | some o =>
        simp only
        split
        · rename_i hW
          simp only [Heap.ups]
          rw [ih, Heap.get_upd]
          cases hi : h.get i with
          | none =>
            have : j ≠ i := fun e => by subst e; rw [hi] at hj; cases hj
            simp [this]
          | some p =>
            by_cases e : j = i
            · subst e
              rw [hi] at hj; cases hj
              simp [hW]
            · simp [e, Ne.symm e]
        · rename_i hW
          rw [ih g i]
          cases hi : h.get i with
          | none => rfl
          | some p =>
            by_cases e : i = j
            · subst e
              rw [hi] at hj; cases hj
              simp [hW]
            · simp [e]
  intro i
  rw [key ids h i]
  cases hi : h.get i with
  | none => rfl
  | some o => rfl

/-- What was shown is not written any more. -/
theorem Inv.frz (hI : Inv n0 K h w) (ids : List Id) : Inv n0 (K.cover h ids) (h.ups (frz h ids)) w := by
  have hK := K.le_cover h ids
  have old : ∀ i p, (h.ups (Aw.frz h ids)).get i = some p → ∃ o, h.get i = some o ∧ p.t = o.t ∧ p.cells = o.cells ∧ p.esz = o.esz ∧ p.ag = o.ag ∧ ((i ∈ ids ∧ o.md = .W ∧ p.md = .F) ∨ (p.md = o.md ∧ (i ∈ ids → p.md ≠ .W))) := fun i p hp => by
    rw [frz_get] at hp
    cases hi : h.get i with
    | none => rw [hi] at hp; cases hp
    | some o =>
      rw [hi] at hp
      simp only at hp
      split at hp
      · rename_i hc
        cases hp
        exact ⟨_, rfl, rfl, rfl, rfl, rfl, .inl ⟨hc.1, hc.2, rfl⟩⟩
      · rename_i hc
        cases hp
        exact ⟨_, rfl, rfl, rfl, rfl, rfl, .inr ⟨rfl, fun hm hW => hc ⟨hm, hW⟩⟩⟩
  -- what the cover adds at a block: the cells of one that is shown
  have cov : ∀ b i, (K.cover h ids).prot b i → K.prot b i ∨ ∃ id o, id ∈ ids ∧ h.get id = some o ∧ K.bl o.t = some b ∧ i < o.cells.length ∧ o.md ≠ .R := fun b i hp => by
    rcases hp with hp | ⟨id, hid, o, hg, hb, hi⟩
    · exact .inl hp
    · by_cases hR : o.md = .R
      · obtain ⟨b', _, _, h1, _, _, _, _, _, _, _, _, h10⟩ := hI.objs id o hg
        have : b' = b := by rw [h1] at hb; cases hb; rfl
        subst this
        exact .inl (h10 (by rw [hR]; decide) i hi)
      · exact .inr ⟨id, o, hid, hg, hb, hi, hR⟩
  refine ⟨hI.size, fun b i hp => ?_, hI.mb, hI.tb, fun i p hp => ?_, fun r hr => ?_, fun i j p q b hi hj hpm hqm hpb hqb => ?_, fun i p b r hi hpm hr hpb hrb => ?_, fun r q b hr hq => ?_, fun b i hp => ?_, hI.mz⟩
  · rcases hp with hp | ⟨id, hid, o, hg, hb, hi⟩
    · exact hI.pb b i hp
    · exact hI.tb _ _ hb
  · obtain ⟨o, hg, e1, e2, e3, e4, hmd⟩ := old i p hp
    obtain ⟨b, cs, E, h1, h2, h3, h4, h5, h6, h7, h8, h9, h10⟩ := hI.objs i o hg
    have same : ∀ id' o', id' ∈ ids → h.get id' = some o' → K.bl o'.t = some b → o'.md ≠ .R → o.md ≠ .R → id' = i := fun id' o' _ hg' hb' hR' hR => hI.u1 id' i o' o b hg' hg hR' hR hb' h1
    refine ⟨b, cs, E, by rw [e1]; exact h1, h2, h3, by rw [e1]; exact h4, fun hz => by rw [e1, e3, e4]; exact h5 (by rw [e3] at hz; exact hz), by rw [e1, e2]; exact h6, fun j c hj => by
      rw [e2] at hj; exact (h7 j c hj).mono hK (.refl _ _), fun hW k hp => ?_, fun hF k hp => ?_, fun hn k hk => ?_⟩
    · rcases hmd with ⟨_, _, hF⟩ | ⟨hm, hnW⟩
      · rw [hF] at hW; cases hW
      · rw [hm] at hW
        rcases cov b k hp with hp | ⟨id', o', hid, hg', hb', hk, hR⟩
        · exact h8 hW k hp
        · have := same id' o' hid hg' hb' hR (by rw [hW]; decide)
          subst this
          exact hnW hid (by rw [hm]; exact hW)
    · rw [e2]
      rcases cov b k hp with hp | ⟨id', o', hid, hg', hb', hk, hR⟩
      · rcases hmd with ⟨_, hW, _⟩ | ⟨hm, _⟩
        · exact absurd hp (h8 hW k)
        · exact h9 (by rw [← hm]; exact hF) k hp
      · have hnR : o.md ≠ .R := by
          rcases hmd with ⟨_, hW, _⟩ | ⟨hm, _⟩
          · rw [hW]; decide
          · rw [← hm, hF]; decide
        have := same id' o' hid hg' hb' hR hnR
        subst this
        rw [hg] at hg'; cases hg'
        exact hk
    · rw [e2] at hk
      rcases hmd with ⟨hid, hW, _⟩ | ⟨hm, _⟩
      · exact .inr ⟨i, hid, o, hg, h1, hk⟩
      · exact .inl (h10 (by rw [← hm]; exact hn) k hk)
  · rw [Heap.rts_ups] at hr
    obtain ⟨b, cs, E, h1, h2, h3, h4, h5⟩ := hI.rts r hr
    refine ⟨b, cs, E, h1, h2, h3, h4, fun k hp => ?_⟩
    rcases cov b k hp with hp | ⟨id', o', hid, hg', hb', hk, hR⟩
    · exact h5 k hp
    · exact (hI.u2 id' o' b r hg' hR hr hb' h1).elim
  · obtain ⟨o, hg, e1, _, _, _, hmd⟩ := old i p hi
    obtain ⟨o2, hg2, e12, _, _, _, hmd2⟩ := old j q hj
    have nR : ∀ (x y : Obj), ((i ∈ ids ∧ y.md = .W ∧ x.md = .F) ∨ (x.md = y.md ∧ (i ∈ ids → x.md ≠ .W))) → x.md ≠ .R → y.md ≠ .R := fun x y hh hx => by
      rcases hh with ⟨_, hW, _⟩ | ⟨hm, _⟩
      · rw [hW]; decide
      · rw [← hm]; exact hx
    have nR2 : ∀ (x y : Obj), ((j ∈ ids ∧ y.md = .W ∧ x.md = .F) ∨ (x.md = y.md ∧ (j ∈ ids → x.md ≠ .W))) → x.md ≠ .R → y.md ≠ .R := fun x y hh hx => by
      rcases hh with ⟨_, hW, _⟩ | ⟨hm, _⟩
      · rw [hW]; decide
      · rw [← hm]; exact hx
    rw [e1] at hpb
    rw [e12] at hqb
    exact hI.u1 i j o o2 b hg hg2 (nR p o hmd hpm) (nR2 q o2 hmd2 hqm) hpb hqb
  · obtain ⟨o, hg, e1, _, _, _, hmd⟩ := old i p hi
    rw [Heap.rts_ups] at hr
    rw [e1] at hpb
    refine hI.u2 i o b r hg ?_ hr hpb hrb
    rcases hmd with ⟨_, hW, _⟩ | ⟨hm, _⟩
    · rw [hW]; decide
    · rw [← hm]; exact hpm
  · rw [Heap.rts_ups] at hr hq
    exact hI.u3 r q b hr hq
  · rcases hp with hp | ⟨id, hid, o, hg, hb, hi⟩
    · exact hI.pz b i hp
    · obtain ⟨b', _, _, h1, h2, _⟩ := hI.objs id o hg
      rw [hb] at h1; cases h1
      exact .inl h2

/-- More is guarded, and none of it lies at what is one's own. -/
theorem Inv.more {K' : Kx} (hI : Inv n0 K h w) (B : Nat) (hK : K.le K') (hbl : ∀ t, K'.bl t = K.bl t) (hB : ∀ t b, K.bl t = some b → b < B) (hp : ∀ b i, K'.prot b i → K.prot b i ∨ (B ≤ b ∧ b < w.heap.size)) (hm : ∀ b, K'.pm b → b < w.heap.size) (hB0 : n0 ≤ B) (hm2 : ∀ b, K'.pm b → K.pm b ∨ B ≤ b) : Inv n0 K' h w where
  pz := fun b i h => (hp b i h).elim (hI.pz b i) (fun h => .inl (Nat.le_trans hB0 h.1))
  mz := fun b h => (hm2 b h).elim (hI.mz b) (fun h => .inl (Nat.le_trans hB0 h))
  size := hI.size
  pb := fun b i h => (hp b i h).elim (hI.pb b i) (fun h => h.2)
  mb := hm
  tb := fun t b h => hI.tb t b (by rw [← hbl]; exact h)
  objs := fun id o hg => (hI.objs id o hg).mono hK (.refl _ _) (fun b cs E _ h => ⟨cs, h, rfl, fun _ _ => rfl⟩) (fun b i hb _ h => (hp b i h).resolve_right (fun hh => by have := hB _ _ hb; omega))
  rts := fun r hr => (hI.rts r hr).mono hK (fun b cs E _ h => ⟨cs, h, rfl⟩) (fun b i hb h => (hp b i h).resolve_right (fun hh => by have := hB _ _ hb; omega))
  u1 := fun i j o p b hi hj h1 h2 hb1 hb2 => hI.u1 i j o p b hi hj h1 h2 (by rw [← hbl]; exact hb1) (by rw [← hbl]; exact hb2)
  u2 := fun i o b r hi h1 hr hb1 hb2 => hI.u2 i o b r hi h1 hr (by rw [← hbl]; exact hb1) (by rw [← hbl]; exact hb2)
  u3 := fun r q b hr hq hb1 hb2 => hI.u3 r q b hr hq (by rw [← hbl]; exact hb1) (by rw [← hbl]; exact hb2)

/-- Out of what a function has given. -/
theorem out_given {ids : List Id} {r : AV} {v : Value} {w' : World} (hI : Inv n0 K h w) (hg : Gives (K.cover h ids) w w' r v) : Out n0 K w tk (if r.scal2 then h else h.ups (frz h ids)) r v w' := by
  obtain ⟨K', g1, g2, g3, g4, g5, g6, g7, g8⟩ := hg
  have hbelow : Below n0 w w' := g8.mono hI.size
  split
  · rename_i hs
    obtain ⟨k1, k2⟩ := hI.later g8
    exact ⟨K, .refl K, k1, k2, scal2_any hs g7, hbelow, fun t b h => .inl h⟩
  · have hF := hI.frz ids
    obtain ⟨k1, k2⟩ := hF.later g8
    have hK := K.le_cover h ids
    let K2 : Kx := { K with prot := K'.prot, pm := K'.pm }
    have hK2 : (K.cover h ids).le K2 := ⟨g1, g2, fun _ _ h => h, fun _ _ _ => rfl, fun _ _ _ => rfl⟩
    have hI2 : Inv n0 K2 (h.ups (frz h ids)) w' := k2.more w.heap.size hK2 (fun _ => rfl) (fun t b hb => hI.tb t b hb) (fun b i hp => (g3 b i hp).imp id (fun hle => ⟨hle, g5 b i hp⟩)) g6 hI.size g4
    refine ⟨K2, hK.trans hK2, ⟨fun b i x hp hv => k1.cell b i x (hK.prot _ _ hp) hv, fun b es c hp hv => k1.map b es c (hK.pm _ hp) hv⟩, hI2, ?_, hbelow, fun t b h => .inl h⟩
    have hle : K'.bare.le K2 := ⟨fun _ _ h => h, fun _ h => h, fun _ _ h => by simp [Kx.bare] at h, fun _ _ h => by simp [Kx.bare] at h, fun _ _ h => by simp [Kx.bare] at h⟩
    exact g7.mono hle (.refl _ _)

end Go.Aw

/-
  Every operation but a call.
-/
namespace Go.Aw
open Go.RowKit

variable {P : Program} {n0 : Base} {K : Kx} {h : Heap} {w : World} {s : List AV} {a : Act} {tk : Tok}

def AOp.isCall : AOp → Bool
  | .call .. | .callv .. => true
  | _ => false

theorem toArr1 {α : Type} {c : Array α} {x : α} (h : c.toList = [x]) : c = #[x] := by
  apply Array.ext'; simpa using h
theorem toArr2 {α : Type} {c : Array α} {x y : α} (h : c.toList = [x, y]) : c = #[x, y] := by
  apply Array.ext'; simpa using h

theorem ok_alen (hI : Inv n0 K h w) (o : Oper) (c : Call) (ho : o.op = .call c) (hb : c.callee = .builtin .len) (x : Operand) (hx1 : c.args = #[x]) (t el : TypeId) (m : Nat) (ht1 : c.argTypes = #[t])
    (ht : P.underlying t = some (.array m el)) : ∃ v w', Comes1 P a o w v w' ∧ Out n0 K w tk h (.int .i64 m) v w' := by
  have hrun := exec_builtin (P := P) (w := w) (a := a) o .len c ho hb
  rw [hx1, ht1] at hrun
  refine ⟨.int .i64 m, w, .inl ?_, Out.pure hI (.int _ _)⟩
  rw [hrun]
  simp [builtin, Builtin.len_, run_underlying1 ht, goInt]

theorem op_ok (hs : Slots K w s a.tmps) (hI : Inv n0 K h w) (hf : Fresh K tk) (o : Oper) {ao : AOp} (hc : cOp P o = some ao) (hn : ao.isCall = false) {call : FuncId → List AV → Option AV} {own : FuncId → Option Ty} {id : Id} {e : Ev} (he : evOp call own s h id tk ao = some e) :
    ∃ v w', Comes1 P a o w v w' ∧ Out n0 K w tk (h.act e) e.v v w' := by
  have act0 : ∀ (v : AV), h.act { v } = h := fun v => Heap.act_pure _ _ rfl rfl rfl
  unfold cOp at hc
  split at hc
  case h_1 x ho =>
    cases hc; simp only [evOp] at he; cases he
    rw [act0]; exact ok_mov hs hI o x (.inl ho)
  case h_2 x ho =>
    cases hc; simp only [evOp] at he; cases he
    rw [act0]; exact ok_mov hs hI o x (.inr ho)
  case h_3 c x y ho =>
    cases hc; simp only [evOp] at he
    split at he
    · rename_i q hq
      cases he
      rw [act0]; exact ok_pick hs hI o c x y ho hq
    · cases he
  case h_4 t ho =>
    cases hu : cTy P t with
    | none => rw [hu] at hc; simp at hc
    | some u => rw [hu] at hc; simp at hc; subst hc; exact ok_alloc hI hf o t ho hu he
  case h_5 t x ho => cases hc; exact ok_box hs hI hf o t x ho he
  case h_6 t ps ho =>
    cases hu : cTy P t with
    | none => rw [hu] at hc; simp at hc
    | some u =>
      rw [hu] at hc
      simp only [Option.bind_eq_bind, Option.bind_some] at hc
      split at hc
      · rename_i fs ht
        cases hp : (fs.toList.mapM fun f => (cTy P f.type).map fun u => (f.offset, u.sz)) with
        | none => rw [hp] at hc; simp at hc
        | some pl =>
          rw [hp] at hc
          simp only [Option.bind_some] at hc
          cases hl : (ps.toList.mapM fun p => (pl[p.1]?).map fun q => (q.1, q.2, cX p.2)) with
          | none => rw [hl] at hc; simp at hc
          | some l => rw [hl] at hc; simp at hc; subst hc; exact ok_build_struct hs hI o t ps ho hu ht hp hl he
      · rename_i m el ht
        cases hv : cTy P el with
        | none => rw [hv] at hc; simp at hc
        | some v => rw [hv] at hc; simp at hc; subst hc; exact ok_build_array hs hI o t el m ps ho hu ht hv he
      · cases hc
  case h_7 t m ps ho =>
    split at hc
    · rename_i el ht
      cases hu : cTy P el with
      | none => rw [hu] at hc; simp at hc
      | some u => rw [hu] at hc; simp at hc; subst hc; exact ok_bslice hs hI hf o t el m ps ho ht hu he
    · cases hc
  case h_8 t x ho =>
    cases hu : cTy P t with
    | none => rw [hu] at hc; simp at hc
    | some u => rw [hu] at hc; simp at hc; subst hc; exact ok_load hs hI o t x ho hu he
  case h_9 t x y ho =>
    cases hu : cTy P t with
    | none => rw [hu] at hc; simp at hc
    | some u => rw [hu] at hc; simp at hc; subst hc; exact ok_store hs hI o t x y ho hu he
  case h_10 x ho =>
    cases hc; simp only [evOp] at he
    split at he
    · rename_i i t f hx; cases he; rw [act0]; exact ok_nilck hs hI o x ho hx (.inl ⟨_, _, _, rfl⟩)
    · rename_i cs hx; cases he; rw [act0]; exact ok_nilck hs hI o x ho hx (.inr (.inl ⟨_, rfl⟩))
    · rename_i f c hx; cases he; rw [act0]; exact ok_nilck hs hI o x ho hx (.inr (.inr ⟨_, _, rfl⟩))
    · cases he
  case h_11 op t x y t' ho =>
    split at hc
    · cases hc; simp only [evOp] at he
      split at he
      · rename_i r hr; cases he; rw [act0]; exact ok_bin hs hI o op t t' x y ho hr
      · cases he
    · cases hc; simp only [evOp] at he
      split at he
      · rename_i r hr; cases he; rw [act0]; exact ok_bin hs hI o op t t' x y ho hr
      · cases he
    · rename_i ht
      split at hc
      · cases hc; simp only [evOp] at he
        split at he
        · rename_i r hr; cases he; rw [act0]; exact ok_binb hs hI o false t t' x y ho ht hr
        · cases he
      · cases hc; simp only [evOp] at he
        split at he
        · rename_i r hr; cases he; rw [act0]; exact ok_binb hs hI o true t t' x y ho ht hr
        · cases he
      · cases hc
    · rename_i fs ht
      split at hc
      · cases hp : eqFields P t with
        | none => rw [hp] at hc; simp at hc
        | some pl => rw [hp] at hc; simp at hc; subst hc; exact ok_eqs hs hI o false t t' x y ho ht hp he
      · cases hp : eqFields P t with
        | none => rw [hp] at hc; simp at hc
        | some pl => rw [hp] at hc; simp at hc; subst hc; exact ok_eqs hs hI o true t t' x y ho ht hp he
      · cases hc
    · cases hc
  case h_12 op t x ho =>
    cases hc; simp only [evOp] at he
    split at he
    · rename_i r hr; cases he; rw [act0]; exact ok_un hs hI o op t x ho hr
    · cases he
  case h_13 t u x ho =>
    split at hc
    · rename_i j k ht hu
      cases hc; simp only [evOp] at he
      split at he
      · rename_i k' m hx; cases he; rw [act0]; exact ok_conv hs hI o t u x ho ht hu hx
      · cases he
    · cases hc
  case h_14 f first cap ho =>
    split at hc
    · rename_i hfi
      cases hc; simp only [evOp] at he
      cases he
      rw [act0]
      have : first = #[] := by simpa using hfi
      subst this
      exact ok_mkfn hs hI o f cap ho
    · cases hc
  case h_15 t x y ho =>
    split at hc
    · rename_i el ht
      cases hu : cTy P el with
      | none => rw [hu] at hc; simp at hc
      | some u => rw [hu] at hc; simp at hc; subst hc; exact ok_mkslice hs hI hf o t el x y ho ht hu he
    · cases hc
  case h_16 t x lo hi ho =>
    split at hc
    · rename_i el ht
      cases hu : cTy P el with
      | none => rw [hu] at hc; simp at hc
      | some u => rw [hu] at hc; simp at hc; subst hc; exact ok_slice hs hI o t el x lo hi ho ht hu he
    · cases hc; simp [evOp] at he
    · rename_i m el ht
      split at hc
      · cases hu : cTy P el with
        | none => rw [hu] at hc; simp at hc
        | some u => rw [hu] at hc; simp at hc; subst hc; exact ok_aslice hs hI hf o t el m x ho ht hu he
      · cases hc
    · cases hc
  case h_17 t x f ho =>
    split at hc
    · rename_i fs ht
      cases hg : fs[f]? with
      | none => rw [hg] at hc; simp at hc
      | some g =>
        rw [hg] at hc
        simp only [Option.bind_eq_bind, Option.bind_some] at hc
        cases hu : cTy P g.type with
        | none => rw [hu] at hc; simp at hc
        | some u =>
          rw [hu] at hc
          simp only [Option.bind_some] at hc
          split at hc
          · cases hc
          · rename_i hz; cases hc; exact ok_faddr hs hI o t x f ho ht hg hu hz he
    · cases hc
  case h_18 t x f ho =>
    split at hc
    · rename_i fs ht
      cases hg : fs[f]? with
      | none => rw [hg] at hc; simp at hc
      | some g =>
        rw [hg] at hc
        simp only [Option.bind_eq_bind, Option.bind_some] at hc
        cases hu : cTy P g.type with
        | none => rw [hu] at hc; simp at hc
        | some u => rw [hu] at hc; simp at hc; subst hc; exact ok_field hs hI o t x f ho ht hg hu he
    · cases hc
  case h_19 t x i ho =>
    split at hc
    · rename_i el ht
      cases hu : cTy P el with
      | none => rw [hu] at hc; simp at hc
      | some u =>
        rw [hu] at hc
        simp only [Option.bind_eq_bind, Option.bind_some] at hc
        split at hc
        · cases hc
        · rename_i hz; cases hc; exact ok_iaddr_slice hs hI o t el x i ho ht hu he
    · rename_i m el ht
      cases hu : cTy P el with
      | none => rw [hu] at hc; simp at hc
      | some u =>
        rw [hu] at hc
        simp only [Option.bind_eq_bind, Option.bind_some] at hc
        split at hc
        · cases hc
        · rename_i hz; cases hc; exact ok_iaddr_array hs hI o t el m x i ho ht hu he
    · cases hc
  case h_20 t x i ho =>
    split at hc
    · rename_i m el ht
      cases hu : cTy P el with
      | none => rw [hu] at hc; simp at hc
      | some u => rw [hu] at hc; simp at hc; subst hc; exact ok_index_array hs hI o t el m x i ho ht hu he
    · rename_i ht
      cases hc; exact ok_index_str hs hI o t x i ho ht he
    · cases hc
  case h_21 x i ho =>
    cases hc; simp only [evOp] at he
    split at he
    · rename_i vs hx
      split at he
      · rename_i v hv; cases he; rw [act0]; exact ok_extract hs hI o x i ho hx hv
      · cases he
    · cases he
  case h_22 t m k ok ho =>
    split at hc
    · rename_i q el ht
      cases hd : plainKind P q with
      | none => rw [hd] at hc; simp at hc
      | some d =>
        rw [hd] at hc
        simp only [Option.bind_eq_bind, Option.bind_some] at hc
        cases hi : P.info? el with
        | none => rw [hi] at hc; simp at hc
        | some i =>
          rw [hi] at hc
          simp only [Option.bind_some] at hc
          cases hz : i.zero with
          | none => rw [hz] at hc; simp at hc
          | some z => rw [hz] at hc; simp at hc; subst hc; exact ok_lookup hs hI o t q el m k ok ho ht hi hz hd he
    · cases hc
  case h_23 c ho =>
    split at hc
    · rename_i x hce hargs
      have hx1 := toArr1 hargs
      split at hc
      · rename_i t hat
        have ht1 := toArr1 hat
        split at hc
        · rename_i m el ht
          cases hc; simp only [evOp, X.ev] at he; cases he
          rw [act0]; exact ok_alen hI o c ho hce x hx1 t el m ht1 ht
        · rename_i el ht
          cases hc; exact ok_len hs hI o c ho hce x hx1 t el ht1 ht he
        · rename_i ht
          cases hc; exact ok_slen hs hI o c ho hce x hx1 t ht1 ht he
        · cases hc
      · cases hc
    · rename_i x r hce hargs
      cases hc; exact ok_min hs hI o c ho hce x r hargs he
    · rename_i x r hce hargs
      cases hc; exact ok_max hs hI o c ho hce x r hargs he
    · rename_i x y hce hargs
      have hx1 := toArr2 hargs
      split at hc
      · rename_i t u hat
        have ht1 := toArr2 hat
        split at hc
        · rename_i el el2 ht ht2
          split at hc
          · rename_i hteq
            subst hteq
            cases hu : cTy P el with
            | none => rw [hu] at hc; simp at hc
            | some u => rw [hu] at hc; simp at hc; subst hc; exact ok_append hs hI hf o c ho hce x y hx1 _ el ht1 ht hu he
          · cases hc
        · rename_i el k2 ht ht2
          cases hu : cTy P el with
          | none => rw [hu] at hc; simp at hc
          | some u => rw [hu] at hc; simp at hc; subst hc; exact ok_appendz hs hI hf o c ho hce x y hx1 t _ el ht1 ht ht2 hu he
        · cases hc
      · cases hc
    · rename_i x y hce hargs
      have hx1 := toArr2 hargs
      split at hc
      · rename_i t u hat
        have ht1 := toArr2 hat
        split at hc
        · rename_i el el2 ht ht2
          cases hu : cTy P el with
          | none => rw [hu] at hc; simp at hc
          | some u => rw [hu] at hc; simp at hc; subst hc; exact ok_copy hs hI o c ho hce x y hx1 t _ el ht1 ht hu he
        · cases hc
      · cases hc
    · rename_i x hce hargs
      have hx1 := toArr1 hargs
      split at hc
      · rename_i t hat
        have ht1 := toArr1 hat
        split at hc
        · rename_i el ht
          cases hc; exact ok_cap hs hI o c ho hce x hx1 t el ht1 ht he
        · cases hc
      · cases hc
    · cases hc
    · cases hc; simp [AOp.isCall] at hn
    · cases hc; simp [AOp.isCall] at hn
    · cases hc
  case h_24 => cases hc

end Go.Aw

/-
  One operation of a region, calls among them.
-/
namespace Go.Aw
open Go.RowKit

variable {P : Program} {n0 : Base} {K : Kx} {h : Heap} {w : World} {s : List AV} {a : Act} {tk : Tok} {F : Fence} {n : Nat}

def OpenF (F : Fence) : Prop := (∀ f, F.fn f) ∧ F.depth = none

/-- How far things have come. -/
structure Went (n0 : Base) (K : Kx) (w : World) (s' : List AV) (h' : Heap) (a' : Act) (w' : World) (K' : Kx) : Prop where
  le : K.le K'
  kept : Kept K w w'
  slots : Slots K' w' s' a'.tmps
  inv : Inv n0 K' h' w'
  defers : a'.defers = []
  below : Below n0 w w'

theorem Went.trans {s' s'' : List AV} {h' h'' : Heap} {a' a'' : Act} {w' w'' : World} {K' K'' : Kx} (x : Went n0 K w s' h' a' w' K') (y : Went n0 K' w' s'' h'' a'' w'' K'') : Went n0 K w s'' h'' a'' w'' K'' :=
  ⟨x.le.trans y.le, x.kept.trans x.le y.kept, y.slots, y.inv, y.defers, x.below.trans y.below⟩

/-- The names of a region that is being walked. -/
def NIn (K : Kx) (rc : Nat) (D : Nat → Prop) (ck : Nat) : Prop := ∀ (t : Tok) (b : Nat), K.bl t = some b → t.1 < rc ∨ (t.1 = rc ∧ D t.2.1) ∨ (rc < t.1 ∧ t.1 < ck)

def Till (K : Kx) (ck : Nat) : Prop := ∀ (t : Tok) (b : Nat), K.bl t = some b → t.1 < ck

/-- What a function that shares the caller's memory asks for, and what it gives. -/
def ICallOk (F : Fence) (P : Program) (icall : ICallT) : Prop :=
  ∀ f as pre h ck v h' ck', icall f as pre h ck = some (v, h', ck') → Callable P f ∧ ∀ (n : Nat) (n0 : Base) (K : Kx) (w : World) (args : Array Value), args.size = as.length → Inv n0 K h w → Till K ck →
    (∀ (j : Nat) (t : AV), as[j]? = some t → Rep K w t (args.getD j undef)) → CallsIn F n P f args w fun e w' => ∃ x K', e = .returned x ∧ K.le K' ∧ Kept K w w' ∧ Inv n0 K' h' w' ∧ Rep K' w' v x ∧ Below n0 w w' ∧ (∀ (t : Tok) (b : Nat), K'.bl t = some b → K.bl t = some b ∨ (ck ≤ t.1 ∧ t.1 < ck')) ∧ ck ≤ ck'

/-- What a row's copy asks for, and what it gives. -/
def CloneOk (F : Fence) (P : Program) (clo : FuncId → Option Ty) : Prop :=
  ∀ f u, clo f = some u → Callable P f ∧ (u.ag = false → u.sz = 1) ∧ ∀ (n : Nat) (w : World) (p : Option Addr) (m c : Nat) (news : List Value), m ≤ c → news.length = m * u.sz →
    (m ≠ 0 → ∃ b o, p = some ⟨b, o, none⟩ ∧ ∀ (j : Nat) (x : Value), news[j]? = some x → w.cell? ⟨b, o + j, none⟩ = some x) → (∀ x ∈ news, x.oneCell' = true) → m ≤ bound → m * u.by_ ≤ bound →
    CallsIn F n P f #[.slice p m c] w fun e w' => ∃ x, e = .returned x ∧
      Below w.heap.size w w' ∧
      ((m = 0 ∧ ∃ q c', x = .slice q 0 c' ∧ c' ≤ maxLen ∧ (p = none → c = 0 → x = .slice none 0 0)) ∨
       (m ≠ 0 ∧ ∃ b arr E cap, w.heap.size ≤ b ∧ w'.heap[b]? = some (Go.Obj.cells arr E (0, 0)) ∧ x = .slice (some ⟨b, 0, none⟩) m cap ∧ m ≤ cap ∧ cap ≤ maxLen ∧ cap * u.sz ≤ arr.size ∧ ∀ (j : Nat) (y : Value), news[j]? = some y → arr[j]? = some y))

theorem wpIn_comes {o : Oper} {v : Value} {w' : World} {next : Act → World → Prop} {Q : Exit → Act → World → Prop} (hF : OpenF F) (hnd : ∀ c, o.op ≠ .defer c) (hc : Comes1 P a o w v w') (hn : next (a.put o.dst v) w') : o.wpIn F n P a w next Q := by
  refine ⟨fun f _ => hF.1 f, ?_⟩
  rw [Oper.semAt_eq _ _ _ hnd]
  rcases hc with hc | ⟨hc, rfl⟩
  · rw [hc]; exact hn
  · rw [hc]; exact hn

theorem cOp_noDefer {o : Oper} {ao : AOp} (hc : cOp P o = some ao) : ∀ c, o.op ≠ .defer c := fun c h => by
  unfold cOp at hc
  rw [h] at hc
  cases hc

/-- A call is entered. -/
theorem exec_call {o : Oper} {c : Call} {f : FuncId} {fv : Operand} (ho : o.op = .call c) (hce : c.callee = .value fv) {caps : Array Value} (hfv : a.eval fv = .func (.func f) #[] caps) (hcal : Callable P f) :
    (execOp a.eval o).run P w = .ok (.enter f (c.args.map a.eval ++ caps)) w := by
  obtain ⟨fn, h1, h2, h3⟩ := hcal
  have hb : ¬ fn.body = none := by intro e; rw [e] at h3; cases h3
  have h2' : ¬ fn.name = "runtime.NumGoroutine" := by simpa using h2
  simp [execOp, ho, resolve, hce, hfv, Deferred.ofValue, invoke, callFunc, h1, h2', hb]

/-- A row's copy. -/
theorem out_clone (hI : Inv n0 K h w) (hf : Fresh K tk) {id : Id} {u : Ty} {x : AV} {v : Value} (hx : Rep K w x v) {e : Ev} (he : aclone h u id tk x = some e) (hag : u.ag = false → u.sz = 1) :
    ∃ (p : Option Addr) (m c : Nat) (news : List Value), v = .slice p m c ∧ m ≤ c ∧ news.length = m * u.sz ∧ (m ≠ 0 → ∃ b o, p = some ⟨b, o, none⟩ ∧ ∀ (j : Nat) (y : Value), news[j]? = some y → w.cell? ⟨b, o + j, none⟩ = some y) ∧
      (∀ y ∈ news, y.oneCell' = true) ∧ m ≤ bound ∧ m * u.by_ ≤ bound ∧ ∀ (y : Value) (w' : World), Below w.heap.size w w' ∧
      ((m = 0 ∧ ∃ q c', y = .slice q 0 c' ∧ c' ≤ maxLen ∧ (p = none → c = 0 → y = .slice none 0 0)) ∨
       (m ≠ 0 ∧ ∃ b arr E cap, w.heap.size ≤ b ∧ w'.heap[b]? = some (Go.Obj.cells arr E (0, 0)) ∧ y = .slice (some ⟨b, 0, none⟩) m cap ∧ m ≤ cap ∧ cap ≤ maxLen ∧ cap * u.sz ≤ arr.size ∧ ∀ (j : Nat) (z : Value), news[j]? = some z → arr[j]? = some z)) →
      Out n0 K w tk (h.act e) e.v y w' := by
  unfold aclone at he
  split at he
  case h_2 => cases he
  rename_i cs m rd hsrc
  have hle : ∀ {p c}, v = .slice p m c → m ≤ c := fun {p c} hv => by
    rcases source_len hsrc with ⟨rfl, rfl⟩ | ⟨vs, rfl, rfl⟩ | ⟨vs, r, rfl, rfl⟩ | ⟨i, t, off, rfl⟩
    · exact Nat.zero_le _
    · obtain ⟨_, _, _, _, _, _, e, h1, _⟩ := hx.list_inv; rw [hv] at e; cases e; exact h1
    · obtain ⟨_, _, _, _, e, h1, _⟩ := hx.rl_inv; rw [hv] at e; cases e; exact h1
    · obtain ⟨_, _, _, e, h1, _⟩ := hx.sl_inv; rw [hv] at e; cases e; exact h1
  split at he
  · rename_i hm0
    subst hm0
    obtain ⟨p, c, hv⟩ := hx.slice_len (source_len hsrc)
    refine ⟨p, 0, c, [], hv, Nat.zero_le _, by simp, fun h => absurd rfl h, fun y hy => by simp at hy, Nat.zero_le _, by simp, fun y w' hy => ?_⟩
    obtain ⟨hbw, hy⟩ := hy
    obtain ⟨hkw, hJ⟩ := hI.later hbw
    rcases hy with ⟨_, q, c', hy, hc', hq⟩ | ⟨h0, _⟩
    · split at he
      · cases he
        rename_i hxv
        have := hx.nil_inv
        rw [this] at hv
        cases hv
        rw [hq rfl rfl]
        rw [Heap.act_pure _ _ rfl rfl rfl]
        exact ⟨K, .refl K, hkw, hJ, .nil, hbw.mono hI.size, fun _ _ h => .inl h⟩
      · cases he
        subst hy
        rw [Heap.act_pure _ _ rfl rfl rfl]
        exact ⟨K, .refl K, hkw, hJ, .list [] q c' 0 0 0 (fun _ => default) (Nat.zero_le _) hc' (fun x h => by simp at h) (fun e h => by simp at h) (fun h => absurd rfl h) (fun j c h => by simp at h) (fun j c h => by simp at h), hbw.mono hI.size, fun _ _ h => .inl h⟩
    · exact absurd rfl h0
  · rename_i hm0
    split at he
    case isFalse => cases he
    rename_i hcond
    obtain ⟨hcl, hz, hone, hb1, hb2⟩ := hcond
    cases he
    obtain ⟨p, c, news, hv, src⟩ := source_ok hI hx hsrc hcl hz
    refine ⟨p, m, c, news, hv, hle hv, src.len, src.at_, src.one hcl hone, hb1, hb2, fun y w' hy => ?_⟩
    obtain ⟨hbw, hy⟩ := hy
    obtain ⟨hkw, hJ⟩ := hI.later hbw
    rcases hy with ⟨h0, _⟩ | ⟨_, b0, arr, E, cap, hb0, hbk, rfl, h1, h2, h3, h4⟩
    · exact absurd h0 hm0
    · have hmc : m * u.sz ≤ cap * u.sz := Nat.mul_le_mul_right _ h1
      rw [Heap.act_up1]
      obtain ⟨k1, k2, k3⟩ := hI.adopt hbw id tk hb0 arr E hbk cs u.sz u.ag u.sz (hf tk rfl rfl) (by rw [hcl]; omega) src.flat (fun j c hj => by
        have hlt : j < news.length := by rw [src.len, ← hcl]; exact (List.getElem?_eq_some_iff.1 hj).1
        have e1 := h4 j _ (List.getElem?_eq_getElem hlt)
        have e2 := src.rep j c hj
        rw [List.getD_eq_getElem?_getD, List.getElem?_eq_getElem hlt] at e2
        rw [Array.getD_eq_getD_getElem?, e1]
        exact e2.mono (.refl K) hkw) (fun _ => ⟨rfl, hag⟩)
      refine ⟨_, k1, k2, k3, .sl id tk 0 m cap b0 (by simp) h1 h2 (by simp only [Kx.put_es]; omega), hbw.mono hI.size, fun t b ht => ?_⟩
      rcases Kx.put_bl_inv ht with ⟨rfl, _⟩ | ht
      · exact .inr ⟨rfl, rfl⟩
      · exact .inl ht

theorem Act.put_defers0 {a : Act} {d : Option Tmp} {v : Value} (h : a.defers = []) : (a.put d v).defers = [] := by
  cases d <;> exact h

theorem slots_put {K : Kx} {w : World} {s : List AV} {a : Act} (hs : Slots K w s a.tmps) {x : AV} {v : Value} (hr : Rep K w x v) (d : Option Tmp) : Slots K w (putD d x s) (a.put d v).tmps := by
  cases d with
  | none => exact hs
  | some d => exact hs.set hr d

theorem NIn.add {K K' : Kx} {rc i : Nat} {D : Nat → Prop} {ck : Nat} (h : NIn K rc D ck) (hn : ∀ t b, K'.bl t = some b → K.bl t = some b ∨ (t.1 = rc ∧ t.2.1 = i)) : NIn K' rc (fun j => j = i ∨ D j) ck := fun t b ht => by
  rcases hn t b ht with h1 | ⟨h1, h2⟩
  · rcases h t b h1 with h2 | ⟨h2, h3⟩ | h2
    · exact .inl h2
    · exact .inr (.inl ⟨h2, .inr h3⟩)
    · exact .inr (.inr h2)
  · exact .inr (.inl ⟨h1, .inl h2⟩)

theorem NIn.wider {K : Kx} {rc : Nat} {D D' : Nat → Prop} {ck ck' : Nat} (h : NIn K rc D ck) (hd : ∀ j, D j → D' j) (hc : ck ≤ ck') : NIn K rc D' ck' := fun t b ht => by
  rcases h t b ht with h2 | ⟨h2, h3⟩ | ⟨h2, h3⟩
  · exact .inl h2
  · exact .inr (.inl ⟨h2, hd _ h3⟩)
  · exact .inr (.inr ⟨h2, by omega⟩)

theorem NIn.fresh {K : Kx} {rc i : Nat} {D : Nat → Prop} {ck : Nat} (h : NIn K rc D ck) (hi : ¬ D i) (j : Nat) : Fresh K (rc, i, j) := fun t h1 h2 => by
  cases e : K.bl t with
  | none => rfl
  | some b =>
    simp only at h1 h2
    rcases h t b e with h3 | ⟨_, h4⟩ | ⟨h3, _⟩
    · omega
    · rw [h2] at h4; exact absurd h4 hi
    · omega

/-- New names are of the region, or later ones. -/
def New (rc : Nat) (K K' : Kx) : Prop := ∀ (t : Tok) (b : Nat), K'.bl t = some b → K.bl t = some b ∨ rc ≤ t.1
theorem New.refl (rc : Nat) (K : Kx) : New rc K K := fun _ _ h => .inl h
theorem New.trans {rc : Nat} {a b c : Kx} (h : New rc a b) (k : New rc b c) : New rc a c := fun t x hx => (k t x hx).elim (h t x) .inr

/-- What an operation that does not fail comes to. -/
def OpPost (n0 : Base) (K : Kx) (w : World) (s' : List AV) (h' : Heap) (rc : Nat) (D : Nat → Prop) (ck ck' i : Nat) (next : Act → World → Prop) : Prop :=
  ∀ (a' : Act) (w' : World) (K' : Kx), Went n0 K w s' h' a' w' K' → NIn K' rc (fun j => j = i ∨ D j) ck' → New rc K K' → ck ≤ ck' → next a' w'

theorem map_eval_size (a : Act) (l : Array Operand) : (l.map a.eval).size = ((cXs l).map (·.ev s)).length := by simp [cXs]

theorem args_rep (hs : Slots K w s a.tmps) (l : Array Operand) (cap : List AV) (cs : Array Value) (hl : cs.size = cap.length) (hr : ∀ (j : Nat) (x : AV), cap[j]? = some x → Rep K w x (cs.getD j undef)) :
    (l.map a.eval ++ cs).size = ((cXs l).map (·.ev s) ++ cap).length ∧ ∀ (j : Nat) (x : AV), ((cXs l).map (·.ev s) ++ cap)[j]? = some x → Rep K w x ((l.map a.eval ++ cs).getD j undef) := by
  have hlen : ((cXs l).map (·.ev s)).length = l.size := by simp [cXs]
  refine ⟨by simp [cXs, hl], fun j x hj => ?_⟩
  by_cases hlt : j < l.size
  · rw [List.getElem?_append_left (by omega)] at hj
    have hx : x = (cX l[j]).ev s := by
      simp [cXs, hlt] at hj
      exact hj.symm
    subst hx
    rw [Array.getD_eq_getD_getElem?, Array.getElem?_append_left (by simpa using hlt)]
    simp [hlt]
    exact rep_X hs l[j]
  · rw [List.getElem?_append_right (by omega), hlen] at hj
    have := hr _ x hj
    rw [Array.getD_eq_getD_getElem?] at this ⊢
    rw [Array.getElem?_append_right (by simpa using Nat.le_of_not_lt hlt)]
    simpa using this

/-- A call: told or walked into. -/
theorem call_wp {call : CallT} {icall : ICallT} {own : FuncId → Option Ty} {inl : FuncId → Bool} (hF : OpenF F) (hcall : CallOk F P call) (hicall : ICallOk F P icall) (hclo : CloneOk F P own) {o : Oper} {c : Call} {f : FuncId} {fv : Operand} (ho : o.op = .call c) (hce : c.callee = .value fv)
    {cap : List AV} {caps : Array Value} (hfv : a.eval fv = .func (.func f) #[] caps) (hcl : caps.size = cap.length) (hcr : ∀ (j : Nat) (x : AV), cap[j]? = some x → Rep K w x (caps.getD j undef))
    (hs : Slots K w s a.tmps) (hI : Inv n0 K h w) (hd : a.defers = []) {rc i ck : Nat} {D : Nat → Prop} (hN : NIn K rc D ck) (hi : ¬ D i) (hrc : rc < ck) {pre : Id}
    {s' : List AV} {h' : Heap} {ck' : Nat} {next : Act → World → Prop} {Q : Exit → Act → World → Prop} (hnext : OpPost n0 K w s' h' rc D ck ck' i next)
    (hrun : (inl f = true ∧ ∃ v, icall f ((cXs c.args).map (·.ev s) ++ cap) pre h ck = some (v, h', ck') ∧ s' = putD o.dst v s) ∨
      (inl f = false ∧ ck' = ck ∧ ∃ e, acall call own pre (rc, i, 0) h f ((cXs c.args).map (·.ev s) ++ cap) = some e ∧ s' = putD o.dst e.v s ∧ h' = h.act e)) : o.wpIn F n P a w next Q := by
  obtain ⟨hsz, hrep⟩ := args_rep hs c.args cap caps hcl hcr
  refine ⟨fun f _ => hF.1 f, ?_⟩
  rw [Oper.semAt_eq _ _ _ (fun c' h' => by rw [ho] at h'; cases h')]
  rcases hrun with ⟨_, v, hv, rfl⟩ | ⟨_, rfl, e, he, rfl, rfl⟩
  · obtain ⟨hcal, hgo⟩ := hicall _ _ _ _ _ _ _ _ hv
    rw [exec_call ho hce hfv hcal, Oper.uponIn_enter]
    refine ⟨fun hx => (by rw [hF.2] at hx; cases hx), ?_⟩
    refine (hgo (n - 1) n0 K w _ hsz hI (fun t b ht => by rcases hN t b ht with h1 | ⟨h1, _⟩ | ⟨_, h1⟩ <;> omega) hrep).mono fun e w' he => ?_
    obtain ⟨x, K', rfl, k1, k2, k3, k4, k5, k6, hck⟩ := he
    refine hnext _ _ K' ⟨k1, k2, slots_put (hs.mono k1 k2) k4 _, k3, Act.put_defers0 hd, k5⟩ (fun t b ht => ?_) (fun t b ht => (k6 t b ht).imp id (fun h => by omega)) hck
    rcases k6 t b ht with h1 | ⟨h1, h2⟩
    · rcases hN t b h1 with h2 | ⟨h2, h3⟩ | ⟨h2, h3⟩
      · exact .inl h2
      · exact .inr (.inl ⟨h2, .inr h3⟩)
      · exact .inr (.inr ⟨h2, by omega⟩)
    · exact .inr (.inr ⟨by omega, h2⟩)
  · unfold acall at he
    split at he
    · rename_i u hu
      split at he
      · rename_i y hy
        obtain ⟨hcal, hag, hgo⟩ := hclo f u hu
        have hfr := hN.fresh hi 0
        have hargs : ∃ v, c.args.map a.eval ++ caps = #[v] ∧ Rep K w y v := by
          rw [hy] at hsz hrep
          refine ⟨(c.args.map a.eval ++ caps).getD 0 undef, ?_, hrep 0 y rfl⟩
          apply Array.ext'
          match hq : (c.args.map a.eval ++ caps).toList, hsz with
          | [v], _ =>
            have : (c.args.map a.eval ++ caps) = #[v] := Array.ext' (by simpa using hq)
            rw [this]; rfl
          | [], hsz => rw [← Array.length_toList, hq] at hsz; simp at hsz
          | _ :: _ :: _, hsz => rw [← Array.length_toList, hq] at hsz; simp at hsz
        obtain ⟨v, hargs, hyv⟩ := hargs
        obtain ⟨p, m, cc, news, rfl, g1, g2, g3, g4, g5, g6, g7⟩ := out_clone hI hfr hyv he hag
        rw [exec_call ho hce hfv hcal, Oper.uponIn_enter, hargs]
        refine ⟨fun hx => (by rw [hF.2] at hx; cases hx), ?_⟩
        refine (hgo (n - 1) w p m cc news g1 g2 g3 g4 g5 g6).mono fun e' w' he' => ?_
        obtain ⟨x, rfl, hx⟩ := he'
        obtain ⟨K', k1, k2, k3, k4, k5, k6⟩ := g7 x w' hx
        exact hnext _ _ K' ⟨k1, k2, slots_put (hs.mono k1 k2) k4 _, k3, Act.put_defers0 hd, k5⟩ (hN.add k6) (fun t b ht => (k6 t b ht).imp id (fun h => Nat.le_of_eq h.1.symm)) (Nat.le_refl _)
      · cases he
    · split at he
      · rename_i ts ids hm
        split at he
        · rename_i r hr
          obtain ⟨hcal, hgo⟩ := hcall f ts r hr
          obtain ⟨m1, m2⟩ := mapT_spec hm
          have htr : ∀ (j : Nat) (t : AV), ts[j]? = some t → Rep (K.cover h ids).bare w t ((c.args.map a.eval ++ caps).getD j undef) := fun j t hj => by
            have hlt := (List.getElem?_eq_some_iff.1 hj).1
            have hlt2 : j < ((cXs c.args).map (·.ev s) ++ cap).length := by omega
            obtain ⟨t', is, h1, h2, h3⟩ := m2 j _ (List.getElem?_eq_getElem hlt2)
            rw [hj] at h2
            cases h2
            exact (toTree_ok hI deep _ _ t is ids (hrep j _ (List.getElem?_eq_getElem hlt2)) h1 h3).1
          rw [exec_call ho hce hfv hcal, Oper.uponIn_enter]
          refine ⟨fun hx => (by rw [hF.2] at hx; cases hx), ?_⟩
          have hpb : ∀ b i, (K.cover h ids).prot b i → b < w.heap.size := fun b i hp => by
            rcases hp with hp | ⟨id, _, o, _, hb, _⟩
            · exact hI.pb b i hp
            · exact hI.tb _ _ hb
          refine (hgo (n - 1) (K.cover h ids) w _ (by rw [hsz, m1]) hpb hI.mb htr).mono fun e' w' he' => ?_
          obtain ⟨x, rfl, hx⟩ := he'
          obtain ⟨K', k1, k2, k3, k4, k5, k6⟩ := out_given (tk := (rc, i, 0)) hI hx
          split at he
          · rename_i hsc
            cases he
            rw [if_pos hsc] at k3
            refine hnext _ _ K' ⟨k1, k2, slots_put (hs.mono k1 k2) k4 _, ?_, Act.put_defers0 hd, k5⟩ (hN.add k6) (fun t b ht => (k6 t b ht).imp id (fun h => Nat.le_of_eq h.1.symm)) (Nat.le_refl _)
            rw [Heap.act_pure _ _ rfl rfl rfl]; exact k3
          · rename_i hsc
            cases he
            rw [if_neg hsc] at k3
            refine hnext _ _ K' ⟨k1, k2, slots_put (hs.mono k1 k2) k4 _, ?_, Act.put_defers0 hd, k5⟩ (hN.add k6) (fun t b ht => (k6 t b ht).imp id (fun h => Nat.le_of_eq h.1.symm)) (Nat.le_refl _)
            have : h.act { v := r, up := frz h ids, rd := ids, wr := (frz h ids).map (·.1) } = h.ups (frz h ids) := by
              unfold Heap.act; simp [List.filter_eq_self.2]
            rw [this]; exact k3
        · cases he
      · cases he

end Go.Aw

/-
  Operations with their guards; regions in the order of the text.
-/
namespace Go.Aw
open Go.RowKit

variable {P : Program} {n0 : Base} {K : Kx} {h : Heap} {w : World} {s : List AV} {a : Act} {tk : Tok} {F : Fence} {n : Nat}

theorem cOp_call {o : Oper} {f : FuncId} {xs : List X} (hc : cOp P o = some (.call f xs)) : ∃ c, o.op = .call c ∧ c.callee = .value (.func f) ∧ xs = cXs c.args := by
  unfold cOp at hc
  split at hc
  case h_23 c ho =>
    split at hc
    case h_8 f' _ hce => 
      cases hc
      exact ⟨c, ho, hce, rfl⟩
    all_goals first
      | (cases hc; done)
      | (repeat' split at hc) <;> first | (cases hc; done) | (simp [Option.bind_eq_bind, Option.bind_eq_some_iff] at hc; done)
  all_goals first
    | (cases hc; done)
    | (repeat' split at hc) <;> first | (cases hc; done) | (simp [Option.bind_eq_bind, Option.bind_eq_some_iff] at hc; done) | skip

theorem cOp_callv {o : Oper} {x : X} {xs : List X} (hc : cOp P o = some (.callv x xs)) : ∃ c fv, o.op = .call c ∧ c.callee = .value fv ∧ x = cX fv ∧ xs = cXs c.args := by
  unfold cOp at hc
  split at hc
  case h_23 c ho =>
    split at hc
    case h_9 _ y _ hce => 
      cases hc
      exact ⟨c, y, ho, hce, rfl, rfl⟩
    all_goals first
      | (cases hc; done)
      | (repeat' split at hc) <;> first | (cases hc; done) | (simp [Option.bind_eq_bind, Option.bind_eq_some_iff] at hc; done)
  all_goals first
    | (cases hc; done)
    | (repeat' split at hc) <;> first | (cases hc; done) | (simp [Option.bind_eq_bind, Option.bind_eq_some_iff] at hc; done) | skip

theorem inlined_notCall {inl : FuncId → Bool} {op : AOp} (hn : op.isCall = false) : inlined inl s op = none := by
  cases op <;> first | rfl | (simp [AOp.isCall] at hn)

/-- A value of a function, called. -/
theorem fn_eval (hs : Slots K w s a.tmps) {fv : Operand} {f : FuncId} {cap : List AV} (h : (cX fv).ev s = .fn f cap) : ∃ cs : Array Value, a.eval fv = .func (.func f) #[] cs ∧ cs.size = cap.length ∧ ∀ (j : Nat) (x : AV), cap[j]? = some x → Rep K w x (cs.getD j undef) := by
  have := rep_X hs fv
  rw [h] at this
  exact this.fn_inv

theorem op1_wp {call : CallT} {icall : ICallT} {own : FuncId → Option Ty} {inl : FuncId → Bool} (hF : OpenF F) (hcall : CallOk F P call) (hicall : ICallOk F P icall) (hclo : CloneOk F P own) {o : Oper} {ao : AOper} (hd : ao.dst = o.dst) (hop : ao.op = (cOp P o).getD .bad)
    (hs : Slots K w s a.tmps) (hI : Inv n0 K h w) (hdf : a.defers = []) {rc i ck : Nat} {D : Nat → Prop} (hN : NIn K rc D ck) (hi : ¬ D i) (hrc : rc < ck) {pre : Id}
    {s' : List AV} {h' : Heap} {ck' : Nat} {l : Lg} {next : Act → World → Prop} {Q : Exit → Act → World → Prop} (hnext : OpPost n0 K w s' h' rc D ck ck' i next)
    (hrun : runOp1 call icall own inl pre rc i ao s h ck = some (s', h', ck', l)) : o.wpIn F n P a w next Q := by
  unfold runOp1 at hrun
  rw [hd] at hrun
  cases hc : cOp P o with
  | none =>
    rw [hc] at hop
    simp only [Option.getD_none] at hop
    rw [hop] at hrun
    simp [inlined, evOp] at hrun
  | some op =>
    rw [hc] at hop
    simp only [Option.getD_some] at hop
    rw [hop] at hrun
    by_cases hcl : op.isCall = true
    · -- a call
      have go : ∀ (f : FuncId) (cap : List AV) (c : Call) (fv : Operand), o.op = .call c → c.callee = .value fv → (∃ cs : Array Value, a.eval fv = .func (.func f) #[] cs ∧ cs.size = cap.length ∧ ∀ (j : Nat) (x : AV), cap[j]? = some x → Rep K w x (cs.getD j undef)) →
          inlined inl s op = (if inl f then some (f, (cXs c.args).map (·.ev s) ++ cap) else none) → (evOp call own s h ((o.dst.getD 0) :: pre) (rc, i, 0) op = acall call own ((o.dst.getD 0) :: pre) (rc, i, 0) h f ((cXs c.args).map (·.ev s) ++ cap)) → o.wpIn F n P a w next Q := fun f cap c fv ho hce hfv hin hev => by
        obtain ⟨cs, h1, h2, h3⟩ := hfv
        refine call_wp (inl := inl) (pre := (o.dst.getD 0) :: pre) hF hcall hicall hclo ho hce h1 h2 h3 hs hI hdf hN hi hrc hnext ?_
        rw [hin, hev] at hrun
        by_cases hif : inl f = true
        · rw [if_pos hif] at hrun
          simp only at hrun
          split at hrun
          · rename_i v h2 ck2 hic
            cases hrun
            exact .inl ⟨hif, v, hic, rfl⟩
          · cases hrun
        · rw [if_neg hif] at hrun
          simp only at hrun
          split at hrun
          · rename_i e hac
            cases hrun
            exact .inr ⟨by simpa using hif, rfl, e, hac, rfl, rfl⟩
          · cases hrun
      cases op with
      | call f xs =>
        obtain ⟨c, ho, hce, rfl⟩ := cOp_call hc
        exact go f [] c _ ho hce ⟨#[], rfl, rfl, fun j x h => by simp at h⟩ (by simp [inlined]) (by simp [evOp])
      | callv x xs =>
        obtain ⟨c, fv, ho, hce, rfl, rfl⟩ := cOp_callv hc
        cases hx : (cX fv).ev s with
        | fn f cap => exact go f cap c fv ho hce (fn_eval hs hx) (by simp [inlined, hx]) (by simp [evOp, hx])
        | _ => simp [inlined, evOp, hx] at hrun
      | _ => simp [AOp.isCall] at hcl
    · have hcl' : op.isCall = false := by simpa using hcl
      rw [inlined_notCall hcl'] at hrun
      simp only at hrun
      split at hrun
      · rename_i e he
        cases hrun
        obtain ⟨v, w', h1, K', k1, k2, k3, k4, k5, k6⟩ := op_ok (P := P) hs hI (hN.fresh hi 0) o hc hcl' he
        exact wpIn_comes hF (cOp_noDefer hc) h1 (hnext _ _ K' ⟨k1, k2, slots_put (hs.mono k1 k2) k4 _, k3, Act.put_defers0 hdf, k5⟩ (hN.add k6) (fun t b ht => (k6 t b ht).imp id (fun h => Nat.le_of_eq h.1.symm)) (Nat.le_refl _))
      · cases hrun

/-- How the abstract machine's operation lies to the machine's. -/
def OpRel (P : Program) (ops : Array Oper) (o : Oper) (ao : AOper) : Prop :=
  ao.dst = o.dst ∧ ao.op = (cOp P o).getD .bad ∧ match o.guard with
    | none => ao.g = none
    | some (j, b) => ∃ q d, ops[j]? = some q ∧ q.dst = some d ∧ ao.g = some (d, b)

theorem opIn_wp {call : CallT} {icall : ICallT} {own : FuncId → Option Ty} {inl : FuncId → Bool} (hF : OpenF F) (hcall : CallOk F P call) (hicall : ICallOk F P icall) (hclo : CloneOk F P own) {ops : Array Oper} {o : Oper} {ao : AOper} (hrel : OpRel P ops o ao)
    (hs : Slots K w s a.tmps) (hI : Inv n0 K h w) (hdf : a.defers = []) {rc i ck : Nat} {D : Nat → Prop} (hN : NIn K rc D ck) (hi : ¬ D i) (hrc : rc < ck) {pre : Id} (hoi : ops[i]? = some o)
    {s' : List AV} {h' : Heap} {ck' : Nat} {l : Lg} {next : Act → World → Prop} {Q : Exit → Act → World → Prop} (hnext : OpPost n0 K w s' h' rc D ck ck' i next)
    (hrun : runOp call icall own inl pre rc i ao s h ck = some (s', h', ck', l)) : wpOpIn F n P ops Q i next a w := by
  obtain ⟨r1, r2, r3⟩ := hrel
  unfold runOp at hrun
  unfold wpOpIn
  rw [hoi]
  simp only
  cases hg : o.guard with
  | none =>
    rw [hg] at r3
    simp only at r3
    rw [r3] at hrun
    simp only at hrun
    rw [if_pos (by simp [Region.wanted, hg])]
    exact op1_wp hF hcall hicall hclo r1 r2 hs hI hdf hN hi hrc hnext hrun
  | some g =>
    obtain ⟨j, b⟩ := g
    rw [hg] at r3
    simp only at r3
    obtain ⟨q, d, h1, h2, h3⟩ := r3
    rw [h3] at hrun
    simp only at hrun
    split at hrun
    · rename_i b' hb'
      have hrep := hs.get d
      rw [hb'] at hrep
      have hv := hrep.bool_inv
      have hlt : d < a.tmps.size := by
        rw [← hs.1]
        by_cases hlt : d < s.length
        · exact hlt
        · have hge : s.length ≤ d := Nat.le_of_not_lt hlt
          rw [List.getD_eq_getElem?_getD, List.getElem?_eq_none hge] at hb'
          simp at hb'
      have hy : yielded ops a.tmps j = some b' := by
        have : a.tmps[d]? = some (.bool b') := by
          rw [Array.getD_eq_getD_getElem?, Array.getElem?_eq_getElem hlt] at hv
          rw [Array.getElem?_eq_getElem hlt]
          simpa using hv
        simp [yielded, h1, h2, this]
      split at hrun
      · rename_i heq
        subst heq
        rw [if_pos (by simp [Region.wanted, hg, hy])]
        exact op1_wp hF hcall hicall hclo r1 r2 hs hI hdf hN hi hrc hnext hrun
      · rename_i hne
        cases hrun
        rw [if_neg (by simp [Region.wanted, hg, hy, hne])]
        refine ⟨fun f _ => hF.1 f, hnext _ _ K ⟨.refl K, .refl K w, ?_, hI, Act.put_defers0 hdf, .refl _ _⟩ (hN.wider (fun j h => .inr h) (Nat.le_refl _)) (New.refl _ _) (Nat.le_refl _)⟩
        rw [r1]
        exact slots_put hs (.tup [] #[] rfl (by simp)) _
    · rename_i hb'
      have hrep := hs.get d
      rw [hb'] at hrep
      have hy : yielded ops a.tmps j = none := by
        have hv : ∃ cs, a.tmps.getD d undef = .tuple cs := by
          generalize a.tmps.getD d undef = z at hrep
          cases hrep with
          | tup as cs h1 h2 => exact ⟨cs, rfl⟩
        obtain ⟨cs, hv⟩ := hv
        unfold yielded
        simp only [h1, h2, Option.bind_some]
        cases ht : a.tmps[d]? with
        | none => rfl
        | some x =>
          rw [Array.getD_eq_getD_getElem?, ht] at hv
          simp only [Option.getD_some] at hv
          rw [hv]
      cases hrun
      rw [if_neg (by simp [Region.wanted, hg, hy])]
      refine ⟨fun f _ => hF.1 f, hnext _ _ K ⟨.refl K, .refl K w, ?_, hI, Act.put_defers0 hdf, .refl _ _⟩ (hN.wider (fun j h => .inr h) (Nat.le_refl _)) (New.refl _ _) (Nat.le_refl _)⟩
      rw [r1]
      exact slots_put hs (.tup [] #[] rfl (by simp)) _
    · cases hrun

theorem Till.nin {K : Kx} {ck : Nat} (h : Till K ck) : NIn K ck (fun _ => False) (ck + 1) := fun t b ht => .inl (h t b ht)
theorem NIn.till {K : Kx} {rc ck : Nat} {D : Nat → Prop} (h : NIn K rc D ck) (hrc : rc < ck) : Till K ck := fun t b ht => by
  rcases h t b ht with h1 | ⟨h1, _⟩ | ⟨_, h1⟩ <;> omega

/-- Operations one behind the other, in the order of the text. -/
theorem ops_wp {call : CallT} {icall : ICallT} {own : FuncId → Option Ty} {inl : FuncId → Bool} (hF : OpenF F) (hcall : CallOk F P call) (hicall : ICallOk F P icall) (hclo : CloneOk F P own) {ops : Array Oper} {pre : Id} {rc : Nat} {Q : Exit → Act → World → Prop}
    (s' : List AV) (h' : Heap) (ck' : Nat) (lg' : List Lg) : ∀ (l : List AOper) (k : Nat) (s : List AV) (h : Heap) (ck : Nat) (lg : List Lg) (K : Kx) (a : Act) (w : World), l.length + k = ops.size → (∀ (j : Nat) (o : Oper) (ao : AOper), ops[k + j]? = some o → l[j]? = some ao → OpRel P ops o ao) →
      Slots K w s a.tmps → Inv n0 K h w → a.defers = [] → NIn K rc (fun j => j < k) ck → rc < ck → runOps call icall own inl pre rc k l s h ck lg = some (s', h', ck', lg') →
      (∀ (a' : Act) (w' : World) (K' : Kx), Went n0 K w s' h' a' w' K' → (∀ t b, K'.bl t = some b → t.1 < ck') → New rc K K' → ck ≤ ck' → Q .normal a' w') → wpOpsIn F n P ops Q (List.range' k l.length) a w
  | [], k, s, h, ck, lg, K, a, w, hl, hrel, hs, hI, hd, hN, hrc, hrun, hq => by
    simp only [runOps] at hrun
    cases hrun
    simp only [List.length_nil, List.range'_zero, wpOpsIn]
    refine hq a w K ⟨.refl K, .refl K w, hs, hI, hd, .refl _ _⟩ (fun t b ht => ?_) (New.refl _ _) (Nat.le_refl _)
    rcases hN t b ht with h1 | ⟨h1, _⟩ | ⟨h1, h2⟩ <;> omega
  | ao :: l, k, s, h, ck, lg, K, a, w, hl, hrel, hs, hI, hd, hN, hrc, hrun, hq => by
    simp only [runOps] at hrun
    split at hrun
    · rename_i s1 h1 ck1 l1 hone
      simp only [List.length_cons, List.range'_succ]
      rw [wpOpsIn_cons]
      have hk : k < ops.size := by simp at hl; omega
      refine opIn_wp hF hcall hicall hclo (hrel 0 ops[k] ao (by simp [hk]) rfl) hs hI hd hN (Nat.lt_irrefl k) hrc (by simp [hk]) (fun a1 w1 K1 hw1 hN1 hnew1 hck1 => ?_) hone
      refine ops_wp hF hcall hicall hclo s' h' ck' lg' l (k + 1) s1 h1 ck1 (l1 :: lg) K1 a1 w1 (by simp at hl; omega) (fun j o ao' ho ha => hrel (j + 1) o ao' (by rw [show k + (j + 1) = k + 1 + j by omega]; exact ho) (by simpa using ha)) hw1.slots hw1.inv hw1.defers
        (hN1.wider (fun j hj => by rcases hj with rfl | hj <;> omega) (Nat.le_refl _)) (by omega) hrun (fun a' w' K' hw' hn hnew hck => hq a' w' K' (hw1.trans hw') hn (hnew1.trans hnew) (by omega))
    · cases hrun

end Go.Aw

/-
  What an operation looks at, and what it turns.
-/
set_option linter.unnecessarySimpa false
namespace Go.Aw

variable {h h' : Heap} {s : List AV} {id : Id} {tk : Tok}

/-- Two heaps show the same at the names. -/
structure Agree (h h' : Heap) (ids : List Id) : Prop where
  get : ∀ i ∈ ids, h'.get i = h.get i
  rts : [] ∈ ids → h'.rts = h.rts

theorem Agree.sub {ids ids' : List Id} (h1 : Agree h h' ids) (hs : ∀ i ∈ ids', i ∈ ids) : Agree h h' ids' := ⟨fun i hi => h1.get i (hs i hi), fun hi => h1.rts (hs _ hi)⟩

theorem row_agree {i : Id} {t : Tok} (hg : h'.get i = h.get i) : h'.row i t = h.row i t := by unfold Heap.row; rw [hg]

theorem mapT_agree {f g : AV → Option (AV × List Id)} : ∀ {as ts : List AV} {ids : List Id}, mapT f as = some (ts, ids) → (∀ v t is, f v = some (t, is) → (∀ i ∈ is, i ∈ ids) → g v = some (t, is)) → mapT g as = some (ts, ids)
  | [], ts, ids, h, _ => h
  | v :: r, ts, ids, h, hg => by
    simp only [mapT] at h ⊢
    split at h
    · rename_i a i hf
      split at h
      · rename_i as is hr
        cases h
        rw [hg v a i hf (fun j hj => by simp [hj])]
        simp only
        rw [mapT_agree hr (fun v t is' h1 h2 => hg v t is' h1 (fun j hj => by simp [h2 j hj]))]
      · cases h
    · cases h

theorem toTree_agree : ∀ (n : Nat) (v t : AV) (ids : List Id), toTree h n v = some (t, ids) → Agree h h' ids → toTree h' n v = some (t, ids)
  | 0, v, t, ids, ht, _ => by simp [toTree] at ht
  | n + 1, v, t, ids, ht, ha => by
    have many : ∀ (as ts : List AV) (is : List Id), mapT (toTree h n) as = some (ts, is) → (∀ i ∈ is, i ∈ ids) → mapT (toTree h' n) as = some (ts, is) := fun as ts is hm hs =>
      mapT_agree hm (fun v t is' h1 h2 => toTree_agree n v t is' h1 (ha.sub (fun i hi => hs i (h2 i hi))))
    cases v with
    | sl i t0 off len =>
      simp only [toTree] at ht ⊢
      split at ht
      · rename_i o hrow
        split at ht
        · rename_i hc
          split at ht
          · rename_i ts is hm
            cases ht
            rw [row_agree (ha.get i (by simp)), hrow]
            simp only
            rw [if_pos hc, many _ _ _ hm (fun j hj => by simp [hj])]
          · cases ht
        · cases ht
      · cases ht
    | ptr i t0 off =>
      simp only [toTree] at ht ⊢
      split at ht
      · rename_i o hrow
        split at ht
        · rename_i ts is hm
          cases ht
          rw [row_agree (ha.get i (by simp)), hrow]
          simp only
          rw [many _ _ _ hm (fun j hj => by simp [hj])]
        · cases ht
      · cases ht
    | agg cs =>
      simp only [toTree] at ht ⊢
      split at ht
      · rename_i ts is hm; cases ht; rw [many _ _ _ hm (fun j hj => hj)]
      · cases ht
    | tup cs =>
      simp only [toTree] at ht ⊢
      split at ht
      · rename_i ts is hm; cases ht; rw [many _ _ _ hm (fun j hj => hj)]
      · cases ht
    | fn f cs =>
      simp only [toTree] at ht ⊢
      split at ht
      · rename_i ts is hm; cases ht; rw [many _ _ _ hm (fun j hj => hj)]
      · cases ht
    | _ => simpa [toTree] using ht

theorem trees_agree {n : Nat} {as ts : List AV} {ids : List Id} (hm : mapT (toTree h n) as = some (ts, ids)) (ha : Agree h h' ids) : mapT (toTree h' n) as = some (ts, ids) :=
  mapT_agree hm (fun v t is h1 h2 => toTree_agree n v t is h1 (ha.sub h2))

theorem ups_get_agree {i : Id} (l : List (Id × Obj)) : ∀ {h h' : Heap}, h'.get i = h.get i → (h'.ups l).get i = (h.ups l).get i := by
  induction l with
  | nil => intro h h' hg; exact hg
  | cons x r ih =>
    obtain ⟨j, o⟩ := x
    intro h h' hg
    simp only [Heap.ups]
    refine ih ?_
    rw [Heap.get_upd, Heap.get_upd, hg]

theorem act_get (h : Heap) (e : Ev) (i : Id) : (h.act e).get i = (h.ups e.up).get i := rfl
theorem act_rts (h : Heap) (e : Ev) : (h.act e).rts = e.add ++ h.rts.filter fun t => !e.del.contains t := by
  unfold Heap.act; simp [Heap.rts_ups]

theorem Agree.act {ids : List Id} (h1 : Agree h h' ids) (e : Ev) : Agree (h.act e) (h'.act e) ids :=
  ⟨fun i hi => by rw [act_get, act_get]; exact ups_get_agree e.up (h1.get i hi), fun hi => by rw [act_rts, act_rts, h1.rts hi]⟩

theorem inRow1_agree {v : AV} {e : Ev} (he : inRow1 h v = some e) (ha : Agree h h' e.rd) : inRow1 h' v = some e := by
  cases v with
  | sl i t off len =>
    simp only [inRow1] at he ⊢
    split at he
    · rename_i o hrow
      split at he
      · rename_i hc
        split at he
        · rename_i vs hm
          have hrd : i ∈ e.rd := by
            split at he
            · cases he; simp
            · split at he <;> (cases he; simp)
          rw [row_agree (ha.get i hrd), hrow]
          simp only
          rw [if_pos hc, trees_agree hm (ha.sub (fun j hj => by simp at hj))]
          exact he
        · cases he
      · cases he
    · cases he
  | fn f cap => cases cap <;> simpa [inRow1] using he
  | _ => simpa [inRow1] using he

theorem inRow_agree : ∀ (cs : List AV) {h h' : Heap} {cs' : List AV} {f : Ev}, inRow h cs = some (cs', f) → Agree h h' f.rd → inRow h' cs = some (cs', f)
  | [], h, h', cs', f, he, _ => he
  | v :: r, h, h', cs', f, he, ha => by
    simp only [inRow] at he ⊢
    split at he
    · rename_i e he1
      split at he
      · rename_i vs g he2
        cases he
        have ha1 : Agree h h' e.rd := ha.sub (fun i hi => by simp [Ev.and, hi])
        rw [inRow1_agree he1 ha1]
        simp only
        rw [inRow_agree r he2 ((ha.sub (fun i hi => by simp [Ev.and, hi])).act e)]
      · cases he
    · cases he

theorem source_agree {esz : Nat} {y : AV} {cs : List AV} {n : Nat} {rd : List Id} (hs : source h esz y = some (cs, n, rd)) (ha : Agree h h' rd) : source h' esz y = some (cs, n, rd) := by
  cases y with
  | sl i t off len =>
    simp only [source] at hs ⊢
    split at hs
    · rename_i o hrow
      split at hs
      · rename_i hc
        cases hs
        rw [row_agree (ha.get i (by simp)), hrow]
        simp only
        rw [if_pos hc]
      · cases hs
    · cases hs
  | _ => simpa [source] using hs

theorem frz_agree : ∀ (ids : List Id), (∀ i ∈ ids, h'.get i = h.get i) → frz h' ids = frz h ids
  | [], _ => rfl
  | i :: r, hg => by
    simp only [frz]
    rw [hg i (by simp), frz_agree r (fun j hj => hg j (by simp [hj]))]

theorem append1_rd {e : Ty} {x : AV} {cs : List AV} {n : Nat} {rd : List Id} {ev : Ev} (he : append1 h e id tk x cs n rd = some ev) : ∀ i ∈ rd, i ∈ ev.rd := by
  unfold append1 at he
  repeat' split at he
  all_goals first
    | (cases he; done)
    | (cases he; intro i hi; simp [hi])

theorem append1_agree {e : Ty} {x : AV} {cs : List AV} {n : Nat} {rd : List Id} {ev : Ev} (he : append1 h e id tk x cs n rd = some ev) (ha : Agree h h' ev.rd) : append1 h' e id tk x cs n rd = some ev := by
  unfold append1 at he ⊢
  split at he
  · rename_i hn; rw [if_pos hn]; exact he
  · rename_i hn
    rw [if_neg hn]
    split at he
    · rename_i hc
      rw [if_pos hc]
      cases x with
      | sl i t off len =>
        simp only at he ⊢
        split at he
        · rename_i o hrow
          split at he
          · rename_i hc2
            cases he
            rw [row_agree (ha.get i (by simp)), hrow]
            simp only
            rw [if_pos hc2]
          · cases he
        · cases he
      | rl vs r =>
        simp only at he ⊢
        split at he
        · rename_i hc2
          split at he
          · rename_i ys hm
            cases he
            rw [ha.rts (by simp), if_pos hc2, trees_agree hm (ha.sub (fun i hi => by simp at hi))]
          · cases he
        · cases he
      | _ => exact he
    · cases he

theorem acopy_agree {e : Ty} {x y : AV} {ev : Ev} (he : acopy h e x y = some ev) (ha : Agree h h' ev.rd) : acopy h' e x y = some ev := by
  unfold acopy at he ⊢
  split at he
  case h_2 => cases he
  rename_i cs n rd hsrc
  split at he
  case isFalse => cases he
  rename_i hc
  split at he
  case h_2 => cases he
  rename_i i t off len
  split at he
  case h_2 => cases he
  rename_i o hrow
  split at he
  case isFalse => cases he
  rename_i hc2
  split at he
  case h_2 => cases he
  rename_i new f hrow1
  split at he
  case isTrue => cases he
  rename_i hnw
  cases he
  rw [source_agree hsrc (ha.sub (fun j hj => by simp [Ev.and, hj]))]
  simp only
  rw [if_pos hc, row_agree (ha.get i (by simp [Ev.and])), hrow]
  simp only
  rw [if_pos hc2, inRow_agree _ hrow1 (ha.sub (fun j hj => by simp [Ev.and, hj]))]
  simp only
  rw [if_neg hnw]

theorem aclone_agree {e : Ty} {x : AV} {ev : Ev} (he : aclone h e id tk x = some ev) (ha : Agree h h' ev.rd) : aclone h' e id tk x = some ev := by
  unfold aclone at he ⊢
  split at he
  case h_2 => cases he
  rename_i cs n rd hsrc
  have hrd : ev.rd = rd := by
    split at he
    · split at he <;> (cases he; rfl)
    · split at he
      · cases he; rfl
      · cases he
  rw [source_agree hsrc (by rw [← hrd]; exact ha)]
  exact he

theorem acall_agree {call : CallT} {own : FuncId → Option Ty} {f : FuncId} {args : List AV} {ev : Ev} (he : acall call own id tk h f args = some ev) (ha : Agree h h' ev.rd) : acall call own id tk h' f args = some ev := by
  unfold acall at he ⊢
  split at he
  · rename_i e hown
    split at he
    · exact aclone_agree he ha
    · cases he
  · split at he
    · rename_i ts ids hm
      split at he
      · rename_i r hr
        have hrd : ev.rd = ids := by split at he <;> (cases he; rfl)
        have ha' : Agree h h' ids := by rw [← hrd]; exact ha
        rw [trees_agree hm ha']
        simp only [hr]
        rw [frz_agree ids ha'.get]
        exact he
      · cases he
    · cases he

theorem aslice1_agree {e : Ty} {v : AV} {l : Nat} {hi : Option Nat} {ev : Ev} (he : aslice1 h e v l hi = some ev) (ha : Agree h h' ev.rd) : aslice1 h' e v l hi = some ev := by
  cases v with
  | sl i t off n =>
    simp only [aslice1] at he ⊢
    split at he
    · rename_i o hrow
      split at he
      · rename_i hc
        have hrd : i ∈ ev.rd := by split at he <;> (cases he; simp)
        rw [row_agree (ha.get i hrd), hrow]
        simp only
        rw [if_pos hc]
        exact he
      · cases he
    · cases he
  | _ => simpa [aslice1] using he

theorem evOp_agree {call : CallT} {own : FuncId → Option Ty} {op : AOp} {e : Ev} (he : evOp call own s h id tk op = some e) (ha : Agree h h' e.rd) : evOp call own s h' id tk op = some e := by
  cases op with
  | bslice u n parts =>
    simp only [evOp] at he ⊢
    split at he
    case isFalse => cases he
    rename_i hc
    rw [if_pos hc]
    split at he
    case h_2 => cases he
    rename_i cs hf
    split at he
    case h_2 => cases he
    rename_i cs' f hrow
    cases he
    rw [inRow_agree _ hrow (ha.sub (fun j hj => by simp [Ev.and, hj]))]
  | load sz ag x =>
    simp only [evOp] at he ⊢
    split at he
    · rename_i i t off hx
      split at he
      · rename_i o hrow
        split at he
        · rename_i cs hsub
          cases he
          rw [row_agree (ha.get i (by simp)), hrow]
          simp only
          rw [hsub]
        · cases he
      · cases he
    · rename_i cs hx
      exact he
    · cases he
  | store sz x y =>
    simp only [evOp] at he ⊢
    split at he
    · rename_i i t off hx
      split at he
      · rename_i o hrow
        split at he
        · rename_i hc
          split at he
          · rename_i hz
            cases he
            rw [row_agree (ha.get i (by simp)), hrow]
            simp only
            rw [if_pos hc, if_pos hz]
          · rename_i hz
            split at he
            · rename_i cs f hrow1
              split at he
              · cases he
              · rename_i hnw
                cases he
                rw [row_agree (ha.get i (by simp [Ev.and])), hrow]
                simp only
                rw [if_pos hc, if_neg hz, inRow_agree _ hrow1 (ha.sub (fun j hj => by simp [Ev.and, hj]))]
                simp only
                rw [if_neg hnw]
            · cases he
        · cases he
      · cases he
    · cases he
  | slice u x lo hi =>
    simp only [evOp] at he ⊢
    split at he
    · rename_i hh l h1 h2
      exact aslice1_agree he ha
    · cases he
  | aslice u n x =>
    simp only [evOp] at he ⊢
    split at he
    · rename_i i t hx
      split at he
      · rename_i o hrow
        split at he
        · rename_i hc
          cases he
          rw [row_agree (ha.get i (by simp)), hrow]
          simp only
          rw [if_pos hc]
        · cases he
      · cases he
    · cases he
  | append u x y =>
    simp only [evOp, aappend] at he ⊢
    split at he
    · rename_i cs n rd hsrc
      rw [source_agree hsrc (ha.sub (append1_rd he))]
      exact append1_agree he ha
    · cases he
  | copy u x y => exact acopy_agree he ha
  | call f args => exact acall_agree he ha
  | callv x args =>
    simp only [evOp] at he ⊢
    split at he
    · rename_i g cap hx
      exact acall_agree he ha
    · cases he
  | _ => exact he

/-- What an operation turns is told. -/
structure Told (e : Ev) : Prop where
  up : ∀ p ∈ e.up, p.1 ∈ e.wr
  del : e.del ≠ [] → [] ∈ e.wr
  add : e.add ≠ [] → [] ∈ e.wr

theorem Told.none {v : AV} {rd : List Id} : Told { v, rd } := ⟨fun p hp => by simp at hp, fun h => absurd rfl h, fun h => absurd rfl h⟩
theorem Told.one {v : AV} {i : Id} {o : Obj} {rd wr : List Id} (hw : i ∈ wr) : Told { v, up := [(i, o)], rd, wr } := ⟨fun p hp => by simp at hp; subst hp; exact hw, fun h => absurd rfl h, fun h => absurd rfl h⟩
theorem Told.and {e f : Ev} {v : AV} (h1 : Told e) (h2 : Told f) : Told (e.and f v) :=
  ⟨fun p hp => by
    simp only [Ev.and, List.mem_append] at hp ⊢
    exact hp.imp (h1.up p) (h2.up p), fun h => by
    simp only [Ev.and, List.mem_append] at h ⊢
    by_cases hd : e.del = []
    · exact .inr (h2.del (by intro e2; rw [hd, e2] at h; exact h rfl))
    · exact .inl (h1.del hd), fun h => by
    simp only [Ev.and, List.mem_append] at h ⊢
    by_cases hd : e.add = []
    · exact .inr (h2.add (by intro e2; rw [hd, e2] at h; exact h rfl))
    · exact .inl (h1.add hd)⟩

theorem inRow1_told {v : AV} {e : Ev} (he : inRow1 h v = some e) : Told e := by
  cases v with
  | sl i t off len =>
    simp only [inRow1] at he
    repeat' split at he
    all_goals first
      | (cases he; done)
      | (cases he; exact Told.none)
      | (cases he; exact Told.one (by simp))
      | (cases he; exact ⟨fun p hp => by simp at hp; subst hp; simp, fun h => absurd rfl h, fun _ => by simp⟩)
  | fn f cap =>
    cases cap with
    | nil => simp only [inRow1] at he; cases he; exact Told.none
    | cons c r => simp [inRow1] at he
  | _ => first | (simp only [inRow1] at he; cases he; exact Told.none) | (simp [inRow1] at he; done)

theorem inRow_told : ∀ (cs : List AV) {h : Heap} {cs' : List AV} {f : Ev}, inRow h cs = some (cs', f) → Told f
  | [], h, cs', f, he => by simp only [inRow] at he; cases he; exact Told.none
  | v :: r, h, cs', f, he => by
    simp only [inRow] at he
    split at he
    · rename_i e he1
      split at he
      · rename_i vs g he2
        cases he
        exact (inRow1_told he1).and (inRow_told r he2)
      · cases he
    · cases he

theorem append1_told {e : Ty} {x : AV} {cs : List AV} {n : Nat} {rd : List Id} {ev : Ev} (he : append1 h e id tk x cs n rd = some ev) : Told ev := by
  unfold append1 at he
  repeat' split at he
  all_goals first
    | (cases he; done)
    | (cases he; exact Told.none)
    | (cases he; exact Told.one (by simp))
    | (cases he; exact ⟨fun p hp => by simp at hp, fun _ => by simp, fun _ => by simp⟩)

theorem aclone_told {e : Ty} {x : AV} {ev : Ev} (he : aclone h e id tk x = some ev) : Told ev := by
  unfold aclone at he
  repeat' split at he
  all_goals first
    | (cases he; done)
    | (cases he; exact Told.none)
    | (cases he; exact Told.one (by simp))

theorem acall_told {call : CallT} {own : FuncId → Option Ty} {f : FuncId} {args : List AV} {ev : Ev} (he : acall call own id tk h f args = some ev) : Told ev := by
  unfold acall at he
  split at he
  · split at he
    · exact aclone_told he
    · cases he
  · split at he
    · split at he
      · split at he
        · cases he; exact Told.none
        · cases he
          exact ⟨fun p hp => List.mem_map.2 ⟨p, hp, rfl⟩, fun h => absurd rfl h, fun h => absurd rfl h⟩
      · cases he
    · cases he

theorem aslice1_told {e : Ty} {v : AV} {l : Nat} {hi : Option Nat} {ev : Ev} (he : aslice1 h e v l hi = some ev) : Told ev := by
  unfold aslice1 at he
  repeat' split at he
  all_goals first
    | (cases he; done)
    | (cases he; exact Told.none)

theorem evOp_told {call : CallT} {own : FuncId → Option Ty} {op : AOp} {e : Ev} (he : evOp call own s h id tk op = some e) : Told e := by
  cases op with
  | bslice u n parts =>
    simp only [evOp] at he
    split at he
    case isFalse => cases he
    split at he
    case h_2 => cases he
    split at he
    case h_2 => cases he
    rename_i cs' f hrow
    cases he
    exact (inRow_told _ hrow).and (Told.one (by simp))
  | store sz x y =>
    simp only [evOp] at he
    split at he
    · split at he
      · split at he
        · split at he
          · cases he; exact Told.one (by simp)
          · split at he
            · rename_i cs f hrow1
              split at he
              · cases he
              · cases he; exact (inRow_told _ hrow1).and (Told.one (by simp))
            · cases he
        · cases he
      · cases he
    · cases he
  | slice u x lo hi =>
    simp only [evOp] at he
    split at he
    · exact aslice1_told he
    · cases he
  | append u x y =>
    simp only [evOp, aappend] at he
    split at he
    · exact append1_told he
    · cases he
  | copy u x y =>
    simp only [evOp, acopy] at he
    split at he
    case h_2 => cases he
    split at he
    case isFalse => cases he
    split at he
    case h_2 => cases he
    split at he
    case h_2 => cases he
    split at he
    case isFalse => cases he
    split at he
    case h_2 => cases he
    rename_i new f hrow1
    split at he
    case isTrue => cases he
    cases he
    exact (inRow_told _ hrow1).and (Told.one (by simp))
  | call f args => exact acall_told he
  | callv x args =>
    simp only [evOp] at he
    split at he
    · exact acall_told he
    · cases he
  | _ =>
    simp only [evOp] at he
    first
      | (cases he; done)
      | (cases he; exact Told.none)
      | (cases he; exact Told.one (by simp))
      | ((repeat' split at he) <;> first | (cases he; done) | (cases he; exact Told.none) | (cases he; exact Told.one (by simp)))

end Go.Aw

/-
  Regions that draw their order: whatever order, the same comes of it.
-/
namespace Go.Aw
open Go.RowKit

section slots
variable {h h' : Heap} {s s' : List AV} {id : Id} {tk : Tok}

def XAgree (s s' : List AV) (l : List X) : Prop := ∀ x ∈ l, x.ev s' = x.ev s

theorem XAgree.of {o : AOper} (h : ∀ t ∈ o.looks, s'.getD t .undef = s.getD t .undef) : XAgree s s' o.op.xs := fun x hx => by
  cases x with
  | c v => rfl
  | t n => exact h n (List.mem_append_left _ (List.mem_flatMap.2 ⟨.t n, hx, by simp [X.tmps]⟩))

theorem map_ev {l : List X} (h : XAgree s s' l) : l.map (·.ev s') = l.map (·.ev s) := List.map_congr_left fun x hx => h x hx

theorem fillB_agree : ∀ (l : List (Nat × Nat × X)) (cs : List AV), XAgree s s' (l.map fun p => p.2.2) → fillB s' l cs = fillB s l cs
  | [], cs, _ => rfl
  | (o, z, x) :: r, cs, h => by
    simp only [fillB]
    rw [h x (by simp)]
    split
    · exact fillB_agree r _ (fun y hy => h y (by simp at hy ⊢; exact .inr hy))
    · rfl

theorem evOp_slots {call : CallT} {own : FuncId → Option Ty} {op : AOp} (hx : XAgree s s' op.xs) : evOp call own s' h id tk op = evOp call own s h id tk op := by
  cases op with
  | build z ps => simp only [evOp]; rw [fillB_agree ps z hx]
  | bslice e n ps =>
    simp only [evOp]
    rw [fillS_eq, fillS_eq, fillB_agree _ _ (by simpa [AOp.xs, List.map_map, Function.comp_def] using hx)]
  | mkfn f l => simp only [evOp]; rw [map_ev (show XAgree s s' l from hx)]
  | call f l => simp only [evOp]; rw [map_ev (show XAgree s s' l from hx)]
  | min x l => simp only [evOp]; rw [hx x (by simp [AOp.xs]), map_ev (fun y hy => hx y (by simp [AOp.xs, hy]))]
  | max x l => simp only [evOp]; rw [hx x (by simp [AOp.xs]), map_ev (fun y hy => hx y (by simp [AOp.xs, hy]))]
  | callv x l => simp only [evOp]; rw [hx x (by simp [AOp.xs]), map_ev (fun y hy => hx y (by simp [AOp.xs, hy]))]
  | slice e x lo hi =>
    simp only [evOp]
    rw [hx x (by simp [AOp.xs])]
    cases lo with
    | none => cases hi with
      | none => rfl
      | some z => simp only; rw [hx z (by simp [AOp.xs])]
    | some y => cases hi with
      | none => simp only; rw [hx y (by simp [AOp.xs])]
      | some z => simp only; rw [hx y (by simp [AOp.xs]), hx z (by simp [AOp.xs])]
  | alloc e => rfl
  | bad => rfl
  | sslice x lo hi => rfl
  | pick a b c => simp only [evOp]; rw [hx a (by simp [AOp.xs]), hx b (by simp [AOp.xs]), hx c (by simp [AOp.xs])]
  | mov x => simp only [evOp]; rw [hx x (by simp [AOp.xs])]
  | box x => simp only [evOp]; rw [hx x (by simp [AOp.xs])]
  | load a b x => simp only [evOp]; rw [hx x (by simp [AOp.xs])]
  | nilck x => simp only [evOp]; rw [hx x (by simp [AOp.xs])]
  | eqnil a x => simp only [evOp]; rw [hx x (by simp [AOp.xs])]
  | un a x => simp only [evOp]; rw [hx x (by simp [AOp.xs])]
  | conv a x => simp only [evOp]; rw [hx x (by simp [AOp.xs])]
  | aslice a b x => simp only [evOp]; rw [hx x (by simp [AOp.xs])]
  | faddr a x => simp only [evOp]; rw [hx x (by simp [AOp.xs])]
  | field a b c x => simp only [evOp]; rw [hx x (by simp [AOp.xs])]
  | extract x i => simp only [evOp]; rw [hx x (by simp [AOp.xs])]
  | len x => simp only [evOp]; rw [hx x (by simp [AOp.xs])]
  | slen x => simp only [evOp]; rw [hx x (by simp [AOp.xs])]
  | cap x => simp only [evOp]; rw [hx x (by simp [AOp.xs])]
  | store a x y => simp only [evOp]; rw [hx x (by simp [AOp.xs]), hx y (by simp [AOp.xs])]
  | bin a x y => simp only [evOp]; rw [hx x (by simp [AOp.xs]), hx y (by simp [AOp.xs])]
  | binb a x y => simp only [evOp]; rw [hx x (by simp [AOp.xs]), hx y (by simp [AOp.xs])]
  | eqs a b x y => simp only [evOp]; rw [hx x (by simp [AOp.xs]), hx y (by simp [AOp.xs])]
  | mkslice a x y => simp only [evOp]; rw [hx x (by simp [AOp.xs]), hx y (by simp [AOp.xs])]
  | iaddr a b x y => simp only [evOp]; rw [hx x (by simp [AOp.xs]), hx y (by simp [AOp.xs])]
  | index a b c x y => simp only [evOp]; rw [hx x (by simp [AOp.xs]), hx y (by simp [AOp.xs])]
  | sindex x y => simp only [evOp]; rw [hx x (by simp [AOp.xs]), hx y (by simp [AOp.xs])]
  | append a x y => simp only [evOp]; rw [hx x (by simp [AOp.xs]), hx y (by simp [AOp.xs])]
  | appendz a x y => simp only [evOp]; rw [hx x (by simp [AOp.xs]), hx y (by simp [AOp.xs])]
  | copy a x y => simp only [evOp]; rw [hx x (by simp [AOp.xs]), hx y (by simp [AOp.xs])]
  | lookup a b c x y => simp only [evOp]; rw [hx x (by simp [AOp.xs]), hx y (by simp [AOp.xs])]

theorem inlined_slots {inl : FuncId → Bool} {op : AOp} (hx : XAgree s s' op.xs) : inlined inl s' op = inlined inl s op := by
  cases op with
  | call f l => simp only [inlined]; rw [map_ev (show XAgree s s' l from hx)]
  | callv x l => simp only [inlined]; rw [hx x (by simp [AOp.xs]), map_ev (fun y hy => hx y (by simp [AOp.xs, hy]))]
  | _ => rfl

end slots

section kinds
variable {call : CallT} {icall : ICallT} {own : FuncId → Option Ty} {inl : FuncId → Bool} {pre : Id} {rc : Nat}

abbrev runP (call : CallT) (icall : ICallT) (own : FuncId → Option Ty) (inl : FuncId → Bool) (pre : Id) (rc i : Nat) (o : AOper) (s : List AV) (h : Heap) (ck : Nat) := runOp call icall own inl pre rc i o s h ck

def LooksSame (o : AOper) (s s' : List AV) : Prop := ∀ t ∈ o.looks, s'.getD t .undef = s.getD t .undef

/-- What an operation comes to: one that tells what it has touched, or a call that was walked into. -/
theorem runOp_kind {i ck ck1 : Nat} {o : AOper} {s s1 : List AV} {h h1 : Heap} {l : Lg} (hr : runOp call icall own inl pre rc i o s h ck = some (s1, h1, ck1, l)) :
    l.bf = o.bf ∧ ((l.all = false ∧ ck1 = ck ∧ ∃ e : Ev, Told e ∧ s1 = putD o.dst e.v s ∧ h1 = h.act e ∧ l.rd = e.rd ∧ l.wr = e.wr ∧ ∀ (s2 : List AV) (h2 : Heap) (ck2 : Nat), LooksSame o s s2 → Agree h h2 e.rd → runOp call icall own inl pre rc i o s2 h2 ck2 = some (putD o.dst e.v s2, h2.act e, ck2, l)) ∨
      (l.all = true ∧ ∃ v, s1 = putD o.dst v s ∧ ∀ s2, LooksSame o s s2 → runOp call icall own inl pre rc i o s2 h ck = some (putD o.dst v s2, h1, ck1, l))) := by
  have one : ∀ {s1 h1 ck1 l}, runOp1 call icall own inl pre rc i o s h ck = some (s1, h1, ck1, l) →
      l.bf = o.bf ∧ ((l.all = false ∧ ck1 = ck ∧ ∃ e : Ev, Told e ∧ s1 = putD o.dst e.v s ∧ h1 = h.act e ∧ l.rd = e.rd ∧ l.wr = e.wr ∧ ∀ (s2 : List AV) (h2 : Heap) (ck2 : Nat), LooksSame o s s2 → Agree h h2 e.rd → runOp1 call icall own inl pre rc i o s2 h2 ck2 = some (putD o.dst e.v s2, h2.act e, ck2, l)) ∨
        (l.all = true ∧ ∃ v, s1 = putD o.dst v s ∧ ∀ s2, LooksSame o s s2 → runOp1 call icall own inl pre rc i o s2 h ck = some (putD o.dst v s2, h1, ck1, l))) := fun {s1 h1 ck1 l} hr => by
    unfold runOp1 at hr
    split at hr
    · rename_i f as hin
      split at hr
      · rename_i v h2 ck2 hic
        cases hr
        refine ⟨rfl, .inr ⟨rfl, v, rfl, fun s2 hs => ?_⟩⟩
        unfold runOp1
        rw [inlined_slots (XAgree.of hs), hin]
        simp only [hic]
      · cases hr
    · rename_i hin
      split at hr
      · rename_i e he
        cases hr
        refine ⟨rfl, .inl ⟨rfl, rfl, e, evOp_told he, rfl, rfl, rfl, rfl, fun s2 h2 ck2 hs ha => ?_⟩⟩
        unfold runOp1
        rw [inlined_slots (XAgree.of hs), hin]
        simp only
        rw [evOp_slots (XAgree.of hs), evOp_agree he ha]
      · cases hr
  unfold runOp at hr
  split at hr
  · rename_i hg
    obtain ⟨e1, e2⟩ := one hr
    refine ⟨e1, ?_⟩
    rcases e2 with ⟨a1, a2, e, a3, a4, a5, a6, a7, a8⟩ | ⟨a1, v, a2, a3⟩
    · refine .inl ⟨a1, a2, e, a3, a4, a5, a6, a7, fun s2 h2 ck2 hs ha => ?_⟩
      unfold runOp; rw [hg]; exact a8 s2 h2 ck2 hs ha
    · refine .inr ⟨a1, v, a2, fun s2 hs => ?_⟩
      unfold runOp; rw [hg]; exact a3 s2 hs
  · rename_i g want hg
    have hlook : ∀ {s2}, LooksSame o s s2 → s2.getD g .undef = s.getD g .undef := fun {s2} hs => hs g (by simp [AOper.looks, hg])
    split at hr
    · rename_i b hb
      split at hr
      · rename_i hbw
        obtain ⟨e1, e2⟩ := one hr
        refine ⟨e1, ?_⟩
        rcases e2 with ⟨a1, a2, e, a3, a4, a5, a6, a7, a8⟩ | ⟨a1, v, a2, a3⟩
        · refine .inl ⟨a1, a2, e, a3, a4, a5, a6, a7, fun s2 h2 ck2 hs ha => ?_⟩
          unfold runOp; rw [hg]; simp only; rw [hlook hs, hb]; simp only; rw [if_pos hbw]; exact a8 s2 h2 ck2 hs ha
        · refine .inr ⟨a1, v, a2, fun s2 hs => ?_⟩
          unfold runOp; rw [hg]; simp only; rw [hlook hs, hb]; simp only; rw [if_pos hbw]; exact a3 s2 hs
      · rename_i hbw
        cases hr
        refine ⟨rfl, .inl ⟨rfl, rfl, { v := .tup [] }, Told.none, rfl, (Heap.act_pure _ _ rfl rfl rfl).symm, rfl, rfl, fun s2 h2 ck2 hs ha => ?_⟩⟩
        unfold runOp; rw [hg]; simp only; rw [hlook hs, hb]; simp only; rw [if_neg hbw, Heap.act_pure _ _ rfl rfl rfl]
    · rename_i hb
      cases hr
      refine ⟨rfl, .inl ⟨rfl, rfl, { v := .tup [] }, Told.none, rfl, (Heap.act_pure _ _ rfl rfl rfl).symm, rfl, rfl, fun s2 h2 ck2 hs ha => ?_⟩⟩
      unfold runOp; rw [hg]; simp only; rw [hlook hs, hb]; simp only; rw [Heap.act_pure _ _ rfl rfl rfl]
    · cases hr

/-- Heaps that show the same. -/
def HR (q : Bool) (h h' : Heap) : Prop := if q then h = h' else (∀ i, h.get i = h'.get i) ∧ h.rts = h'.rts

theorem HR.refl (q : Bool) (h : Heap) : HR q h h := by unfold HR; split; rfl; exact ⟨fun _ => rfl, rfl⟩
theorem HR.trans {q : Bool} {a b c : Heap} (h : HR q a b) (k : HR q b c) : HR q a c := by
  unfold HR at *
  split at h
  · rename_i hq; rw [if_pos hq] at k ⊢; exact h.trans k
  · rename_i hq; rw [if_neg hq] at k ⊢; exact ⟨fun i => (h.1 i).trans (k.1 i), h.2.trans k.2⟩
theorem HR.agree {q : Bool} {a b : Heap} (h : HR q a b) (ids : List Id) : Agree a b ids := by
  unfold HR at h
  split at h
  · subst h; exact ⟨fun _ _ => rfl, fun _ => rfl⟩
  · exact ⟨fun i _ => (h.1 i).symm, fun _ => h.2.symm⟩
theorem HR.act {q : Bool} {a b : Heap} (h : HR q a b) (e : Ev) : HR q (a.act e) (b.act e) := by
  unfold HR at *
  split at h
  · rename_i hq; rw [if_pos hq]; rw [h]
  · rename_i hq; rw [if_neg hq]
    exact ⟨fun i => by rw [act_get, act_get]; exact ups_get_agree e.up (h.1 i), by rw [act_rts, act_rts, h.2]⟩

theorem putD_get {d : Option Nat} {v : AV} {s : List AV} {t : Nat} (h : ∀ x, d = some x → x ≠ t) : (putD d v s).getD t .undef = s.getD t .undef := by
  cases d with
  | none => rfl
  | some x =>
    have hne := h x rfl
    simp [putD, List.getD_eq_getElem?_getD, List.getElem?_set_ne hne]

theorem putD_comm {d e : Option Nat} {u v : AV} {s : List AV} (h : ∀ x, d = some x → e ≠ some x) : putD d u (putD e v s) = putD e v (putD d u s) := by
  cases d with
  | none => rfl
  | some x =>
    cases e with
    | none => rfl
    | some y =>
      have : x ≠ y := fun e => h x rfl (by rw [e])
      simp only [putD]
      rw [List.set_comm _ _ (Ne.symm this)]

theorem AOper.apart_spec {x y : AOper} (h : x.apart y = true) : (∀ d, x.dst = some d → d ∉ y.looks ∧ y.dst ≠ some d) ∧ ∀ d, y.dst = some d → d ∉ x.looks := by
  unfold AOper.apart at h
  simp only [Bool.and_eq_true] at h
  refine ⟨fun d hd => ?_, fun d hd => ?_⟩
  · have := h.1
    rw [hd] at this
    simpa using this
  · have := h.2
    rw [hd] at this
    simpa using this

theorem looks_put {x y : AOper} {v : AV} {s : List AV} (h : ∀ d, x.dst = some d → d ∉ y.looks) : LooksSame y s (putD x.dst v s) := fun t ht => putD_get fun d hd e => h d hd (by rw [e]; exact ht)

theorem ups_get_none {i : Id} : ∀ (l : List (Id × Obj)) (h : Heap), (∀ p ∈ l, p.1 ≠ i) → (h.ups l).get i = h.get i
  | [], h, _ => rfl
  | (j, o) :: r, h, hn => by
    simp only [Heap.ups]
    rw [ups_get_none r _ (fun p hp => hn p (by simp [hp])), Heap.get_upd, if_neg (hn (j, o) (by simp))]

theorem filter_none (l : List Tok) : l.filter (fun t => !([] : List Tok).contains t) = l := by simp [List.filter_eq_self.2]

theorem act_quiet {h : Heap} {e : Ev} (ht : Told e) (hw : e.wr = []) : h.act e = h := by
  refine Heap.act_pure _ _ ?_ ?_ ?_
  · cases hu : e.up with
    | nil => rfl
    | cons p r => have := ht.up p (by rw [hu]; simp); rw [hw] at this; cases this
  · cases hd : e.del with
    | nil => rfl
    | cons p r => have := ht.del (by rw [hd]; simp); rw [hw] at this; cases this
  · cases hd : e.add with
    | nil => rfl
    | cons p r => have := ht.add (by rw [hd]; simp); rw [hw] at this; cases this

theorem meets_false {a b : List Id} (h : meets a b = false) : ∀ i ∈ a, i ∉ b := fun i hi hb => by
  unfold meets at h
  rw [List.any_eq_false] at h
  exact h i hi (by simpa using hb)

/-- What an operation leaves alone. -/
theorem act_agree {h : Heap} {e : Ev} (ht : Told e) {ids : List Id} (hd : ∀ i ∈ e.wr, i ∉ ids) : Agree h (h.act e) ids ∧ Agree (h.act e) h ids := by
  have hg : ∀ i ∈ ids, (h.act e).get i = h.get i := fun i hi => by
    rw [act_get]
    exact ups_get_none _ _ (fun p hp he => hd _ (ht.up p hp) (by rw [he]; exact hi))
  have hr : [] ∈ ids → (h.act e).rts = h.rts := fun hi => by
    have h1 : e.del = [] := by
      cases hq : e.del with
      | nil => rfl
      | cons p r => exact absurd hi (hd _ (ht.del (by rw [hq]; simp)))
    have h2 : e.add = [] := by
      cases hq : e.add with
      | nil => rfl
      | cons p r => exact absurd hi (hd _ (ht.add (by rw [hq]; simp)))
    rw [act_rts, h1, h2, filter_none]; rfl
  exact ⟨⟨hg, hr⟩, ⟨fun i hi => (hg i hi).symm, fun hi => (hr hi).symm⟩⟩

theorem act_comm {h : Heap} {e f : Ev} (he : Told e) (hf : Told f) (hd : ∀ i ∈ e.wr, i ∉ f.wr) : HR false ((h.act f).act e) ((h.act e).act f) := by
  unfold HR
  rw [if_neg (by simp)]
  refine ⟨fun i => ?_, ?_⟩
  · rw [act_get, act_get]
    by_cases hi : i ∈ e.wr
    · have hni := hd i hi
      rw [ups_get_none f.up (h.act e) (fun p hp hq => hni (by rw [← hq]; exact hf.up p hp)), act_get]
      exact ups_get_agree e.up (by rw [act_get]; exact ups_get_none f.up h (fun p hp hq => hni (by rw [← hq]; exact hf.up p hp)))
    · rw [ups_get_none e.up (h.act f) (fun p hp hq => hi (by rw [← hq]; exact he.up p hp)), act_get]
      exact (ups_get_agree f.up (by rw [act_get]; exact ups_get_none e.up h (fun p hp hq => hi (by rw [← hq]; exact he.up p hp)))).symm
  · simp only [act_rts]
    by_cases hi : [] ∈ e.wr
    · have hni := hd _ hi
      have h1 : f.del = [] := by
        cases hq : f.del with
        | nil => rfl
        | cons p r => exact absurd (hf.del (by rw [hq]; simp)) hni
      have h2 : f.add = [] := by
        cases hq : f.add with
        | nil => rfl
        | cons p r => exact absurd (hf.add (by rw [hq]; simp)) hni
      rw [h1, h2, filter_none, filter_none]; simp
    · have h1 : e.del = [] := by
        cases hq : e.del with
        | nil => rfl
        | cons p r => exact absurd (he.del (by rw [hq]; simp)) hi
      have h2 : e.add = [] := by
        cases hq : e.add with
        | nil => rfl
        | cons p r => exact absurd (he.add (by rw [hq]; simp)) hi
      rw [h1, h2, filter_none, filter_none]; simp

/-- Two operations change places. -/
theorem swap2 {q : Bool} {i j ck ck1 ck2 : Nat} {x y : AOper} {s s1 s2 : List AV} {h h1 h2 : Heap} {lx ly : Lg} (hx : runOp call icall own inl pre rc i x s h ck = some (s1, h1, ck1, lx)) (hy : runOp call icall own inl pre rc j y s1 h1 ck1 = some (s2, h2, ck2, ly))
    (hap : x.apart y = true) (hl : lx.apart q ly = true) (hqa : q = false → lx.all = false ∧ ly.all = false) :
    ∃ s1' h1' ck1' h2', runOp call icall own inl pre rc j y s h ck = some (s1', h1', ck1', ly) ∧ runOp call icall own inl pre rc i x s1' h1' ck1' = some (s2, h2', ck2, lx) ∧ HR q h2' h2 := by
  obtain ⟨p1, p2⟩ := AOper.apart_spec hap
  obtain ⟨_, kx⟩ := runOp_kind hx
  obtain ⟨_, ky⟩ := runOp_kind hy
  have back : ∀ (v : AV), LooksSame y (putD x.dst v s) s := fun v t ht => (looks_put (fun d hd => (p1 d hd).1) t ht).symm
  have fwd : ∀ (v : AV), LooksSame x s (putD y.dst v s) := fun v => looks_put p2
  have cm : ∀ (u v : AV), putD x.dst u (putD y.dst v s) = putD y.dst v (putD x.dst u s) := fun u v => putD_comm fun d hd => (p1 d hd).2
  -- x is quiet
  have quietX : lx.quiet = true → ∃ s1' h1' ck1' h2', runOp call icall own inl pre rc j y s h ck = some (s1', h1', ck1', ly) ∧ runOp call icall own inl pre rc i x s1' h1' ck1' = some (s2, h2', ck2, lx) ∧ HR q h2' h2 := fun hq => by
    simp [Lg.quiet] at hq
    rcases kx with ⟨a1, rfl, e, a3, rfl, rfl, a6, a7, a8⟩ | ⟨a1, _⟩
    · have hq1 : e.wr = [] := by rw [← a7]; simpa using hq.2
      have hq2 : e.rd = [] := by rw [← a6]; simpa using hq.1.2
      have ag : ∀ {g g' : Heap}, Agree g g' e.rd := fun {g g'} => ⟨fun i hi => (by rw [hq2] at hi; cases hi), fun hi => (by rw [hq2] at hi; cases hi)⟩
      rw [act_quiet a3 hq1] at hy ky
      rcases ky with ⟨b1, rfl, f, b3, rfl, rfl, b6, b7, b8⟩ | ⟨b1, v, rfl, b3⟩
      · refine ⟨_, _, _, _, b8 s h _ (back _) ⟨fun _ _ => rfl, fun _ => rfl⟩, (a8 _ _ _ (fwd _) ag).trans (by rw [cm]), ?_⟩
        rw [act_quiet a3 hq1]; exact HR.refl _ _
      · refine ⟨_, _, _, _, b3 s (back _), (a8 _ h2 ck2 (fwd _) ag).trans (by rw [cm]), ?_⟩
        rw [act_quiet a3 hq1]; exact HR.refl _ _
    · rw [a1] at hq; simp at hq
  have quietY : ly.quiet = true → ∃ s1' h1' ck1' h2', runOp call icall own inl pre rc j y s h ck = some (s1', h1', ck1', ly) ∧ runOp call icall own inl pre rc i x s1' h1' ck1' = some (s2, h2', ck2, lx) ∧ HR q h2' h2 := fun hq => by
    simp [Lg.quiet] at hq
    rcases ky with ⟨b1, rfl, f, b3, rfl, rfl, b6, b7, b8⟩ | ⟨b1, _⟩
    · have hq1 : f.wr = [] := by rw [← b7]; simpa using hq.2
      have hq2 : f.rd = [] := by rw [← b6]; simpa using hq.1.2
      have ag : ∀ {g g' : Heap}, Agree g g' f.rd := fun {g g'} => ⟨fun i hi => (by rw [hq2] at hi; cases hi), fun hi => (by rw [hq2] at hi; cases hi)⟩
      rcases kx with ⟨a1, rfl, e, a3, rfl, rfl, a6, a7, a8⟩ | ⟨a1, v, rfl, a3⟩
      · refine ⟨_, _, _, _, b8 s h _ (back _) ag, ?_, HR.refl _ _⟩
        rw [act_quiet b3 hq1, act_quiet b3 hq1, a8 _ h _ (fwd _) ⟨fun _ _ => rfl, fun _ => rfl⟩, cm]
      · refine ⟨_, _, _, _, b8 s h _ (back _) ag, ?_, HR.refl _ _⟩
        rw [act_quiet b3 hq1, act_quiet b3 hq1, a3 _ (fwd _), cm]
    · rw [b1] at hq; simp at hq
  unfold Lg.apart at hl
  simp only [Bool.or_eq_true] at hl
  rcases hl with (hl | hl) | hl
  · exact quietX hl
  · exact quietY hl
  · simp only [Bool.and_eq_true, Bool.not_eq_true', Bool.or_eq_false_iff] at hl
    obtain ⟨hq, ⟨m1, m2⟩, m3⟩ := hl
    subst hq
    rcases kx with ⟨a1, rfl, e, a3, rfl, rfl, a6, a7, a8⟩ | ⟨a1, v, rfl, a3⟩
    · rcases ky with ⟨b1, rfl, f, b3, rfl, rfl, b6, b7, b8⟩ | ⟨b1, v, rfl, b3⟩
      · have d1 := meets_false m1
        have d2 := meets_false m2
        have d3 := meets_false m3
        rw [a7, b7] at d1
        rw [a7, b6] at d2
        rw [a6, b7] at d3
        have g1 := (act_agree (h := h) a3 d2).2
        have g2 := (act_agree (h := h) b3 (ids := e.rd) (fun i hi hr => d3 i hr hi)).1
        refine ⟨_, _, _, _, b8 s h _ (back _) g1, ?_, act_comm a3 b3 d1⟩
        rw [a8 _ _ _ (fwd _) g2, cm]
      · rw [(hqa rfl).2] at b1; cases b1
    · rw [(hqa rfl).1] at a1; cases a1

end kinds

end Go.Aw
