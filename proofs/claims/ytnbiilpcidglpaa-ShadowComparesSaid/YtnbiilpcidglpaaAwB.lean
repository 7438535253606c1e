/- Walks of this program by an abstract machine: the text AwB. No conditions. -/
import Derived.Test.YtnbiilpcidglpaaAwA
import Derived.Laws.CopyRow
import Derived.Laws.AppendOwn
import Derived.Laws.MakeOwn
set_option linter.unusedSimpArgs false
set_option linter.unusedVariables false

/-
  Values built of parts; rows.
-/
namespace Go.Aw
open Go.RowKit

variable {P : Program} {n0 : Base} {K : Kx} {h : Heap} {w : World} {s : List AV} {a : Act} {tk : Tok}

/-- Cells and what they stand for. -/
structure FR (K : Kx) (w : World) (cs : List AV) (arr : Array Value) : Prop where
  size : cs.length = arr.size
  rep : ∀ (j : Nat) (c : AV), cs[j]? = some c → Rep K w c (arr.getD j undef)
  flat : ∀ c ∈ cs, c.flat = true

theorem splice_length {cs new : List AV} {off : Nat} (h : off + new.length ≤ cs.length) : (splice cs off new).length = cs.length := by
  simp [splice]; omega

theorem splice_get {cs new : List AV} {off : Nat} (h : off + new.length ≤ cs.length) (i : Nat) : (splice cs off new)[i]? = if off ≤ i ∧ i < off + new.length then new[i - off]? else cs[i]? := by
  unfold splice
  by_cases h1 : i < off
  · rw [List.append_assoc, List.getElem?_append_left (by simp; omega), List.getElem?_take, if_pos h1, if_neg (by omega)]
  · by_cases h2 : i < off + new.length
    · rw [if_pos (by omega), List.append_assoc, List.getElem?_append_right (by simp; omega), List.getElem?_append_left (by simp; omega)]
      congr 1; simp; omega
    · rw [if_neg (by omega), List.getElem?_append_right (by simp; omega), List.getElem?_drop]
      congr 1; simp; omega

theorem splice_mem {cs new : List AV} {off : Nat} {x : AV} (hx : x ∈ splice cs off new) : x ∈ cs ∨ x ∈ new := by
  unfold splice at hx
  simp only [List.mem_append] at hx
  rcases hx with (hx | hx) | hx
  · exact .inl (List.mem_of_mem_take hx)
  · exact .inr hx
  · exact .inl (List.mem_of_mem_drop hx)

theorem foldl_set (l : List Value) (off : Nat) : ∀ (k : Nat) (arr : Array Value), ((l.zipIdx k).foldl (fun cs x => cs.setIfInBounds (off + x.2) x.1) arr).size = arr.size ∧
    ∀ i, ((l.zipIdx k).foldl (fun cs x => cs.setIfInBounds (off + x.2) x.1) arr)[i]? = if off + k ≤ i ∧ i < off + k + l.length ∧ i < arr.size then l[i - (off + k)]? else arr[i]? := by
  induction l with
  | nil => intro k arr; simp; intro i h1 h2; omega
  | cons v r ih =>
    intro k arr
    simp only [List.zipIdx_cons, List.foldl_cons]
    obtain ⟨h1, h2⟩ := ih (k + 1) (arr.setIfInBounds (off + k) v)
    refine ⟨by rw [h1]; simp, fun i => ?_⟩
    rw [h2]
    simp only [Array.size_setIfInBounds, List.length_cons]
    by_cases e : i = off + k
    · subst e
      rw [if_neg (by omega)]
      by_cases hlt : off + k < arr.size
      · rw [if_pos (by omega)]; simp [hlt]
      · rw [if_neg (by omega)]
        simp [hlt]
    · rw [Array.getElem?_setIfInBounds_ne (by omega)]
      by_cases hc : off + (k + 1) ≤ i ∧ i < off + (k + 1) + r.length ∧ i < arr.size
      · rw [if_pos hc, if_pos (by omega)]
        rw [show i - (off + k) = (i - (off + (k + 1))) + 1 by omega]
        simp
      · rw [if_neg hc, if_neg (by omega)]

/-- One part laid into cells. -/
theorem FR.part {cs : List AV} {arr : Array Value} (hf : FR K w cs arr) {v : AV} {x : Value} (hr : Rep K w v x) (hs : v.solid = true) {off : Nat} (hle : off + v.cells.length ≤ cs.length) :
    FR K w (splice cs off v.cells) (x.cells.zipIdx.foldl (fun cs (c, j) => cs.setIfInBounds (off + j) c) arr) := by
  obtain ⟨h1, h2, h3⟩ := cells_rep hr hs
  have key := foldl_set x.cells.toList off 0 arr
  have conv : x.cells.zipIdx.foldl (fun cs (c, j) => cs.setIfInBounds (off + j) c) arr = (x.cells.toList.zipIdx 0).foldl (fun cs x => cs.setIfInBounds (off + x.2) x.1) arr := by
    rw [← Array.foldl_toList, Array.toList_zipIdx]
  rw [conv]
  refine ⟨by rw [splice_length hle, key.1]; exact hf.size, fun j c hj => ?_, fun c hc => (splice_mem hc).elim (hf.flat c) (h3 c)⟩
  rw [splice_get hle] at hj
  rw [Array.getD_eq_getD_getElem?, key.2 j]
  simp only [Nat.add_zero, Array.length_toList]
  have hsz := hf.size
  by_cases hc : off ≤ j ∧ j < off + v.cells.length
  · rw [if_pos hc] at hj
    rw [if_pos (by omega)]
    have := h2 _ c hj
    rw [Array.getD_eq_getD_getElem?] at this
    simpa using this
  · rw [if_neg hc] at hj
    rw [if_neg (by omega)]
    have := hf.rep j c hj
    rw [Array.getD_eq_getD_getElem?] at this
    exact this

def Match (place : Nat → Option (Nat × Nat)) : List (Nat × Operand) → List (Nat × Nat × X) → Prop
  | [], [] => True
  | p :: ps, q :: qs => place p.1 = some (q.1, q.2.1) ∧ q.2.2 = cX p.2 ∧ Match place ps qs
  | _, _ => False

theorem fill_ok (hs : Slots K w s a.tmps) (place : Nat → Option (Nat × Nat)) : ∀ (ps : List (Nat × Operand)) (qs : List (Nat × Nat × X)) (cs cs' : List AV) (arr : Array Value), Match place ps qs → fillB s qs cs = some cs' → FR K w cs arr →
    ∃ arr', Instr.fill place arr (ps.map fun p => (p.1, a.eval p.2)) = some arr' ∧ FR K w cs' arr'
  | [], [], cs, cs', arr, _, hf, hfr => by
    simp only [fillB] at hf
    cases hf
    exact ⟨arr, rfl, hfr⟩
  | p :: ps, (off, sz, y) :: qs, cs, cs', arr, hm, hf, hfr => by
    obtain ⟨h1, h2, h3⟩ := hm
    simp only at h1 h2
    subst h2
    simp only [fillB] at hf
    split at hf
    · rename_i hc
      obtain ⟨hsol, hl, hle⟩ := hc
      have hx := rep_X hs p.2
      obtain ⟨g1, _, _⟩ := cells_rep hx hsol
      have hfr' := hfr.part hx hsol (off := off) (by omega)
      obtain ⟨arr', e1, e2⟩ := fill_ok hs place ps qs _ cs' _ h3 hf hfr'
      refine ⟨arr', ?_, e2⟩
      simp only [List.map_cons, Instr.fill, h1]
      have hsz := hfr.size
      have : ((a.eval p.2).cells.size ≠ sz || decide (off + (a.eval p.2).cells.size > arr.size)) = false := by
        simp; omega
      rw [if_neg (by rw [this]; simp)]
      exact e1
    · cases hf
  | [], _ :: _, _, _, _, hm, _, _ => by simp [Match] at hm
  | _ :: _, [], _, _, _, hm, _, _ => by simp [Match] at hm

theorem zero_FR {t : TypeId} {u : Ty} (hc : cTy P t = some u) : ∃ z, (zeroValue t).run P w = .ok z w ∧ FR K w u.zero z.cells ∧ z.cells.size = u.sz := by
  obtain ⟨z, h1, h2, h3, h4, h5⟩ := cTy_zero (K := K) (w := w) hc
  exact ⟨z, h1, ⟨by omega, h3, h5⟩, h2⟩

theorem run_mapM {α β : Type} (f : α → Sem β) (g : α → β) : ∀ (l : List α), (∀ x ∈ l, (f x).run P w = .ok (g x) w) → (l.mapM f).run P w = .ok (l.map g) w
  | [], _ => rfl
  | x :: r, hl => by
    have h1 := hl x (by simp)
    have h2 := run_mapM f g r (fun y hy => hl y (by simp [hy]))
    simp [List.mapM_cons, h1, h2]

theorem run_mapM_array {α β : Type} (f : α → Sem β) (g : α → β) (l : Array α) (h : ∀ x ∈ l.toList, (f x).run P w = .ok (g x) w) : (l.mapM f).run P w = .ok (l.map g) w := by
  have := run_mapM (P := P) (w := w) f g l.toList h
  rw [Array.mapM_eq_mapM_toList]
  simp [this]
  apply Array.ext'; simp

theorem mapM_some {α β : Type} {f : α → Option β} : ∀ {l : List α} {r : List β}, l.mapM f = some r → r.length = l.length ∧ ∀ (j : Nat) (x : α), l[j]? = some x → ∃ y, f x = some y ∧ r[j]? = some y
  | [], r, h => by simp at h; subst h; exact ⟨rfl, fun j x hj => by simp at hj⟩
  | x :: l, r, h => by
    simp only [List.mapM_cons] at h
    cases hx : f x with
    | none => simp [hx] at h
    | some y =>
      cases hl : l.mapM f with
      | none => simp [hx, hl] at h
      | some ys =>
        simp [hx, hl] at h
        subst h
        obtain ⟨h1, h2⟩ := mapM_some hl
        refine ⟨by simp [h1], fun j z hj => ?_⟩
        cases j with
        | zero => simp at hj; subst hj; exact ⟨y, hx, rfl⟩
        | succ j => simp at hj; simpa using h2 j z hj

theorem match_of {place : Nat → Option (Nat × Nat)} : ∀ {ps : List (Nat × Operand)} {qs : List (Nat × Nat × X)}, ps.length = qs.length → (∀ (j : Nat) (p : Nat × Operand) (q : Nat × Nat × X), ps[j]? = some p → qs[j]? = some q → place p.1 = some (q.1, q.2.1) ∧ q.2.2 = cX p.2) → Match place ps qs
  | [], [], _, _ => trivial
  | p :: ps, q :: qs, hl, hq => ⟨(hq 0 p q rfl rfl).1, (hq 0 p q rfl rfl).2, match_of (by simpa using hl) (fun j p q h1 h2 => hq (j + 1) p q (by simpa using h1) (by simpa using h2))⟩
  | [], _ :: _, hl, _ => by simp at hl
  | _ :: _, [], hl, _ => by simp at hl

theorem ok_build_struct (hs : Slots K w s a.tmps) (hI : Inv n0 K h w) (o : Oper) (t : TypeId) (ps : Array (Nat × Operand)) (ho : o.op = .build t ps) {u : Ty} (hc : cTy P t = some u) {fs : Array Field} (ht : P.underlying t = some (.struct fs))
    {pl : List (Nat × Nat)} (hpl : (fs.toList.mapM fun f => (cTy P f.type).map fun u => (f.offset, u.sz)) = some pl) {l : List (Nat × Nat × X)} (hl : (ps.toList.mapM fun p => (pl[p.1]?).map fun q => (q.1, q.2, cX p.2)) = some l)
    {call : FuncId → List AV → Option AV} {own : FuncId → Option Ty} {id : Id} {e : Ev} (he : evOp call own s h id tk (.build u.zero l) = some e) : ∃ v w', Comes1 P a o w v w' ∧ Out n0 K w tk (h.act e) e.v v w' := by
  simp only [evOp] at he
  split at he
  · rename_i cs hf
    cases he
    obtain ⟨z, hz, hfr, _⟩ := zero_FR (K := K) (w := w) hc
    obtain ⟨p1, p2⟩ := mapM_some hpl
    obtain ⟨l1, l2⟩ := mapM_some hl
    -- the places, as the machine reckons them
    have hplaces : (fs.mapM fun f => (do Pure.pure (f.offset, ← sizeOf f.type) : Sem (Nat × Nat))).run P w = .ok (fs.map fun f => (f.offset, P.cellsOf f.type)) w := by
      refine run_mapM_array _ _ _ (fun f hf => ?_)
      obtain ⟨j, hj, hfe⟩ := List.getElem_of_mem hf
      obtain ⟨y, hy, _⟩ := p2 j f (by rw [← hfe]; exact List.getElem?_eq_getElem hj)
      cases hcf : cTy P f.type with
      | none => rw [hcf] at hy; cases hy
      | some u' =>
        obtain ⟨i, _, _, hi, _⟩ := cTy_spec hcf
        simp [sizeOf, run_typeInfo1 hi, Program.cellsOf, hi]
    have hplace : ∀ k q, pl[k]? = some q → (fs.map fun f => (f.offset, P.cellsOf f.type))[k]? = some q := fun k q hk => by
      have hlt : k < fs.toList.length := by rw [← p1]; exact (List.getElem?_eq_some_iff.1 hk).1
      obtain ⟨f, hf1⟩ : ∃ f, fs.toList[k]? = some f := ⟨_, List.getElem?_eq_getElem hlt⟩
      obtain ⟨y, hy, hy2⟩ := p2 k f hf1
      rw [hk] at hy2
      cases hy2
      have hf2 : fs[k]? = some f := by simpa using hf1
      cases hcf : cTy P f.type with
      | none => rw [hcf] at hy; cases hy
      | some u' =>
        rw [hcf] at hy
        simp at hy
        obtain ⟨i, _, _, hi, _, _, hsz, _⟩ := cTy_spec hcf
        rw [Array.getElem?_map, hf2]
        simp [Program.cellsOf, hi, ← hsz, hy]
    have hm : Match (fun k => (fs.map fun f => (f.offset, P.cellsOf f.type))[k]?) ps.toList l := match_of l1.symm (fun j p q hp hq => by
      obtain ⟨y, hy, hy2⟩ := l2 j p hp
      rw [hq] at hy2
      cases hy2
      cases hk : pl[p.1]? with
      | none => rw [hk] at hy; cases hy
      | some q' =>
        rw [hk] at hy
        simp at hy
        subst hy
        exact ⟨hplace _ _ hk, rfl⟩)
    obtain ⟨arr, e1, e2⟩ := fill_ok hs _ ps.toList l _ cs z.cells hm hf hfr
    rw [Heap.act_pure _ _ rfl rfl rfl]
    refine ⟨.agg arr, w, .inl ?_, Out.pure hI (.agg cs arr e2.flat e2.size.symm e2.rep)⟩
    simp only [execOp, ho, Instr.build, Sem.run_bind, hz, Result.andThen_ok, run_underlying1 ht, hplaces, Array.toList_map, e1]
    rfl
  · cases he

theorem ok_build_array (hs : Slots K w s a.tmps) (hI : Inv n0 K h w) (o : Oper) (t el : TypeId) (m : Nat) (ps : Array (Nat × Operand)) (ho : o.op = .build t ps) {u v : Ty} (hc : cTy P t = some u) (ht : P.underlying t = some (.array m el)) (hv : cTy P el = some v)
    {call : FuncId → List AV → Option AV} {own : FuncId → Option Ty} {id : Id} {e : Ev} (he : evOp call own s h id tk (.build u.zero (ps.toList.map fun p => (p.1 * v.sz, v.sz, cX p.2))) = some e) : ∃ v w', Comes1 P a o w v w' ∧ Out n0 K w tk (h.act e) e.v v w' := by
  simp only [evOp] at he
  split at he
  · rename_i cs hf
    cases he
    obtain ⟨z, hz, hfr, _⟩ := zero_FR (K := K) (w := w) hc
    have hm : Match (fun i => some (i * v.sz, v.sz)) ps.toList (ps.toList.map fun p => (p.1 * v.sz, v.sz, cX p.2)) := match_of (by simp) (fun j p q hp hq => by
      rw [List.getElem?_map, hp] at hq
      simp at hq
      subst hq
      exact ⟨rfl, rfl⟩)
    obtain ⟨arr, e1, e2⟩ := fill_ok hs _ ps.toList _ _ cs z.cells hm hf hfr
    rw [Heap.act_pure _ _ rfl rfl rfl]
    refine ⟨.agg arr, w, .inl ?_, Out.pure hI (.agg cs arr e2.flat e2.size.symm e2.rep)⟩
    simp only [execOp, ho, Instr.build, Sem.run_bind, hz, Result.andThen_ok, run_underlying1 ht, run_sizeOf1 hv, Array.toList_map, e1]
    rfl
  · cases he

end Go.Aw

/-
  What rows keep; new rows; stores.
-/
namespace Go.Aw
open Go.RowKit

variable {P : Program} {n0 : Base} {K : Kx} {h : Heap} {w : World} {s : List AV} {a : Act} {tk : Tok}

/-- The owner of a row gives up writing to it. -/
theorem Inv.mark (hI : Inv n0 K h w) {id : Id} {o : Obj} (hg : h.get id = some o) (hm : o.md = .W) {b : Nat} (hb : K.bl o.t = some b) (md : Md) (hmd : md ≠ .W) :
    Inv n0 (K.guard b o.cells.length) (h.upd id { o with md }) w := by
  obtain ⟨b', cs, E, h1, h2, h3, h4, h5, h6, h7, h8, h9, h10⟩ := hI.objs id o hg
  have : b' = b := by rw [h1] at hb; cases hb; rfl
  subst this
  have hnp := h8 hm
  have hK := K.le_guard b' o.cells.length
  refine (hI.turn (w' := w) (K' := K.guard b' o.cells.length) (o' := { o with md }) hg (by rw [hm]; decide) h1 h3 rfl h3 rfl (fun _ _ => rfl) (fun i v hp _ => absurd hp (hnp i)) hK
    (fun c i hp => hp.elim .inr (fun h => .inl h.1)) (fun c hc => hc) (fun t c hc => .inl hc) ?_ h1).2
  refine ⟨b', cs, E, h1, h2, h3, h4, h5, h6, fun j c hj => (h7 j c hj).mono hK (.refl _ _), fun h => absurd h hmd, fun _ i hp => ?_, fun _ i hi => .inr ⟨rfl, hi⟩⟩
  rcases hp with hp | ⟨_, hp⟩
  · exact absurd hp (hnp i)
  · exact hp

theorem Inv.addRight (hI : Inv n0 K h w) {r : Tok} (hr : RtOk n0 K w r) (ho : ∀ i o b, h.get i = some o → o.md ≠ .R → K.bl o.t = some b → K.bl r = some b → False) (hq : ∀ q b, q ∈ h.rts → K.bl q = some b → K.bl r = some b → q = r) :
    Inv n0 K { h with rts := r :: h.rts } w where
  size := hI.size
  pb := hI.pb
  mb := hI.mb
  tb := hI.tb
  objs := hI.objs
  rts := fun q hqm => by
    rcases List.mem_cons.1 hqm with rfl | hqm
    · exact hr
    · exact hI.rts q hqm
  u1 := hI.u1
  u2 := fun i o b q hi hm hqm hb hqb => by
    rcases List.mem_cons.1 hqm with rfl | hqm
    · exact ho i o b hi hm hb hqb
    · exact hI.u2 i o b q hi hm hqm hb hqb
  u3 := fun p q b hp hqm hpb hqb => by
    rcases List.mem_cons.1 hp with e1 | hp1 <;> rcases List.mem_cons.1 hqm with e2 | hq1
    · rw [e1, e2]
    · subst e1; exact (hq q b hq1 hqb hpb).symm
    · subst e2; exact hq p b hp1 hpb hqb
    · exact hI.u3 p q b hp1 hq1 hpb hqb
  pz := hI.pz
  mz := hI.mz

theorem toTree_cells (h : Heap) : ∀ (n : Nat) (v t : AV) (ids : List Id), toTree h n v = some (t, ids) → t.cells.length = v.cells.length := by
  intro n v t ids ht
  cases n with
  | zero => simp [toTree] at ht
  | succ n =>
    cases v <;> simp only [toTree] at ht
    case agg as =>
      split at ht
      · rename_i ts is hm
        cases ht
        exact (mapT_spec hm).1
      · cases ht
    all_goals first
      | (cases ht; rfl)
      | (split at ht <;> first
          | (cases ht; done)
          | (cases ht; rfl)
          | (split at ht <;> first
              | (cases ht; done)
              | (cases ht; rfl)
              | (split at ht <;> first
                  | (cases ht; done)
                  | (cases ht; rfl))))

/-- What a row keeps of a value. -/
theorem inRow1_ok (hI : Inv n0 K h w) {v : AV} {x : Value} (hr : Rep K w v x) {e : Ev} (he : inRow1 h v = some e) :
    ∃ K', K.le K' ∧ (∀ t, K'.bl t = K.bl t) ∧ Inv n0 K' (h.act e) w ∧ Rep K' w e.v x ∧ e.v.one = true ∧ e.v.flat = true ∧ e.del = [] := by
  have same : ∀ {v : AV}, Rep K w v x → v.one = true → v.flat = true → ∃ K', K.le K' ∧ (∀ t, K'.bl t = K.bl t) ∧ Inv n0 K' (h.act { v }) w ∧ Rep K' w v x ∧ v.one = true ∧ v.flat = true ∧ ([] : List Tok) = [] := fun hr h1 h2 =>
    ⟨K, .refl K, fun _ => rfl, by rw [Heap.act_pure _ _ rfl rfl rfl]; exact hI, hr, h1, h2, rfl⟩
  cases v <;> simp only [inRow1] at he
  case undef => cases he
  case ptr => cases he
  case fptr => cases he
  case agg => cases he
  case tup => cases he
  case map => cases he
  case bool b => cases he; exact same hr rfl rfl
  case int k n => cases he; exact same hr rfl rfl
  case str b => cases he; exact same hr rfl rfl
  case nilfn => cases he; exact same hr rfl rfl
  case nil => cases he; exact same hr rfl rfl
  case list vs => cases he; exact same hr rfl rfl
  case rl vs t => cases he; exact same hr rfl rfl
  case fn f cap =>
    cases cap with
    | nil => cases he; exact same hr rfl rfl
    | cons c r => cases he
  case sl id t off len =>
    split at he
    · rename_i o hrow
      split at he
      · rename_i hcond
        obtain ⟨hz, hle⟩ := hcond
        split at he
        · rename_i vs hm
          obtain ⟨hget, ht0⟩ := row_spec hrow
          obtain ⟨b, cap, hb, rfl, hc, hmx, hcap⟩ := hr.sl_inv
          obtain ⟨cs, E, hheap, hes2, hes1, hlen, _, hn0⟩ := hI.cells hrow hb
          have hbo : K.bl o.t = some b := by rw [ht0]; exact hb
          have htree : toTree h (deep + 1) (.sl id t off len) = some (.list vs, [id]) := by
            simp only [toTree, hrow]
            rw [if_pos ⟨hz, hle⟩, hm]
          obtain ⟨hlist0, _, _⟩ := toTree_ok hI (deep + 1) _ _ _ _ [id] hr htree (fun i hi => hi)
          have hlist := hlist0.unbare
          -- the cells that the tree shows are guarded
          have cover_le : ∀ K', K.le K' → (∀ i, i < o.cells.length → K'.prot b i) → (K.cover h [id]).le K' := fun K' hK hp =>
            ⟨fun c i hci => by
              rcases hci with hci | ⟨j, hj, p, hp1, hp2, hp3⟩
              · exact hK.prot _ _ hci
              · simp at hj
                subst hj
                rw [hget] at hp1
                cases hp1
                rw [hbo] at hp2
                cases hp2
                exact hp i hp3, hK.pm, hK.bl, hK.es, hK.rn⟩
          have hvl : vs.length = len := by rw [(mapT_spec hm).1, group_length]
          split at he
          · rename_i hW
            obtain ⟨hW, rfl, hfull⟩ := hW
            cases he
            have hK := K.le_guard b o.cells.length
            have hI2 := hI.mark hget hW hbo .R (by decide)
            have hlist2 := hlist.mono (cover_le _ hK (fun i hi => .inr ⟨rfl, hi⟩)) (.refl _ _)
            have hact : h.act { v := .rl vs t, up := [(id, { o with md := .R })], add := [t], rd := [id], wr := [id, []] } = { h.upd id { o with md := .R } with rts := t :: h.rts } := by
              unfold Heap.act
              simp only [Heap.ups]
              have : (h.upd id { o with md := .R }).rts.filter (fun t => !([] : List Tok).contains t) = h.rts := by simp [Heap.rts_upd, List.filter_eq_self.2]
              rw [this]
              rfl
            have hnp : ∀ i, ¬ K.prot b i := by
              obtain ⟨b2, _, _, g1, _, _, _, _, _, _, g8, _⟩ := hI.objs id o hget
              have : b2 = b := by rw [hbo] at g1; cases g1; rfl
              subst this
              exact g8 hW
            refine ⟨K.guard b o.cells.length, hK, fun _ => rfl, ?_, ?_, rfl, rfl, rfl⟩
            · rw [hact]
              refine hI2.addRight ⟨b, cs, E, hb, hn0, hheap, hes2, fun i hp => ?_⟩ (fun i p c hi hpm hpc hrc => ?_) (fun q c hq hqc hrc => ?_)
              · rcases hp with hp | ⟨_, hp⟩
                · exact absurd hp (hnp i)
                · show i < K.rn t; rw [hlen.2.1]; exact hp
              · rw [Heap.get_upd] at hi
                split at hi
                · cases hi; exact hpm rfl
                · rename_i hne
                  have e1 : c = b := by
                    have : K.bl t = some c := hrc
                    rw [hb] at this; cases this; rfl
                  subst e1
                  exact hne (hI.u1 id i o p c hget hi (by rw [hW]; decide) hpm hbo hpc)
              · have e1 : c = b := by
                  have : K.bl t = some c := hrc
                  rw [hb] at this; cases this; rfl
                subst e1
                exact (hI.u2 id o c q hget (by rw [hW]; decide) hq hbo hqc).elim
            · obtain ⟨p, cap', sz, b', o', val, ev, h1, h2, h3, h4, h5, h6, h7⟩ := hlist2.list_inv
              have ecap : cap' = cap := by cases ev; rfl
              subst ecap
              have hlen2 : vs.flatMap AV.cells = vs.flatMap AV.cells := rfl
              -- each element has esz cells
              have hel : ∀ e ∈ vs, e.cells.length = o.esz := fun e he => by
                obtain ⟨j, hj⟩ := mem_getElem? he
                obtain ⟨m1, m2⟩ := mapT_spec hm
                have hjl : j < len := by have := (List.getElem?_eq_some_iff.1 hj).1; omega
                obtain ⟨t', is, g1, g2, _⟩ := m2 j _ (group_get o.esz o.ag len _ j hjl)
                rw [g2] at hj
                cases hj
                rw [toTree_cells h _ _ _ _ g1]
                have hmul : j * o.esz + o.esz ≤ len * o.esz := by rw [← Nat.succ_mul]; exact Nat.mul_le_mul_right _ hjl
                have hl1 : (((o.cells.drop 0).drop (j * o.esz)).take o.esz).length = o.esz := by simp; omega
                cases hag : o.ag with
                | true => simp only [ofCells, if_true, AV.cells]; exact hl1
                | false =>
                  have h1 := (hes1 hz).2 hag
                  match hq : ((o.cells.drop 0).drop (j * o.esz)).take o.esz, hl1 with
                  | [u], _ =>
                    have hu : u ∈ o.cells := by
                      have : u ∈ ((o.cells.drop 0).drop (j * o.esz)).take o.esz := by rw [hq]; simp
                      exact List.mem_of_mem_drop (List.mem_of_mem_drop (List.mem_of_mem_take this))
                    have hfl := hlen.2.2 u hu
                    simp only [ofCells]
                    rw [h1]
                    cases u <;> first | rfl | (simp [AV.flat] at hfl)
                  | [], hl1 => rw [h1] at hl1; simp at hl1
                  | _ :: _ :: _, hl1 => rw [h1] at hl1; simp at hl1
              have hcells : (vs.flatMap AV.cells).length = o.cells.length := by
                have : ∀ (l : List AV), (∀ e ∈ l, e.cells.length = o.esz) → (l.flatMap AV.cells).length = l.length * o.esz := fun l hl => by
                  induction l with
                  | nil => simp
                  | cons x r ih => simp only [List.flatMap_cons, List.length_append, hl x (by simp), ih (fun e he => hl e (by simp [he])), List.length_cons, Nat.succ_mul]; omega
                rw [this vs hel, hvl, hfull]
              have hrl : Rep (K.guard b o.cells.length) w (.rl vs t) (.slice (some ⟨b, 0, none⟩) vs.length cap') := by
                refine .rl vs t cap' o.esz b val h1 h2 h7 hel hb (hes1 hz).1 ?_ ?_ (fun j c hj => ?_) h6
                · show cap' * o.esz ≤ (K.es t).2
                  have e0 := (hes1 hz).1
                  rw [← e0]; omega
                · show K.rn t = _
                  rw [hlen.2.1, hcells]
                · have hne : vs ≠ [] := fun h => by rw [h] at hj; simp at hj
                  have e2 := h4 hne
                  have e3 : p = some ⟨b, 0, none⟩ := by cases ev; rfl
                  rw [e3] at e2
                  cases e2
                  have := h5 j c hj
                  rw [Nat.zero_add] at this
                  exact this
              rw [hvl] at hrl
              exact hrl
          · rename_i hnot
            split at he
            · rename_i hW
              cases he
              have hK := K.le_guard b o.cells.length
              refine ⟨K.guard b o.cells.length, hK, fun _ => rfl, ?_, hlist.mono (cover_le _ hK (fun i hi => .inr ⟨rfl, hi⟩)) (.refl _ _), rfl, rfl, rfl⟩
              rw [Heap.act_up1]
              exact hI.mark hget hW hbo .F (by decide)
            · rename_i hW
              cases he
              refine ⟨K, .refl K, fun _ => rfl, ?_, hlist.mono (cover_le K (.refl K) (fun i hi => ?_)) (.refl _ _), rfl, rfl, rfl⟩
              · rw [Heap.act_pure _ _ rfl rfl rfl]; exact hI
              · obtain ⟨b2, _, _, g1, _, _, _, _, _, _, _, _, g10⟩ := hI.objs id o hget
                have : b2 = b := by rw [hbo] at g1; cases g1; rfl
                subst this
                exact g10 hW i hi
        · cases he
      · cases he
    · cases he

end Go.Aw

/-
  New rows; stores.
-/
namespace Go.Aw
open Go.RowKit

variable {P : Program} {n0 : Base} {K : Kx} {h : Heap} {w : World} {s : List AV} {a : Act} {tk : Tok}

theorem ups_append (h : Heap) (a b : List (Id × Obj)) : h.ups (a ++ b) = (h.ups a).ups b := by
  induction a generalizing h with
  | nil => rfl
  | cons x r ih => obtain ⟨i, o⟩ := x; simp [Heap.ups, ih]

theorem act_and (h : Heap) (e f : Ev) (v : AV) (he : e.del = []) (hf : f.del = []) : h.act (e.and f v) = (h.act e).act f := by
  unfold Heap.act Ev.and
  simp only [ups_append, he, hf, List.append_nil]
  have key : ∀ l : List Tok, l.filter (fun t => !([] : List Tok).contains t) = l := fun l => by simp [List.filter_eq_self.2]
  rw [key, key, key]
  have : ∀ (u : List (Id × Obj)) (g : Heap) (l : List Tok), (({ objs := g.objs, rts := l } : Heap).ups u).objs = (g.ups u).objs := fun u => by
    induction u with
    | nil => intro g l; rfl
    | cons x r ih => obtain ⟨i, o⟩ := x; intro g l; simp only [Heap.ups]; exact ih (g.upd i o) l
  simp [Heap.rts_ups, this]

theorem act_fields (h : Heap) (e f : Ev) (hu : e.up = f.up) (hd : e.del = f.del) (ha : e.add = f.add) : h.act e = h.act f := by
  unfold Heap.act; rw [hu, hd, ha]

theorem inRow_ok : ∀ (cs : List AV) (K : Kx) (h : Heap) (arr : Nat → Value) (cs' : List AV) (f : Ev), Inv n0 K h w → (∀ (j : Nat) (c : AV), cs[j]? = some c → Rep K w c (arr j)) → inRow h cs = some (cs', f) →
    ∃ K', K.le K' ∧ (∀ t, K'.bl t = K.bl t) ∧ Inv n0 K' (h.act f) w ∧ cs'.length = cs.length ∧ (∀ (j : Nat) (c : AV), cs'[j]? = some c → Rep K' w c (arr j)) ∧ (∀ c ∈ cs', c.one = true ∧ c.flat = true) ∧ f.del = []
  | [], K, h, arr, cs', f, hI, _, he => by
    simp only [inRow] at he
    cases he
    exact ⟨K, .refl K, fun _ => rfl, by rw [Heap.act_pure _ _ rfl rfl rfl]; exact hI, rfl, fun j c hj => by simp at hj, fun c hc => by simp at hc, rfl⟩
  | v :: r, K, h, arr, cs', f, hI, hr, he => by
    simp only [inRow] at he
    split at he
    · rename_i e he1
      split at he
      · rename_i vs g he2
        cases he
        obtain ⟨K1, k1, k2, k3, k4, k5, k6, k7⟩ := inRow1_ok hI (hr 0 v rfl) he1
        obtain ⟨K2, l1, l2, l3, l4, l5, l6, l7⟩ := inRow_ok r K1 _ (fun j => arr (j + 1)) vs g k3 (fun j c hj => (hr (j + 1) c (by simpa using hj)).mono k1 (.refl _ _)) he2
        refine ⟨K2, k1.trans l1, fun t => (l2 t).trans (k2 t), ?_, by simp [l4], fun j c hj => ?_, fun c hc => ?_, ?_⟩
        · rw [act_and h e g _ k7 l7]; exact l3
        · cases j with
          | zero => simp at hj; subst hj; exact k4.mono l1 (.refl _ _)
          | succ j => simp at hj; exact l5 j c hj
        · rcases List.mem_cons.1 hc with rfl | hc
          · exact ⟨k5, k6⟩
          · exact l6 c hc
        · simp [Ev.and, k7, l7]
      · cases he
    · cases he

/-- Something is laid behind what rows keep. -/
theorem Out.after {K1 : Kx} (hK : K.le K1) (hb : ∀ t, K1.bl t = K.bl t) {h' : Heap} {r : AV} {v : Value} {w' : World} (ho : Out n0 K1 w tk h' r v w') : Out n0 K w tk h' r v w' := by
  obtain ⟨K2, k1, k2, k3, k4, k5, k6⟩ := ho
  refine ⟨K2, hK.trans k1, ?_, k3, k4, k5, fun t b ht => ?_⟩
  · exact ⟨fun b o v hp hc => k2.cell b o v (hK.prot _ _ hp) hc, fun b es c hp hm => k2.map b es c (hK.pm _ hp) hm⟩
  · rcases k6 t b ht with hx | hx
    · exact .inl (by rw [← hb]; exact hx)
    · exact .inr hx

theorem replicate_get (z : List AV) (m : Nat) (hz : z.length = m) (hm : 0 < m) : ∀ (n i : Nat), i < n * m → ((List.replicate n z).flatten)[i]? = z[i % m]?
  | 0, i, h => by omega
  | n + 1, i, h => by
    simp only [List.replicate_succ, List.flatten_cons]
    by_cases hlt : i < m
    · rw [List.getElem?_append_left (by omega), Nat.mod_eq_of_lt hlt]
    · rw [Nat.succ_mul] at h
      have h2 : i - m < n * m := by omega
      rw [List.getElem?_append_right (by omega), hz, replicate_get z m hz hm n (i - m) h2]
      rw [Nat.mod_eq_sub_mod (a := i) (by omega)]

theorem replicate_length (z : List AV) (n : Nat) : ((List.replicate n z).flatten).length = n * z.length := by
  induction n with
  | zero => simp
  | succ n ih => simp [List.replicate_succ, ih, Nat.succ_mul]; omega

/-- Zero values, one behind the other. -/
theorem zeros_FR {u : Ty} {z : Value} (hfr : FR K w u.zero z.cells) (hz : z.cells.size = u.sz) (h0 : u.sz ≠ 0) (n : Nat) :
    FR K w ((List.replicate n u.zero).flatten) ((Array.range (n * u.sz)).map (z.cells[· % z.cells.size]!)) := by
  have hl : u.zero.length = u.sz := by rw [hfr.size, hz]
  refine ⟨by rw [replicate_length, hl]; simp, fun j c hj => ?_, fun c hc => ?_⟩
  · have hlt : j < n * u.sz := by
      have := (List.getElem?_eq_some_iff.1 hj).1
      rw [replicate_length, hl] at this; exact this
    rw [replicate_get _ _ hl (by omega) n j hlt] at hj
    have := hfr.rep _ c hj
    have hmod : j % u.sz < u.sz := Nat.mod_lt _ (by omega)
    rw [Array.getD_eq_getD_getElem?] at this ⊢
    rw [Array.getElem?_map, Array.getElem?_range, if_pos hlt]
    simp only [Option.map_some, Option.getD_some, hz]
    rw [getElem!_pos _ _ (by omega)]
    rw [Array.getElem?_eq_getElem (by omega)] at this
    simpa using this
  · obtain ⟨l, hl1, hl2⟩ := List.mem_flatten.1 hc
    have := (List.mem_replicate.1 hl1).2
    subst this
    exact hfr.flat c hl2

theorem fillS_eq (s : List AV) (esz : Nat) : ∀ (l : List (Nat × X)) (cs : List AV), fillS s esz l cs = fillB s (l.map fun p => (p.1 * esz, esz, p.2)) cs
  | [], cs => rfl
  | (i, x) :: r, cs => by simp only [fillS, fillB, List.map_cons, fillS_eq s esz r]

theorem ok_bslice (hs : Slots K w s a.tmps) (hI : Inv n0 K h w) (hf : Fresh K tk) (o : Oper) (t el : TypeId) (n : Nat) (ps : Array (Nat × Operand)) (ho : o.op = .buildSlice t n ps) {u : Ty} (ht : P.underlying t = some (.slice el)) (hc : cTy P el = some u)
    {call : FuncId → List AV → Option AV} {own : FuncId → Option Ty} {id : Id} {e : Ev} (he : evOp call own s h id tk (.bslice u n (ps.toList.map fun p => (p.1, cX p.2))) = some e) : ∃ v w', Comes1 P a o w v w' ∧ Out n0 K w tk (h.act e) e.v v w' := by
  simp only [evOp] at he
  split at he
  · rename_i hcond
    obtain ⟨hbig, hz0⟩ := hcond
    split at he
    · rename_i cs hfill
      split at he
      · rename_i cs' f hrow
        cases he
        obtain ⟨z, hz, hfr, hzs⟩ := zero_FR (K := K) (w := w) hc
        rw [fillS_eq, List.map_map] at hfill
        have hm : Match (fun i => some (i * u.sz, u.sz)) ps.toList (ps.toList.map ((fun p => (p.1 * u.sz, u.sz, p.2)) ∘ fun p => (p.1, cX p.2))) := match_of (by simp) (fun j p q hp hq => by
          rw [List.getElem?_map, hp] at hq
          simp at hq
          subst hq
          exact ⟨rfl, rfl⟩)
        have hfr0 := zeros_FR hfr hzs hz0 n
        obtain ⟨arr, e1, e2⟩ := fill_ok hs _ ps.toList _ _ cs _ hm hfill hfr0
        obtain ⟨K1, k1, k2, k3, k4, k5, k6, k7⟩ := inRow_ok (n0 := n0) (w := w) cs K h (fun j => arr.getD j undef) cs' f hI e2.rep hrow
        have hf1 : Fresh K1 tk := fun t h1 h2 => by rw [k2]; exact hf t h1 h2
        have hlen : cs.length = n * u.sz := by
          have := e2.size
          have h2 : arr.size = ((Array.range (n * u.sz)).map (z.cells[· % z.cells.size]!)).size := by
            have hsz := fill_size _ _ _ _ e1
            exact hsz
          rw [this, h2]; simp
        refine ⟨.slice (some ⟨w.heap.size, 0, none⟩) n n, w.alloc (.cells arr el), .inl ?_, ?_⟩
        · have hnb : ¬ n * u.sz > 2 ^ 24 := by omega
          simp only [execOp, ho, Instr.buildSlice, Sem.run_bind, run_underlying1 ht, Result.andThen_ok, run_sizeOf1 hc]
          by_cases hn : n * u.sz = 0
          · have hn0 : n = 0 := by
              rcases Nat.mul_eq_zero.1 hn with h | h
              · exact h
              · exact absurd h hz0
            subst hn0
            have e0 : (Array.range (0 * u.sz)).map (z.cells[· % z.cells.size]!) = #[] := by simp
            rw [e0] at e1
            have er : Array.range 0 = #[] := rfl
            simp [er, e1, newRow]
          · simp [hnb, hn, hz, e1, newRow]
        · rw [act_and h f _ _ k7 rfl]
          have hsl : Rep (K1.put tk w.heap.size (u.sz, arr.size) cs'.length) (w.alloc (.cells arr el)) (.sl id tk 0 n) (.slice (some ⟨w.heap.size, 0, none⟩) n n) := by
            refine .sl id tk 0 n n w.heap.size (by simp) (Nat.le_refl _) ?_ ?_
            · have : n ≤ n * u.sz := Nat.le_mul_of_pos_right _ (by omega)
              unfold maxLen; omega
            · have := e2.size
              simp; omega
          exact Out.after k1 k2 (out_alloc k3 id hf1 arr el cs' u.sz u.ag u.sz (.sl id tk 0 n) _ [] [id] (by have := e2.size; omega) (fun c hc => (k6 c hc).2) k5 (fun _ => ⟨rfl, fun hag => by
            obtain ⟨_, _, _, _, _, _, _, _, _, _, h1, _⟩ := cTy_spec hc
            exact h1 hag⟩) hsl)
      · cases he
    · cases he
  · cases he
where
  fill_size (place : Nat → Option (Nat × Nat)) : ∀ (l : List (Nat × Value)) (arr arr' : Array Value), Instr.fill place arr l = some arr' → arr'.size = arr.size
    | [], arr, arr', h => by simp only [Instr.fill] at h; cases h; rfl
    | (i, v) :: r, arr, arr', h => by
      simp only [Instr.fill] at h
      split at h
      · cases h
      · split at h
        · cases h
        · rename_i off _ _ _
          have h1 := fill_size place r _ arr' h
          have h2 := (foldl_set v.cells.toList off 0 arr).1
          rw [h1]
          have conv : v.cells.zipIdx.foldl (fun cs (c, j) => cs.setIfInBounds (off + j) c) arr = (v.cells.toList.zipIdx 0).foldl (fun cs x => cs.setIfInBounds (off + x.2) x.1) arr := by
            rw [← Array.foldl_toList, Array.toList_zipIdx]
          rw [conv]; exact h2

end Go.Aw

/-
  Stores.
-/
namespace Go.Aw
open Go.RowKit

variable {P : Program} {n0 : Base} {K : Kx} {h : Heap} {w : World} {s : List AV} {a : Act} {tk : Tok}

theorem mid_get {α : Type} {cs new : List α} {off : Nat} (h : off + new.length ≤ cs.length) (i : Nat) :
    (cs.take off ++ new ++ cs.drop (off + new.length))[i]? = if off ≤ i ∧ i < off + new.length then new[i - off]? else cs[i]? := by
  by_cases h1 : i < off
  · rw [List.append_assoc, List.getElem?_append_left (by simp; omega), List.getElem?_take, if_pos h1, if_neg (by omega)]
  · by_cases h2 : i < off + new.length
    · rw [if_pos (by omega), List.append_assoc, List.getElem?_append_right (by simp; omega), List.getElem?_append_left (by simp; omega)]
      congr 1; simp; omega
    · rw [if_neg (by omega), List.getElem?_append_right (by simp; omega), List.getElem?_drop]
      congr 1; simp; omega

theorem solid_of_one {v : AV} (hv : v.cells.all AV.one = true) : v.solid = true := by
  cases v <;> first | rfl | (simp [AV.cells, AV.one] at hv)

theorem run_storeVar1 {t : TypeId} {u : Ty} (hc : cTy P t = some u) {b off : Nat} {cur : Array Value} {E : TypeId} (hg : w.heap[b]? = some (.cells cur E (0, 0))) {x : Value} (hl : x.cells.size = u.sz) (hle : off + x.cells.size ≤ cur.size) (h1 : ∀ v ∈ x.cells.toList, v.oneCell' = true) :
    (storeVar t ⟨b, off, none⟩ x).run P w = .ok () (w.setRow b (cur.toList.take off ++ x.cells.toList ++ cur.toList.drop (off + x.cells.toList.length)).toArray) := by
  have hsz := run_sizeOf1 (w := w) hc
  have hst := run_storeCells_at P b off E x.cells.toList 0 cur w hg (by simpa using hle) h1
  simp only [Nat.add_zero] at hst
  simp only [storeVar, Sem.run_bind, hsz, Result.andThen_ok]
  rw [if_neg (by omega)]
  exact hst

/-- Cells laid over others, and what they stand for. -/
theorem mid_FR {cs new : List AV} {cur : Array Value} {nv : List Value} {off : Nat} (hl : new.length = nv.length) (hle : off + new.length ≤ cs.length) (hsz : cs.length ≤ cur.size)
    (h1 : ∀ (j : Nat) (c : AV), cs[j]? = some c → Rep K w c (cur.getD j undef)) (h2 : ∀ (j : Nat) (c : AV), new[j]? = some c → Rep K w c (nv.getD j undef)) :
    ∀ (j : Nat) (c : AV), (splice cs off new)[j]? = some c → Rep K w c (((cur.toList.take off ++ nv ++ cur.toList.drop (off + nv.length)).toArray).getD j undef) := fun j c hj => by
  rw [splice_get hle] at hj
  rw [Array.getD_eq_getD_getElem?, List.getElem?_toArray, mid_get (by simp; omega)]
  by_cases hc : off ≤ j ∧ j < off + new.length
  · rw [if_pos hc] at hj
    rw [if_pos (by omega)]
    have := h2 _ c hj
    rw [List.getD_eq_getElem?_getD] at this
    exact this
  · rw [if_neg hc] at hj
    rw [if_neg (by omega)]
    have := h1 j c hj
    rw [Array.getD_eq_getD_getElem?] at this
    simpa using this

/-- A store into a variable or row that may be written. -/
theorem out_store (hI : Inv n0 K h w) {id : Id} {o : Obj} (hg : h.get id = some o) (hW : o.md = .W) {b : Nat} (hb : K.bl o.t = some b) {cs : Array Value} {E : TypeId} (hh : w.heap[b]? = some (.cells cs E (0, 0)))
    {new : List AV} {nv : List Value} {off : Nat} (hl : new.length = nv.length) (hle : off + new.length ≤ o.cells.length) (h2 : ∀ (j : Nat) (c : AV), new[j]? = some c → Rep K w c (nv.getD j undef)) (hfl : ∀ c ∈ new, c.flat = true) (rd wr : List Id) (v : Value) :
    Out n0 K w tk (h.act { v := .undef, up := [(id, { o with cells := splice o.cells off new })], rd, wr }) .undef v (w.setRow b (cs.toList.take off ++ nv ++ cs.toList.drop (off + nv.length)).toArray) := by
  obtain ⟨b', cs', E', h1, g2, h3, h4, h5, h6, h7, h8, h9, h10⟩ := hI.objs id o hg
  have : b' = b := by rw [h1] at hb; cases hb; rfl
  subst this
  have : cs' = cs ∧ E' = E := by rw [hh] at h3; cases h3; exact ⟨rfl, rfl⟩
  obtain ⟨rfl, rfl⟩ := this
  have hnp := h8 hW
  generalize hnew : (cs'.toList.take off ++ nv ++ cs'.toList.drop (off + nv.length)).toArray = arr
  have hsz : arr.size = cs'.size := by rw [← hnew]; simp; omega
  have hheap := setRow_heap w b' cs' arr E' (0, 0) hh
  rw [Heap.act_up1]
  have key := hI.turn (w' := w.setRow b' arr) (K' := K) (o' := { o with cells := splice o.cells off new }) hg (by rw [hW]; decide) h1 h3 (setRow_size _ _ _) hheap hsz (fun c hc => setRow_other w b' c arr hc)
    (fun i v hp _ => absurd hp (hnp i)) (.refl K) (fun c i hp => .inr hp) (fun c hc => hc) (fun t c hc => .inl hc)
  have hkept : Kept K w (w.setRow b' arr) := ⟨fun c i v hc hv => by
    rw [cell_setRow_other w b' arr _ (by intro e; simp at e; subst e; exact hnp i hc)]; exact hv, fun c es t _ hv => by
    by_cases e : c = b'
    · subst e; rw [hh] at hv; cases hv
    · rw [setRow_other w b' c arr e]; exact hv⟩
  have hok : ObjOk n0 K (w.setRow b' arr) { o with cells := splice o.cells off new } := by
    refine ⟨b', arr, E', h1, g2, hheap, by rw [hsz]; exact h4, h5, ⟨by rw [splice_length hle, hsz]; exact h6.1, by rw [splice_length hle]; exact h6.2.1, fun x hx => (splice_mem hx).elim (h6.2.2 x) (hfl x)⟩, fun j c hj => ?_, fun _ => hnp, fun hF => ?_, fun hF => absurd hW hF⟩
    · have := mid_FR (K := K) (w := w) (cur := cs') hl hle h6.1 h7 h2 j c hj
      rw [hnew] at this
      exact this.mono (.refl K) hkept
    · rw [show ({ o with cells := splice o.cells off new } : Obj).md = o.md from rfl, hW] at hF; cases hF
  obtain ⟨k1, k2⟩ := key hok h1
  refine ⟨K, .refl K, k1, k2, .undef _, ?_, fun t b ht => .inl ht⟩
  exact ⟨rfl, rfl, rfl, by simp, fun i hi => setRow_other w b' i arr (by omega)⟩

theorem get_ups_other (h : Heap) (l : List (Id × Obj)) (i : Id) (hn : ∀ p ∈ l, p.1 ≠ i) : (h.ups l).get i = h.get i := by
  induction l generalizing h with
  | nil => rfl
  | cons x r ih =>
    obtain ⟨j, o⟩ := x
    simp only [Heap.ups]
    rw [ih _ (fun p hp => hn p (by simp [hp])), Heap.get_upd, if_neg (hn (j, o) (by simp))]

theorem get_act_other (h : Heap) (e : Ev) (i : Id) (hn : ∀ p ∈ e.up, p.1 ≠ i) : (h.act e).get i = h.get i := by
  have := get_ups_other h e.up i hn
  unfold Heap.act Heap.get
  exact this

theorem inRow1_wr {v : AV} {e : Ev} (he : inRow1 h v = some e) : ∀ p ∈ e.up, p.1 ∈ e.wr := by
  cases v <;> simp only [inRow1] at he
  case fn f cap => cases cap <;> first | (cases he; done) | (cases he; intro p hp; simp at hp)
  case sl id t off len =>
    split at he
    · split at he
      · split at he
        · split at he
          · cases he; intro p hp; simp at hp; subst hp; simp
          · split at he
            · cases he; intro p hp; simp at hp; subst hp; simp
            · cases he; intro p hp; simp at hp
        · cases he
      · cases he
    · cases he
  all_goals first | (cases he; done) | (cases he; intro p hp; simp at hp)

theorem inRow_wr : ∀ (cs : List AV) (h : Heap) (cs' : List AV) (f : Ev), inRow h cs = some (cs', f) → ∀ p ∈ f.up, p.1 ∈ f.wr
  | [], h, cs', f, he => by simp only [inRow] at he; cases he; intro p hp; simp at hp
  | v :: r, h, cs', f, he => by
    simp only [inRow] at he
    split at he
    · rename_i e he1
      split at he
      · rename_i vs g he2
        cases he
        have h1 := inRow1_wr he1
        have h2 := inRow_wr r _ _ _ he2
        intro p hp
        simp only [Ev.and, List.mem_append] at hp ⊢
        exact hp.imp (h1 p) (h2 p)
      · cases he
    · cases he

theorem ok_store (hs : Slots K w s a.tmps) (hI : Inv n0 K h w) (o : Oper) (t : TypeId) (x y : Operand) (ho : o.op = .store t x y) {u : Ty} (hc : cTy P t = some u)
    {call : FuncId → List AV → Option AV} {own : FuncId → Option Ty} {id : Id} {e : Ev} (he : evOp call own s h id tk (.store u.sz (cX x) (cX y)) = some e) : ∃ v w', Comes1 P a o w v w' ∧ Out n0 K w tk (h.act e) e.v v w' := by
  have hx := rep_X hs x
  have hy := rep_X hs y
  simp only [evOp] at he
  split at he
  · rename_i i t' off hpt
    rw [hpt] at hx
    obtain ⟨b, hb, ex⟩ := hx.ptr_inv
    split at he
    · rename_i ob hrow
      split at he
      · rename_i hcond
        obtain ⟨hl, hle, hW, hone⟩ := hcond
        obtain ⟨hget, ht0⟩ := row_spec hrow
        obtain ⟨cur, E, hheap, _, _, hlen, _, _⟩ := hI.cells hrow hb
        have hbo : K.bl ob.t = some b := by rw [ht0]; exact hb
        obtain ⟨c1, c2, c3⟩ := cells_rep hy (solid_of_one hone)
        have honec : ∀ v ∈ (a.eval y).cells.toList, v.oneCell' = true := fun v hv => by
          obtain ⟨j, hj, rfl⟩ := List.getElem_of_mem hv
          have hj' : j < ((cX y).ev s).cells.length := by rw [c1]; simpa using hj
          have h1 := c2 j _ (List.getElem?_eq_getElem hj')
          have h2 := (List.all_eq_true.1 hone) _ (List.getElem_mem hj')
          have h3 := one_cell h1 h2
          have hj2 : j < (a.eval y).cells.size := by simpa using hj
          simpa [Array.getD_eq_getD_getElem?, hj2] using h3
        have hrun := run_storeVar1 (P := P) hc hheap (x := a.eval y) (off := off) (by omega) (by omega) honec
        have hexec : (execOp a.eval o).run P w = .ok .skip (w.setRow b (cur.toList.take off ++ (a.eval y).cells.toList ++ cur.toList.drop (off + (a.eval y).cells.toList.length)).toArray) := by
          simp only [execOp, ho, ex, Instr.storeAt, Instr.sureAddr, Sem.run_bind, Sem.run_pure, Result.andThen_ok, hrun]
        split at he
        · rename_i hz
          cases he
          refine ⟨undef, _, .inr ⟨hexec, rfl⟩, out_store hI hget hW hbo hheap (by simp [c1]) (by omega) (fun j c hj => ?_) c3 _ _ _⟩
          have := c2 j c hj
          rw [Array.getD_eq_getD_getElem?] at this
          simpa [List.getD_eq_getElem?_getD] using this
        · rename_i hz
          split at he
          · rename_i cs f hin
            split at he
            · cases he
            · rename_i hnw
              cases he
              obtain ⟨K1, k1, k2, k3, k4, k5, k6, k7⟩ := inRow_ok (n0 := n0) (w := w) _ K h (fun j => (a.eval y).cells.getD j undef) cs f hI c2 hin
              have hwr := inRow_wr _ _ _ _ hin
              have hget1 : (h.act f).get i = some ob := by
                rw [get_act_other h f i (fun p hp e => ?_)]
                · exact hget
                · have := hwr p hp
                  rw [e] at this
                  exact hnw (by simpa using this)
              rw [act_and h f _ _ k7 rfl]
              refine ⟨undef, _, .inr ⟨hexec, rfl⟩, Out.after k1 k2 ?_⟩
              refine out_store k3 hget1 hW (by rw [k2]; exact hbo) hheap (by rw [k4, c1]; simp) (by rw [k4]; omega) (fun j c hj => ?_) (fun c hc => (k6 c hc).2) _ _ _
              have := k5 j c hj
              rw [Array.getD_eq_getD_getElem?] at this
              simpa [List.getD_eq_getElem?_getD] using this
          · cases he
      · cases he
    · cases he
  · cases he

end Go.Aw

/-
  What is appended or copied.
-/
namespace Go.Aw
open Go.RowKit

variable {P : Program} {n0 : Base} {K : Kx} {h : Heap} {w : World} {s : List AV} {a : Act} {tk : Tok}

theorem getD_map_range (f : Nat → Value) (n j : Nat) (hj : j < n) : ((List.range n).map f).getD j undef = f j := by
  rw [List.getD_eq_getElem?_getD]; simp [hj]

theorem get_map_range {f : Nat → Value} {n j : Nat} {u : Value} (hj : ((List.range n).map f)[j]? = some u) : j < n ∧ u = f j := by
  have hlt : j < n := by
    have := (List.getElem?_eq_some_iff.1 hj).1
    simpa using this
  simp [hlt] at hj
  exact ⟨hlt, hj.symm⟩

/-- Cells that are shown: where they lie, and what they stand for. -/
structure Src (K : Kx) (w : World) (cs : List AV) (n esz : Nat) (p : Option Addr) (news : List Value) : Prop where
  len : news.length = n * esz
  rep : ∀ (j : Nat) (c : AV), cs[j]? = some c → Rep K w c (news.getD j undef)
  flat : ∀ c ∈ cs, c.flat = true
  at_ : n ≠ 0 → ∃ b o, p = some ⟨b, o, none⟩ ∧ ∀ (j : Nat) (u : Value), news[j]? = some u → w.cell? ⟨b, o + j, none⟩ = some u

theorem source_ok (hI : Inv n0 K h w) {y : AV} {v : Value} (hr : Rep K w y v) {esz n : Nat} {cs : List AV} {rd : List Id} (hs : source h esz y = some (cs, n, rd)) (hl : cs.length = n * esz) (hz : esz ≠ 0) :
    ∃ (p : Option Addr) (c : Nat) (news : List Value), v = .slice p n c ∧ Src K w cs n esz p news := by
  unfold source at hs
  split at hs
  · cases hs
    exact ⟨none, 0, [], hr.nil_inv, ⟨by simp, fun j c hj => by simp at hj, fun c hc => by simp at hc, fun h => absurd rfl h⟩⟩
  · rename_i vs
    cases hs
    obtain ⟨p, cap, s, b, o, val, e1, _, _, _, e5, e6, e7, e8⟩ := hr.list_inv
    refine ⟨p, cap, (List.range (vs.length * esz)).map val, e1, ⟨by simp, fun j c hj => ?_, e8, fun hn => ⟨b, o, e5 (by intro e; subst e; simp at hn), fun j u hu => ?_⟩⟩⟩
    · rw [getD_map_range _ _ _ (by rw [← hl]; exact (List.getElem?_eq_some_iff.1 hj).1)]; exact (e7 j c hj).unbare
    · obtain ⟨h1, rfl⟩ := get_map_range hu
      rw [← hl] at h1
      exact (e6 j _ (List.getElem?_eq_getElem h1)).2
  · rename_i vs t
    cases hs
    obtain ⟨cap, s, b, val, e1, _, _, _, _, _, _, _, e6, e7, e8⟩ := hr.rl_inv
    refine ⟨some ⟨b, 0, none⟩, cap, (List.range (vs.length * esz)).map val, e1, ⟨by simp, fun j c hj => ?_, e8, fun hn => ⟨b, 0, rfl, fun j u hu => ?_⟩⟩⟩
    · rw [getD_map_range _ _ _ (by rw [← hl]; exact (List.getElem?_eq_some_iff.1 hj).1)]; exact (e7 j c hj).unbare
    · obtain ⟨h1, rfl⟩ := get_map_range hu
      rw [← hl] at h1
      rw [Nat.zero_add]
      exact (e6 j _ (List.getElem?_eq_getElem h1)).2
  · rename_i id t off len
    split at hs
    · rename_i o hrow
      split at hs
      · rename_i hc
        obtain ⟨h1, h2, h3⟩ := hc
        cases hs
        obtain ⟨b, cap, hb, e1, _⟩ := hr.sl_inv
        obtain ⟨arr, E, _, _, _, h6, h7, _⟩ := hI.cells hrow hb
        subst h1
        have hget : ∀ (j : Nat) (c : AV), ((o.cells.drop off).take (n * o.esz))[j]? = some c → o.cells[off + j]? = some c := fun j c hj => by
          rw [List.getElem?_take] at hj
          split at hj
          · rw [List.getElem?_drop] at hj; exact hj
          · cases hj
        refine ⟨some ⟨b, off, none⟩, cap, (List.range (n * o.esz)).map fun j => arr.getD (off + j) undef, e1, ⟨by simp, fun j c hj => ?_, fun c hc => h6.2.2 c (List.mem_of_mem_drop (List.mem_of_mem_take hc)), fun hn => ⟨b, off, rfl, fun j u hu => ?_⟩⟩⟩
        · rw [getD_map_range _ _ _ (by rw [← hl]; exact (List.getElem?_eq_some_iff.1 hj).1)]
          exact (h7 _ c (hget j c hj)).2
        · obtain ⟨g1, rfl⟩ := get_map_range hu
          exact (h7 (off + j) _ (List.getElem?_eq_getElem (show off + j < o.cells.length by omega))).1
      · cases hs
    · cases hs
  · cases hs

theorem Src.one {cs : List AV} {n esz : Nat} {p : Option Addr} {news : List Value} (h : Src K w cs n esz p news) (hl : cs.length = n * esz) (h1 : cs.all AV.one = true) : ∀ u ∈ news, u.oneCell' = true := fun u hu => by
  obtain ⟨j, hj, rfl⟩ := List.getElem_of_mem hu
  have hj' : j < cs.length := by rw [hl, ← h.len]; exact hj
  have h2 := h.rep j _ (List.getElem?_eq_getElem hj')
  have h3 := (List.all_eq_true.1 h1) _ (List.getElem_mem hj')
  have h4 := one_cell h2 h3
  rw [List.getD_eq_getElem?_getD, List.getElem?_eq_getElem hj] at h4
  exact h4

theorem Inv.drew (hI : Inv n0 K h w) : Kept K w w.drew ∧ Inv n0 K h w.drew := by
  have hk : Kept K w w.drew := ⟨fun _ _ _ _ h => h, fun _ _ _ _ h => h⟩
  exact ⟨hk, ⟨hI.size, hI.pb, hI.mb, hI.tb, fun id o hg => (hI.objs id o hg).mono (.refl K) hk (fun b cs E _ h => ⟨cs, h, rfl, fun _ _ => rfl⟩) (fun _ _ _ _ h => h),
    fun r hr => (hI.rts r hr).mono (.refl K) (fun b cs E _ h => ⟨cs, h, rfl⟩) (fun _ _ _ h => h), hI.u1, hI.u2, hI.u3, hI.pz, hI.mz⟩⟩

/-- Something comes behind a draw. -/
theorem Out.drew {h' : Heap} {r : AV} {v : Value} {w' : World} (ho : Out n0 K w.drew tk h' r v w') : Out n0 K w tk h' r v w' := by
  obtain ⟨K', k1, k2, k3, k4, k5, k6⟩ := ho
  refine ⟨K', k1, ⟨fun b o v hp hc => k2.cell b o v hp hc, fun b es c hp hc => k2.map b es c hp hc⟩, k3, k4, ⟨k5.os, k5.tape, k5.output, k5.size, k5.block⟩, k6⟩

/-! ### what the builtin does -/
theorem run_grow {t ty e : TypeId} {u : Ty} (ht : P.underlying t = some (.slice e)) (hc : cTy P e = some u) {p : Option Addr} {n c : Nat} {news : List Value} (hl : news.length = n * u.sz)
    (hat : ∃ b o, p = some ⟨b, o, none⟩ ∧ ∀ (j : Nat) (x : Value), news[j]? = some x → w.cell? ⟨b, o + j, none⟩ = some x) {base : Option Addr} {sLen sCap : Nat} {olds : List Value} (hlo : olds.length = sLen * u.sz)
    (hold : base = none ∧ sLen = 0 ∧ sCap = 0 ∨ ∃ b o, base = some ⟨b, o, none⟩ ∧ ∀ (j : Nat) (x : Value), olds[j]? = some x → w.cell? ⟨b, o + j, none⟩ = some x)
    (hg : sCap < sLen + n) (hb1 : sLen ≤ bound) (hb2 : n ≤ bound) (hfit : (sLen + n) * u.by_ ≤ bound) :
    ∃ z : Value, z.cells.size = u.sz ∧ (Builtin.append_ #[t, t] ty #[.slice base sLen sCap, .slice p n c]).run P w = .ok (.slice (some ⟨w.heap.size, 0, none⟩) (sLen + n) (grownCap w (sLen + n) sCap e))
        (w.drew.alloc (.cells (olds.toArray ++ news.toArray ++ Builtin.zeroCells z.cells (grownCap w (sLen + n) sCap e - (sLen + n))) e)) := by
  obtain ⟨i, d, z, h1, h2, h3, h4, h5, h6, h7, h8⟩ := cTy_spec hc
  have hzs : z.cells.size = u.sz := by
    obtain ⟨z', g1, g2, _⟩ := cTy_zero (K := ⟨fun _ _ => False, fun _ => False, fun _ => none, fun _ => (0, 0), fun _ => 0⟩) (w := w) hc
    have : z' = z := by
      simp [zeroValue, run_typeInfo1 h1, h3] at g1
      exact g1.symm
    rw [← this]; exact g2
  obtain ⟨b, o, rfl, hat⟩ := hat
  have hbd : bound = 140737488355328 := rfl
  have hfits : Builtin.nextslicecap (sLen + n) sCap * i.bytes ≤ 281474976710656 := growslice_fits hg (by rw [← h5]; omega)
  refine ⟨z, hzs, ?_⟩
  rcases hold with ⟨rfl, rfl, rfl⟩ | ⟨b', o', rfl, hold⟩
  · have : olds = [] := List.eq_nil_of_length_eq_zero (by simpa using hlo)
    subst this
    have := run_append_nil (P := P) w t ty e i z ht h1 h3 ⟨b, o, none⟩ n c news (by rw [← h4]; exact hl) (fun j v hj => by rw [addr_add]; exact hat j v hj) (by omega) (by omega) (by rw [← h5]; simp only [Nat.zero_add] at hfit; omega)
    simpa using this
  · exact run_append_grow (P := P) w t ty e i z ht h1 h3 ⟨b', o', none⟩ sLen sCap olds (by rw [← h4]; exact hlo) (fun j v hj => by rw [addr_add]; exact hold j v hj) ⟨b, o, none⟩ n c news (by rw [← h4]; exact hl)
      (fun j v hj => by rw [addr_add]; exact hat j v hj) hg (by omega) hfits

theorem run_none {t ty e : TypeId} {u : Ty} (ht : P.underlying t = some (.slice e)) (hc : cTy P e = some u) {p : Option Addr} {c : Nat} {base : Option Addr} {sLen sCap : Nat} (hle : sLen ≤ sCap) :
    (Builtin.append_ #[t, t] ty #[.slice base sLen sCap, .slice p 0 c]).run P w = .ok (.slice base sLen sCap) w := by
  have h1 := run_sizeOf1 (w := w) hc
  have h2 : (Builtin.firstCells u.sz 0 (.slice p 0 c)).run P w = .ok #[] w := by
    cases p with
    | none => rfl
    | some a =>
      simp only [Builtin.firstCells, Nat.zero_mul]
      exact run_loadCells_list w a [] (by simp)
  cases base <;> simp [Builtin.append_, run_underlying1 ht, h1, Builtin.lenOf, hle, h2, storeCells]

theorem run_room {t ty e E : TypeId} {u : Ty} (ht : P.underlying t = some (.slice e)) (hc : cTy P e = some u) {p : Option Addr} {n c : Nat} {news : List Value} (hl : news.length = n * u.sz)
    (hat : ∃ b o, p = some ⟨b, o, none⟩ ∧ ∀ (j : Nat) (x : Value), news[j]? = some x → w.cell? ⟨b, o + j, none⟩ = some x) (h1 : ∀ u ∈ news, u.oneCell' = true)
    {g sLen sCap : Nat} {cur : Array Value} (hg : w.heap[g]? = some (.cells cur E (0, 0))) (hroom : sLen + n ≤ sCap) (hfit : sLen * u.sz + news.length ≤ cur.size) :
    (Builtin.append_ #[t, t] ty #[.slice (some ⟨g, 0, none⟩) sLen sCap, .slice p n c]).run P w =
      .ok (.slice (some ⟨g, 0, none⟩) (sLen + n) sCap) (w.setRow g (cur.toList.take (sLen * u.sz) ++ news ++ cur.toList.drop (sLen * u.sz + news.length)).toArray) := by
  obtain ⟨b, o, rfl, hat⟩ := hat
  have hs := run_sizeOf1 (w := w) hc
  have hf := run_firstCells_some (P := P) w u.sz n ⟨b, o, none⟩ n c news hl (fun j v hj => by rw [addr_add]; exact hat j v hj)
  have hst := run_storeCells_at P g (sLen * u.sz) E news 0 cur w hg (by simpa using hfit) h1
  simp only [Nat.add_zero] at hst
  simp [Builtin.append_, run_underlying1 ht, hs, Builtin.lenOf, hroom, hf, addr_add, hst]

end Go.Aw

/-
  Rights turn; elements are told.
-/
namespace Go.Aw
open Go.RowKit

variable {P : Program} {n0 : Base} {K : Kx} {h : Heap} {w : World} {s : List AV} {a : Act} {tk : Tok}

/-- The elements of cells, each told. -/
theorem group_tree (hI : Inv n0 K h w) {n esz len : Nat} {ag : Bool} {cs ts : List AV} {is ids : List Id} {val : Nat → Value} (hl : cs.length = len * esz) (hag : ag = false → esz = 1) (hfl : ∀ c ∈ cs, c.flat = true)
    (hrep : ∀ (j : Nat) (c : AV), cs[j]? = some c → Rep K w c (val j)) (hm : mapT (toTree h n) (group esz ag len cs) = some (ts, is)) (hsub : ∀ i ∈ is, i ∈ ids) :
    ts.length = len ∧ (∀ e ∈ ts, e.cells.length = esz) ∧ ∀ (p : Nat) (c : AV), (ts.flatMap AV.cells)[p]? = some c → Rep (K.cover h ids).bare w c (val p) ∧ c.flat = true := by
  obtain ⟨m1, m2⟩ := mapT_spec hm
  rw [group_length] at m1
  have el : ∀ (i : Nat) (e : AV), ts[i]? = some e → e.cells.length = esz ∧ ∀ (j : Nat) (c : AV), e.cells[j]? = some c → Rep (K.cover h ids).bare w c (val (i * esz + j)) ∧ c.flat = true := by
    intro i e hi
    have hilt : i < len := by have := (List.getElem?_eq_some_iff.1 hi).1; omega
    have hmul : i * esz + esz ≤ len * esz := by rw [← Nat.succ_mul]; exact Nat.mul_le_mul_right _ hilt
    have hgi := group_get esz ag len cs i hilt
    have hlen : ((cs.drop (i * esz)).take esz).length = esz := by simp; omega
    have hcells : ∀ (j : Nat) (u : AV), ((cs.drop (i * esz)).take esz)[j]? = some u → cs[i * esz + j]? = some u := fun j u hj => by
      rw [List.getElem?_take] at hj
      split at hj
      · exact drop_get hj
      · cases hj
    obtain ⟨t', is', g1, g2, g3⟩ := m2 i _ hgi
    rw [g2] at hi
    cases hi
    cases hag' : ag with
    | true =>
      rw [hag'] at g1
      simp only [ofCells, if_true] at g1
      have hrepA : Rep K w (.agg ((cs.drop (i * esz)).take esz)) (.agg (((List.range esz).map fun j => val (i * esz + j)).toArray)) := by
        refine .agg _ _ (fun c hc => ?_) (by simp; omega) (fun j c hj => ?_)
        · obtain ⟨j, hj⟩ := mem_getElem? hc
          exact hfl c (List.mem_of_getElem? (hcells j c hj))
        · have hjl : j < esz := by have := (List.getElem?_eq_some_iff.1 hj).1; omega
          have := hrep _ c (hcells j c hj)
          simpa [Array.getD_eq_getD_getElem?, hjl] using this
      obtain ⟨r1, _, r3⟩ := toTree_ok hI n _ _ e is' ids hrepA g1 (fun i hi => hsub i (g3 i hi))
      refine ⟨by rw [r3]; simp only [AV.cells]; exact hlen, fun j c hj => ?_⟩
      cases n with
      | zero => simp [toTree] at g1
      | succ n =>
        simp only [toTree] at g1
        split at g1
        · cases g1
          obtain ⟨arr2, he2, hl2, hr2, hf2⟩ := r1.agg_inv
          simp only [AV.cells] at hj
          have hjl : j < esz := by
            have h1 := (List.getElem?_eq_some_iff.1 hj).1
            simp only [AV.cells] at r3
            omega
          have hc2 := hr2 j c hj
          cases he2
          refine ⟨?_, hf2 c (List.mem_of_getElem? hj)⟩
          simpa [Array.getD_eq_getD_getElem?, hjl] using hc2
        · cases g1
    | false =>
      have h1 : esz = 1 := hag hag'
      rw [hag'] at g1
      have hone : ∃ u, (cs.drop (i * esz)).take esz = [u] := by
        match hq : (cs.drop (i * esz)).take esz, hlen with
        | [u], _ => exact ⟨u, rfl⟩
        | [], hlen => rw [h1] at hlen; simp at hlen
        | _ :: _ :: _, hlen => rw [h1] at hlen; simp at hlen
      obtain ⟨u, hu⟩ := hone
      have hu0 := hcells 0 u (by rw [hu]; rfl)
      simp only [Nat.add_zero] at hu0
      rw [hu] at g1
      simp only [ofCells] at g1
      simp at g1
      have hufl := hfl u (List.mem_of_getElem? hu0)
      obtain ⟨r1, r2, r3⟩ := toTree_ok hI n u _ e is' ids (hrep _ u hu0) g1 (fun i hi => hsub i (g3 i hi))
      have hefl := r2 hufl
      have hec : e.cells = [e] := by cases e <;> first | rfl | (simp [AV.flat] at hefl)
      refine ⟨by rw [hec, h1]; rfl, fun j c hj => ?_⟩
      rw [hec] at hj
      cases j with
      | zero => simp at hj; subst hj; exact ⟨by simpa using r1, hefl⟩
      | succ j => simp at hj
  have hmem : ∀ e ∈ ts, e.cells.length = esz := fun e he => by
    obtain ⟨i, hi⟩ := mem_getElem? he
    exact (el i e hi).1
  refine ⟨m1, hmem, fun p c hp => ?_⟩
  obtain ⟨i, j, e, rfl, _, h3, h4⟩ := flat_get_inv hmem hp
  exact (el i e h3).2 j c h4

theorem cover_nil_le (K : Kx) (h : Heap) : (K.cover h []).le K :=
  ⟨fun b i hp => hp.elim id fun ⟨j, hj, _⟩ => by simp at hj, fun _ h => h, fun _ _ h => h, fun _ _ _ => rfl, fun _ _ _ => rfl⟩

/-- A right turns: cells are laid behind its row, which takes another name. -/
theorem Inv.turnRt {w' : World} (hI : Inv n0 K h w) {r : Tok} (hr : r ∈ h.rts) {b : Nat} {cs cs' : Array Value} {E : TypeId} (hb : K.bl r = some b) (hh : w.heap[b]? = some (.cells cs E (0, 0)))
    (hsz : w'.heap.size = w.heap.size) (hh' : w'.heap[b]? = some (.cells cs' E (0, 0))) (hcs : cs'.size = cs.size) (ho : ∀ c, c ≠ b → w'.heap[c]? = w.heap[c]?)
    (hp : ∀ i v, K.prot b i → cs[i]? = some v → cs'[i]? = some v) {n : Nat} (hf : K.bl tk = none) (hn : K.rn r ≤ n) :
    K.le ((K.put tk b (K.es r) n).guard b n) ∧ Kept K w w' ∧ Inv n0 ((K.put tk b (K.es r) n).guard b n) { h with rts := [tk] ++ h.rts.filter fun t => !([r] : List Tok).contains t } w' := by
  have hlt : b < w.heap.size := hI.tb _ _ hb
  have hK : K.le ((K.put tk b (K.es r) n).guard b n) := (Kx.le_put hf _ _ _).trans (Kx.le_guard _ _ _)
  have hw : Kept K w w' := ⟨fun c i v hc hv => by
    by_cases e : c = b
    · subst e
      rw [cell_at hh']
      rw [cell_at hh] at hv
      exact hp i v hc hv
    · unfold World.cell? at hv ⊢
      simp only [ho c e]
      exact hv, fun c es t _ hv => by
    by_cases e : c = b
    · subst e; rw [hh] at hv; cases hv
    · rw [ho c e]; exact hv⟩
  obtain ⟨rb, rcs, rE, q1, q2, q3, q4, q5⟩ := hI.rts r hr
  have : rb = b := by rw [hb] at q1; cases q1; rfl
  subst this
  have : rcs = cs ∧ rE = E := by rw [hh] at q3; cases q3; exact ⟨rfl, rfl⟩
  obtain ⟨rfl, rfl⟩ := this
  have old : ∀ i p, h.get i = some p → ∃ c, K.bl p.t = some c ∧ ((K.put tk rb (K.es r) n).guard rb n).bl p.t = some c := fun i p hp => by
    obtain ⟨c, _, _, h1, _⟩ := hI.objs i p hp
    exact ⟨c, h1, hK.bl _ _ h1⟩
  have oldr : ∀ q, q ∈ h.rts → ∃ c, K.bl q = some c ∧ ((K.put tk rb (K.es r) n).guard rb n).bl q = some c := fun q hq => by
    obtain ⟨c, _, _, h1, _⟩ := hI.rts q hq
    exact ⟨c, h1, hK.bl _ _ h1⟩
  have bnew : ((K.put tk rb (K.es r) n).guard rb n).bl tk = some rb := by show (K.put tk rb (K.es r) n).bl tk = _; simp
  have mem : ∀ q, q ∈ [tk] ++ h.rts.filter (fun t => !([r] : List Tok).contains t) → q = tk ∨ (q ∈ h.rts ∧ q ≠ r) := fun q hq => by
    simp at hq
    exact hq
  refine ⟨hK, hw, ⟨by rw [hsz]; exact hI.size, fun c i hc => ?_, fun c hc => by rw [hsz]; exact hI.mb c hc, fun t c hc => ?_, fun i p hgp => ?_, fun q hq => ?_, fun i j p q c hi hj hpm hqm hpc hqc => ?_, fun i p c q hi hpm hq hpc hqc => ?_, fun p q c hpp hq hpc hqc => ?_, fun c i hc => hc.elim (hI.pz c i) (fun h => .inl (by rw [h.1]; exact q2)), fun c hc => hI.mz c hc⟩⟩
  · rw [hsz]
    rcases hc with hc | ⟨rfl, _⟩
    · exact hI.pb c i hc
    · exact hlt
  · rw [hsz]
    rcases Kx.put_bl_inv (show (K.put tk rb (K.es r) n).bl t = some c from hc) with ⟨_, rfl⟩ | hc
    · exact hlt
    · exact hI.tb t c hc
  · obtain ⟨c0, hc0, _⟩ := old i p hgp
    by_cases e : c0 = rb
    · subst e
      have hR : p.md = .R := by
        by_cases hx : p.md = .R
        · exact hx
        · exact (hI.u2 i p c0 r hgp hx hr hc0 hb).elim
      have hok := hI.objs i p hgp
      have hok2 := hok
      obtain ⟨b2, cs2, E2, g1, _, g3, _, _, g6, _, _, _, g10⟩ := hok2
      have : b2 = c0 := by rw [g1] at hc0; cases hc0; rfl
      subst this
      have : cs2 = rcs ∧ E2 = rE := by rw [hh] at g3; cases g3; exact ⟨rfl, rfl⟩
      obtain ⟨rfl, rfl⟩ := this
      refine hok.mono hK hw (fun b3 cs3 E3 k1 k2 => ?_) (fun b3 i3 _ hx _ => absurd hR hx)
      have : b3 = b2 := by rw [hc0] at k1; cases k1; rfl
      subst this
      have : cs3 = cs2 ∧ E3 = E2 := by rw [hh] at k2; cases k2; exact ⟨rfl, rfl⟩
      obtain ⟨rfl, rfl⟩ := this
      refine ⟨cs', hh', hcs, fun j hj => ?_⟩
      have hj3 : j < cs3.size := by omega
      have := hp j (cs3.getD j undef) (g10 (by rw [hR]; decide) j hj) (by simp [hj3])
      simp [Array.getD_eq_getD_getElem?, this, hj3]
    · refine (hI.objs i p hgp).mono hK hw (fun b3 cs3 E3 k1 k2 => ?_) (fun b3 i3 k1 _ hx => ?_)
      · have : b3 = c0 := by rw [hc0] at k1; cases k1; rfl
        subst this
        exact ⟨cs3, by rw [ho b3 e]; exact k2, rfl, fun _ _ => rfl⟩
      · have : b3 = c0 := by rw [hc0] at k1; cases k1; rfl
        subst this
        exact hx.resolve_right fun hh => e hh.1
  · rcases mem q hq with rfl | ⟨hq, hne⟩
    · refine ⟨rb, cs', rE, bnew, q2, hh', ?_, fun i hi => ?_⟩
      · show ((K.put q rb (K.es r) n).es q).2 = _
        simp [q4, hcs]
      · show i < (K.put q rb (K.es r) n).rn q
        simp
        rcases hi with hi | ⟨_, hi⟩
        · exact Nat.lt_of_lt_of_le (q5 i hi) hn
        · exact hi
    · obtain ⟨c0, hc0, _⟩ := oldr q hq
      have e : c0 ≠ rb := fun e => by subst e; exact hne (hI.u3 q r c0 hq hr hc0 hb)
      refine (hI.rts q hq).mono hK (fun b3 cs3 E3 k1 k2 => ?_) (fun b3 i3 k1 hx => ?_)
      · have : b3 = c0 := by rw [hc0] at k1; cases k1; rfl
        subst this
        exact ⟨cs3, by rw [ho b3 e]; exact k2, rfl⟩
      · have : b3 = c0 := by rw [hc0] at k1; cases k1; rfl
        subst this
        exact hx.resolve_right fun hh => e hh.1
  · obtain ⟨c0, h0, h0'⟩ := old i p hi
    obtain ⟨c1, h1, h1'⟩ := old j q hj
    have e3 : c = c0 := by rw [h0'] at hpc; cases hpc; rfl
    have e4 : c = c1 := by rw [h1'] at hqc; cases hqc; rfl
    subst e3; subst e4
    exact hI.u1 i j p q c hi hj hpm hqm h0 h1
  · obtain ⟨c0, h0, h0'⟩ := old i p hi
    have e3 : c = c0 := by rw [h0'] at hpc; cases hpc; rfl
    subst e3
    rcases mem q hq with rfl | ⟨hq, hne⟩
    · have : c = rb := by rw [bnew] at hqc; cases hqc; rfl
      subst this
      exact hI.u2 i p c r hi hpm hr h0 hb
    · obtain ⟨c1, h1, h1'⟩ := oldr q hq
      have e4 : c = c1 := by rw [h1'] at hqc; cases hqc; rfl
      subst e4
      exact hI.u2 i p c q hi hpm hq h0 h1
  · rcases mem p hpp with e1 | ⟨hp1, hpn⟩ <;> rcases mem q hq with e2 | ⟨hq1, hqn⟩
    · rw [e1, e2]
    · subst e1
      obtain ⟨c1, h1, h1'⟩ := oldr q hq1
      have e3 : c = rb := by rw [bnew] at hpc; cases hpc; rfl
      have e4 : c = c1 := by rw [h1'] at hqc; cases hqc; rfl
      subst e3; subst e4
      exact (hqn (hI.u3 q r c hq1 hr h1 hb)).elim
    · subst e2
      obtain ⟨c1, h1, h1'⟩ := oldr p hp1
      have e3 : c = rb := by rw [bnew] at hqc; cases hqc; rfl
      have e4 : c = c1 := by rw [h1'] at hpc; cases hpc; rfl
      subst e3; subst e4
      exact (hpn (hI.u3 p r c hp1 hr h1 hb)).elim
    · obtain ⟨c0, h0, h0'⟩ := oldr p hp1
      obtain ⟨c1, h1, h1'⟩ := oldr q hq1
      have e3 : c = c0 := by rw [h0'] at hpc; cases hpc; rfl
      have e4 : c = c1 := by rw [h1'] at hqc; cases hqc; rfl
      subst e3; subst e4
      exact hI.u3 p q c hp1 hq1 h0 h1

/-- Fewer objects, fewer rights. -/
theorem Inv.fewer {h' : Heap} (hI : Inv n0 K h w) (ho : ∀ i o, h'.get i = some o → h.get i = some o) (hr : ∀ r, r ∈ h'.rts → r ∈ h.rts) : Inv n0 K h' w :=
  ⟨hI.size, hI.pb, hI.mb, hI.tb, fun i o hg => hI.objs i o (ho i o hg), fun r hh => hI.rts r (hr r hh), fun i j o p b hi hj => hI.u1 i j o p b (ho _ _ hi) (ho _ _ hj), fun i o b r hi hm hh => hI.u2 i o b r (ho _ _ hi) hm (hr _ hh), fun r q b h1 h2 => hI.u3 r q b (hr _ h1) (hr _ h2), hI.pz, hI.mz⟩

theorem exists_new (h : Heap) : ∃ id : Id, h.get id = none := by
  have key : ∀ (l : List (Id × Obj)), ∃ n : Nat, ∀ m, n ≤ m → Heap.get.go (List.replicate m 0) l = none := fun l => by
    induction l with
    | nil => exact ⟨0, fun _ _ => rfl⟩
    | cons x r ih =>
      obtain ⟨n, hn⟩ := ih
      refine ⟨n + x.1.length + 1, fun m hm => ?_⟩
      simp only [Heap.get.go]
      rw [if_neg (fun e => by have := congrArg List.length e; simp at this; omega)]
      exact hn m (by omega)
  obtain ⟨n, hn⟩ := key h.objs
  exact ⟨List.replicate n 0, hn n (Nat.le_refl _)⟩

/-- A new row that nobody writes, with a right to lay cells behind it. -/
theorem Inv.allocRt (hI : Inv n0 K h w) (tk : Tok) (cs : Array Value) (E : TypeId) (cells : List AV) (e1 : Nat) (hf : K.bl tk = none) (hsz : cells.length ≤ cs.size) (hfl : ∀ x ∈ cells, x.flat = true)
    (hrep : ∀ (j : Nat) (c : AV), cells[j]? = some c → Rep K w c (cs.getD j undef)) (del : List Tok) :
    K.le ((K.put tk w.heap.size (e1, cs.size) cells.length).guard w.heap.size cells.length) ∧ Kept K w (w.alloc (.cells cs E)) ∧
      Inv n0 ((K.put tk w.heap.size (e1, cs.size) cells.length).guard w.heap.size cells.length) { h with rts := [tk] ++ h.rts.filter fun t => !del.contains t } (w.alloc (.cells cs E)) := by
  obtain ⟨id, hid⟩ := exists_new h
  obtain ⟨k1, k2, k3⟩ := hI.alloc id tk cs E cells 0 false e1 hf hsz hfl hrep (fun h => absurd rfl h)
  have hg : (h.upd id ⟨cells, 0, false, tk, .W⟩).get id = some ⟨cells, 0, false, tk, .W⟩ := by rw [Heap.get_upd, if_pos rfl]
  have hb : (K.put tk w.heap.size (e1, cs.size) cells.length).bl tk = some w.heap.size := by simp
  have k4 := k3.mark hg rfl hb .R (by decide)
  have hnp : ∀ i, ¬ (K.put tk w.heap.size (e1, cs.size) cells.length).prot w.heap.size i := fun i hi => by
    have := hI.pb _ _ (show K.prot w.heap.size i from hi)
    omega
  refine ⟨k1.trans (Kx.le_guard _ _ _), k2, ?_⟩
  have k5 := k4.addRight (r := tk) ⟨w.heap.size, cs, E, by show (K.put tk w.heap.size (e1, cs.size) cells.length).bl tk = _; simp, hI.size, heap_alloc_new _ _, by show ((K.put tk w.heap.size (e1, cs.size) cells.length).es tk).2 = _; simp, fun i hi => by
      show i < (K.put tk w.heap.size (e1, cs.size) cells.length).rn tk
      simp
      rcases hi with hi | ⟨_, hi⟩
      · exact absurd hi (hnp i)
      · exact hi⟩ (fun i o b hi hm hob hrb => by
        have e1 : b = w.heap.size := by
          have : (K.put tk w.heap.size (e1, cs.size) cells.length).bl tk = some b := hrb
          rw [hb] at this; cases this; rfl
        subst e1
        rw [Heap.get_upd] at hi
        split at hi
        · cases hi; exact hm rfl
        · rename_i hne
          have hi2 : (h.upd id ⟨cells, 0, false, tk, .W⟩).get i = some o := hi
          exact hne (k3.u1 id i _ o w.heap.size hg hi2 (fun h => by cases h) hm hb hob)) (fun q b hq hqb hrb => by
        have e1 : b = w.heap.size := by
          have : (K.put tk w.heap.size (e1, cs.size) cells.length).bl tk = some b := hrb
          rw [hb] at this; cases this; rfl
        subst e1
        exact (k3.u2 id _ w.heap.size q hg (fun h => by cases h) hq hb hqb).elim)
  refine k5.fewer (fun i o hi => ?_) (fun r hr => ?_)
  · have hne : id ≠ i := fun e => by
      subst e
      rw [show ({ objs := h.objs, rts := [tk] ++ h.rts.filter fun t => !del.contains t } : Heap).get id = h.get id from rfl, hid] at hi
      cases hi
    show ((h.upd id _).upd id _).get i = some o
    rw [Heap.get_upd, if_neg hne, Heap.get_upd, if_neg hne]
    exact hi
  · simp at hr ⊢
    rcases hr with rfl | ⟨hr, _⟩
    · exact .inl rfl
    · exact .inr hr

end Go.Aw

/-
  Append.
-/
namespace Go.Aw
open Go.RowKit

variable {P : Program} {n0 : Base} {K : Kx} {h : Heap} {w : World} {s : List AV} {a : Act} {tk : Tok}

/-- Cells behind cells. -/
theorem behind {xs cs : List AV} {olds news rest : List Value} (hl : olds.length = xs.length) (hlc : cs.length ≤ news.length) (h1 : ∀ (j : Nat) (c : AV), xs[j]? = some c → Rep K w c (olds.getD j undef)) (h2 : ∀ (j : Nat) (c : AV), cs[j]? = some c → Rep K w c (news.getD j undef)) :
    ∀ (j : Nat) (c : AV), (xs ++ cs)[j]? = some c → Rep K w c ((olds ++ news ++ rest).getD j undef) := fun j c hj => by
  by_cases hlt : j < xs.length
  · rw [List.getElem?_append_left hlt] at hj
    have := h1 j c hj
    rw [List.getD_eq_getElem?_getD] at this ⊢
    rw [List.append_assoc, List.getElem?_append_left (by omega)]
    exact this
  · rw [List.getElem?_append_right (by omega)] at hj
    have := h2 _ c hj
    have hj2 := (List.getElem?_eq_some_iff.1 hj).1
    rw [List.getD_eq_getElem?_getD] at this ⊢
    rw [List.append_assoc, List.getElem?_append_right (by omega), List.getElem?_append_left (by omega), hl]
    exact this

theorem updObjs_twice (id : Id) (o p : Obj) (l : List (Id × Obj)) : updObjs id p (updObjs id o l) = updObjs id p l := by
  induction l with
  | nil => simp [updObjs]
  | cons x r ih =>
    obtain ⟨i, q⟩ := x
    by_cases e : i = id
    · simp [updObjs, e]
    · simp [updObjs, e, ih]

theorem Heap.upd_upd (h : Heap) (id : Id) (o p : Obj) : (h.upd id o).upd id p = h.upd id p := by
  unfold Heap.upd; simp [updObjs_twice]

/-- A new row, written or shown already. -/
theorem out_allocM (hI : Inv n0 K h w) (id : Id) (hf : Fresh K tk) (cs : Array Value) (E : TypeId) (cells : List AV) (esz : Nat) (ag : Bool) (md : Md) (r : AV) (v : Value) (rd wr : List Id)
    (hsz : cells.length ≤ cs.size) (hfl : ∀ x ∈ cells, x.flat = true) (hrep : ∀ (j : Nat) (c : AV), cells[j]? = some c → Rep K w c (cs.getD j undef)) (he : esz ≠ 0 → (ag = false → esz = 1))
    (hv : Rep (K.put tk w.heap.size (esz, cs.size) cells.length) (w.alloc (.cells cs E)) r v) :
    Out n0 K w tk (h.act { v := r, up := [(id, ⟨cells, esz, ag, tk, md⟩)], rd, wr }) r v (w.alloc (.cells cs E)) := by
  obtain ⟨h1, h2, h3⟩ := hI.alloc id tk cs E cells esz ag esz (hf tk rfl rfl) hsz hfl hrep (fun h => ⟨rfl, he h⟩)
  rw [Heap.act_up1]
  have names : ∀ (t : Tok) (b : Nat), (K.put tk w.heap.size (esz, cs.size) cells.length).bl t = some b → K.bl t = some b ∨ (t.1 = tk.1 ∧ t.2.1 = tk.2.1) := fun t b ht => by
    rcases Kx.put_bl_inv ht with ⟨rfl, _⟩ | ht
    · exact .inr ⟨rfl, rfl⟩
    · exact .inl ht
  by_cases hW : md = .W
  · subst hW
    exact ⟨_, h1, h2, h3, hv, (Below.refl _ _).alloc hI.size _, names⟩
  · have hg : (h.upd id ⟨cells, esz, ag, tk, .W⟩).get id = some ⟨cells, esz, ag, tk, .W⟩ := by rw [Heap.get_upd, if_pos rfl]
    have hb : (K.put tk w.heap.size (esz, cs.size) cells.length).bl tk = some w.heap.size := by simp
    have h4 := h3.mark hg rfl hb md hW
    rw [Heap.upd_upd] at h4
    exact ⟨_, h1.trans (Kx.le_guard _ _ _), h2, h4, hv.mono (Kx.le_guard _ _ _) (.refl _ _), (Below.refl _ _).alloc hI.size _, names⟩

/-- Cells are laid behind a row's cells, in its place. -/
theorem out_behind (hI : Inv n0 K h w) {id : Id} {o : Obj} (hg : h.get id = some o) (hm : o.md ≠ .R) {b : Nat} (hb : K.bl o.t = some b) {cur : Array Value} {E : TypeId} (hh : w.heap[b]? = some (.cells cur E (0, 0)))
    (hf : Fresh K tk) {L : Nat} {cs : List AV} {news : List Value} (hL : L ≤ o.cells.length) (hmode : L = o.cells.length ∨ o.md = .W) (hl : cs.length = news.length) (hfit : L + news.length ≤ cur.size)
    (hrep : ∀ (j : Nat) (c : AV), cs[j]? = some c → Rep K w c (news.getD j undef)) (hfl : ∀ c ∈ cs, c.flat = true) (hz : o.esz ≠ 0) (r : AV) (v : Value) (rd wr : List Id)
    (hv : Rep (K.put tk b (o.esz, cur.size) (L + cs.length)) w r v) :
    Out n0 K w tk (h.act { v := r, up := [(id, { o with cells := o.cells.take L ++ cs, t := tk })], rd, wr }) r v (w.setRow b (cur.toList.take L ++ news ++ cur.toList.drop (L + news.length)).toArray) := by
  obtain ⟨b', cs', E', h1, g2, h3, h4, h5, h6, h7, h8, h9, h10⟩ := hI.objs id o hg
  have : b' = b := by rw [h1] at hb; cases hb; rfl
  subst this
  have : cs' = cur ∧ E' = E := by rw [hh] at h3; cases h3; exact ⟨rfl, rfl⟩
  obtain ⟨rfl, rfl⟩ := this
  generalize hnew : (cs'.toList.take L ++ news ++ cs'.toList.drop (L + news.length)).toArray = arr
  have hsz : arr.size = cs'.size := by rw [← hnew]; simp; omega
  have hheap := setRow_heap w b' cs' arr E' (0, 0) hh
  have hfresh : K.bl tk = none := hf tk rfl rfl
  have hput := Kx.le_put hfresh b' (o.esz, cs'.size) (L + cs.length)
  have hlen : (o.cells.take L ++ cs).length = L + cs.length := by simp; omega
  have hprot : ∀ i, K.prot b' i → i < L := fun i hi => by
    rcases hmode with hm' | hm'
    · cases hmd : o.md with
      | W => exact absurd hi (h8 hmd i)
      | F => rw [hm']; exact h9 hmd i hi
      | R => exact absurd hmd hm
    · exact absurd hi (h8 hm' i)
  have same : ∀ i v, K.prot b' i → cs'[i]? = some v → arr[i]? = some v := fun i v hp hv => by
    have hi := hprot i hp
    rw [← hnew, List.getElem?_toArray, List.append_assoc, List.getElem?_append_left (by simp; omega), List.getElem?_take, if_pos hi]
    simpa using hv
  have hkept : Kept K w (w.setRow b' arr) := ⟨fun c i x hc hx => by
    by_cases e : c = b'
    · subst e
      rw [cell_at hheap]
      rw [cell_at hh] at hx
      exact same i x hc hx
    · rw [cell_setRow_other w b' arr _ (by simpa using e)]; exact hx, fun c es t _ hx => by
    by_cases e : c = b'
    · subst e; rw [hh] at hx; cases hx
    · rw [setRow_other w b' c arr e]; exact hx⟩
  have cellsRep : ∀ (j : Nat) (c : AV), (o.cells.take L ++ cs)[j]? = some c → Rep K w c (arr.getD j undef) := fun j c hj => by
    rw [← hnew, Array.getD_eq_getD_getElem?, List.getElem?_toArray, ← List.getD_eq_getElem?_getD]
    refine behind (olds := cs'.toList.take L) (by simp; omega) (by omega) (fun j c hj => ?_) hrep j c hj
    rw [List.getElem?_take] at hj
    split at hj
    · rename_i hlt
      have := h7 j c hj
      rw [Array.getD_eq_getD_getElem?] at this
      rw [List.getD_eq_getElem?_getD, List.getElem?_take, if_pos hlt]
      simpa using this
    · cases hj
  have cellsFlat : ∀ x ∈ o.cells.take L ++ cs, x.flat = true := fun x hx => by
    rcases List.mem_append.1 hx with hx | hx
    · exact h6.2.2 x (List.mem_of_mem_take hx)
    · exact hfl x hx
  have names : ∀ (t : Tok) (b : Nat), (K.put tk b' (o.esz, cs'.size) (L + cs.length)).bl t = some b → K.bl t = some b ∨ (t.1 = tk.1 ∧ t.2.1 = tk.2.1) := fun t b ht => by
    rcases Kx.put_bl_inv ht with ⟨rfl, _⟩ | ht
    · exact .inr ⟨rfl, rfl⟩
    · exact .inl ht
  have below : Below n0 w (w.setRow b' arr) := ⟨rfl, rfl, rfl, by simp, fun i hi => setRow_other w b' i arr (by omega)⟩
  rw [Heap.act_up1]
  by_cases hW : o.md = .W
  · have key := hI.turn (w' := w.setRow b' arr) (K' := K.put tk b' (o.esz, cs'.size) (L + cs.length)) (o' := { o with cells := o.cells.take L ++ cs, t := tk }) hg hm h1 h3 (setRow_size _ _ _) hheap hsz (fun c hc => setRow_other w b' c arr hc)
      same hput (fun c i hp => .inr hp) (fun c hc => hc) (fun t c hc => (Kx.put_bl_inv hc).elim (fun h => .inr h) .inl)
      ⟨b', arr, E', by simp, g2, hheap, by simp [hsz], fun _ => ⟨by simp, (h5 hz).2⟩, ⟨by rw [hlen, hsz]; omega, by simp [hlen], cellsFlat⟩, fun j c hj => (cellsRep j c hj).mono hput hkept, fun _ i hp => h8 hW i hp, fun hF => (by
        have : o.md = .F := hF
        rw [hW] at this; cases this), fun hF => absurd hW hF⟩ (by simp)
    exact ⟨_, hput, key.1, key.2, hv.mono (K := K.put tk b' (o.esz, cs'.size) (L + cs.length)) (Kx.le.refl _) ⟨fun c i v hc hv => hkept.cell c i v hc hv, fun c es t hc hv => hkept.map c es t hc hv⟩, below, names⟩
  · have hLo : L = o.cells.length := hmode.resolve_right hW
    have hF : o.md = .F := by cases hmd : o.md with
      | W => exact absurd hmd hW
      | F => rfl
      | R => exact absurd hmd hm
    have hK := hput.trans (Kx.le_guard (K.put tk b' (o.esz, cs'.size) (L + cs.length)) b' (L + cs.length))
    have key := hI.turn (w' := w.setRow b' arr) (K' := (K.put tk b' (o.esz, cs'.size) (L + cs.length)).guard b' (L + cs.length)) (o' := { o with cells := o.cells.take L ++ cs, t := tk }) hg hm h1 h3 (setRow_size _ _ _) hheap hsz (fun c hc => setRow_other w b' c arr hc)
      same hK (fun c i hp => hp.elim (fun h => .inr h) (fun h => .inl h.1)) (fun c hc => hc) (fun t c hc => (Kx.put_bl_inv (show (K.put tk b' (o.esz, cs'.size) (L + cs.length)).bl t = some c from hc)).elim (fun h => .inr h) .inl)
      ⟨b', arr, E', by show (K.put tk b' (o.esz, cs'.size) (L + cs.length)).bl tk = _; simp, g2, hheap, by show ((K.put tk b' (o.esz, cs'.size) (L + cs.length)).es tk).2 = _; simp [hsz],
        fun _ => ⟨by show ((K.put tk b' (o.esz, cs'.size) (L + cs.length)).es tk).1 = _; simp, (h5 hz).2⟩, ⟨by rw [hlen, hsz]; omega, by show (K.put tk b' (o.esz, cs'.size) (L + cs.length)).rn tk = _; simp [hlen], cellsFlat⟩,
        fun j c hj => (cellsRep j c hj).mono hK hkept, fun hW' => absurd hW' hW, fun _ i hp => by
          rw [hlen]
          rcases hp with hp | ⟨_, hp⟩
          · have := hprot i hp; omega
          · exact hp, fun _ i hi => .inr ⟨rfl, by rw [hlen] at hi; exact hi⟩⟩ (by show (K.put tk b' (o.esz, cs'.size) (L + cs.length)).bl tk = _; simp)
    have hv2 : Rep (K.put tk b' (o.esz, cs'.size) (L + cs.length)) (w.setRow b' arr) r v := hv.mono (K := K.put tk b' (o.esz, cs'.size) (L + cs.length)) (Kx.le.refl _) ⟨fun c i v hc hv => hkept.cell c i v hc hv, fun c es t hc hv => hkept.map c es t hc hv⟩
    exact ⟨_, hK, key.1, key.2, hv2.mono (Kx.le_guard _ _ _) (.refl _ _), below, names⟩

end Go.Aw

/-
  Append: the operation.
-/
namespace Go.Aw
open Go.RowKit

variable {P : Program} {n0 : Base} {K : Kx} {h : Heap} {w : World} {s : List AV} {a : Act} {tk : Tok}

theorem source_len {esz n : Nat} {y : AV} {cs : List AV} {rd : List Id} (hs : source h esz y = some (cs, n, rd)) :
    (y = .nil ∧ n = 0) ∨ (∃ vs, y = .list vs ∧ n = vs.length) ∨ (∃ vs r, y = .rl vs r ∧ n = vs.length) ∨ ∃ i t off, y = .sl i t off n := by
  unfold source at hs
  split at hs
  · cases hs; exact .inl ⟨rfl, rfl⟩
  · cases hs; exact .inr (.inl ⟨_, rfl, rfl⟩)
  · cases hs; exact .inr (.inr (.inl ⟨_, _, rfl, rfl⟩))
  · split at hs
    · split at hs
      · cases hs; exact .inr (.inr (.inr ⟨_, _, _, rfl⟩))
      · cases hs
    · cases hs
  · cases hs

theorem grown_size {olds news : List Value} {z : Array Value} {sz m n cap : Nat} (h1 : olds.length = m * sz) (h2 : news.length = n * sz) (h3 : z.size = sz) (h4 : m + n ≤ cap) :
    (olds.toArray ++ news.toArray ++ Builtin.zeroCells z (cap - (m + n))).size = cap * sz := by
  simp only [Array.size_append, List.size_toArray, size_zeroCells, h1, h2, h3, ← Nat.add_mul]
  congr 1
  omega

theorem getD_three (olds news : List Value) (rest : Array Value) (j : Nat) : (olds.toArray ++ news.toArray ++ rest).getD j undef = (olds ++ news ++ rest.toList).getD j undef := by
  rw [Array.getD_eq_getD_getElem?, List.getD_eq_getElem?_getD, ← Array.getElem?_toList]
  simp

/-- A row with a right, grown. -/
theorem rl_rep {K' : Kx} {w' : World} {vs ys : List AV} {sz n b cap : Nat} {olds news rest : List Value} (hvs : ∀ e ∈ vs, e.cells.length = sz) (hys : ∀ e ∈ ys, e.cells.length = sz) (hn : ys.length = n)
    (ho : olds.length = vs.length * sz) (hnl : news.length = n * sz) (r1 : ∀ (j : Nat) (c : AV), (vs.flatMap AV.cells)[j]? = some c → Rep K'.bare w' c (olds.getD j undef) ∧ c.flat = true)
    (r2 : ∀ (j : Nat) (c : AV), (ys.flatMap AV.cells)[j]? = some c → Rep K'.bare w' c (news.getD j undef) ∧ c.flat = true) (hc : vs.length + n ≤ cap) (hm : cap ≤ maxLen) (hb : K'.bl tk = some b) (he : (K'.es tk).1 = sz) (hez : cap * sz ≤ (K'.es tk).2) (hrn : K'.rn tk = (vs.length + n) * sz)
    (hp : ∀ j, j < (vs.length + n) * sz → K'.prot b j) (hcell : ∀ j, j < (vs.length + n) * sz → w'.cell? ⟨b, j, none⟩ = some ((olds ++ news ++ rest).getD j undef)) :
    Rep K' w' (.rl (vs ++ ys) tk) (.slice (some ⟨b, 0, none⟩) (vs.length + n) cap) := by
  have flen : ∀ (l : List AV), (∀ e ∈ l, e.cells.length = sz) → (l.flatMap AV.cells).length = l.length * sz := fun l hl => by
    induction l with
    | nil => simp
    | cons x r ih => simp only [List.flatMap_cons, List.length_append, hl x (by simp), ih (fun e he => hl e (by simp [he])), List.length_cons, Nat.succ_mul]; omega
  have hl : ((vs ++ ys).flatMap AV.cells).length = (vs.length + n) * sz := by rw [flen _ (fun e he => (List.mem_append.1 he).elim (hvs e) (hys e))]; simp [hn]
  have hlen : (vs ++ ys).length = vs.length + n := by simp [hn]
  have hrep : ∀ (j : Nat) (c : AV), ((vs ++ ys).flatMap AV.cells)[j]? = some c → Rep K'.bare w' c ((olds ++ news ++ rest).getD j undef) := by
    rw [List.flatMap_append]
    exact behind (by rw [ho, flen _ hvs]) (by rw [hnl, flen _ hys, hn]; exact Nat.le_refl _) (fun j c hj => (r1 j c hj).1) (fun j c hj => (r2 j c hj).1)
  rw [← hlen]
  refine .rl (vs ++ ys) tk cap sz b (fun j => (olds ++ news ++ rest).getD j undef) (by omega) hm (fun c hc => ?_) (fun e he => (List.mem_append.1 he).elim (hvs e) (hys e)) hb he hez (by rw [hrn, hl]) (fun j c hj => ?_) hrep
  · rw [List.flatMap_append] at hc
    rcases List.mem_append.1 hc with hc | hc
    · obtain ⟨j, hj⟩ := mem_getElem? hc; exact (r1 j c hj).2
    · obtain ⟨j, hj⟩ := mem_getElem? hc; exact (r2 j c hj).2
  · have := (List.getElem?_eq_some_iff.1 hj).1
    rw [hl] at this
    exact ⟨hp j this, hcell j this⟩

theorem append_act (o : Oper) (c : Call) (ho : o.op = .call c) (hb : c.callee = .builtin .append) (x y : Operand) (hx1 : c.args = #[x, y]) (t : TypeId) (ht1 : c.argTypes = #[t, t]) {v : Value} {w' : World}
    (hr : (Builtin.append_ #[t, t] o.type #[a.eval x, a.eval y]).run P w = .ok v w') : Comes1 P a o w v w' := by
  left
  rw [exec_builtin o .append c ho hb, hx1, ht1]
  simp [builtin, hr]

theorem ok_append (hs : Slots K w s a.tmps) (hI : Inv n0 K h w) (hf : Fresh K tk) (o : Oper) (c : Call) (ho : o.op = .call c) (hb : c.callee = .builtin .append) (x y : Operand) (hx1 : c.args = #[x, y]) (t el : TypeId) (ht1 : c.argTypes = #[t, t])
    {u : Ty} (ht : P.underlying t = some (.slice el)) (hc : cTy P el = some u) {call : FuncId → List AV → Option AV} {own : FuncId → Option Ty} {id : Id} {e : Ev} (he : evOp call own s h id tk (.append u (cX x) (cX y)) = some e) :
    ∃ v w', Comes1 P a o w v w' ∧ Out n0 K w tk (h.act e) e.v v w' := by
  have hx := rep_X hs x
  have hy := rep_X hs y
  simp only [evOp, aappend] at he
  split at he
  case h_2 => cases he
  rename_i cs n rd hsrc
  have hbd : bound = 140737488355328 := rfl
  have hmx : maxLen = 9223372036854775807 := rfl
  unfold append1 at he
  split at he
  · -- nothing is appended
    rename_i hn0
    subst hn0
    obtain ⟨p, c', hy'⟩ := hy.slice_len (source_len hsrc)
    split at he
    · cases he
      rename_i hxv
      rw [hxv] at hx
      refine ⟨_, w, append_act o c ho hb x y hx1 t ht1 (v := .slice none 0 0) (w' := w) ?_, ?_⟩
      · rw [hx.nil_inv, hy']; exact run_none ht hc (Nat.le_refl _)
      · rw [Heap.act_pure _ _ rfl rfl rfl]; exact Out.pure hI .nil
    · cases he
      rename_i vs hxv
      rw [hxv] at hx
      have hx0 := hx
      obtain ⟨q, cap, _, _, _, _, e1, e2, _⟩ := hx0.list_inv
      refine ⟨_, w, append_act o c ho hb x y hx1 t ht1 (v := .slice q vs.length cap) (w' := w) ?_, ?_⟩
      · rw [e1, hy']; exact run_none ht hc e2
      · rw [Heap.act_pure _ _ rfl rfl rfl]; rw [e1] at hx; exact Out.pure hI hx
    · cases he
      rename_i vs r hxv
      rw [hxv] at hx
      have hx0 := hx
      obtain ⟨cap, _, b, _, e1, e2, _⟩ := hx0.rl_inv
      refine ⟨_, w, append_act o c ho hb x y hx1 t ht1 (v := .slice (some ⟨b, 0, none⟩) vs.length cap) (w' := w) ?_, ?_⟩
      · rw [e1, hy']; exact run_none ht hc e2
      · rw [Heap.act_pure _ _ rfl rfl rfl]; rw [e1] at hx; exact Out.pure hI hx
    · cases he
      rename_i i t' off len hxv
      rw [hxv] at hx
      have hx0 := hx
      obtain ⟨b, cap, _, e1, e2, _⟩ := hx0.sl_inv
      refine ⟨_, w, append_act o c ho hb x y hx1 t ht1 (v := .slice (some ⟨b, off, none⟩) len cap) (w' := w) ?_, ?_⟩
      · rw [e1, hy']; exact run_none ht hc e2
      · rw [Heap.act_pure _ _ rfl rfl rfl]; rw [e1] at hx; exact Out.pure hI hx
    · cases he
  · rename_i hn0
    split at he
    case isFalse => cases he
    rename_i hcond
    obtain ⟨hcl, hz, hone, hnb⟩ := hcond
    obtain ⟨p, c', news, hy', src⟩ := source_ok hI hy hsrc hcl hz
    have hag1 : u.ag = false → u.sz = 1 := by
      obtain ⟨_, _, _, _, _, _, _, _, _, _, h1, _⟩ := cTy_spec hc
      exact h1
    have honev := src.one hcl hone
    have hat := src.at_ hn0
    split at he
    · -- onto nil
      split at he
      case isFalse => cases he
      rename_i hfit
      cases he
      rename_i hxv
      rw [hxv] at hx
      obtain ⟨z, hzs, hrun⟩ := run_grow (ty := o.type) ht hc src.len hat (base := none) (sLen := 0) (sCap := 0) (olds := []) (by simp) (.inl ⟨rfl, rfl, rfl⟩) (by omega) (by omega) hnb (by simpa using hfit)
      have hge := grownCap_ge w (0 + n) 0 el
      have hle := grownCap_le_maxLen w (0 + n) 0 el (by omega)
      have hsize := grown_size (olds := []) (z := z.cells) (m := 0) (by simp) src.len hzs hge
      refine ⟨_, _, append_act o c ho hb x y hx1 t ht1 (by rw [hx.nil_inv, hy']; exact hrun), Out.drew ?_⟩
      have hI' := hI.drew.2
      refine out_allocM hI' id hf _ el cs u.sz u.ag .W _ _ _ _ (by rw [hsize, hcl]; exact Nat.mul_le_mul_right _ (by omega)) src.flat (fun j c hj => ?_) (fun _ => hag1) ?_
      · rw [getD_three]
        exact (behind (xs := []) (olds := []) rfl (by rw [hcl, src.len]; exact Nat.le_refl _) (fun j c hj => by simp at hj) src.rep j c hj).mono (.refl K) hI.drew.1
      · rw [Nat.zero_add] at hge hle hsize ⊢
        refine Rep.sl id tk 0 n _ w.heap.size (by simp) hge hle ?_
        simp only [Kx.put_es]
        rw [hsize]; simp
    · -- onto a row of one's own
      rename_i i t' off len hxv
      split at he
      case h_2 => cases he
      rename_i ob hrow
      split at he
      case isFalse => cases he
      rename_i hcond
      obtain ⟨rfl, hlen, hesz, hag, hfit, hL, hmode⟩ := hcond
      cases he
      rw [hxv] at hx
      obtain ⟨b, cap, hbt, hxe, hcap, hcapm, hcapz⟩ := hx.sl_inv
      obtain ⟨hget, ht0⟩ := row_spec hrow
      have hbo : K.bl ob.t = some b := by rw [ht0]; exact hbt
      obtain ⟨cur, E, hheap, hes2, hes1, hol, hcell, _⟩ := hI.cells hrow hbt
      have hz' : ob.esz ≠ 0 := by rw [hesz]; exact hz
      have hcs : cap * u.sz ≤ cur.size := by rw [(hes1 hz').1, hesz, hes2] at hcapz; omega
      have hm : ob.md ≠ .R := by rcases hmode with hm | hm; exact hm.2; rw [hm]; decide
      by_cases hroom : len + n ≤ cap
      · have hfit2 : len * u.sz + news.length ≤ cur.size := by rw [src.len, ← Nat.add_mul]; exact Nat.le_trans (Nat.mul_le_mul_right _ hroom) hcs
        have hrun := run_room (ty := o.type) ht hc (c := c') src.len hat honev hheap hroom hfit2
        refine ⟨_, _, append_act o c ho hb x y hx1 t ht1 (by rw [hxe, hy']; exact hrun), ?_⟩
        refine out_behind hI hget hm hbo hheap hf hL (hmode.imp And.left (fun h => h)) (by rw [hcl, src.len]) hfit2 src.rep src.flat hz' _ _ _ _ ?_
        refine .sl i tk 0 (len + n) cap b (by simp) hroom hcapm ?_
        simp only [Kx.put_es]
        rw [hesz]; omega
      · obtain ⟨z, hzs, hrun⟩ := run_grow (ty := o.type) ht hc src.len (c := c') hat (base := some ⟨b, 0, none⟩) (sLen := len) (sCap := cap) (olds := cur.toList.take (len * u.sz)) (by simp; omega)
          (.inr ⟨b, 0, rfl, fun j v hj => by
            rw [Nat.zero_add, cell_at hheap]
            rw [List.getElem?_take] at hj
            split at hj
            · simpa using hj
            · cases hj⟩) (by omega) hlen hnb hfit
        have hge := grownCap_ge w (len + n) cap el
        have hle := grownCap_le_maxLen w (len + n) cap el (by omega)
        have hsize := grown_size (olds := cur.toList.take (len * u.sz)) (z := z.cells) (m := len) (by simp; omega) src.len hzs hge
        refine ⟨_, _, append_act o c ho hb x y hx1 t ht1 (by rw [hxe, hy']; exact hrun), Out.drew ?_⟩
        have hI' := hI.drew.2
        refine out_allocM hI' i hf _ el _ ob.esz ob.ag ob.md _ _ _ _ ?_ (fun c hc => ?_) (fun j c hj => ?_) (fun _ h => by rw [hesz]; exact hag1 (by rw [← hag]; exact h)) ?_
        · rw [hsize, List.length_append, List.length_take, hcl, Nat.min_eq_left hL, ← Nat.add_mul]; exact Nat.mul_le_mul_right _ hge
        · rcases List.mem_append.1 hc with hc | hc
          · exact hol.2.2 c (List.mem_of_mem_take hc)
          · exact src.flat c hc
        · rw [getD_three]
          refine (behind (by simp; omega) (by rw [hcl, src.len]; exact Nat.le_refl _) (fun j c hj => ?_) src.rep j c hj).mono (.refl K) hI.drew.1
          rw [List.getElem?_take] at hj
          split at hj
          · rename_i hlt
            have := (hcell j c hj).2
            rw [Array.getD_eq_getD_getElem?] at this
            rw [List.getD_eq_getElem?_getD, List.getElem?_take, if_pos hlt]
            simpa using this
          · cases hj
        · refine Rep.sl i tk 0 (len + n) _ w.heap.size (by simp) hge hle ?_
          simp only [Kx.put_es]
          rw [hsize, hesz]; simp
    · -- onto a shown row with a right
      rename_i vs r hxv
      split at he
      case isFalse => cases he
      rename_i hcond
      obtain ⟨hr, hne, hlen, hfit, hvl⟩ := hcond
      split at he
      case h_2 => cases he
      rename_i ys hm
      cases he
      rw [hxv] at hx
      have hr' : r ∈ h.rts := by simpa using hr
      obtain ⟨cap, sz, b, val, hxe, hcap, hcapm, hsz, hbt, hes1, hes2, hrn, hv, hrep, hfl⟩ := hx.rl_inv
      have hszu : sz = u.sz := by
        have flen : ∀ (l : List AV), (∀ e ∈ l, e.cells.length = sz) → (l.flatMap AV.cells).length = l.length * sz := fun l hl => by
          induction l with
          | nil => simp
          | cons x r ih => simp only [List.flatMap_cons, List.length_append, hl x (by simp), ih (fun e he => hl e (by simp [he])), List.length_cons, Nat.succ_mul]; omega
        have := flen vs hsz
        rw [hvl] at this
        exact (Nat.eq_of_mul_eq_mul_left (by cases vs; exact absurd rfl hne; simp) this).symm
      subst hszu
      obtain ⟨rb, cur, E, q1, q2, q3, q4, q5⟩ := hI.rts r hr'
      have : rb = b := by rw [hbt] at q1; cases q1; rfl
      subst this
      have hcs : cap * u.sz ≤ cur.size := by rw [← q4]; exact hes2
      obtain ⟨y1, y2, y3⟩ := group_tree hI (val := fun j => news.getD j undef) (ids := []) hcl hag1 src.flat src.rep hm (fun i hi => hi)
      have y3' : ∀ (p : Nat) (c : AV), (ys.flatMap AV.cells)[p]? = some c → Rep K.bare w c (news.getD p undef) ∧ c.flat = true := fun p c hp => ⟨(y3 p c hp).1.mono (cover_nil_le K h).bare (.refl _ _), (y3 p c hp).2⟩
      have curv : ∀ j, j < vs.length * u.sz → cur[j]? = some (val j) := fun j hj => by
        rw [← hvl] at hj
        have := (hv j _ (List.getElem?_eq_getElem hj)).2
        rw [cell_at q3] at this
        exact this
      have r1 : ∀ (j : Nat) (c : AV), (vs.flatMap AV.cells)[j]? = some c → Rep K.bare w c ((cur.toList.take (vs.length * u.sz)).getD j undef) ∧ c.flat = true := fun j c hj => by
        have hlt : j < vs.length * u.sz := by rw [← hvl]; exact (List.getElem?_eq_some_iff.1 hj).1
        refine ⟨?_, hfl c (List.mem_of_getElem? hj)⟩
        rw [List.getD_eq_getElem?_getD, List.getElem?_take, if_pos hlt, Array.getElem?_toList, curv j hlt]
        exact hrep j c hj
      have hfresh : K.bl tk = none := hf tk rfl rfl
      have hvn : K.rn r ≤ (vs.length + n) * u.sz := by rw [hrn, hvl]; exact Nat.mul_le_mul_right _ (by omega)
      have names : ∀ (b' : Nat) (e' : Nat × Nat) (m : Nat) (t : Tok) (b : Nat), ((K.put tk b' e' m).guard b' m).bl t = some b → K.bl t = some b ∨ (t.1 = tk.1 ∧ t.2.1 = tk.2.1) := fun b' e' m t b ht => by
        rcases Kx.put_bl_inv (show (K.put tk b' e' m).bl t = some b from ht) with ⟨rfl, _⟩ | ht
        · exact .inr ⟨rfl, rfl⟩
        · exact .inl ht
      have hact : ∀ (g : Heap), g.act { v := .rl (vs ++ ys) tk, del := [r], add := [tk], rd := [] :: rd, wr := [[]] } = { g with rts := [tk] ++ g.rts.filter fun t => !([r] : List Tok).contains t } := fun g => by
        unfold Heap.act; simp [Heap.ups]
      by_cases hroom : vs.length + n ≤ cap
      · have hfit2 : vs.length * u.sz + news.length ≤ cur.size := by rw [src.len, ← Nat.add_mul]; exact Nat.le_trans (Nat.mul_le_mul_right _ hroom) hcs
        have hrun := run_room (ty := o.type) ht hc (c := c') src.len hat honev q3 hroom hfit2
        refine ⟨_, _, append_act o c ho hb x y hx1 t ht1 (by rw [hxe, hy']; exact hrun), ?_⟩
        generalize hnew : (cur.toList.take (vs.length * u.sz) ++ news ++ cur.toList.drop (vs.length * u.sz + news.length)).toArray = arr
        have hasz : arr.size = cur.size := by rw [← hnew]; simp; omega
        have hheap := setRow_heap w rb cur arr E (0, 0) q3
        have same : ∀ i v, K.prot rb i → cur[i]? = some v → arr[i]? = some v := fun i v hp hv => by
          have hi : i < vs.length * u.sz := by have := q5 i hp; rw [hrn, hvl] at this; exact this
          rw [← hnew, List.getElem?_toArray, List.append_assoc, List.getElem?_append_left (by simp; omega), List.getElem?_take, if_pos hi]
          simpa using hv
        obtain ⟨k1, k2, k3⟩ := hI.turnRt (tk := tk) hr' hbt q3 (setRow_size _ _ _) hheap hasz (fun c hc => setRow_other w rb c arr hc) same hfresh hvn
        rw [hact]
        refine ⟨_, k1, k2, k3, ?_, ⟨rfl, rfl, rfl, by simp, fun i hi => setRow_other w rb i arr (by omega)⟩, names _ _ _⟩
        refine rl_rep (olds := cur.toList.take (vs.length * u.sz)) (rest := cur.toList.drop (vs.length * u.sz + news.length)) hsz y2 y1 (by simp; omega) src.len (fun j c hj => ⟨(r1 j c hj).1.mono k1.bare k2.bare, (r1 j c hj).2⟩) (fun j c hj => ⟨(y3' j c hj).1.mono k1.bare k2.bare, (y3' j c hj).2⟩) hroom hcapm
          (by show (K.put tk rb (K.es r) ((vs.length + n) * u.sz)).bl tk = _; simp) (by show ((K.put tk rb (K.es r) ((vs.length + n) * u.sz)).es tk).1 = _; simp; exact hes1) (by show _ ≤ ((K.put tk rb (K.es r) ((vs.length + n) * u.sz)).es tk).2; simp; exact hes2) (by show (K.put tk rb (K.es r) ((vs.length + n) * u.sz)).rn tk = _; simp) (fun j hj => .inr ⟨rfl, hj⟩) (fun j hj => ?_)
        rw [cell_at hheap, ← hnew, List.getElem?_toArray, List.getD_eq_getElem?_getD]
        have hj2 : j < (cur.toList.take (vs.length * u.sz) ++ news ++ cur.toList.drop (vs.length * u.sz + news.length)).length := by
          rw [Nat.add_mul, ← src.len] at hj
          simp; omega
        rw [List.getElem?_eq_getElem hj2]
        rfl
      · obtain ⟨z, hzs, hrun⟩ := run_grow (ty := o.type) ht hc src.len (c := c') hat (base := some ⟨rb, 0, none⟩) (sLen := vs.length) (sCap := cap) (olds := cur.toList.take (vs.length * u.sz)) (by have h0 : vs.length * u.sz ≤ cap * u.sz := Nat.mul_le_mul_right _ hcap; simp; omega)
          (.inr ⟨rb, 0, rfl, fun j v hj => by
            rw [Nat.zero_add, cell_at q3]
            rw [List.getElem?_take] at hj
            split at hj
            · simpa using hj
            · cases hj⟩) (by omega) hlen hnb hfit
        have hge := grownCap_ge w (vs.length + n) cap el
        have hle := grownCap_le_maxLen w (vs.length + n) cap el (by omega)
        have hol : (cur.toList.take (vs.length * u.sz)).length = vs.length * u.sz := by
          have : vs.length * u.sz ≤ cap * u.sz := Nat.mul_le_mul_right _ hcap
          simp; omega
        have hsize := grown_size (z := z.cells) hol src.len hzs hge
        refine ⟨_, _, append_act o c ho hb x y hx1 t ht1 (by rw [hxe, hy']; exact hrun), Out.drew ?_⟩
        obtain ⟨d1, d2⟩ := hI.drew
        generalize hnew : ((cur.toList.take (vs.length * u.sz)).toArray ++ news.toArray ++ Builtin.zeroCells z.cells (grownCap w (vs.length + n) cap el - (vs.length + n))) = arr at hsize
        have hcl2 : (vs.flatMap AV.cells ++ cs).length = (vs.length + n) * u.sz := by rw [List.length_append, hvl, hcl, Nat.add_mul]
        obtain ⟨k1, k2, k3⟩ := d2.allocRt tk arr el (vs.flatMap AV.cells ++ cs) u.sz hfresh (by rw [hsize, hcl2]; exact Nat.mul_le_mul_right _ hge) (fun c hc => (List.mem_append.1 hc).elim (hfl c) (src.flat c)) (fun j c hj => by
          rw [← hnew, getD_three]
          exact (behind (by rw [hol, hvl]) (by rw [hcl, src.len]; exact Nat.le_refl _) (fun j c hj => (r1 j c hj).1.unbare) src.rep j c hj).mono (.refl K) d1) [r]
        rw [hact]
        rw [hcl2] at k1 k3
        refine ⟨_, k1, k2, k3, ?_, (Below.refl n0 w.drew).alloc d2.size _, names _ _ _⟩
        refine rl_rep (olds := cur.toList.take (vs.length * u.sz)) (rest := (Builtin.zeroCells z.cells (grownCap w (vs.length + n) cap el - (vs.length + n))).toList) hsz y2 y1 hol src.len (fun j c hj => ⟨((r1 j c hj).1.mono (.refl _) d1.bare).mono k1.bare k2.bare, (r1 j c hj).2⟩) (fun j c hj => ⟨((y3' j c hj).1.mono (.refl _) d1.bare).mono k1.bare k2.bare, (y3' j c hj).2⟩) hge hle
          (by show (K.put tk w.heap.size (u.sz, arr.size) ((vs.length + n) * u.sz)).bl tk = _; simp) (by show ((K.put tk w.heap.size (u.sz, arr.size) ((vs.length + n) * u.sz)).es tk).1 = _; simp) (by show _ ≤ ((K.put tk w.heap.size (u.sz, arr.size) ((vs.length + n) * u.sz)).es tk).2; simp [hsize]) (by show (K.put tk w.heap.size (u.sz, arr.size) ((vs.length + n) * u.sz)).rn tk = _; simp) (fun j hj => .inr ⟨rfl, hj⟩) (fun j hj => ?_)
        rw [show (⟨w.heap.size, j, none⟩ : Addr) = ⟨w.drew.heap.size, j, none⟩ from rfl, cell_at (heap_alloc_new w.drew (.cells arr el))]
        have hj2 : j < arr.size := by rw [hsize]; exact Nat.lt_of_lt_of_le hj (Nat.mul_le_mul_right _ hge)
        rw [← getD_three, hnew, Array.getD_eq_getD_getElem?, Array.getElem?_eq_getElem hj2]
        rfl
    · cases he

end Go.Aw
