/- Walks of this program by an abstract machine: the text Sc0. No conditions. -/
import GoSem.Core.Value
set_option linter.unusedSimpArgs false
set_option linter.unusedVariables false

/-
  Streams: the first of a name, the first difference; what comparing does.
-/
namespace Go.Sc

abbrev Strm := ByteArray × List Int × Unit
def nm (x : Strm) : ByteArray := x.1
def wd (x : Strm) : List Int := x.2.1

/-- The first difference of two lists. -/
def diff : List Int → List Int → Option Nat
  | x :: a, y :: b => if x = y then (diff a b).map (· + 1) else some 0
  | _, _ => none

theorem diff_comm : ∀ a b, diff a b = diff b a
  | [], [] => rfl
  | [], _ :: _ => rfl
  | _ :: _, [] => rfl
  | x :: a, y :: b => by
    unfold diff
    rw [diff_comm a b]
    by_cases h : x = y
    · rw [if_pos h, if_pos h.symm]
    · rw [if_neg h, if_neg (fun e => h e.symm)]

theorem diff_self : ∀ a, diff a a = none
  | [] => rfl
  | x :: a => by unfold diff; rw [if_pos rfl, diff_self a]; rfl

theorem diff_take_l : ∀ (k : Nat) (a b : List Int), diff (a.take k) b = (diff a b).filter (fun i => decide (i < k))
  | 0, a, b => by
    simp only [List.take_zero]
    cases b <;> simp [diff, Option.filter]
    all_goals cases (diff a _) <;> rfl
  | k + 1, [], b => by cases b <;> simp [diff]
  | k + 1, x :: a, [] => by simp [diff]
  | k + 1, x :: a, y :: b => by
    simp only [List.take_succ_cons, diff]
    by_cases h : x = y
    · simp only [if_pos h, diff_take_l k a b]
      cases diff a b with
      | none => rfl
      | some i => by_cases hi : i < k <;> simp [Option.filter, hi]
    · simp only [if_neg h]
      simp [Option.filter]

theorem diff_take_r (k : Nat) (a b : List Int) : diff a (b.take k) = (diff a b).filter (fun i => decide (i < k)) := by
  rw [diff_comm, diff_take_l, diff_comm]

/-- The first difference, as a search from an index on. -/
theorem diff_get : ∀ (a b : List Int) (i : Nat), (∀ j, j < i → a[j]? = b[j]? ∧ j < a.length) → i < a.length → i < b.length → a[i]? ≠ b[i]? → diff a b = some i
  | [], _, i, _, ha, _, _ => by simp at ha
  | _ :: _, [], i, _, _, hb, _ => by simp at hb
  | x :: a, y :: b, 0, _, _, _, h => by
    unfold diff
    rw [if_neg (by simpa using h)]
  | x :: a, y :: b, i + 1, hp, ha, hb, h => by
    unfold diff
    have h0 := (hp 0 (by omega)).1
    rw [if_pos (by simpa using h0), diff_get a b i (fun j hj => by have := hp (j + 1) (by omega); simpa using this) (by simpa using ha) (by simpa using hb) (by simpa using h)]
    rfl

theorem diff_none : ∀ (a b : List Int), (∀ j, j < a.length → j < b.length → a[j]? = b[j]?) → diff a b = none
  | [], _, _ => by simp [diff]
  | _ :: _, [], _ => by simp [diff]
  | x :: a, y :: b, hp => by
    unfold diff
    have h0 := hp 0 (by simp) (by simp)
    rw [if_pos (by simpa using h0), diff_none a b (fun j h1 h2 => by have := hp (j + 1) (by simpa using h1) (by simpa using h2); simpa using this)]
    rfl

/-- The first of a name. -/
def firstOf (l : List Strm) (n : ByteArray) : Option Strm := l.find? fun y => decide (nm y = n)
def idxOf (l : List Strm) (n : ByteArray) : Option Nat := l.findIdx? fun y => decide (nm y = n)

def D (a b : List Strm) (n : ByteArray) : Option Nat :=
  match firstOf a n, firstOf b n with
  | some x, some y => diff (wd x) (wd y)
  | _, _ => none

theorem D_comm (a b : List Strm) (n : ByteArray) : D a b n = D b a n := by
  unfold D
  cases firstOf a n <;> cases firstOf b n <;> simp [diff_comm]

theorem D_self (a : List Strm) (n : ByteArray) : D a a n = none := by
  unfold D
  cases firstOf a n <;> simp [diff_self]

/-- What the comparison of one stream of the first list tells. -/
def one (a b : List Strm) (i : Nat) (x : Strm) : Option (ByteArray × Nat) :=
  if idxOf a (nm x) = some i then (D a b (nm x)).map fun k => (nm x, k) else none

def agreeFrom (a b : List Strm) : Nat → List Strm → Option (ByteArray × Nat)
  | _, [] => none
  | i, x :: r => match one a b i x with
    | some v => some v
    | none => agreeFrom a b (i + 1) r

def agree (a b : List Strm) : Option (ByteArray × Nat) := agreeFrom a b 0 a

theorem agree_some {a b : List Strm} {v : ByteArray × Nat} : ∀ {r : List Strm} {i : Nat}, agreeFrom a b i r = some v → D a b v.1 = some v.2
  | x :: r, i, h => by
    unfold agreeFrom at h
    split at h
    · rename_i u hu
      cases h
      unfold one at hu
      split at hu
      · cases hd : D a b (nm x) with
        | none => rw [hd] at hu; cases hu
        | some k => rw [hd] at hu; cases hu; exact hd
      · cases hu
    · exact agree_some h

theorem agree_none {a b : List Strm} : ∀ {r : List Strm} {i : Nat}, agreeFrom a b i r = none → ∀ j x, r[j]? = some x → one a b (i + j) x = none
  | [], _, _, j, x, hx => by simp at hx
  | y :: r, i, h, j, x, hx => by
    unfold agreeFrom at h
    split at h
    · cases h
    · rename_i ho
      cases j with
      | zero => simp at hx; subst hx; simpa using ho
      | succ j =>
        have := agree_none h j x (by simpa using hx)
        rwa [show i + (j + 1) = i + 1 + j by omega]

theorem agree_iff (a b : List Strm) : agree a b = none ↔ ∀ n, D a b n = none := by
  constructor
  · intro h n
    cases hd : D a b n with
    | none => rfl
    | some k =>
      exfalso
      cases hf : firstOf a n with
      | none => unfold D at hd; rw [hf] at hd; cases hd
      | some x =>
        have hx := List.find?_some hf
        simp only [decide_eq_true_eq] at hx
        obtain ⟨i, hi⟩ : ∃ i, idxOf a n = some i := by
          cases hi : idxOf a n with
          | some i => exact ⟨i, rfl⟩
          | none =>
            unfold idxOf at hi
            rw [List.findIdx?_eq_none_iff] at hi
            have := hi x (List.mem_of_find?_eq_some hf)
            simp [hx] at this
        have hxi : a[i]? = some x := by
          unfold idxOf at hi
          unfold firstOf at hf
          rw [List.findIdx?_eq_some_iff_getElem] at hi
          obtain ⟨hlt, h1, h2⟩ := hi
          rw [List.find?_eq_some_iff_getElem] at hf
          obtain ⟨_, j, hj, hj1, hj2⟩ := hf
          rcases Nat.lt_trichotomy i j with hij | hij | hij
          · have := hj2 i hij
            simp only [decide_eq_true_eq] at h1
            simp [h1] at this
          · subst hij; rw [List.getElem?_eq_getElem hj, hj1]
          · have := h2 j hij
            rw [hj1] at this
            simp [hx] at this
        have := agree_none h i x hxi
        unfold one at this
        rw [hx, Nat.zero_add, if_pos hi, hd] at this
        cases this
  · intro h
    unfold agree
    have : ∀ r i, agreeFrom a b i r = none := fun r => by
      induction r with
      | nil => intro i; rfl
      | cons x r ih => intro i; unfold agreeFrom one; rw [h]; simp [ih]
    exact this a 0

theorem agree_comm (a b : List Strm) : agree a b = none ↔ agree b a = none := by
  rw [agree_iff, agree_iff]
  constructor <;> intro h n <;> rw [D_comm] <;> exact h n

theorem agree_self (a : List Strm) : agree a a = none := (agree_iff a a).2 (D_self a)

def begins (l : List Strm) (n : Nat) : List Strm := l.map fun x => (x.1, x.2.1.take n, ())

theorem firstOf_begins (l : List Strm) (k : Nat) (n : ByteArray) : firstOf (begins l k) n = (firstOf l n).map fun x => (x.1, x.2.1.take k, ()) := by
  unfold firstOf begins
  induction l with
  | nil => rfl
  | cons x l ih =>
    simp only [List.map_cons, List.find?_cons]
    by_cases h : nm x = n
    · have h' : nm ((x.1, x.2.1.take k, ()) : Strm) = n := h
      simp only [h, h', decide_true, Option.map_some]
    · have h' : ¬ nm ((x.1, x.2.1.take k, ()) : Strm) = n := h
      simp only [h, h', decide_false]
      exact ih

theorem D_begins_l (a b : List Strm) (k : Nat) (n : ByteArray) : D (begins a k) b n = (D a b n).filter (fun i => decide (i < k)) := by
  unfold D
  rw [firstOf_begins]
  cases firstOf a n with
  | none => simp
  | some x =>
    cases firstOf b n with
    | none => simp
    | some y => exact diff_take_l k _ _

theorem D_begins_r (a b : List Strm) (k : Nat) (n : ByteArray) : D a (begins b k) n = (D a b n).filter (fun i => decide (i < k)) := by
  rw [D_comm, D_begins_l, D_comm]

theorem agree_begins_l {a b : List Strm} (k : Nat) (h : agree a b = none) : agree (begins a k) b = none := by
  rw [agree_iff] at h ⊢
  intro n; rw [D_begins_l, h n]; rfl
theorem agree_begins_r {a b : List Strm} (k : Nat) (h : agree a b = none) : agree a (begins b k) = none := by
  rw [agree_iff] at h ⊢
  intro n; rw [D_begins_r, h n]; rfl
theorem agree_begins0 (a b : List Strm) : agree (begins a 0) b = none := by
  rw [agree_iff]
  intro n
  rw [D_begins_l]
  cases D a b n <;> rfl

/-- The first of a name alone. -/
def stream1 (l : List Strm) (n : ByteArray) : List Strm := (firstOf l n).toList

theorem firstOf_stream1 (l : List Strm) (n m : ByteArray) : firstOf (stream1 l n) m = if n = m then firstOf l n else none := by
  unfold stream1
  cases h : firstOf l n with
  | none => simp [firstOf]
  | some x =>
    have := List.find?_some h
    simp only [decide_eq_true_eq] at this
    by_cases e : n = m
    · simp [firstOf, this, e]
    · simp [firstOf, this, e]

theorem D_stream1 (a b : List Strm) (n m : ByteArray) : D (stream1 a n) b m = if n = m then D a b n else none := by
  unfold D
  rw [firstOf_stream1]
  by_cases e : n = m
  · subst e; simp
  · simp [e]

theorem agree_at {a b : List Strm} {n : ByteArray} {k : Nat} (h : agree a b = some (n, k)) : agree (begins (stream1 a n) k) b = none ∧ agree (begins (stream1 a n) (k + 1)) b ≠ none := by
  have hd : D a b n = some k := agree_some h
  constructor
  · rw [agree_iff]
    intro m
    rw [D_begins_l, D_stream1]
    by_cases e : n = m
    · subst e; simp [hd, Option.filter]
    · simp [e]
  · intro h2
    rw [agree_iff] at h2
    have := h2 n
    rw [D_begins_l, D_stream1, if_pos rfl, hd] at this
    simp [Option.filter] at this


def dflt : Strm := (⟨#[]⟩, [], ())

theorem first_of_idx {l : List Strm} {n : ByteArray} {i : Nat} (h : idxOf l n = some i) : firstOf l n = some (l.getD i dflt) := by
  unfold idxOf at h
  obtain ⟨hlt, h1, h2⟩ := List.findIdx?_eq_some_iff_getElem.1 h
  unfold firstOf
  rw [List.find?_eq_some_iff_getElem]
  refine ⟨by rw [List.getD_eq_getElem?_getD, List.getElem?_eq_getElem hlt]; exact h1, i, hlt, by rw [List.getD_eq_getElem?_getD, List.getElem?_eq_getElem hlt]; rfl, fun j hj => ?_⟩
  have := h2 j hj
  simpa using this

theorem first_of_none {l : List Strm} {n : ByteArray} (h : idxOf l n = none) : firstOf l n = none := by
  unfold idxOf at h
  rw [List.findIdx?_eq_none_iff] at h
  unfold firstOf
  rw [List.find?_eq_none]
  intro x hx
  simpa using h x hx

theorem one_eq {a b : List Strm} {i : Nat} {x : Strm} (hx : a[i]? = some x) : one a b i x = if idxOf a (nm x) = some i then (match idxOf b (nm x) with | some k => (diff (wd x) (wd (b.getD k dflt))).map fun k => (nm x, k) | none => none) else none := by
  unfold one
  by_cases h : idxOf a (nm x) = some i
  · rw [if_pos h, if_pos h]
    unfold D
    rw [first_of_idx h, List.getD_eq_getElem?_getD, hx]
    cases hb : idxOf b (nm x) with
    | none => rw [first_of_none hb]; rfl
    | some k => rw [first_of_idx hb]; rfl
  · rw [if_neg h, if_neg h]

theorem agreeFrom_stop {a b : List Strm} {v : ByteArray × Nat} : ∀ {r : List Strm} {i j : Nat} {x : Strm}, r[j]? = some x → (∀ k y, k < j → r[k]? = some y → one a b (i + k) y = none) → one a b (i + j) x = some v → agreeFrom a b i r = some v
  | [], _, j, _, h, _, _ => by simp at h
  | y :: r, i, 0, x, h, _, ho => by
    simp at h; subst h
    unfold agreeFrom
    rw [Nat.add_zero] at ho
    rw [ho]
  | y :: r, i, j + 1, x, h, hp, ho => by
    unfold agreeFrom
    have := hp 0 y (by omega) rfl
    rw [Nat.add_zero] at this
    rw [this]
    exact agreeFrom_stop (i := i + 1) (j := j) (by simpa using h) (fun k z hk hz => by have := hp (k + 1) z (by omega) (by simpa using hz); rwa [show i + (k + 1) = i + 1 + k by omega] at this) (by rwa [show i + 1 + j = i + (j + 1) by omega])

theorem agreeFrom_end {a b : List Strm} : ∀ {r : List Strm} {i : Nat}, (∀ k y, r[k]? = some y → one a b (i + k) y = none) → agreeFrom a b i r = none
  | [], _, _ => rfl
  | y :: r, i, hp => by
    unfold agreeFrom
    have := hp 0 y rfl
    rw [Nat.add_zero] at this
    rw [this]
    exact agreeFrom_end (i := i + 1) (fun k z hz => by have := hp (k + 1) z (by simpa using hz); rwa [show i + (k + 1) = i + 1 + k by omega] at this)

end Go.Sc
namespace Go.Sc
theorem diff_lt : ∀ {a b : List Int} {k : Nat}, diff a b = some k → k < a.length
  | x :: a, y :: b, k, h => by
    unfold diff at h
    split at h
    · cases hd : diff a b with
      | none => rw [hd] at h; cases h
      | some j => rw [hd] at h; cases h; have := diff_lt hd; simp; omega
    · cases h; simp
  | [], _, _, h => by simp [diff] at h
  | _ :: _, [], _, h => by simp [diff] at h

theorem agree_lt {a b : List Strm} {n : ByteArray} {k : Nat} (h : agree a b = some (n, k)) : ∃ x ∈ a, k < x.2.1.length := by
  have hd : D a b n = some k := agree_some h
  unfold D at hd
  split at hd
  · rename_i x y hx hy
    exact ⟨x, List.mem_of_find?_eq_some hx, diff_lt hd⟩
  · cases hd
end Go.Sc
