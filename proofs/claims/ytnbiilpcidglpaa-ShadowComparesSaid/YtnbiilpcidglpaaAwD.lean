/- Walks of this program by an abstract machine: the text AwD. No conditions. -/
import Derived.Test.YtnbiilpcidglpaaAwC
import Derived.ChangeArms
import Derived.ChangeSlices
import Derived.OpenShut
import Derived.ShutString
import Derived.Carry
import Derived.SizedLaws
import Derived.WideShapes
set_option linter.unusedSimpArgs false
set_option linter.unusedVariables false

/-
  Regions that draw their order: the theorem.
-/
namespace Go.Aw
open Go.RowKit

section runs
variable {call : CallT} {icall : ICallT} {own : FuncId → Option Ty} {inl : FuncId → Bool} {pre : Id} {rc : Nat}

structure Stp where
  i : Nat
  o : AOper
  l : Lg

def Runs (call : CallT) (icall : ICallT) (own : FuncId → Option Ty) (inl : FuncId → Bool) (pre : Id) (rc : Nat) (q : Bool) : List Stp → List AV → Heap → Nat → List AV → Heap → Nat → Prop
  | [], s, h, ck, s', h', ck' => s = s' ∧ HR q h h' ∧ ck = ck'
  | x :: r, s, h, ck, s', h', ck' => ∃ s1 h1 ck1, runOp call icall own inl pre rc x.i x.o s h ck = some (s1, h1, ck1, x.l) ∧ Runs call icall own inl pre rc q r s1 h1 ck1 s' h' ck'

theorem HR.symm {q : Bool} {a b : Heap} (h : HR q a b) : HR q b a := by
  unfold HR at *
  split at h
  · rename_i hq; rw [if_pos hq]; exact h.symm
  · rename_i hq; rw [if_neg hq]; exact ⟨fun i => (h.1 i).symm, h.2.symm⟩

theorem Runs.congr {q : Bool} {s' : List AV} {h' : Heap} {ck' : Nat} : ∀ {T : List Stp} {s : List AV} {h h2 : Heap} {ck : Nat}, HR q h h2 → (q = false → ∀ x ∈ T, x.l.all = false) → Runs call icall own inl pre rc q T s h ck s' h' ck' → Runs call icall own inl pre rc q T s h2 ck s' h' ck'
  | [], s, h, h2, ck, hr, _, hx => ⟨hx.1, hr.symm.trans hx.2.1, hx.2.2⟩
  | x :: r, s, h, h2, ck, hr, hq, hx => by
    obtain ⟨s1, h1, ck1, e1, e2⟩ := hx
    cases q with
    | true =>
      have : h = h2 := by simpa [HR] using hr
      subst this
      exact ⟨s1, h1, ck1, e1, e2⟩
    | false =>
      obtain ⟨_, k | k⟩ := runOp_kind e1
      · obtain ⟨a1, rfl, e, a3, rfl, rfl, a6, a7, a8⟩ := k
        exact ⟨_, _, _, a8 s h2 _ (fun _ _ => rfl) (hr.agree _), Runs.congr (hr.act e) (fun hq' y hy => hq hq' y (by simp [hy])) e2⟩
      · have := hq rfl x (by simp)
        rw [k.1] at this; cases this

/-- An operation that stands apart from all ahead of it comes first. -/
theorem Runs.front {q : Bool} {s' : List AV} {h' : Heap} {ck' : Nat} {y : Stp} {T2 : List Stp} : ∀ {T1 : List Stp} {s : List AV} {h : Heap} {ck : Nat}, (∀ x ∈ T1, x.o.apart y.o = true ∧ x.l.apart q y.l = true) → (q = false → ∀ x ∈ T1 ++ y :: T2, x.l.all = false) →
    Runs call icall own inl pre rc q (T1 ++ y :: T2) s h ck s' h' ck' → ∃ s1 h1 ck1, runOp call icall own inl pre rc y.i y.o s h ck = some (s1, h1, ck1, y.l) ∧ Runs call icall own inl pre rc q (T1 ++ T2) s1 h1 ck1 s' h' ck'
  | [], s, h, ck, _, _, hx => hx
  | x :: T1, s, h, ck, hap, hq, hx => by
    obtain ⟨sx, hx', ckx, e1, e2⟩ := hx
    obtain ⟨s2, h2, ck2, g1, g2⟩ := Runs.front (T1 := T1) (fun z hz => hap z (by simp [hz])) (fun hq' z hz => hq hq' z (by simp at hz ⊢; exact .inr hz)) e2
    obtain ⟨s1', h1', ck1', h2', k1, k2, k3⟩ := swap2 e1 g1 (hap x (by simp)).1 (hap x (by simp)).2 (fun hq' => ⟨hq hq' x (by simp), hq hq' y (by simp)⟩)
    exact ⟨s1', h1', ck1', k1, s2, h2', ck2, k2, Runs.congr k3.symm (fun hq' z hz => hq hq' z (by simp at hz ⊢; rcases hz with hz | hz; exact .inr (.inl hz); exact .inr (.inr (.inr hz)))) g2⟩

/-- Of each two, the order is told, or they stand apart. -/
def Fit (q : Bool) (x y : Stp) : Prop := x.i < y.i ∧ (y.l.bf.testBit x.i = true ∨ (x.o.apart y.o = true ∧ x.l.apart q y.l = true))

theorem getD_set (l : Array Bool) (i j : Nat) (d : Bool) : (l.setIfInBounds i true).getD j d = if i = j ∧ i < l.size then true else l.getD j d := by
  simp only [Array.getD_eq_getD_getElem?, Array.getElem?_setIfInBounds]
  by_cases h : i = j
  · subst h
    by_cases h2 : i < l.size
    · simp [h2]
    · simp [h2]
  · simp [h]

variable {P : Program} {n0 : Base} {F : Fence} {n : Nat}

theorem any_wp (hF : OpenF F) (hcall : CallOk F P call) (hicall : ICallOk F P icall) (hclo : CloneOk F P own) {ops : Array Oper} {bs : List Nat} {Q : Exit → Act → World → Prop} {q : Bool}
    (hedge : ∀ (i : Nat) (o : Oper), ops[i]? = some o → ∀ e ∈ o.after, Region.binds .any e = true → e.on < i)
    (hbef : ∀ (i : Nat) (o : Oper), ops[i]? = some o → ∀ j, j < i → (bs.getD i 0).testBit j = true → ∃ e ∈ o.after, Region.binds .any e = true ∧ (e.on = j ∨ (j < e.on ∧ (bs.getD e.on 0).testBit j = true)))
    {s' : List AV} {h' : Heap} {ck' : Nat} : ∀ (m : Nat) (T : List Stp) (listed : Array Bool) (s : List AV) (h : Heap) (ck : Nat) (K : Kx) (a : Act) (w : World), T.length = m → listed.size = ops.size →
      (∀ i, i < ops.size → (listed.getD i true = false ↔ ∃ x ∈ T, x.i = i)) → (∀ x ∈ T, ∃ o, ops[x.i]? = some o ∧ OpRel P ops o x.o ∧ x.l.bf = bs.getD x.i 0) → T.Pairwise (Fit q) → (q = false → ∀ x ∈ T, x.l.all = false) →
      (∀ i, i < ops.size → listed.getD i true = true → ∀ j, j < i → (bs.getD i 0).testBit j = true → listed.getD j true = true) →
      Runs call icall own inl pre rc q T s h ck s' h' ck' → Slots K w s a.tmps → Inv n0 K h w → a.defers = [] → NIn K rc (fun j => listed.getD j true = true) ck → rc < ck →
      (∀ (a' : Act) (w' : World) (K' : Kx), Went n0 K w s' h' a' w' K' → (∀ (t : Tok) (b : Nat), K'.bl t = some b → t.1 < ck') → New rc K K' → ck ≤ ck' → Q .normal a' w') → wpAnyIn F n P .any ops Q m listed a w
  | 0, T, listed, s, h, ck, K, a, w, hm, hsz, hlist, hT, hfit, hqa, hdown, hruns, hs, hI, hd, hN, hrc, hq => by
    have : T = [] := List.eq_nil_of_length_eq_zero hm
    subst this
    obtain ⟨rfl, hr, rfl⟩ := hruns
    refine ⟨?_, ?_⟩
    · cases hrd : Region.ready .any ops listed with
      | nil => rfl
      | cons i r =>
        have hmem : i ∈ Region.ready .any ops listed := by rw [hrd]; simp
        obtain ⟨h1, o, h2, _⟩ := mem_ready.1 hmem
        have hlt := (Array.getElem?_eq_some_iff.1 h2).1
        obtain ⟨x, hx, _⟩ := (hlist i hlt).1 h1
        cases hx
    · have hag := hr.agree []
      refine hq a w K ⟨.refl K, .refl K w, hs, ?_, hd, .refl _ _⟩ (fun t b ht => ?_) (New.refl _ _) (Nat.le_refl _)
      · unfold HR at hr
        split at hr
        · subst hr; exact hI
        · exact hI.fewer (fun i o hg => by rw [hr.1]; exact hg) (fun r hr' => by rw [hr.2]; exact hr')
      · rcases hN t b ht with h1 | ⟨h1, _⟩ | ⟨h1, h2⟩ <;> omega
  | m + 1, T, listed, s, h, ck, K, a, w, hm, hsz, hlist, hT, hfit, hqa, hdown, hruns, hs, hI, hd, hN, hrc, hq => by
    have lt_of : ∀ x ∈ T, x.i < ops.size := fun x hx => by
      obtain ⟨o, h1, _⟩ := hT x hx
      exact (Array.getElem?_eq_some_iff.1 h1).1
    refine ⟨fun hnil => ?_, fun i hi => ?_⟩
    · -- the first one that is left is ready
      exfalso
      match T, hm with
      | x :: r, _ =>
        obtain ⟨o, h1, _, _⟩ := hT x (by simp)
        have hmem : x.i ∈ Region.ready .any ops listed := by
          refine mem_ready.2 ⟨(hlist x.i (lt_of x (by simp))).2 ⟨x, by simp, rfl⟩, o, h1, fun e he hb => ?_⟩
          have hlt := hedge x.i o h1 e he hb
          have hlt2 : e.on < ops.size := Nat.lt_trans hlt (lt_of x (by simp))
          by_cases hl : listed.getD e.on true = true
          · have hls : e.on < listed.size := by rw [hsz]; exact hlt2
            simpa [Array.getD_eq_getD_getElem?, hls] using hl
          · exfalso
            have hl' : listed.getD e.on true = false := by simpa using hl
            obtain ⟨y, hy, hyi⟩ := (hlist e.on hlt2).1 hl'
            rcases List.mem_cons.1 hy with rfl | hy
            · omega
            · have := (List.pairwise_cons.1 hfit).1 y hy
              have := this.1
              omega
        rw [hnil] at hmem
        cases hmem
    · obtain ⟨h1, o, h2, h3⟩ := mem_ready.1 hi
      have hlt := (Array.getElem?_eq_some_iff.1 h2).1
      obtain ⟨y, hy, rfl⟩ := (hlist i hlt).1 h1
      obtain ⟨T1, T2, rfl⟩ := List.append_of_mem hy
      obtain ⟨o', g1, g2, g3⟩ := hT y (by simp)
      have : o' = o := by rw [g1] at h2; cases h2; rfl
      subst this
      obtain ⟨f1, f2, f3⟩ := List.pairwise_append.1 hfit
      have listedOf : ∀ e, e < ops.size → listed.getD e false = true → listed.getD e true = true := fun e he hx => by
        have hls : e < listed.size := by rw [hsz]; exact he
        simpa [Array.getD_eq_getD_getElem?, hls] using hx
      -- what stands ahead by the region's order is listed
      have ahead : ∀ j, j < y.i → (bs.getD y.i 0).testBit j = true → listed.getD j true = true := fun j hj hb => by
        obtain ⟨e, he, hbi, hc⟩ := hbef y.i o' g1 j hj hb
        have he1 := hedge y.i o' g1 e he hbi
        have hel := listedOf e.on (Nat.lt_trans he1 hlt) (h3 e he hbi)
        rcases hc with rfl | ⟨hc1, hc2⟩
        · exact hel
        · exact hdown e.on (Nat.lt_trans he1 hlt) hel j hc1 hc2
      have hapart : ∀ x ∈ T1, x.o.apart y.o = true ∧ x.l.apart q y.l = true := fun x hx => by
        obtain ⟨k1, k2⟩ := f3 x hx y (by simp)
        rcases k2 with k2 | k2
        · exfalso
          rw [g3] at k2
          have hl := ahead x.i k1 k2
          have := (hlist x.i (lt_of x (by simp [hx]))).2 ⟨x, by simp [hx], rfl⟩
          rw [this] at hl; cases hl
        · exact k2
      obtain ⟨s1, h1', ck1, e1, e2⟩ := Runs.front hapart hqa hruns
      have hmemT : ∀ x, x ∈ T1 ++ T2 → x ∈ T1 ++ y :: T2 := fun x hx => by simp at hx ⊢; rcases hx with hx | hx; exact .inl hx; exact .inr (.inr hx)
      have hne : ∀ x ∈ T1 ++ T2, x.i ≠ y.i := fun x hx => by
        rcases List.mem_append.1 hx with hx | hx
        · have := (f3 x hx y (by simp)).1; omega
        · have := ((List.pairwise_cons.1 f2).1 x hx).1; omega
      have hls : y.i < listed.size := by rw [hsz]; exact hlt
      refine opIn_wp hF hcall hicall hclo g2 hs hI hd hN (by rw [h1]; simp) hrc g1 (fun a1 w1 K1 hw1 hN1 hnew1 hck1 => ?_) e1
      refine any_wp hF hcall hicall hclo hedge hbef m (T1 ++ T2) (listed.setIfInBounds y.i true) s1 h1' ck1 K1 a1 w1 (by simp at hm ⊢; omega) (by simpa using hsz) (fun j hj => ?_) (fun x hx => hT x (hmemT x hx)) ?_ (fun hq' x hx => hqa hq' x (hmemT x hx)) (fun j hj hl k hk hb => ?_) e2 hw1.slots hw1.inv hw1.defers
        (hN1.wider (fun j hj => ?_) (Nat.le_refl _)) (by omega) (fun a' w' K' hw' hn hnew hck => hq a' w' K' (hw1.trans hw') hn (hnew1.trans hnew) (by omega))
      · rw [getD_set]
        by_cases e : y.i = j
        · subst e
          rw [if_pos ⟨rfl, hls⟩]
          exact ⟨fun h => by simp at h, fun ⟨x, hx, hxi⟩ => absurd hxi (hne x hx)⟩
        · rw [if_neg (fun h => e h.1), hlist j hj]
          constructor
          · rintro ⟨x, hx, hxi⟩
            simp at hx
            rcases hx with hx | rfl | hx
            · exact ⟨x, by simp [hx], hxi⟩
            · exact absurd hxi e
            · exact ⟨x, by simp [hx], hxi⟩
          · rintro ⟨x, hx, hxi⟩
            exact ⟨x, hmemT x hx, hxi⟩
      · exact List.pairwise_append.2 ⟨f1, (List.pairwise_cons.1 f2).2, fun x hx z hz => f3 x hx z (by simp [hz])⟩
      · rw [getD_set] at hl ⊢
        by_cases ek : y.i = k
        · rw [if_pos ⟨ek, hls⟩]
        · rw [if_neg (fun h => ek h.1)]
          by_cases ej : y.i = j
          · subst ej; exact ahead k hk hb
          · rw [if_neg (fun h => ej h.1)] at hl
            exact hdown j hj hl k hk hb
      · rw [getD_set]
        rcases hj with rfl | hj
        · rw [if_pos ⟨rfl, hls⟩]
        · split
          · rfl
          · exact hj

end runs

end Go.Aw

/-
  Regions, codes, functions.
-/
namespace Go.Aw
open Go.RowKit

variable {call : CallT} {icall : ICallT} {own : FuncId → Option Ty} {inl : FuncId → Bool} {pre : Id} {rc : Nat} {P : Program} {n0 : Base} {F : Fence} {n : Nat}

def mkT : Nat → List AOper → List Lg → List Stp
  | k, o :: l, g :: ls => ⟨k, o, g⟩ :: mkT (k + 1) l ls
  | _, _, _ => []

theorem mkT_get : ∀ {k : Nat} {l : List AOper} {ls : List Lg} {x : Stp}, x ∈ mkT k l ls → ∃ j, x.i = k + j ∧ l[j]? = some x.o ∧ ls[j]? = some x.l
  | k, [], ls, x, h => by simp [mkT] at h
  | k, o :: l, [], x, h => by simp [mkT] at h
  | k, o :: l, g :: ls, x, h => by
    simp only [mkT, List.mem_cons] at h
    rcases h with rfl | h
    · exact ⟨0, rfl, rfl, rfl⟩
    · obtain ⟨j, h1, h2, h3⟩ := mkT_get h
      exact ⟨j + 1, by omega, by simpa using h2, by simpa using h3⟩

theorem mkT_length : ∀ {k : Nat} {l : List AOper} {ls : List Lg}, ls.length = l.length → (mkT k l ls).length = l.length
  | k, [], ls, h => by simp [mkT]
  | k, o :: l, [], h => by simp at h
  | k, o :: l, g :: ls, h => by simp only [mkT, List.length_cons, mkT_length (k := k + 1) (l := l) (ls := ls) (by simpa using h)]

theorem mkT_has : ∀ {k : Nat} {l : List AOper} {ls : List Lg}, ls.length = l.length → ∀ j, j < l.length → ∃ x ∈ mkT k l ls, x.i = k + j
  | k, [], ls, h, j, hj => by simp at hj
  | k, o :: l, [], h, j, hj => by simp at h
  | k, o :: l, g :: ls, h, j, hj => by
    cases j with
    | zero => exact ⟨⟨k, o, g⟩, by simp [mkT], rfl⟩
    | succ j =>
      obtain ⟨x, h1, h2⟩ := mkT_has (k := k + 1) (l := l) (ls := ls) (by simpa using h) j (by simpa using hj)
      exact ⟨x, by simp [mkT, h1], by omega⟩

theorem mkT_pairwise {R : Stp → Stp → Prop} : ∀ {k : Nat} {l : List AOper} {ls : List Lg}, (∀ x y, x ∈ mkT k l ls → y ∈ mkT k l ls → x.i < y.i → R x y) → (mkT k l ls).Pairwise R
  | k, [], ls, h => by simp [mkT]
  | k, o :: l, [], h => by simp [mkT]
  | k, o :: l, g :: ls, h => by
    simp only [mkT, List.pairwise_cons]
    refine ⟨fun y hy => h _ y (by simp [mkT]) (by simp [mkT, hy]) ?_, mkT_pairwise (fun x y hx hy hlt => h x y (by simp [mkT, hx]) (by simp [mkT, hy]) hlt)⟩
    obtain ⟨j, h1, _⟩ := mkT_get hy
    show k < y.i
    omega

theorem runOps_runs {q : Bool} {s' : List AV} {h' : Heap} {ck' : Nat} {lg' : List Lg} : ∀ (l : List AOper) (k : Nat) (s : List AV) (h : Heap) (ck : Nat) (lg : List Lg), runOps call icall own inl pre rc k l s h ck lg = some (s', h', ck', lg') →
    ∃ ls, ls.length = l.length ∧ lg' = ls.reverse ++ lg ∧ Runs call icall own inl pre rc q (mkT k l ls) s h ck s' h' ck' ∧ ∀ (j : Nat) (o : AOper) (g : Lg), l[j]? = some o → ls[j]? = some g → g.bf = o.bf
  | [], k, s, h, ck, lg, hr => by
    simp only [runOps] at hr
    cases hr
    exact ⟨[], rfl, rfl, ⟨rfl, HR.refl _ _, rfl⟩, fun j o g h1 => by simp at h1⟩
  | o :: l, k, s, h, ck, lg, hr => by
    simp only [runOps] at hr
    split at hr
    · rename_i s1 h1 ck1 g hone
      obtain ⟨ls, e1, e2, e3, e4⟩ := runOps_runs (q := q) l (k + 1) s1 h1 ck1 (g :: lg) hr
      refine ⟨g :: ls, by simp [e1], by simp [e2], ⟨s1, h1, ck1, hone, e3⟩, fun j o' g' ho hg => ?_⟩
      cases j with
      | zero => simp at ho hg; subst ho; subst hg; exact (runOp_kind hone).1
      | succ j => exact e4 j o' g' (by simpa using ho) (by simpa using hg)
    · cases hr

theorem meets_comm (a b : List Id) : meets a b = meets b a := by
  rw [Bool.eq_iff_iff]
  unfold meets
  simp only [List.any_eq_true, List.contains_iff_mem]
  exact ⟨fun ⟨x, h1, h2⟩ => ⟨x, h2, h1⟩, fun ⟨x, h1, h2⟩ => ⟨x, h2, h1⟩⟩

theorem Lg.apart_comm {q : Bool} {a b : Lg} (h : a.apart q b = true) : b.apart q a = true := by
  unfold Lg.apart at *
  rw [meets_comm b.wr a.wr, meets_comm b.wr a.rd, meets_comm b.rd a.wr]
  cases ha : a.quiet <;> cases hb : b.quiet <;> simp_all

theorem logOne_rev {q : Bool} {a : Lg} : ∀ (r : List Lg), logOne q a r.length r = true → ∀ (p : Nat) (x : Lg), r.reverse[p]? = some x → a.bf.testBit p = true ∨ a.apart q x = true
  | [], _, p, x, hx => by simp at hx
  | b :: r, h, p, x, hx => by
    simp only [List.length_cons, logOne, Bool.and_eq_true, Bool.or_eq_true] at h
    rw [List.reverse_cons] at hx
    by_cases hp : p < r.length
    · rw [List.getElem?_append_left (by simpa using hp)] at hx
      exact logOne_rev r h.2 p x hx
    · have : p = r.length := by
        have := (List.getElem?_eq_some_iff.1 hx).1
        simp at this; omega
      subst this
      simp at hx
      subst hx
      exact h.1

theorem logGo_rev {q : Bool} : ∀ (l : List Lg), logGo q l = true → ∀ (p r : Nat) (x y : Lg), p < r → l.reverse[p]? = some x → l.reverse[r]? = some y → y.bf.testBit p = true ∨ y.apart q x = true
  | [], _, p, r, x, y, _, hx, _ => by simp at hx
  | b :: l, h, p, r, x, y, hpr, hx, hy => by
    simp only [logGo, Bool.and_eq_true] at h
    have hr := (List.getElem?_eq_some_iff.1 hy).1
    simp at hr
    rw [List.reverse_cons] at hx hy
    by_cases hlt : r < l.length
    · rw [List.getElem?_append_left (by simpa using hlt)] at hy
      rw [List.getElem?_append_left (by simp; omega)] at hx
      exact logGo_rev l h.2 p r x y hpr hx hy
    · have : r = l.length := by omega
      subst this
      simp at hy
      subst hy
      rw [List.getElem?_append_left (by simpa using hpr)] at hx
      exact logOne_rev l h.1 p x hx

theorem logGo_spec {q : Bool} (ls : List Lg) (h : logGo q ls.reverse = true) (p r : Nat) (x y : Lg) (hpr : p < r) (hx : ls[p]? = some x) (hy : ls[r]? = some y) : y.bf.testBit p = true ∨ y.apart q x = true :=
  logGo_rev ls.reverse h p r x y hpr (by simpa using hx) (by simpa using hy)

theorem pairsOk_spec {y : AOper} : ∀ (l : List AOper) (k : Nat), pairsOk y k l = true → ∀ (p : Nat) (x : AOper), l[p]? = some x → y.bf.testBit (k + p) = true ∨ x.apart y = true
  | [], k, _, p, x, hx => by simp at hx
  | z :: r, k, h, p, x, hx => by
    simp only [pairsOk, Bool.and_eq_true, Bool.or_eq_true] at h
    cases p with
    | zero => simp at hx; subst hx; exact h.1
    | succ p =>
      have := pairsOk_spec r (k + 1) h.2 p x (by simpa using hx)
      rw [show k + (p + 1) = k + 1 + p by omega]
      exact this

/-- How the compiled region lies to the region. -/
theorem cRegion_rel {ops : Array Oper} {l : List AOper} (hc : cRegion P ops = some l) : l.length = ops.size ∧ ∀ (j : Nat) (o : Oper) (ao : AOper), ops[j]? = some o → l[j]? = some ao → OpRel P ops o ao := by
  unfold cRegion at hc
  have hbl : (befores ops).length = ops.size := by
    have key : ∀ (l : List Oper) (acc : Array Nat), (l.foldl (fun acc o => acc.push (o.after.foldl (fun s e => if Region.binds .any e then s ||| 2 ^ e.on ||| acc.getD e.on 0 else s) 0)) acc).size = acc.size + l.length := fun l => by
      induction l with
      | nil => intro acc; rfl
      | cons o r ih => intro acc; simp only [List.foldl_cons, ih, Array.size_push, List.length_cons]; omega
    unfold befores Region.before
    rw [← Array.foldl_toList, Array.length_toList, key]
    simp
  obtain ⟨h1, h2⟩ := mapM_some hc
  have hlen : (ops.toList.zip (befores ops)).length = ops.size := by simp [hbl]
  refine ⟨by rw [h1, hlen], fun j o ao ho hao => ?_⟩
  have hj := (Array.getElem?_eq_some_iff.1 ho).1
  have hz : (ops.toList.zip (befores ops))[j]? = some (o, (befores ops)[j]'(by omega)) := by
    rw [List.getElem?_zip_eq_some]
    exact ⟨by simpa using ho, by simp⟩
  obtain ⟨y, g1, g2⟩ := h2 j _ hz
  rw [hao] at g2
  cases g2
  simp only [Option.bind_eq_bind] at g1
  cases hg : o.guard with
  | none =>
    rw [hg] at g1
    simp at g1
    subst g1
    exact ⟨rfl, rfl, by rw [hg]⟩
  | some g =>
    obtain ⟨i, b⟩ := g
    rw [hg] at g1
    cases hq : ops[i]? with
    | none => simp [hq] at g1
    | some q =>
      cases hd : q.dst with
      | none => simp [hq, hd] at g1
      | some d =>
        simp [hq, hd] at g1
        subst g1
        refine ⟨rfl, rfl, ?_⟩
        rw [hg]
        exact ⟨q, d, hq, hd, rfl⟩

end Go.Aw

/-
  Codes.
-/
namespace Go.Aw
open Go.RowKit

variable {call : CallT} {icall : ICallT} {own : FuncId → Option Ty} {inl : FuncId → Bool} {pre : Id} {P : Program} {n0 : Base} {F : Fence} {n : Nat}

def exitOf : Ex → Exit
  | .normal => .normal
  | .exit id => .exit id
  | .ret => .ret

/-- What a code leaves to the one behind it. -/
def CPost (n0 : Base) (K : Kx) (w : World) (st st' : St) (Q : Act → World → Prop) : Prop :=
  ∀ (a' : Act) (w' : World) (K' : Kx), Went n0 K w st'.s st'.h a' w' K' → Till K' st'.ck → New st.ck K K' → st.ck ≤ st'.ck → Q a' w'

theorem drawOk_spec {ops : Array Oper} {l : List AOper} (h : drawOk ops l = true) (hl : l.length = ops.size) : ∀ (i : Nat) (o : Oper) (y : AOper), ops[i]? = some o → l[i]? = some y → (∀ e ∈ o.after, Region.binds .any e = true → e.on < i) ∧
    (∀ j, j < i → y.bf.testBit j = true → ∃ e ∈ o.after, Region.binds .any e = true ∧ (e.on = j ∨ (j < e.on ∧ ((l.map AOper.bf).getD e.on 0).testBit j = true))) ∧ ∀ (p : Nat) (x : AOper), p < i → l[p]? = some x → y.bf.testBit p = true ∨ x.apart y = true := fun i o y ho hy => by
  unfold drawOk at h
  rw [List.all_eq_true] at h
  have hlt := (List.getElem?_eq_some_iff.1 hy).1
  have := h i (by simpa using hlt)
  rw [ho, hy] at this
  simp only [Bool.and_eq_true] at this
  obtain ⟨h1, h2⟩ := this
  unfold befOk at h2
  simp only [Bool.and_eq_true, Bool.or_eq_true, Bool.not_eq_true', decide_eq_true_eq] at h2
  obtain ⟨h3, h4⟩ := h2
  rw [← Array.all_toList, List.all_eq_true] at h3
  simp only [Bool.or_eq_true, Bool.not_eq_true', decide_eq_true_eq] at h3
  refine ⟨fun e he hb => ?_, fun j hj hb => ?_, fun p x hp hx => ?_⟩
  · rcases h3 e (by simpa using he) with h3 | h3
    · rw [hb] at h3; cases h3
    · exact h3
  · rw [List.all_eq_true] at h4
    have := h4 j (by simpa using hj)
    rw [hb] at this
    simp only [Bool.not_true, Bool.false_or] at this
    rw [← Array.any_toList, List.any_eq_true] at this
    simp only [Bool.and_eq_true, Bool.or_eq_true, beq_iff_eq, decide_eq_true_eq] at this
    obtain ⟨e, he, h5, h6⟩ := this
    exact ⟨e, by simpa using he, h5, h6⟩
  · have := pairsOk_spec _ 0 h1 p x (by rw [List.getElem?_take, if_pos hp]; exact hx)
    simpa using this

theorem region_wp (hm : P.follows .mixedOrders = true) (hF : OpenF F) (hcall : CallOk F P call) (hicall : ICallOk F P icall) (hclo : CloneOk F P own) {id : Nat} {ops : Array Oper} {draw : Bool} {ac : ACode} (hc : cCode P (.region id ops draw) = some ac) {N : Nat} {st st' : St} {ex : Ex}
    (he : execC call icall own inl pre N ac st = some (ex, st')) {K : Kx} {a : Act} {w : World} {Q : Exit → Act → World → Prop} (hs : Slots K w st.s a.tmps) (hI : Inv n0 K st.h w) (hd : a.defers = []) (ht : Till K st.ck) (hq : CPost n0 K w st st' (Q (exitOf ex))) :
    (Code.region id ops draw).wpIn F n P Q a w := by
  simp only [cCode] at hc
  cases hl : cRegion P ops with
  | none => rw [hl] at hc; simp at hc
  | some l =>
    rw [hl] at hc
    simp only [Option.bind_eq_bind, Option.bind_some] at hc
    obtain ⟨hlen, hrel⟩ := cRegion_rel hl
    split at hc
    · cases hc; simp [execC] at he
    · rename_i hdr
      cases hc
      simp only [execC] at he
      split at he
      · rename_i s' h' ck' lg hrun
        split at he
        · cases he
        · rename_i hlog
          cases he
          cases draw with
          | false =>
            refine wpIn_region ?_
            have := ops_wp hF hcall hicall hclo (n := n) (n0 := n0) (Q := Q) s' h' ck' lg l 0 st.s st.h (st.ck + 1) [] K a w (by simpa using hlen) (fun j o ao ho hao => hrel j o ao (by simpa using ho) hao) hs hI hd (ht.nin.wider (fun j h => h.elim) (Nat.le_refl _)) (Nat.lt_succ_self _) hrun
              (fun a' w' K' hw hn hnew hck => hq a' w' K' hw hn hnew (by show st.ck ≤ ck'; omega))
            rw [hlen] at this
            rw [List.range_eq_range']
            exact this
          | true =>
            simp at hdr hlog
            obtain ⟨ls, e1, e2, e3, e4⟩ := runOps_runs (q := lg.any (·.all)) l 0 _ _ _ [] hrun
            rw [List.append_nil] at e2
            have hlog' := hlog
            unfold logOk at hlog'
            have hpair := logGo_spec ls (by rw [← e2]; exact hlog')
            have hdk := drawOk_spec hdr hlen
            refine wpIn_region_any hm ?_
            obtain ⟨d1, d2⟩ := hI.drew
            have hsz : (mkT 0 l ls).length = ops.size := by rw [mkT_length e1, hlen]
            have hget : ∀ x ∈ mkT 0 l ls, l[x.i]? = some x.o ∧ ls[x.i]? = some x.l := fun x hx => by
              obtain ⟨j, h1, h2, h3⟩ := mkT_get hx
              rw [Nat.zero_add] at h1
              rw [h1]; exact ⟨h2, h3⟩
            have hbs : ∀ x ∈ mkT 0 l ls, x.l.bf = (l.map AOper.bf).getD x.i 0 := fun x hx => by
              obtain ⟨h1, h2⟩ := hget x hx
              rw [e4 _ _ _ h1 h2, List.getD_eq_getElem?_getD, List.getElem?_map, h1]
              rfl
            have hops : ∀ x ∈ mkT 0 l ls, ∃ o, ops[x.i]? = some o := fun x hx => by
              have := (List.getElem?_eq_some_iff.1 (hget x hx).1).1
              exact ⟨ops[x.i]'(by omega), by simp [show x.i < ops.size by omega]⟩
            have hat : ∀ (i : Nat) (o : Oper), ops[i]? = some o → ∃ y, l[i]? = some y ∧ (l.map AOper.bf).getD i 0 = y.bf := fun i o ho => by
              have := (Array.getElem?_eq_some_iff.1 ho).1
              exact ⟨l[i]'(by omega), by simp, by simp [List.getD_eq_getElem?_getD, show i < l.length by omega]⟩
            have hw0 : ∀ (a' : Act) (w' : World) (K' : Kx), Went n0 K w.drew s' h' a' w' K' → Went n0 K w s' h' a' w' K' := fun a' w' K' hw =>
              ⟨hw.le, ⟨fun b o v hp hc => hw.kept.cell b o v hp hc, fun b es c hp hc => hw.kept.map b es c hp hc⟩, hw.slots, hw.inv, hw.defers, ⟨hw.below.os, hw.below.tape, hw.below.output, hw.below.size, hw.below.block⟩⟩
            refine any_wp hF hcall hicall hclo (q := lg.any (·.all)) (bs := l.map AOper.bf) (fun i o ho => ?_) (fun i o ho j hj hb => ?_) ops.size (mkT 0 l ls) _ st.s st.h (st.ck + 1) K a w.drew hsz (by simp) (fun i hi => ?_) (fun x hx => ?_) (mkT_pairwise (fun x y hx hy hlt => ⟨hlt, ?_⟩)) (fun hq' x hx => ?_) (fun i hi hl' => ?_) e3 (hs.mono (.refl K) d1) d2 hd
              (ht.nin.wider (fun j h => h.elim) (Nat.le_refl _)) (Nat.lt_succ_self _) (fun a' w' K' hw hn hnew hck => hq a' w' K' (hw0 a' w' K' hw) hn hnew (by show st.ck ≤ ck'; omega))
            · obtain ⟨y, h1, _⟩ := hat i o ho
              exact (hdk i o y ho h1).1
            · obtain ⟨y, h1, h2⟩ := hat i o ho
              rw [h2] at hb
              exact (hdk i o y ho h1).2.1 j hj hb
            · constructor
              · intro _
                obtain ⟨x, h1, h2⟩ := mkT_has (k := 0) e1 i (by omega)
                exact ⟨x, h1, by omega⟩
              · intro _
                simp [Array.getD_eq_getD_getElem?, hi]
            · obtain ⟨o, ho⟩ := hops x hx
              exact ⟨o, ho, hrel _ _ _ ho (hget x hx).1, hbs x hx⟩
            · obtain ⟨o, ho⟩ := hops y hy
              have hx1 := hget x hx
              have hy1 := hget y hy
              have hybf := e4 _ _ _ hy1.1 hy1.2
              rcases (hdk y.i o y.o ho hy1.1).2.2 x.i x.o hlt hx1.1 with h1 | h1
              · exact .inl (by rw [hybf]; exact h1)
              · rcases hpair x.i y.i x.l y.l hlt hx1.2 hy1.2 with h2 | h2
                · exact .inl h2
                · exact .inr ⟨h1, Lg.apart_comm h2⟩
            · have h2 := (hget x hx).2
              rw [List.any_eq_false] at hq'
              have := hq' x.l (by rw [e2]; simpa using List.mem_of_getElem? h2)
              simpa using this
            · simp [Array.getD_eq_getD_getElem?, hi] at hl'
      · cases he

end Go.Aw

/-
  Codes: all.
-/
namespace Go.Aw
open Go.RowKit

variable {call : CallT} {icall : ICallT} {own : FuncId → Option Ty} {inl : FuncId → Bool} {pre : Id} {P : Program} {n0 : Base} {F : Fence} {n : Nat}

theorem least {p : Nat → Prop} (h : ∃ k, p k) : ∃ k, p k ∧ ∀ j, p j → k ≤ j := by
  obtain ⟨k, hk⟩ := h
  induction k using Nat.strongRecOn with
  | _ k ih =>
    by_cases hs : ∃ j, j < k ∧ p j
    · obtain ⟨j, hj, hpj⟩ := hs
      exact ih j hj hpj
    · exact ⟨k, hk, fun j hj => by
        by_cases hlt : j < k
        · exact absurd ⟨j, hlt, hj⟩ hs
        · omega⟩

noncomputable def leastOf (p : Nat → Prop) : Nat := open Classical in if h : ∃ k, p k then Classical.choose (least h) else 0
theorem leastOf_spec {p : Nat → Prop} (h : ∃ k, p k) : p (leastOf p) ∧ ∀ j, p j → leastOf p ≤ j := by
  unfold leastOf
  rw [dif_pos h]
  exact Classical.choose_spec (least h)

/-- A loop that comes to its end within so many rounds. -/
theorem wpIn_loop_fuel {c : Code} {Q : Exit → Act → World → Prop} (G : Nat → Act → World → Prop) (h0 : ∀ a w, ¬ G 0 a w) (hr : ∀ k a w, G (k + 1) a w → c.wpIn F n P (Exit.then (G k) Q) a w) {k : Nat} {a : Act} {w : World} (hg : G k a w) :
    (Code.loop c).wpIn F n P Q a w := by
  refine wpIn_loop (fun a w => ∃ k, G k a w) (fun a w => leastOf fun k => G k a w) ⟨k, hg⟩ (fun a w hI => ?_)
  obtain ⟨h1, h2⟩ := leastOf_spec hI
  cases hk : leastOf (fun k => G k a w) with
  | zero => rw [hk] at h1; exact absurd h1 (h0 a w)
  | succ j =>
    rw [hk] at h1
    refine wpIn_mono (hr j a w h1) (fun e a' w' hq => ?_)
    cases e with
    | normal => exact ⟨⟨j, hq⟩, Nat.lt_succ_of_le ((leastOf_spec ⟨j, hq⟩).2 j hq)⟩
    | _ => exact hq

theorem CPost.refl_went {K : Kx} {a : Act} {w : World} {st : St} {Q : Act → World → Prop} (hs : Slots K w st.s a.tmps) (hI : Inv n0 K st.h w) (hd : a.defers = []) (ht : Till K st.ck) (hq : CPost n0 K w st st Q) : Q a w :=
  hq a w K ⟨.refl K, .refl K w, hs, hI, hd, .refl _ _⟩ ht (New.refl _ _) (Nat.le_refl _)

theorem CPost.step {K K1 : Kx} {a1 : Act} {w w1 : World} {st st1 st2 : St} {Q : Act → World → Prop} (hq : CPost n0 K w st st2 Q) (hw : Went n0 K w st1.s st1.h a1 w1 K1) (hn : New st.ck K K1) (hck : st.ck ≤ st1.ck) : CPost n0 K1 w1 st1 st2 Q :=
  fun a' w' K' hw' ht hn' hck' => hq a' w' K' (hw.trans hw') ht (hn.trans (fun t b h => (hn' t b h).imp id (fun h => Nat.le_trans hck h))) (Nat.le_trans hck hck')

theorem code_wp (hm : P.follows .mixedOrders = true) (hF : OpenF F) (hcall : CallOk F P call) (hicall : ICallOk F P icall) (hclo : CloneOk F P own) {N : Nat} : ∀ (c : Code) (ac : ACode), cCode P c = some ac → ∀ (st st' : St) (ex : Ex), execC call icall own inl pre N ac st = some (ex, st') →
    ∀ (K : Kx) (a : Act) (w : World) (Q : Exit → Act → World → Prop), Slots K w st.s a.tmps → Inv n0 K st.h w → a.defers = [] → Till K st.ck → CPost n0 K w st st' (Q (exitOf ex)) → c.wpIn F n P Q a w := by
  intro c
  induction c with
  | skip =>
    intro ac hc st st' ex he K a w Q hs hI hd ht hq
    simp only [cCode] at hc; cases hc
    simp only [execC] at he; cases he
    exact wpIn_skip (hq.refl_went hs hI hd ht)
  | region id ops draw =>
    intro ac hc st st' ex he K a w Q hs hI hd ht hq
    exact region_wp hm hF hcall hicall hclo hc he hs hI hd ht hq
  | seq x y ihx ihy =>
    intro ac hc st st' ex he K a w Q hs hI hd ht hq
    simp only [cCode] at hc
    cases hx : cCode P x with
    | none => rw [hx] at hc; simp at hc
    | some ax =>
      cases hy : cCode P y with
      | none => rw [hx, hy] at hc; simp at hc
      | some ay =>
        rw [hx, hy] at hc
        simp at hc
        subst hc
        simp only [execC] at he
        refine wpIn_seq ?_
        cases h1 : execC call icall own inl pre N ax st with
        | none => rw [h1] at he; cases he
        | some r =>
          obtain ⟨e1, st1⟩ := r
          rw [h1] at he
          refine ihx ax hx st st1 e1 h1 K a w _ hs hI hd ht (fun a1 w1 K1 hw1 ht1 hn1 hck1 => ?_)
          cases e1 with
          | normal => exact ihy ay hy st1 st' ex he K1 a1 w1 Q hw1.slots hw1.inv hw1.defers ht1 (hq.step hw1 hn1 hck1)
          | exit id => cases he; exact hq a1 w1 K1 hw1 ht1 hn1 hck1
          | ret => cases he; exact hq a1 w1 K1 hw1 ht1 hn1 hck1
  | cond b x y ihx ihy =>
    intro ac hc st st' ex he K a w Q hs hI hd ht hq
    simp only [cCode] at hc
    cases hx : cCode P x with
    | none => rw [hx] at hc; simp at hc
    | some ax =>
      cases hy : cCode P y with
      | none => rw [hx, hy] at hc; simp at hc
      | some ay =>
        rw [hx, hy] at hc
        simp at hc
        subst hc
        simp only [execC] at he
        split at he
        · rename_i q hb
          have hrep := rep_X hs b
          rw [hb] at hrep
          refine wpIn_cond hrep.bool_inv ?_
          cases q with
          | true => exact ihx ax hx st st' ex he K a w Q hs hI hd ht hq
          | false => exact ihy ay hy st st' ex he K a w Q hs hI hd ht hq
        · cases he
  | block id x ih =>
    intro ac hc st st' ex he K a w Q hs hI hd ht hq
    simp only [cCode] at hc
    cases hx : cCode P x with
    | none => rw [hx] at hc; simp at hc
    | some ax =>
      rw [hx] at hc
      simp at hc
      subst hc
      simp only [execC] at he
      refine wpIn_block ?_
      cases h1 : execC call icall own inl pre N ax st with
      | none => rw [h1] at he; cases he
      | some r =>
        obtain ⟨e1, st1⟩ := r
        rw [h1] at he
        refine ih ax hx st st1 e1 h1 K a w _ hs hI hd ht (fun a1 w1 K1 hw1 ht1 hn1 hck1 => ?_)
        cases e1 with
        | normal => cases he; exact hq a1 w1 K1 hw1 ht1 hn1 hck1
        | ret => cases he; exact hq a1 w1 K1 hw1 ht1 hn1 hck1
        | exit j =>
          simp only at he
          show Exit.inBlock id Q (.exit j) a1 w1
          unfold Exit.inBlock
          split at he
          · rename_i hj
            cases he
            simp only [hj, if_true]
            exact hq a1 w1 K1 hw1 ht1 hn1 hck1
          · rename_i hj
            cases he
            simp only [hj, if_false]
            exact hq a1 w1 K1 hw1 ht1 hn1 hck1
  | loop x ih =>
    intro ac hc st st' ex he K a w Q hs hI hd ht hq
    simp only [cCode] at hc
    cases hx : cCode P x with
    | none => rw [hx] at hc; simp at hc
    | some ax =>
      rw [hx] at hc
      simp at hc
      subst hc
      simp only [execC] at he
      refine wpIn_loop_fuel (fun k a w => ∃ (st0 : St) (K0 : Kx), loopN (execC call icall own inl pre N ax) k st0 = some (ex, st') ∧ Slots K0 w st0.s a.tmps ∧ Inv n0 K0 st0.h w ∧ a.defers = [] ∧ Till K0 st0.ck ∧ CPost n0 K0 w st0 st' (Q (exitOf ex)))
        (fun a w ⟨st0, K0, h, _⟩ => by simp [loopN] at h) (fun k a w hg => ?_) (k := N) ⟨st, K, he, hs, hI, hd, ht, hq⟩
      obtain ⟨st0, K0, h, gs, gI, gd, gt, gq⟩ := hg
      simp only [loopN] at h
      cases h1 : execC call icall own inl pre N ax st0 with
      | none => rw [h1] at h; cases h
      | some r =>
        obtain ⟨e1, st1⟩ := r
        rw [h1] at h
        refine ih ax hx st0 st1 e1 h1 K0 a w _ gs gI gd gt (fun a1 w1 K1 hw1 ht1 hn1 hck1 => ?_)
        cases e1 with
        | normal => exact ⟨st1, K1, h, hw1.slots, hw1.inv, hw1.defers, ht1, gq.step hw1 hn1 hck1⟩
        | exit id => cases h; exact gq a1 w1 K1 hw1 ht1 hn1 hck1
        | ret => cases h; exact gq a1 w1 K1 hw1 ht1 hn1 hck1
  | exit id =>
    intro ac hc st st' ex he K a w Q hs hI hd ht hq
    simp only [cCode] at hc; cases hc
    simp only [execC] at he; cases he
    exact wpIn_exit (hq.refl_went hs hI hd ht)
  | label l =>
    intro ac hc st st' ex he K a w Q hs hI hd ht hq
    simp only [cCode] at hc; cases hc
    simp only [execC] at he; cases he
    exact wpIn_label (hq.refl_went hs hI hd ht)
  | ret =>
    intro ac hc st st' ex he K a w Q hs hI hd ht hq
    simp only [cCode] at hc; cases hc
    simp only [execC] at he; cases he
    exact wpIn_ret (hq.refl_went hs hI hd ht)
  | _ =>
    intro ac hc st st' ex he
    simp only [cCode] at hc; cases hc
    simp only [execC] at he; cases he

end Go.Aw

/-
  Functions; levels.
-/
namespace Go.Aw
open Go.RowKit

variable {call : CallT} {icall : ICallT} {own : FuncId → Option Ty} {inl : FuncId → Bool} {pre : Id} {P : Program} {n0 : Base} {F : Fence} {n : Nat} {K : Kx} {h : Heap} {w : World} {s : List AV} {a : Act}

/-- One result. -/
theorem res_ok (hs : Slots K w s a.tmps) (hI : Inv n0 K h w) {r : ResultVar} {ar : ARes} (hc : cRes P r = some ar) {v : AV} (hg : ar.get s h = some v) :
    ∃ x, (match r with | .tmp t => (pure (a.tmps.getD t undef) : Sem Value) | .cell p t => do loadVar t (← asAddr (a.tmps.getD p undef))).run P w = .ok x w ∧ Rep K w v x := by
  cases r with
  | tmp t =>
    simp only [cRes] at hc
    cases hc
    simp only [ARes.get] at hg
    cases hg
    exact ⟨_, rfl, hs.get t⟩
  | cell p t =>
    simp only [cRes] at hc
    cases hu : cTy P t with
    | none => rw [hu] at hc; simp at hc
    | some u =>
      rw [hu] at hc
      simp at hc
      subst hc
      simp only [ARes.get] at hg
      split at hg
      · rename_i i k off hp
        have hrep := hs.get p
        rw [hp] at hrep
        obtain ⟨b, hb, ev⟩ := hrep.ptr_inv
        split at hg
        · rename_i o hrow
          split at hg
          · rename_i cs hsub
            cases hg
            obtain ⟨arr, E, _, _, _, hfl, hcell, _⟩ := hI.cells hrow hb
            obtain ⟨s1, s2, s3⟩ := sub_spec hsub
            obtain ⟨x, h1, h2⟩ := load_cells (P := P) (K := K) (w := w) hu b off cs (fun j => arr.getD (off + j) undef) s1 (fun c hc => hfl.2.2 c (s3 c hc)) (fun j c hj => (hcell _ c (s2 j c hj)).1) (fun j c hj => (hcell _ c (s2 j c hj)).2)
            refine ⟨x, ?_, h2⟩
            simp [ev, asAddr, h1]
          · cases hg
        · cases hg
      · cases hg

theorem getAll_spec : ∀ {rs : List ARes} {vs : List AV}, getAll s h rs = some vs → vs.length = rs.length ∧ ∀ (j : Nat) (r : ARes), rs[j]? = some r → ∃ v, r.get s h = some v ∧ vs[j]? = some v
  | [], vs, hg => by simp only [getAll] at hg; cases hg; exact ⟨rfl, fun j r hj => by simp at hj⟩
  | r :: rs, vs, hg => by
    simp only [getAll] at hg
    split at hg
    · rename_i v vs' h1 h2
      cases hg
      obtain ⟨g1, g2⟩ := getAll_spec h2
      refine ⟨by simp [g1], fun j r' hj => ?_⟩
      cases j with
      | zero => simp at hj; subst hj; exact ⟨v, h1, rfl⟩
      | succ j => exact g2 j r' (by simpa using hj)
    · cases hg

/-- The results of a function. -/
theorem results_ok (hs : Slots K w s a.tmps) (hI : Inv n0 K h w) {fn : Func} {rs : List ARes} (hc : fn.results.toList.mapM (cRes P) = some rs) {vs : List AV} (hg : getAll s h rs = some vs) :
    ∃ x, (results fn a.tmps).run P w = .ok x w ∧ ∃ xs : Array Value, xs.size = vs.length ∧ (∀ (j : Nat) (v : AV), vs[j]? = some v → Rep K w v (xs.getD j undef)) ∧ x = (if h : xs.size = 1 then xs[0] else .tuple xs) := by
  obtain ⟨c1, c2⟩ := mapM_some hc
  obtain ⟨g1, g2⟩ := getAll_spec hg
  let f : ResultVar → Sem Value := fun r => match r with | .tmp t => (pure (a.tmps.getD t undef) : Sem Value) | .cell p t => do loadVar t (← asAddr (a.tmps.getD p undef))
  let g : ResultVar → Value := fun r => match (f r).run P w with | .ok x _ => x | _ => undef
  have each : ∀ (j : Nat) (r : ResultVar), fn.results.toList[j]? = some r → ∃ v, vs[j]? = some v ∧ (f r).run P w = .ok (g r) w ∧ Rep K w v (g r) := fun j r hj => by
    obtain ⟨ar, h1, h2⟩ := c2 j r hj
    obtain ⟨v, h3, h4⟩ := g2 j ar h2
    obtain ⟨x, h5, h6⟩ := res_ok hs hI h1 h3
    have : g r = x := by
      show (match (f r).run P w with | .ok x _ => x | _ => undef) = x
      rw [show (f r).run P w = .ok x w from h5]
    exact ⟨v, h4, by rw [this]; exact h5, by rw [this]; exact h6⟩
  have hrun : (fn.results.mapM f).run P w = .ok (fn.results.map g) w := run_mapM_array f g fn.results (fun r hr => by
    obtain ⟨j, hj⟩ := List.getElem?_of_mem hr
    obtain ⟨v, _, h2, _⟩ := each j r hj
    exact h2)
  have hf : results fn a.tmps = (fn.results.mapM f >>= fun vs => pure (if h : vs.size = 1 then vs[0] else .tuple vs)) := by
    unfold results
    congr 2
  refine ⟨_, by rw [hf]; simp only [Sem.run_bind, hrun]; rfl, fn.results.map g, ?_, fun j v hj => ?_, rfl⟩
  · simp [g1, c1]
  · have hlt := (List.getElem?_eq_some_iff.1 hj).1
    have hlt2 : j < fn.results.size := by rw [g1, c1] at hlt; simpa using hlt
    obtain ⟨v', h1, _, h3⟩ := each j fn.results[j] (by simp [hlt2])
    rw [hj] at h1
    cases h1
    simpa [Array.getD_eq_getD_getElem?, hlt2] using h3

/-- A function's body, run. -/
theorem body_ok (hm : P.follows .mixedOrders = true) (hF : OpenF F) (hro : F.round = none) (hcall : CallOk F P call) (hicall : ICallOk F P icall) (hclo : CloneOk F P own) {N : Nat} {f : FuncId} {afn : AFunc} (hf : tabOf P f = some afn) {args : List AV} {ck ck' : Nat} {h' : Heap} {vs : List AV}
    (hb : body1 call icall own inl N afn args pre h ck = some (vs, h', ck')) {xs : Array Value} (hx : xs.size = args.length) (hr : ∀ (j : Nat) (v : AV), args[j]? = some v → Rep K w v (xs.getD j undef)) (hI : Inv n0 K h w) (ht : Till K ck) :
    Callable P f ∧ CallsIn F n P f xs w fun e w' => ∃ x K', e = .returned x ∧ K.le K' ∧ Kept K w w' ∧ Inv n0 K' h' w' ∧ Rep K' w' (tupOf vs) x ∧ Below n0 w w' ∧ New ck K K' ∧ Till K' ck' ∧ ck ≤ ck' ∧
      ∃ rs : Array Value, rs.size = vs.length ∧ (∀ (j : Nat) (v : AV), vs[j]? = some v → Rep K' w' v (rs.getD j undef)) ∧ x = (if h : rs.size = 1 then rs[0] else .tuple rs) := by
  unfold tabOf at hf
  cases hfn : P.funcs[f]? with
  | none => rw [hfn] at hf; simp at hf
  | some fn =>
    rw [hfn] at hf
    simp only [Option.bind_eq_bind, Option.bind_some] at hf
    unfold cFunc at hf
    cases hbody : fn.body with
    | none => rw [hbody] at hf; simp at hf
    | some c =>
      rw [hbody] at hf
      simp only [Option.bind_eq_bind, Option.bind_some] at hf
      split at hf
      · cases hf
      · rename_i hname
        cases hres : fn.results.toList.mapM (cRes P) with
        | none => rw [hres] at hf; simp at hf
        | some rs =>
          rw [hres] at hf
          simp only [Option.bind_some] at hf
          cases hc : cCode P c with
          | none => rw [hc] at hf; simp at hf
          | some ac =>
            rw [hc] at hf
            simp at hf
            subst hf
            refine ⟨⟨fn, hfn, by simpa using hname, by rw [hbody]; rfl⟩, ?_⟩
            unfold body1 at hb
            split at hb
            · cases hb
            · rename_i hnp
              refine callsIn_of_wp hfn hbody (hF.1 f) ?_ hro
              have hslots : Slots K w (args ++ List.replicate (fn.ntmps - args.length) AV.undef) (xs ++ Array.replicate (fn.ntmps - xs.size) undef) := by
                refine ⟨by simp [hx], fun j v hj => ?_⟩
                by_cases hlt : j < args.length
                · rw [List.getElem?_append_left hlt] at hj
                  have := hr j v hj
                  rw [Array.getD_eq_getD_getElem?] at this ⊢
                  rw [Array.getElem?_append_left (by omega)]
                  exact this
                · rw [List.getElem?_append_right (by omega)] at hj
                  have := List.mem_of_getElem? hj
                  have := (List.mem_replicate.1 this).2
                  subst this
                  exact .undef _
              -- what stands at the end
              have fin : ∀ (ex : Ex) (st' : St), (ex = .ret ∨ ex = .normal) → execC call icall own inl pre N ac (start { np := fn.params.size + fn.nfree, nt := fn.ntmps, res := rs, body := ac } args h ck) = some (ex, st') → getAll st'.s st'.h rs = some vs → h' = st'.h → ck' = st'.ck →
                  c.wpIn F n P (bodyPost P fn fun e w' => ∃ x K', e = .returned x ∧ K.le K' ∧ Kept K w w' ∧ Inv n0 K' h' w' ∧ Rep K' w' (tupOf vs) x ∧ Below n0 w w' ∧ New ck K K' ∧ Till K' ck' ∧ ck ≤ ck' ∧
                    ∃ rs : Array Value, rs.size = vs.length ∧ (∀ (j : Nat) (v : AV), vs[j]? = some v → Rep K' w' v (rs.getD j undef)) ∧ x = (if h : rs.size = 1 then rs[0] else .tuple rs))
                    { tmps := xs ++ Array.replicate (fn.ntmps - xs.size) undef, defers := [] } w := fun ex st' hex he hg e1 e2 => by
                subst e1; subst e2
                refine code_wp hm hF hcall hicall hclo c ac hc _ st' ex he K _ w _ hslots hI rfl ht (fun a' w' K' hw ht' hn hck => ?_)
                obtain ⟨x, r1, ys, r2, r3, r4⟩ := results_ok hw.slots hw.inv hres hg
                have hrep : Rep K' w' (tupOf vs) x := by
                  rw [r4]
                  split
                  · rename_i h1
                    match vs, r2 with
                    | [v], r2 =>
                      have := r3 0 v rfl
                      rw [Array.getD_eq_getD_getElem?, Array.getElem?_eq_getElem (by omega)] at this
                      exact this
                    | [], r2 => rw [r2] at h1; simp at h1
                    | _ :: _ :: _, r2 => rw [r2] at h1; simp at h1
                  · rename_i h1
                    have : tupOf vs = .tup vs := by
                      match vs, r2 with
                      | [v], r2 => exact absurd (by rw [r2]; rfl) h1
                      | [], r2 => rfl
                      | _ :: _ :: _, r2 => rfl
                    rw [this]
                    exact .tup vs ys r2 r3
                have hpost : a'.defers = [] ∧ ∃ v, (results fn a'.tmps).run P w' = .ok v w' ∧ ∃ x K', Ending.returned v = .returned x ∧ K.le K' ∧ Kept K w w' ∧ Inv n0 K' st'.h w' ∧ Rep K' w' (tupOf vs) x ∧ Below n0 w w' ∧ New ck K K' ∧ Till K' st'.ck ∧ ck ≤ st'.ck ∧
                    ∃ rs : Array Value, rs.size = vs.length ∧ (∀ (j : Nat) (v : AV), vs[j]? = some v → Rep K' w' v (rs.getD j undef)) ∧ x = (if h : rs.size = 1 then rs[0] else .tuple rs) :=
                  ⟨hw.defers, x, r1, x, K', rfl, hw.le, hw.kept, hw.inv, hrep, hw.below, hn, ht', hck, ys, r2, r3, r4⟩
                rcases hex with rfl | rfl
                · exact hpost
                · exact hpost
              split at hb
              · rename_i st' he
                split at hb
                · rename_i vs' hg
                  cases hb
                  exact fin .ret st' (.inl rfl) he hg rfl rfl
                · cases hb
              · rename_i st' he
                split at hb
                · rename_i vs' hg
                  cases hb
                  exact fin .normal st' (.inr rfl) he hg rfl rfl
                · cases hb
              · cases hb

end Go.Aw

/-
  Levels: whatever the abstract machine tells of a call is what the call does.
-/
namespace Go.Aw
open Go.RowKit

variable {P : Program} {F : Fence}

theorem empty_inv {S : Kx} {w : World} (hp : ∀ b i, S.prot b i → b < w.heap.size) (hm : ∀ b, S.pm b → b < w.heap.size) : Inv ⟨w.heap.size, S.prot, S.pm⟩ S.bare ⟨[], []⟩ w where
  size := Nat.le_refl _
  pb := hp
  mb := hm
  tb := fun t b h => by simp [Kx.bare] at h
  objs := fun id o h => by simp [Heap.get, Heap.get.go] at h
  rts := fun r h => by cases h
  u1 := fun i j o p b h => by simp [Heap.get, Heap.get.go] at h
  u2 := fun i o b r h => by simp [Heap.get, Heap.get.go] at h
  u3 := fun r q b h => by cases h
  pz := fun b i h => .inr h
  mz := fun b h => .inr h

theorem tab_callable {f : FuncId} {afn : AFunc} (hf : tabOf P f = some afn) : Callable P f := by
  unfold tabOf at hf
  cases hfn : P.funcs[f]? with
  | none => rw [hfn] at hf; simp at hf
  | some fn =>
    rw [hfn] at hf
    simp only [Option.bind_eq_bind, Option.bind_some] at hf
    unfold cFunc at hf
    cases hbody : fn.body with
    | none => rw [hbody] at hf; simp at hf
    | some c =>
      rw [hbody] at hf
      simp only [Option.bind_eq_bind, Option.bind_some] at hf
      split at hf
      · cases hf
      · rename_i hname
        exact ⟨fn, hfn, by simpa using hname, by rw [hbody]; rfl⟩

theorem lvl_ok (hm : P.follows .mixedOrders = true) (hF : OpenF F) (hro : F.round = none) {E : Env} (htab : ∀ f a, E.tab f = some a → tabOf P f = some a) (hext : CallOk F P E.ext) (hclo : CloneOk F P E.own) : ∀ k, CallOk F P (lvl E k).1 ∧ ICallOk F P (lvl E k).2
  | 0 => ⟨fun f ts r h => by simp [lvl] at h, fun f as pre h ck v h' ck' he => by simp [lvl] at he⟩
  | k + 1 => by
    obtain ⟨ih1, ih2⟩ := lvl_ok hm hF hro htab hext hclo k
    refine ⟨fun f ts r hr => ?_, fun f as pre h ck v h' ck' he => ?_⟩
    · simp only [lvl] at hr
      split at hr
      · rename_i r' hx
        cases hr
        exact hext f ts _ hx
      · split at hr
        · cases hr
        · rename_i afn ht
          split at hr
          · rename_i vs h' ck' hb
            unfold handBack at hr
            split at hr
            · rename_i ts' ids hmt
              cases hr
              have main : ∀ (n : Nat) (S : Kx) (w : World) (args : Array Value), args.size = ts.length → (∀ b i, S.prot b i → b < w.heap.size) → (∀ b, S.pm b → b < w.heap.size) → (∀ (j : Nat) (t : AV), ts[j]? = some t → Rep S.bare w t (args.getD j undef)) → _ := fun n S w args h1 h2 h3 h4 =>
                body_ok (n0 := ⟨w.heap.size, S.prot, S.pm⟩) (K := S.bare) (n := n) hm hF hro ih1 ih2 hclo (htab f afn ht) hb h1 h4 (empty_inv h2 h3) (fun t b h => by simp [Kx.bare] at h)
              refine ⟨tab_callable (htab f afn ht), fun n S w args h1 h2 h3 h4 => ?_⟩
              · refine (main n S w args h1 h2 h3 h4).2.mono fun e w' hx => ?_
                obtain ⟨x, K', rfl, k1, k2, k3, k4, k5, k6, k7, k8, rs, k9, k10, k11⟩ := hx
                refine ⟨x, rfl, K'.cover h' ids, fun b i hp => .inl (k1.prot b i hp), k1.pm, fun b i hp => ?_, fun b hp => (k3.mz b hp).symm, fun b i hp => ?_, k3.mb, ?_, k5⟩
                · rcases hp with hp | ⟨id, _, o, hg, hb', _⟩
                  · exact (k3.pz b i hp).symm
                  · obtain ⟨b2, _, _, g1, g2, _⟩ := k3.objs id o hg
                    rw [hb'] at g1; cases g1
                    exact .inr g2
                · rcases hp with hp | ⟨id, _, o, hg, hb', _⟩
                  · exact k3.pb b i hp
                  · exact k3.tb _ _ hb'
                · obtain ⟨m1, m2⟩ := mapT_spec hmt
                  have each : ∀ (j : Nat) (t : AV), ts'[j]? = some t → Rep (K'.cover h' ids).bare w' t (rs.getD j undef) := fun j t hj => by
                    have hlt := (List.getElem?_eq_some_iff.1 hj).1
                    obtain ⟨t', is, g1, g2, g3⟩ := m2 j vs[j] (by simp [show j < vs.length by omega])
                    rw [hj] at g2; cases g2
                    exact (toTree_ok k3 deep _ _ t is ids (k10 j _ (by simp [show j < vs.length by omega])) g1 g3).1
                  rw [k11]
                  split
                  · rename_i h1
                    match ts', (show ts'.length = rs.size by rw [m1, k9]), each with
                    | [t], hl, each =>
                      have := each 0 t rfl
                      rw [Array.getD_eq_getD_getElem?, Array.getElem?_eq_getElem (by omega)] at this
                      exact this
                    | [], hl, _ => rw [h1] at hl; simp at hl
                    | _ :: _ :: _, hl, _ => rw [h1] at hl; simp at hl
                  · rename_i h1
                    have ht' : tupOf ts' = .tup ts' := by
                      match ts', (show ts'.length = rs.size by rw [m1, k9]) with
                      | [v], hl => exact absurd hl.symm h1
                      | [], _ => rfl
                      | _ :: _ :: _, _ => rfl
                    rw [ht']
                    exact .tup ts' rs (by rw [m1, k9]) each
            · cases hr
          · cases hr
    · simp only [lvl] at he
      split at he
      · cases he
      · rename_i afn ht
        split at he
        · rename_i vs h2 ck2 hb
          cases he
          refine ⟨tab_callable (htab f afn ht), fun n n0 K w args h1 h3 h4 h5 => ?_⟩
          refine (body_ok (n := n) hm hF hro ih1 ih2 hclo (htab f afn ht) hb h1 h5 h3 h4).2.mono fun e w' hx => ?_
          obtain ⟨x, K', rfl, k1, k2, k3, k4, k5, k6, k7, k8, _⟩ := hx
          exact ⟨x, K', rfl, k1, k2, k3, k4, k5, fun t b hb' => (k6 t b hb').imp id (fun hh => ⟨hh, k7 t b hb'⟩), k8⟩
        · cases he

end Go.Aw

/-
  More fuel tells the same; the limit of all levels; what a function's body must show.
-/
namespace Go.Aw

def CLe (c c' : CallT) : Prop := ∀ f a r, c f a = some r → c' f a = some r
def ILe (i i' : ICallT) : Prop := ∀ f a p h k r, i f a p h k = some r → i' f a p h k = some r

section
variable {c c' : CallT} {i i' : ICallT} {own : FuncId → Option Ty} {inl : FuncId → Bool}

theorem acall_mono (hc : CLe c c') {id : Id} {tk : Tok} {h : Heap} {f : FuncId} {args : List AV} {e : Ev} (he : acall c own id tk h f args = some e) : acall c' own id tk h f args = some e := by
  unfold acall at he ⊢
  split at he
  · exact he
  · split at he
    · split at he
      · rename_i r hr
        rw [hc _ _ _ hr]
        exact he
      · cases he
    · cases he

theorem evOp_mono (hc : CLe c c') {s : List AV} {h : Heap} {id : Id} {tk : Tok} {op : AOp} {e : Ev} (he : evOp c own s h id tk op = some e) : evOp c' own s h id tk op = some e := by
  cases op with
  | call f args => exact acall_mono hc he
  | callv f args =>
    simp only [evOp] at he ⊢
    split at he
    · exact acall_mono hc he
    · cases he
  | _ => exact he

theorem runOp1_mono (hc : CLe c c') (hi : ILe i i') {pre : Id} {rc j : Nat} {o : AOper} {s : List AV} {h : Heap} {ck : Nat} {r : List AV × Heap × Nat × Lg} (he : runOp1 c i own inl pre rc j o s h ck = some r) : runOp1 c' i' own inl pre rc j o s h ck = some r := by
  unfold runOp1 at he ⊢
  split at he
  · split at he
    · rename_i hx
      rw [hi _ _ _ _ _ _ hx]
      exact he
    · cases he
  · split at he
    · rename_i hx
      rw [evOp_mono hc hx]
      exact he
    · cases he

theorem runOp_mono (hc : CLe c c') (hi : ILe i i') {pre : Id} {rc j : Nat} {o : AOper} {s : List AV} {h : Heap} {ck : Nat} {r : List AV × Heap × Nat × Lg} (he : runOp c i own inl pre rc j o s h ck = some r) : runOp c' i' own inl pre rc j o s h ck = some r := by
  unfold runOp at he ⊢
  split at he
  · exact runOp1_mono hc hi he
  · split at he
    · split at he
      · rename_i h1
        rw [if_pos h1]
        exact runOp1_mono hc hi he
      · rename_i h1
        rw [if_neg h1]
        exact he
    · exact he
    · cases he

theorem runOps_mono (hc : CLe c c') (hi : ILe i i') {pre : Id} {rc : Nat} : ∀ {ops : List AOper} {j : Nat} {s : List AV} {h : Heap} {ck : Nat} {lg : List Lg} {r : List AV × Heap × Nat × List Lg}, runOps c i own inl pre rc j ops s h ck lg = some r → runOps c' i' own inl pre rc j ops s h ck lg = some r
  | [], _, _, _, _, _, _, he => he
  | o :: ops, j, s, h, ck, lg, r, he => by
    unfold runOps at he ⊢
    split at he
    · rename_i hx
      rw [runOp_mono hc hi hx]
      exact runOps_mono hc hi he
    · cases he

theorem loopN_mono {f f' : St → Option (Ex × St)} (hf : ∀ st r, f st = some r → f' st = some r) : ∀ {n n' : Nat} {st : St} {r : Ex × St}, n ≤ n' → loopN f n st = some r → loopN f' n' st = some r
  | 0, _, _, _, _, he => by simp [loopN] at he
  | n + 1, 0, _, _, hn, _ => by omega
  | n + 1, n' + 1, st, r, hn, he => by
    unfold loopN at he ⊢
    split at he
    · rename_i st' hx
      rw [hf _ _ hx]
      exact loopN_mono hf (by omega) he
    · rename_i hx
      rw [hf _ _ he]
      split
      · rename_i heq
        cases heq
        exact absurd he (hx _)
      · rfl

theorem execC_mono (hc : CLe c c') (hi : ILe i i') {pre : Id} {n n' : Nat} (hn : n ≤ n') : ∀ {code : ACode} {st : St} {r : Ex × St}, execC c i own inl pre n code st = some r → execC c' i' own inl pre n' code st = some r
  | .skip, _, _, he => he
  | .region ops draw, st, r, he => by
    unfold execC at he ⊢
    split at he
    · rename_i hx
      rw [runOps_mono hc hi hx]
      exact he
    · cases he
  | .seq a b, st, r, he => by
    unfold execC at he ⊢
    split at he
    · rename_i hx
      rw [execC_mono hc hi hn hx]
      exact execC_mono hc hi hn he
    · rename_i hx
      rw [execC_mono hc hi hn he]
      split
      · rename_i heq
        cases heq
        exact absurd he (hx _)
      · rfl
  | .cond cc x y, st, r, he => by
    unfold execC at he ⊢
    split at he
    · split at he
      · rename_i h1; rw [if_pos h1]; exact execC_mono hc hi hn he
      · rename_i h1; rw [if_neg h1]; exact execC_mono hc hi hn he
    · cases he
  | .block id cc, st, r, he => by
    unfold execC at he ⊢
    split at he
    · rename_i hx
      rw [execC_mono hc hi hn hx]
      exact he
    · rename_i hx
      rw [execC_mono hc hi hn he]
      split
      · rename_i heq
        cases heq
        exact absurd he (hx _ _)
      · rfl
  | .loop cc, st, r, he => by
    unfold execC at he ⊢
    exact loopN_mono (fun st r h => execC_mono hc hi hn h) hn he
  | .exit _, _, _, he => he
  | .ret, _, _, he => he
  | .bad, _, _, he => by simp [execC] at he

theorem body1_mono (hc : CLe c c') (hi : ILe i i') {n n' : Nat} (hn : n ≤ n') {fn : AFunc} {args : List AV} {pre : Id} {h : Heap} {ck : Nat} {r : List AV × Heap × Nat} (he : body1 c i own inl n fn args pre h ck = some r) : body1 c' i' own inl n' fn args pre h ck = some r := by
  unfold body1 at he ⊢
  split at he
  · cases he
  · rename_i h1
    rw [if_neg h1]
    split at he
    · rename_i hx
      rw [execC_mono hc hi hn hx]
      exact he
    · rename_i hx
      rw [execC_mono hc hi hn hx]
      exact he
    · cases he
end

theorem lvl_succ (E : Env) : ∀ k, CLe (lvl E k).1 (lvl E (k + 1)).1 ∧ ILe (lvl E k).2 (lvl E (k + 1)).2
  | 0 => ⟨fun f a r h => by simp [lvl] at h, fun f a p h k r he => by simp [lvl] at he⟩
  | k + 1 => by
    obtain ⟨ih1, ih2⟩ := lvl_succ E k
    refine ⟨fun f a r h => ?_, fun f a p h ck r he => ?_⟩
    · unfold lvl at h ⊢
      simp only at h ⊢
      split at h
      · exact h
      · split at h
        · cases h
        · split at h
          · rename_i hb
            rw [body1_mono ih1 ih2 (Nat.le_succ k) hb]
            exact h
          · cases h
    · unfold lvl at he ⊢
      simp only at he ⊢
      split at he
      · cases he
      · split at he
        · rename_i hb
          rw [body1_mono ih1 ih2 (Nat.le_succ k) hb]
          exact he
        · cases he

theorem lvl_mono (E : Env) {k k' : Nat} (h : k ≤ k') : CLe (lvl E k).1 (lvl E k').1 ∧ ILe (lvl E k).2 (lvl E k').2 := by
  induction h with
  | refl => exact ⟨fun _ _ _ h => h, fun _ _ _ _ _ _ h => h⟩
  | step _ ih => exact ⟨fun f a r h => (lvl_succ E _).1 _ _ _ (ih.1 _ _ _ h), fun f a p h ck r he => (lvl_succ E _).2 _ _ _ _ _ _ (ih.2 _ _ _ _ _ _ he)⟩

/-- What some level tells of a call. -/
noncomputable def cL (E : Env) : CallT := fun f a => open Classical in if h : ∃ r k, (lvl E k).1 f a = some r then some h.choose else none
noncomputable def iL (E : Env) : ICallT := fun f a p h ck => open Classical in if h : ∃ r k, (lvl E k).2 f a p h ck = some r then some h.choose else none

theorem cL_iff {E : Env} {f : FuncId} {a : List AV} {r : AV} : cL E f a = some r ↔ ∃ k, (lvl E k).1 f a = some r := by
  unfold cL
  split
  · rename_i h
    obtain ⟨k, hk⟩ := h.choose_spec
    constructor
    · intro he; cases he; exact ⟨k, hk⟩
    · rintro ⟨j, hj⟩
      have h1 := (lvl_mono E (Nat.le_max_left k j)).1 _ _ _ hk
      have h2 := (lvl_mono E (Nat.le_max_right k j)).1 _ _ _ hj
      rw [h1] at h2
      exact h2
  · rename_i h
    constructor
    · intro he; cases he
    · rintro ⟨j, hj⟩; exact absurd ⟨r, j, hj⟩ h

theorem iL_iff {E : Env} {f : FuncId} {a : List AV} {p : Id} {h : Heap} {ck : Nat} {r : AV × Heap × Nat} : iL E f a p h ck = some r ↔ ∃ k, (lvl E k).2 f a p h ck = some r := by
  unfold iL
  split
  · rename_i hh
    obtain ⟨k, hk⟩ := hh.choose_spec
    constructor
    · intro he; cases he; exact ⟨k, hk⟩
    · rintro ⟨j, hj⟩
      have h1 := (lvl_mono E (Nat.le_max_left k j)).2 _ _ _ _ _ _ hk
      have h2 := (lvl_mono E (Nat.le_max_right k j)).2 _ _ _ _ _ _ hj
      rw [h1] at h2
      exact h2
  · rename_i hh
    constructor
    · intro he; cases he
    · rintro ⟨j, hj⟩; exact absurd ⟨r, j, hj⟩ hh

section
variable {E : Env}

theorem evOp_cpt {s : List AV} {h : Heap} {id : Id} {tk : Tok} {op : AOp} {e : Ev} (he : evOp (cL E) E.own s h id tk op = some e) : ∃ k, evOp (lvl E k).1 E.own s h id tk op = some e := by
  have call : ∀ f args, acall (cL E) E.own id tk h f args = some e → ∃ k, acall (lvl E k).1 E.own id tk h f args = some e := fun f args he => by
    unfold acall at he
    split at he
    · rename_i hx
      exact ⟨0, by unfold acall; simp only [hx]; exact he⟩
    · rename_i hx
      split at he
      · rename_i hm
        split at he
        · rename_i hr
          obtain ⟨k, hk⟩ := cL_iff.1 hr
          exact ⟨k, by unfold acall; simp only [hx, hm, hk]; exact he⟩
        · cases he
      · cases he
  cases op with
  | call f args => exact call _ _ he
  | callv f args =>
    simp only [evOp] at he
    split at he
    · rename_i hx
      obtain ⟨k, hk⟩ := call _ _ he
      exact ⟨k, by simp only [evOp, hx]; exact hk⟩
    · cases he
  | _ => exact ⟨0, he⟩

theorem runOp1_cpt {pre : Id} {rc j : Nat} {o : AOper} {s : List AV} {h : Heap} {ck : Nat} {r : List AV × Heap × Nat × Lg} (he : runOp1 (cL E) (iL E) E.own E.inl pre rc j o s h ck = some r) : ∃ k, runOp1 (lvl E k).1 (lvl E k).2 E.own E.inl pre rc j o s h ck = some r := by
  unfold runOp1 at he
  split at he
  · rename_i hi
    split at he
    · rename_i hx
      obtain ⟨k, hk⟩ := iL_iff.1 hx
      exact ⟨k, by unfold runOp1; simp only [hi, hk]; exact he⟩
    · cases he
  · rename_i hi
    split at he
    · rename_i hx
      obtain ⟨k, hk⟩ := evOp_cpt hx
      exact ⟨k, by unfold runOp1; simp only [hi, hk]; exact he⟩
    · cases he

theorem runOp_cpt {pre : Id} {rc j : Nat} {o : AOper} {s : List AV} {h : Heap} {ck : Nat} {r : List AV × Heap × Nat × Lg} (he : runOp (cL E) (iL E) E.own E.inl pre rc j o s h ck = some r) : ∃ k, runOp (lvl E k).1 (lvl E k).2 E.own E.inl pre rc j o s h ck = some r := by
  unfold runOp at he
  split at he
  · rename_i hg
    obtain ⟨k, hk⟩ := runOp1_cpt he
    exact ⟨k, by unfold runOp; simp only [hg]; exact hk⟩
  · rename_i hg
    split at he
    · rename_i hb
      split at he
      · rename_i h1
        obtain ⟨k, hk⟩ := runOp1_cpt he
        exact ⟨k, by unfold runOp; simp only [hg, hb, if_pos h1]; exact hk⟩
      · rename_i h1
        exact ⟨0, by unfold runOp; simp only [hg, hb, if_neg h1]; exact he⟩
    · rename_i hb
      exact ⟨0, by unfold runOp; simp only [hg, hb]; exact he⟩
    · cases he

theorem runOps_cpt {pre : Id} {rc : Nat} : ∀ {ops : List AOper} {j : Nat} {s : List AV} {h : Heap} {ck : Nat} {lg : List Lg} {r : List AV × Heap × Nat × List Lg}, runOps (cL E) (iL E) E.own E.inl pre rc j ops s h ck lg = some r → ∃ k, runOps (lvl E k).1 (lvl E k).2 E.own E.inl pre rc j ops s h ck lg = some r
  | [], _, _, _, _, _, _, he => ⟨0, he⟩
  | o :: ops, j, s, h, ck, lg, r, he => by
    unfold runOps at he
    split at he
    · rename_i hx
      obtain ⟨k1, hk1⟩ := runOp_cpt hx
      obtain ⟨k2, hk2⟩ := runOps_cpt he
      have h1 := lvl_mono E (Nat.le_max_left k1 k2)
      have h2 := lvl_mono E (Nat.le_max_right k1 k2)
      exact ⟨max k1 k2, by unfold runOps; rw [runOp_mono h1.1 h1.2 hk1]; exact runOps_mono h2.1 h2.2 hk2⟩
    · cases he

theorem loopN_cpt {f : St → Option (Ex × St)} {g : Nat → St → Option (Ex × St)} (hg : ∀ k k' st r, k ≤ k' → g k st = some r → g k' st = some r) (hf : ∀ st r, f st = some r → ∃ k, g k st = some r) : ∀ {n : Nat} {st : St} {r : Ex × St}, loopN f n st = some r → ∃ k, loopN (g k) n st = some r
  | 0, _, _, he => by simp [loopN] at he
  | n + 1, st, r, he => by
    unfold loopN at he
    split at he
    · rename_i st' hx
      obtain ⟨k1, hk1⟩ := hf _ _ hx
      obtain ⟨k2, hk2⟩ := loopN_cpt hg hf he
      exact ⟨max k1 k2, by
        unfold loopN
        rw [hg _ _ _ _ (Nat.le_max_left k1 k2) hk1]
        exact loopN_mono (fun st r h => hg _ _ _ _ (Nat.le_max_right k1 k2) h) (Nat.le_refl _) hk2⟩
    · rename_i hx
      obtain ⟨k, hk⟩ := hf _ _ he
      refine ⟨k, ?_⟩
      unfold loopN
      rw [hk]
      split
      · rename_i heq
        cases heq
        exact absurd he (hx _)
      · rfl

theorem execC_cpt {pre : Id} {n : Nat} : ∀ {code : ACode} {st : St} {r : Ex × St}, execC (cL E) (iL E) E.own E.inl pre n code st = some r → ∃ k, execC (lvl E k).1 (lvl E k).2 E.own E.inl pre n code st = some r
  | .skip, _, _, he => ⟨0, he⟩
  | .region ops draw, st, r, he => by
    unfold execC at he
    split at he
    · rename_i hx
      obtain ⟨k, hk⟩ := runOps_cpt hx
      exact ⟨k, by unfold execC; simp only [hk]; exact he⟩
    · cases he
  | .seq a b, st, r, he => by
    unfold execC at he
    split at he
    · rename_i hx
      obtain ⟨k1, hk1⟩ := execC_cpt hx
      obtain ⟨k2, hk2⟩ := execC_cpt he
      have h1 := lvl_mono E (Nat.le_max_left k1 k2)
      have h2 := lvl_mono E (Nat.le_max_right k1 k2)
      exact ⟨max k1 k2, by unfold execC; rw [execC_mono h1.1 h1.2 (Nat.le_refl _) hk1]; exact execC_mono h2.1 h2.2 (Nat.le_refl _) hk2⟩
    · rename_i hx
      obtain ⟨k, hk⟩ := execC_cpt he
      refine ⟨k, ?_⟩
      unfold execC
      rw [hk]
      split
      · rename_i heq
        cases heq
        exact absurd he (hx _)
      · rfl
  | .cond cc x y, st, r, he => by
    unfold execC at he
    split at he
    · rename_i hb
      split at he
      · rename_i h1
        obtain ⟨k, hk⟩ := execC_cpt he
        exact ⟨k, by unfold execC; simp only [hb, if_pos h1]; exact hk⟩
      · rename_i h1
        obtain ⟨k, hk⟩ := execC_cpt he
        exact ⟨k, by unfold execC; simp only [hb, if_neg h1]; exact hk⟩
    · cases he
  | .block id cc, st, r, he => by
    unfold execC at he
    split at he
    · rename_i hx
      obtain ⟨k, hk⟩ := execC_cpt hx
      exact ⟨k, by unfold execC; simp only [hk]; exact he⟩
    · rename_i hx
      obtain ⟨k, hk⟩ := execC_cpt he
      refine ⟨k, ?_⟩
      unfold execC
      rw [hk]
      split
      · rename_i heq
        cases heq
        exact absurd he (hx _ _)
      · rfl
  | .loop cc, st, r, he => by
    unfold execC at he
    obtain ⟨k, hk⟩ := loopN_cpt (g := fun k => execC (lvl E k).1 (lvl E k).2 E.own E.inl pre n cc) (fun k k' st r h hx => execC_mono (lvl_mono E h).1 (lvl_mono E h).2 (Nat.le_refl _) hx) (fun st r h => execC_cpt h) he
    exact ⟨k, by unfold execC; exact hk⟩
  | .exit _, _, _, he => ⟨0, he⟩
  | .ret, _, _, he => ⟨0, he⟩
  | .bad, _, _, he => by simp [execC] at he

theorem body1_cpt {n : Nat} {fn : AFunc} {args : List AV} {pre : Id} {h : Heap} {ck : Nat} {r : List AV × Heap × Nat} (he : body1 (cL E) (iL E) E.own E.inl n fn args pre h ck = some r) : ∃ k, body1 (lvl E k).1 (lvl E k).2 E.own E.inl k fn args pre h ck = some r := by
  unfold body1 at he
  split at he
  · cases he
  · rename_i h1
    split at he
    all_goals first | cases he | (
      rename_i hx
      obtain ⟨k, hk⟩ := execC_cpt hx
      have h2 := lvl_mono E (Nat.le_max_left k n)
      refine ⟨max k n, ?_⟩
      unfold body1
      rw [if_neg h1, execC_mono h2.1 h2.2 (Nat.le_max_right k n) hk]
      exact he)

/-- What a body shows at the limit, a call does. -/
theorem cL_of {f : FuncId} {fn : AFunc} {args : List AV} {n : Nat} {vs : List AV} {h : Heap} {ck : Nat} {r : AV} (ht : E.tab f = some fn) (hx : E.ext f args = none) (hb : body1 (cL E) (iL E) E.own E.inl n fn args [] ⟨[], []⟩ 0 = some (vs, h, ck)) (hr : handBack h vs = some r) : cL E f args = some r := by
  obtain ⟨k, hk⟩ := body1_cpt hb
  refine cL_iff.2 ⟨k + 1, ?_⟩
  simp only [lvl, hx, ht, hk]
  exact hr

theorem cL_ext {f : FuncId} {args : List AV} {r : AV} (hx : E.ext f args = some r) : cL E f args = some r :=
  cL_iff.2 ⟨1, by simp only [lvl, hx]⟩

theorem iL_of {f : FuncId} {fn : AFunc} {args : List AV} {n : Nat} {pre : Id} {h0 : Heap} {ck0 : Nat} {vs : List AV} {h : Heap} {ck : Nat} (ht : E.tab f = some fn) (hb : body1 (cL E) (iL E) E.own E.inl n fn args pre h0 ck0 = some (vs, h, ck)) : iL E f args pre h0 ck0 = some (tupOf vs, h, ck) := by
  obtain ⟨k, hk⟩ := body1_cpt hb
  refine iL_iff.2 ⟨k + 1, ?_⟩
  simp only [lvl, ht, hk]

/-- What is told of code at the limit. -/
inductive Xc (E : Env) (pre : Id) (code : ACode) (st : St) (Q : Ex → St → Prop) : Prop
  | mk (n : Nat) (e : Ex) (st' : St) (h : execC (cL E) (iL E) E.own E.inl pre n code st = some (e, st')) (q : Q e st')

/-- What is told of operations at the limit. -/
def Xo (E : Env) (pre : Id) (rc i : Nat) (ops : List AOper) (s : List AV) (h : Heap) (ck : Nat) (lg : List Lg) (Q : List AV → Heap → Nat → List Lg → Prop) : Prop :=
  match runOps (cL E) (iL E) E.own E.inl pre rc i ops s h ck lg with
  | some (s, h, ck, lg) => Q s h ck lg
  | none => False

def onEx (e : Ex) (a : Prop) (b : Prop) : Prop := match e with | .normal => a | _ => b

variable {pre : Id} {st : St} {Q : Ex → St → Prop}

theorem Xc.mono {Q' : Ex → St → Prop} {code : ACode} (h : Xc E pre code st Q) (hq : ∀ e st, Q e st → Q' e st) : Xc E pre code st Q' := by
  obtain ⟨n, e, st', h1, h2⟩ := h
  exact ⟨n, e, st', h1, hq _ _ h2⟩

theorem Xc_skip : Xc E pre .skip st Q ↔ Q .normal st :=
  ⟨fun ⟨n, e, st', h, q⟩ => by simp [execC] at h; obtain ⟨rfl, rfl⟩ := h; exact q, fun q => ⟨0, _, _, rfl, q⟩⟩
theorem Xc_exit {j : Nat} : Xc E pre (.exit j) st Q ↔ Q (.exit j) st :=
  ⟨fun ⟨n, e, st', h, q⟩ => by simp [execC] at h; obtain ⟨rfl, rfl⟩ := h; exact q, fun q => ⟨0, _, _, rfl, q⟩⟩
theorem Xc_ret : Xc E pre .ret st Q ↔ Q .ret st :=
  ⟨fun ⟨n, e, st', h, q⟩ => by simp [execC] at h; obtain ⟨rfl, rfl⟩ := h; exact q, fun q => ⟨0, _, _, rfl, q⟩⟩

theorem Xc_seq {a b : ACode} : Xc E pre (.seq a b) st Q ↔ Xc E pre a st (fun e st' => onEx e (Xc E pre b st' Q) (Q e st')) := by
  constructor
  · rintro ⟨n, e, st', h, q⟩
    unfold execC at h
    split at h
    · rename_i hx
      exact ⟨n, _, _, hx, ⟨n, _, _, h, q⟩⟩
    · rename_i hx
      refine ⟨n, _, _, h, ?_⟩
      cases e with
      | normal => exact absurd h (hx _)
      | _ => exact q
  · rintro ⟨n, e, st', h, q⟩
    cases e with
    | normal =>
      obtain ⟨m, e2, st2, h2, q2⟩ := q
      refine ⟨max n m, e2, st2, ?_, q2⟩
      unfold execC
      rw [execC_mono (fun _ _ _ h => h) (fun _ _ _ _ _ _ h => h) (Nat.le_max_left n m) h]
      exact execC_mono (fun _ _ _ h => h) (fun _ _ _ _ _ _ h => h) (Nat.le_max_right n m) h2
    | exit j => exact ⟨n, _, _, by unfold execC; rw [h], q⟩
    | ret => exact ⟨n, _, _, by unfold execC; rw [h], q⟩

theorem Xc_cond {c : X} {x y : ACode} : Xc E pre (.cond c x y) st Q ↔ ∃ b, c.ev st.s = .bool b ∧ Xc E pre (if b then x else y) st Q := by
  constructor
  · rintro ⟨n, e, st', h, q⟩
    unfold execC at h
    split at h
    · rename_i b hb
      refine ⟨b, hb, n, e, st', ?_, q⟩
      cases b <;> simpa using h
    · cases h
  · rintro ⟨b, hb, n, e, st', h, q⟩
    refine ⟨n, e, st', ?_, q⟩
    unfold execC
    rw [hb]
    cases b <;> simpa using h

theorem Xc_cond' {c : X} {x y : ACode} {b : Bool} (hb : c.ev st.s = .bool b) : Xc E pre (.cond c x y) st Q ↔ (b = true → Xc E pre x st Q) ∧ (b = false → Xc E pre y st Q) := by
  rw [Xc_cond]
  constructor
  · rintro ⟨b', hb', h⟩
    rw [hb] at hb'; cases hb'
    cases b <;> simpa using h
  · intro h
    refine ⟨b, hb, ?_⟩
    cases b <;> simpa using h

theorem Xc_block {id : Nat} {c : ACode} : Xc E pre (.block id c) st Q ↔ Xc E pre c st (fun e st' => match e with | .exit j => if j = id then Q .normal st' else Q (.exit j) st' | e => Q e st') := by
  constructor
  · rintro ⟨n, e, st', h, q⟩
    unfold execC at h
    split at h
    · rename_i j s2 hx
      refine ⟨n, _, _, hx, ?_⟩
      simp only
      split at h
      · rename_i hj; simp only [Option.some.injEq, Prod.mk.injEq] at h; obtain ⟨rfl, rfl⟩ := h; rw [if_pos hj]; exact q
      · rename_i hj; simp only [Option.some.injEq, Prod.mk.injEq] at h; obtain ⟨rfl, rfl⟩ := h; rw [if_neg hj]; exact q
    · rename_i hx
      refine ⟨n, _, _, h, ?_⟩
      cases e with
      | exit j => exact absurd h (hx _ _)
      | _ => exact q
  · rintro ⟨n, e, st', h, q⟩
    cases e with
    | exit j =>
      simp only at q
      split at q
      · rename_i hj; exact ⟨n, _, _, by unfold execC; rw [h]; simp only [if_pos hj], q⟩
      · rename_i hj; exact ⟨n, _, _, by unfold execC; rw [h]; simp only [if_neg hj], q⟩
    | normal => exact ⟨n, _, _, by unfold execC; rw [h], q⟩
    | ret => exact ⟨n, _, _, by unfold execC; rw [h], q⟩

theorem Xc_region {ops : List AOper} {draw : Bool} : Xc E pre (.region ops draw) st Q ↔ Xo E pre st.ck 0 ops st.s st.h (st.ck + 1) [] (fun s h ck lg => (draw = true → logOk lg = true) ∧ Q .normal ⟨s, h, ck⟩) := by
  unfold Xo
  constructor
  · rintro ⟨n, e, st', h, q⟩
    unfold execC at h
    split at h
    · rename_i s h' ck lg hx
      rw [hx]
      simp only
      split at h
      · cases h
      · rename_i hd
        simp only [Option.some.injEq, Prod.mk.injEq] at h
        obtain ⟨rfl, rfl⟩ := h
        refine ⟨fun d => ?_, q⟩
        simpa [d] using hd
    · cases h
  · intro h
    split at h
    · rename_i s h' ck lg hx
      refine ⟨0, .normal, ⟨s, h', ck⟩, ?_, h.2⟩
      unfold execC
      rw [hx]
      simp only
      rw [if_neg]
      have := h.1
      cases draw <;> simp_all
    · cases h

theorem Xo_nil {rc i : Nat} {s : List AV} {h : Heap} {ck : Nat} {lg : List Lg} {Q : List AV → Heap → Nat → List Lg → Prop} : Xo E pre rc i [] s h ck lg Q ↔ Q s h ck lg := Iff.rfl

theorem Xo_cons {rc i : Nat} {o : AOper} {ops : List AOper} {s : List AV} {h : Heap} {ck : Nat} {lg : List Lg} {Q : List AV → Heap → Nat → List Lg → Prop} {s' : List AV} {h' : Heap} {ck' : Nat} {l : Lg} (hx : runOp (cL E) (iL E) E.own E.inl pre rc i o s h ck = some (s', h', ck', l)) : Xo E pre rc i (o :: ops) s h ck lg Q ↔ Xo E pre rc (i + 1) ops s' h' ck' (l :: lg) Q := by
  unfold Xo
  rw [runOps]
  simp only [hx]

/-- A loop: what holds at its head, with a number that falls. -/
theorem Xc_loop {c : ACode} (I : Nat → St → Prop) {m : Nat} (h0 : I m st) (h : ∀ m st, I m st → Xc E pre c st (fun e st' => onEx e (∃ m', m' < m ∧ I m' st') (Q e st'))) : Xc E pre (.loop c) st Q := by
  induction m using Nat.strongRecOn generalizing st with
  | _ m ih =>
    obtain ⟨n, e, st', hx, q⟩ := h m st h0
    cases e with
    | normal =>
      obtain ⟨m', hm, hI⟩ := q
      obtain ⟨n2, e2, st2, h2, q2⟩ := ih m' hm hI
      refine ⟨max n n2 + 1, e2, st2, ?_, q2⟩
      unfold execC
      unfold loopN
      rw [execC_mono (fun _ _ _ h => h) (fun _ _ _ _ _ _ h => h) (by omega) hx]
      unfold execC at h2
      exact loopN_mono (fun st r h => execC_mono (fun _ _ _ h => h) (fun _ _ _ _ _ _ h => h) (by omega) h) (by omega) h2
    | exit j =>
      refine ⟨n + 1, _, _, ?_, q⟩
      unfold execC loopN
      rw [execC_mono (fun _ _ _ h => h) (fun _ _ _ _ _ _ h => h) (by omega) hx]
    | ret =>
      refine ⟨n + 1, _, _, ?_, q⟩
      unfold execC loopN
      rw [execC_mono (fun _ _ _ h => h) (fun _ _ _ _ _ _ h => h) (by omega) hx]

/-- A pure call: its body, from an empty heap on. -/
theorem cL_body {f : FuncId} {fn : AFunc} {args : List AV} {r : AV} (ht : E.tab f = some fn) (hx : E.ext f args = none) (hn : args.length = fn.np)
    (h : Xc E [] fn.body (start fn args ⟨[], []⟩ 0) (fun e st => (e = .ret ∨ e = .normal) ∧ ∃ vs, getAll st.s st.h fn.res = some vs ∧ handBack st.h vs = some r)) : cL E f args = some r := by
  obtain ⟨n, e, st', h1, he, vs, h2, h3⟩ := h
  refine cL_of (n := n) (vs := vs) (h := st'.h) (ck := st'.ck) ht hx ?_ h3
  unfold body1
  rw [if_neg (by simp [hn]), h1]
  rcases he with rfl | rfl <;> simp only [h2]

/-- A call that shares its caller's heap. -/
theorem iL_body {f : FuncId} {fn : AFunc} {args : List AV} {h0 : Heap} {ck0 : Nat} {v : AV} {h' : Heap} {ck' : Nat} (ht : E.tab f = some fn) (hn : args.length = fn.np)
    (h : Xc E pre fn.body (start fn args h0 ck0) (fun e st => (e = .ret ∨ e = .normal) ∧ ∃ vs, getAll st.s st.h fn.res = some vs ∧ tupOf vs = v ∧ st.h = h' ∧ st.ck = ck')) : iL E f args pre h0 ck0 = some (v, h', ck') := by
  obtain ⟨n, e, st', h1, he, vs, h2, rfl, rfl, rfl⟩ := h
  refine iL_of (n := n) ht ?_
  unfold body1
  rw [if_neg (by simp [hn]), h1]
  rcases he with rfl | rfl <;> simp only [h2]
end

end Go.Aw

/-
  What is handed in, as typed values: numbers, bools, strings, lists, structs and arrays of them.
-/
namespace Go.Aw
open Go.RowKit Go.WideShapes

mutual
inductive GT where
  | bool
  | int (k : IntKind)
  | str
  | sl (b : Nat) (g : GT)
  | st (fs : GFs)
  | arr (n : Nat) (g : GT)
inductive GFs where
  | nil
  | cons (g : GT) (fs : GFs)
end

mutual
def GT.size : GT → Nat
  | .st fs => fs.size
  | .arr n g => n * g.size
  | .bool => 1
  | .int _ => 1
  | .str => 1
  | .sl _ _ => 1
def GFs.size : GFs → Nat
  | .nil => 0
  | .cons g fs => g.size + fs.size
end

def GT.ag : GT → Bool
  | .st _ | .arr _ _ => true
  | _ => false

mutual
def GT.Val : GT → Type
  | .bool => Bool
  | .int _ => Int
  | .str => ByteArray
  | .sl _ g => List g.Val
  | .st fs => fs.Val
  | .arr _ g => List g.Val
def GFs.Val : GFs → Type
  | .nil => Unit
  | .cons g fs => g.Val × fs.Val
end

mutual
def GT.cells : (g : GT) → g.Val → List AV
  | .bool, (b : Bool) => [.bool b]
  | .int k, (n : Int) => [.int k n]
  | .str, (s : ByteArray) => [.str s]
  | .sl _ g, (l : List g.Val) => [.list (l.map fun v => ofCells g.ag (g.cells v))]
  | .st fs, v => fs.cells v
  | .arr _ g, (l : List g.Val) => l.flatMap fun v => g.cells v
def GFs.cells : (fs : GFs) → fs.Val → List AV
  | .nil, _ => []
  | .cons g fs, v => g.cells v.1 ++ fs.cells v.2
end

def GT.av (g : GT) (v : g.Val) : AV := ofCells g.ag (g.cells v)

mutual
def GT.wf : (g : GT) → g.Val → Prop
  | .bool, _ => True
  | .int k, (n : Int) => (Lit.int k n).wf = true
  | .str, (s : ByteArray) => s.size ≤ reachBytes
  | .sl b g, (l : List g.Val) => l.length * b ≤ reachBytes ∧ l.length ≤ maxLen ∧ ∀ v ∈ l, g.wf v
  | .st fs, v => fs.wf v
  | .arr n g, (l : List g.Val) => l.length = n ∧ ∀ v ∈ l, g.wf v
def GFs.wf : (fs : GFs) → fs.Val → Prop
  | .nil, _ => True
  | .cons g fs, v => g.wf v.1 ∧ fs.wf v.2
end

mutual
def GT.ok (P : Program) : GT → TypeId → Bool
  | .bool, t => match P.underlying t with | some .bool => true | _ => false
  | .int k, t => match P.underlying t with | some (.int k') => decide (k' = k) | _ => false
  | .str, t => match P.underlying t with | some .string => true | _ => false
  | .sl b g, t => match P.underlying t with | some (.slice e) => decide (P.bytesOf e = b) && decide (P.cellsOf e = g.size) && decide (g.size ≠ 0) && g.ok P e | _ => false
  | .st fs, t => match P.underlying t with | some (.struct a) => decide (P.cellsOf t = fs.size) && fs.ok P a.toList 0 | _ => false
  | .arr n g, t => match P.underlying t with | some (.array m e) => decide (m = n) && decide (P.cellsOf t = n * g.size) && decide (P.cellsOf e = g.size) && g.ok P e | _ => false
def GFs.ok (P : Program) : GFs → List Field → Nat → Bool
  | .nil, l, _ => l.isEmpty
  | .cons g fs, l, off => match l with
    | f :: r => decide (f.offset = off) && decide (P.cellsOf f.type = g.size) && g.ok P f.type && fs.ok P r (off + g.size)
    | [] => false
end

theorem flatMap_length_const {α β : Type} {f : α → List β} {s : Nat} : ∀ {l : List α}, (∀ v ∈ l, (f v).length = s) → (l.flatMap f).length = l.length * s
  | [], _ => by simp
  | a :: l, h => by
    simp only [List.flatMap_cons, List.length_append, List.length_cons]
    rw [h a (by simp), flatMap_length_const (fun v hv => h v (by simp [hv])), Nat.succ_mul]
    omega

theorem flatMap_get {α β : Type} {f : α → List β} {s : Nat} : ∀ {l : List α} {j : Nat} {c : β}, (∀ v ∈ l, (f v).length = s) → (l.flatMap f)[j]? = some c → ∃ i r v, l[i]? = some v ∧ (f v)[r]? = some c ∧ j = i * s + r ∧ r < s
  | [], j, c, _, h => by simp at h
  | a :: l, j, c, hs, h => by
    simp only [List.flatMap_cons] at h
    have ha := hs a (by simp)
    by_cases hj : j < s
    · rw [List.getElem?_append_left (by omega)] at h
      exact ⟨0, j, a, rfl, h, by omega, hj⟩
    · rw [List.getElem?_append_right (by omega), ha] at h
      obtain ⟨i, r, v, h1, h2, h3, h4⟩ := flatMap_get (fun v hv => hs v (by simp [hv])) h
      exact ⟨i + 1, r, v, by simpa using h1, h2, by rw [Nat.succ_mul]; omega, h4⟩

theorem list_choose {α : Type} {p : Nat → α → Prop} : ∀ {n : Nat}, (∀ i, i < n → ∃ v, p i v) → ∃ l : List α, l.length = n ∧ ∀ i v, l[i]? = some v → p i v
  | 0, _ => ⟨[], rfl, fun i v h => by simp at h⟩
  | n + 1, h => by
    obtain ⟨l, hl, hp⟩ := list_choose (n := n) (fun i hi => h i (by omega))
    obtain ⟨v, hv⟩ := h n (by omega)
    refine ⟨l ++ [v], by simp [hl], fun i u hu => ?_⟩
    by_cases hi : i < n
    · rw [List.getElem?_append_left (by omega)] at hu
      exact hp i u hu
    · have := (List.getElem?_eq_some_iff.1 hu).1
      simp [hl] at this
      obtain rfl : i = n := by omega
      rw [List.getElem?_append_right (by omega)] at hu
      simp [hl] at hu
      subst hu
      exact hv

mutual
theorem GT.cells_len : ∀ (g : GT) (v : g.Val), g.wf v → (g.cells v).length = g.size
  | .bool, _, _ => by simp [GT.cells, GT.size]
  | .int _, _, _ => by simp [GT.cells, GT.size]
  | .str, _, _ => by simp [GT.cells, GT.size]
  | .sl _ _, _, _ => by simp [GT.cells, GT.size]
  | .st fs, v, h => by
    unfold GT.wf at h
    unfold GT.cells GT.size
    exact GFs.cells_len fs v h
  | .arr n g, v, h => by
    unfold GT.wf at h
    unfold GT.cells GT.size
    rw [flatMap_length_const (fun x hx => GT.cells_len g x (h.2 x hx)), h.1]
theorem GFs.cells_len : ∀ (fs : GFs) (v : fs.Val), fs.wf v → (fs.cells v).length = fs.size
  | .nil, _, _ => by simp [GFs.cells, GFs.size]
  | .cons g fs, v, h => by
    unfold GFs.wf at h
    unfold GFs.cells GFs.size
    rw [List.length_append, GT.cells_len g v.1 h.1, GFs.cells_len fs v.2 h.2]
end

mutual
theorem GT.cells_flat : ∀ (g : GT) (v : g.Val), ∀ x ∈ g.cells v, x.flat = true
  | .bool, _, x, hx => by simp [GT.cells] at hx; subst hx; rfl
  | .int _, _, x, hx => by simp [GT.cells] at hx; subst hx; rfl
  | .str, _, x, hx => by simp [GT.cells] at hx; subst hx; rfl
  | .sl _ _, _, x, hx => by simp [GT.cells] at hx; subst hx; rfl
  | .st fs, v, x, hx => by
    unfold GT.cells at hx
    exact GFs.cells_flat fs v x hx
  | .arr n g, v, x, hx => by
    unfold GT.cells at hx
    obtain ⟨u, _, hu⟩ := List.mem_flatMap.1 hx
    exact GT.cells_flat g u x hu
theorem GFs.cells_flat : ∀ (fs : GFs) (v : fs.Val), ∀ x ∈ fs.cells v, x.flat = true
  | .nil, _, x, hx => by simp [GFs.cells] at hx
  | .cons g fs, v, x, hx => by
    unfold GFs.cells at hx
    rcases List.mem_append.1 hx with hx | hx
    · exact GT.cells_flat g v.1 x hx
    · exact GFs.cells_flat fs v.2 x hx
end

theorem GT.size_one {g : GT} (h : g.ag = false) : g.size = 1 := by
  cases g <;> simp [GT.ag] at h <;> simp [GT.size]

theorem GT.av_cells (g : GT) (v : g.Val) (h : g.wf v) : (g.av v).cells = g.cells v := by
  unfold GT.av ofCells
  split
  · rfl
  · rename_i hag
    have h1 := GT.cells_len g v h
    rw [GT.size_one (by simpa using hag)] at h1
    match hc : g.cells v, h1 with
    | [x], _ =>
      have := GT.cells_flat g v x (by rw [hc]; simp)
      cases x <;> simp_all [AV.cells, AV.flat]

theorem Reps.append {K : Kx} {w : World} {as bs : List AV} {xs ys : List Value} (h : Reps K w as xs) (k : Reps K w bs ys) : Reps K w (as ++ bs) (xs ++ ys) := by
  refine ⟨by simp [h.1, k.1], fun j a ha => ?_⟩
  have hl := h.1
  by_cases hj : j < as.length
  · rw [List.getElem?_append_left hj] at ha
    have := h.2 j a ha
    rw [List.getD_eq_getElem?_getD] at this ⊢
    rw [List.getElem?_append_left (by omega)]
    exact this
  · rw [List.getElem?_append_right (by omega)] at ha
    have := k.2 _ a ha
    rw [List.getD_eq_getElem?_getD] at this ⊢
    rw [List.getElem?_append_right (by omega), ← hl]
    exact this

theorem cell_at2 {w : World} {a : Addr} {x y : Nat} {v : Value} (h : w.cell? ((a.add x).add y) = some v) : w.cell? ⟨a.block, a.off + (x + y), none⟩ = some v := by
  obtain ⟨b, o, s⟩ := a
  unfold Addr.add at h
  unfold World.cell? at h ⊢
  by_cases hx : x = 0 <;> by_cases hy : y = 0 <;> simp only [hx, hy, if_true, if_false] at h ⊢
  all_goals
    cases hb : w.heap[b]? with
    | none => rw [hb] at h; simp at h
    | some ob =>
      rw [hb] at h
      cases ob with
      | cells c t f => cases s <;> simp_all [Nat.add_assoc]
      | _ => simp at h

theorem getD_val {w : World} {a : Addr} {v : Value} (h : w.cell? a = some v) : (w.cell? a).getD undef = v := by rw [h]; rfl

section
variable {H : Type} {enc : TypeId × Value → H} {P : Program} {w : World} {K : Kx}

theorem weightsAll_mem {e : TypeId} {m : Nat} : ∀ {ds : List (DataW H)} {d : DataW H}, d ∈ ds → m ∈ d.weights P e → m ∈ DataW.weightsAll P e ds
  | _ :: ds, d, hd, hm => by
    unfold DataW.weightsAll
    rcases List.mem_cons.1 hd with rfl | hd
    · exact List.mem_append_left _ hm
    · exact List.mem_append_right _ (weightsAll_mem hd hm)

theorem okb {t : TypeId} (h : GT.ok P .bool t = true) : P.underlying t = some .bool := by unfold GT.ok at h; split at h <;> simp_all
theorem oki {k : IntKind} {t : TypeId} (h : GT.ok P (.int k) t = true) : P.underlying t = some (.int k) := by unfold GT.ok at h; split at h <;> simp_all
theorem oks {t : TypeId} (h : GT.ok P .str t = true) : P.underlying t = some .string := by unfold GT.ok at h; split at h <;> simp_all
theorem okl {b : Nat} {g : GT} {t : TypeId} (h : GT.ok P (.sl b g) t = true) : ∃ e, P.underlying t = some (.slice e) ∧ P.bytesOf e = b ∧ P.cellsOf e = g.size ∧ g.size ≠ 0 ∧ g.ok P e = true := by
  unfold GT.ok at h; split at h
  · rename_i e he; simp at h; exact ⟨e, he, h.1.1.1, h.1.1.2, h.1.2, h.2⟩
  · cases h
theorem okst {fs : GFs} {t : TypeId} (h : GT.ok P (.st fs) t = true) : ∃ a, P.underlying t = some (.struct a) ∧ P.cellsOf t = fs.size ∧ fs.ok P a.toList 0 = true := by
  unfold GT.ok at h; split at h
  · rename_i a he; simp at h; exact ⟨a, he, h.1, h.2⟩
  · cases h
theorem okar {n : Nat} {g : GT} {t : TypeId} (h : GT.ok P (.arr n g) t = true) : ∃ e, P.underlying t = some (.array n e) ∧ P.cellsOf t = n * g.size ∧ P.cellsOf e = g.size ∧ g.ok P e = true := by
  unfold GT.ok at h; split at h
  · rename_i m e he; simp at h; obtain ⟨⟨⟨rfl, h1⟩, h2⟩, h3⟩ := h; exact ⟨e, he, h1, h2, h3⟩
  · cases h

theorem cells_ne {w : World} {b i : Nat} {n : Nat} {a : Addr} {cs : List Value} (h : w.cells? b (a.add i) n = some cs) : ∀ r v, cs[r]? = some v → w.cell? ⟨a.block, a.off + (i + r), none⟩ = some v := fun r v hr => by
  obtain ⟨_, h2, h3⟩ := World.cells?_some h
  have hlt := (List.getElem?_eq_some_iff.1 hr).1
  exact cell_at2 ((h3 r (by omega)).trans hr)

mutual
theorem GT.read (hK : ∀ b o v, w.cell? ⟨b, o, none⟩ = some v → K.prot b o) : ∀ (g : GT) (t : TypeId) (n : Nat) (cs : List Value) (x : DataW H × List MemPlace), g.ok P t = true → DataW.trod enc P w 0 (fun _ => true) true n t cs = some x →
    (∀ m ∈ x.1.weights P t, m ≤ reachBytes) → ∃ v : g.Val, g.wf v ∧ Reps K.bare w (g.cells v) cs
  | .bool, t, n, cs, x, hok, h, hw => by
    obtain ⟨b, rfl, _⟩ := DataW.trod_bool (okb hok) h
    exact ⟨(b : Bool), by show True; trivial, by show Reps K.bare w [.bool b] _; exact Reps.cons (.bool b) (Reps.nil _ _)⟩
  | .int k, t, n, cs, x, hok, h, hw => by
    obtain ⟨m, rfl, _, hm⟩ := DataW.trod_int (oki hok) h
    exact ⟨(m : Int), by show (Lit.int k m).wf = true; exact hm, by show Reps K.bare w [.int k m] _; exact Reps.cons (.int k m) (Reps.nil _ _)⟩
  | .str, t, n, cs, x, hok, h, hw => by
    obtain ⟨s, rfl, rfl, hs⟩ := DataW.trod_string (oks hok) h
    refine ⟨(s : ByteArray), by show s.size ≤ reachBytes; simpa [DataW.weights] using hw s.data.toList.length (by simp [DataW.weights]), by show Reps K.bare w [.str s] _; exact Reps.cons (.str s) (Reps.nil _ _)⟩
  | .sl b g, t, n, cs, x, hok, h, hw => by
    obtain ⟨e, ht, hb, hs, hz, hg⟩ := okl hok
    rcases DataW.trod_slice ht h with ⟨rfl, rfl⟩ | ⟨a, len, cap, elems, rest, m, rfl, rfl, rfl, _, hl, hm, hlen, hel, _, _⟩
    · exact ⟨([] : List g.Val), by show ([] : List g.Val).length * b ≤ reachBytes ∧ ([] : List g.Val).length ≤ maxLen ∧ ∀ v ∈ ([] : List g.Val), g.wf v; exact ⟨by simp, by simp, by simp⟩, by
        show Reps K.bare w [.list []] _
        exact Reps.cons (.list [] none 0 0 0 0 (fun _ => undef) (Nat.le_refl _) (Nat.zero_le _) (by simp) (by simp) (fun h => absurd rfl h) (fun j c h => by simp at h) (fun j c h => by simp at h)) (Reps.nil _ _)⟩
    · have each : ∀ i, i < len → ∃ v : g.Val, g.wf v ∧ ∃ cs', w.cells? 0 (a.add (i * P.cellsOf e)) (P.cellsOf e) = some cs' ∧ Reps K.bare w (g.cells v) cs' := fun i hi => by
        have h1 := hel i hi
        cases he : elems[i]? with
        | none => rw [List.getElem?_eq_none_iff] at he; omega
        | some y =>
          rw [he, Option.bind_eq_some_iff] at h1
          obtain ⟨cs', h2, h3⟩ := h1
          obtain ⟨v, h4, h5⟩ := GT.read hK g e m cs' y hg h3 (fun k hk => hw k (by
            simp only [DataW.weights, ht]
            exact List.mem_cons_of_mem _ (List.mem_append_left _ (weightsAll_mem (List.mem_map.2 ⟨y, List.mem_of_getElem? he, rfl⟩) hk))))
          exact ⟨v, h4, cs', h2, h5⟩
      obtain ⟨vs, hvl, hvs⟩ := list_choose each
      have hwf : ∀ v ∈ vs, g.wf v := fun v hv => by
        obtain ⟨i, hi⟩ := List.getElem?_of_mem hv
        exact (hvs i v hi).1
      have hreach : (elems.length + rest.length) * b ≤ reachBytes := by
        have := hw ((elems.length + rest.length) * P.bytesOf e) (by simp [DataW.weights, ht])
        rwa [hb] at this
      refine ⟨(vs : List g.Val), by
        show vs.length * b ≤ reachBytes ∧ vs.length ≤ maxLen ∧ ∀ v ∈ vs, g.wf v
        refine ⟨Nat.le_trans (Nat.mul_le_mul_right _ (by omega)) hreach, by omega, hwf⟩, ?_⟩
      show Reps K.bare w [.list (vs.map fun v => ofCells g.ag (g.cells v))] _
      refine Reps.cons ?_ (Reps.nil _ _)
      have hc : (vs.map fun v => ofCells g.ag (g.cells v)).flatMap AV.cells = vs.flatMap g.cells := by
        rw [List.flatMap_map]
        have : ∀ l : List g.Val, (∀ v ∈ l, g.wf v) → (l.flatMap fun v => (ofCells g.ag (g.cells v)).cells) = l.flatMap g.cells := fun l => by
          induction l with
          | nil => intro _; rfl
          | cons v l ih => intro hl; simp only [List.flatMap_cons]; rw [ih (fun u hu => hl u (by simp [hu])), show (ofCells g.ag (g.cells v)).cells = g.cells v from GT.av_cells g v (hl v (by simp))]
        exact this vs hwf
      have key : ∀ j c, (vs.flatMap g.cells)[j]? = some c → ∃ v, w.cell? ⟨a.block, a.off + j, none⟩ = some v ∧ Rep K.bare w c v := fun j c hj => by
        obtain ⟨i, r, v, h1, h2, rfl, h4⟩ := flatMap_get (fun v hv => GT.cells_len g v (hwf v hv)) hj
        obtain ⟨_, cs', h5, h6⟩ := hvs i v h1
        have h7 := h6.2 r c h2
        have hr : r < cs'.length := by rw [← h6.1]; exact (List.getElem?_eq_some_iff.1 h2).1
        refine ⟨cs'[r], ?_, ?_⟩
        · have := cells_ne h5 r cs'[r] (by simp [hr])
          rwa [hs] at this
        · rw [List.getD_eq_getElem?_getD, List.getElem?_eq_getElem hr] at h7
          exact h7
      have hlen' : (vs.map fun v => ofCells g.ag (g.cells v)).length = len := by simp [hvl]
      have := Rep.list (K := K.bare) (w := w) (vs.map fun v => ofCells g.ag (g.cells v)) (some a) cap g.size a.block a.off (fun j => (w.cell? ⟨a.block, a.off + j, none⟩).getD undef) (by omega) hm
        (by rw [hc]; intro y hy; obtain ⟨u, _, hu⟩ := List.mem_flatMap.1 hy; exact GT.cells_flat g u y hu)
        (by intro y hy; obtain ⟨u, hu, rfl⟩ := List.mem_map.1 hy; rw [show (ofCells g.ag (g.cells u)).cells = g.cells u from GT.av_cells g u (hwf u hu)]; exact GT.cells_len g u (hwf u hu))
        (fun hne => by
          have hsp : 0 < len := by
            rcases Nat.eq_zero_or_pos len with h0 | h0
            · exact absurd (List.eq_nil_of_length_eq_zero (by omega)) hne
            · exact h0
          obtain ⟨v0, _, cs', h5, h6⟩ := each 0 hsp
          obtain ⟨_, h8, h9⟩ := World.cells?_some h5
          have h10 := h9 0 (by omega)
          rw [List.getElem?_eq_getElem (by omega)] at h10
          obtain ⟨bb, oo, ss⟩ := a
          cases ss with
          | none => rfl
          | some s =>
            unfold World.cell? at h10
            simp [Addr.add] at h10
            split at h10 <;> simp at h10)
        (fun j c hj => by
          rw [hc] at hj
          obtain ⟨v, h1, h2⟩ := key j c hj
          exact ⟨hK _ _ v h1, by rw [h1]; rfl⟩)
        (fun j c hj => by
          rw [hc] at hj
          obtain ⟨v, h1, h2⟩ := key j c hj
          rw [h1]; exact h2)
      rwa [hlen'] at this
  | .st fs, t, n, cs, x, hok, h, hw => by
    obtain ⟨a, ht, hs, hfs⟩ := okst hok
    obtain ⟨xs, m, rfl, rfl, hl, hxl, hx⟩ := DataW.trod_struct ht h
    obtain ⟨v, h1, h2⟩ := GFs.read hK fs a.toList 0 m cs xs hfs (by simpa using hxl) (by omega) (fun i f hf => hx i f (by simpa using hf)) (fun k hk => hw k (by simp only [DataW.weights, ht]; exact hk))
    refine ⟨v, by show fs.wf v; exact h1, ?_⟩
    show Reps K.bare w (fs.cells v) _
    simpa [← hs, ← hl] using h2
  | .arr k g, t, n, cs, x, hok, h, hw => by
    obtain ⟨e, ht, hs, he, hg⟩ := okar hok
    obtain ⟨xs, m, rfl, rfl, hl, hxl, hx⟩ := DataW.trod_array ht h
    have each : ∀ i, i < k → ∃ v : g.Val, g.wf v ∧ Reps K.bare w (g.cells v) ((cs.drop (i * g.size)).take g.size) := fun i hi => by
      have h1 := hx i hi
      cases hy : xs[i]? with
      | none => rw [List.getElem?_eq_none_iff] at hy; omega
      | some y =>
        rw [hy, he] at h1
        obtain ⟨v, h4, h5⟩ := GT.read hK g e m _ y hg h1 (fun z hz => hw z (by
          simp only [DataW.weights, ht]
          exact weightsAll_mem (List.mem_map.2 ⟨y, List.mem_of_getElem? hy, rfl⟩) hz))
        exact ⟨v, h4, h5⟩
    obtain ⟨vs, hvl, hvs⟩ := list_choose each
    refine ⟨(vs : List g.Val), by
      show vs.length = k ∧ ∀ v ∈ vs, g.wf v
      exact ⟨hvl, fun v hv => by obtain ⟨i, hi⟩ := List.getElem?_of_mem hv; exact (hvs i v hi).1⟩, ?_⟩
    show Reps K.bare w (vs.flatMap fun v => g.cells v) _
    have key : ∀ (l : List g.Val) (o : Nat), (∀ i v, l[i]? = some v → Reps K.bare w (g.cells v) ((cs.drop ((o + i) * g.size)).take g.size)) → Reps K.bare w (l.flatMap g.cells) ((cs.drop (o * g.size)).take (l.length * g.size)) := fun l => by
      induction l with
      | nil => intro o _; simp; exact Reps.nil _ _
      | cons v l ih =>
        intro o hv
        have h1 := hv 0 v rfl
        have h2 := ih (o + 1) (fun i u hu => by have := hv (i + 1) u (by simpa using hu); rwa [show o + (i + 1) = o + 1 + i by omega] at this)
        simp only [List.flatMap_cons, List.length_cons]
        rw [show (l.length + 1) * g.size = g.size + l.length * g.size by rw [Nat.succ_mul]; omega, List.take_add, List.drop_drop, show o * g.size + g.size = (o + 1) * g.size by rw [Nat.succ_mul]]
        exact h1.append h2
    have := key vs 0 (fun i v hv => by simpa using (hvs i v hv).2)
    rw [hvl] at this
    simpa [← hs, ← hl] using this
theorem GFs.read (hK : ∀ b o v, w.cell? ⟨b, o, none⟩ = some v → K.prot b o) : ∀ (fs : GFs) (l : List Field) (off n : Nat) (cs : List Value) (xs : List (DataW H × List MemPlace)), fs.ok P l off = true → xs.length = l.length → off + fs.size ≤ cs.length →
    (∀ (i : Nat) (f : Field), l[i]? = some f → DataW.trod enc P w 0 (fun _ => true) true n f.type ((cs.drop f.offset).take (P.cellsOf f.type)) = xs[i]?) →
    (∀ m ∈ DataW.weightsEach P (l.map (·.type)) (xs.map (·.1)), m ≤ reachBytes) → ∃ v : fs.Val, fs.wf v ∧ Reps K.bare w (fs.cells v) ((cs.drop off).take fs.size)
  | .nil, l, off, n, cs, xs, hok, hl, hc, hx, hw => ⟨(() : Unit), by show True; trivial, by show Reps K.bare w [] (List.take 0 _); simp; exact Reps.nil _ _⟩
  | .cons g fs, l, off, n, cs, xs, hok, hl, hc, hx, hw => by
    unfold GFs.ok at hok
    match l, xs, hl, hok, hx, hw with
    | f :: r, y :: ys, hl, hok, hx, hw =>
      simp only [Bool.and_eq_true, decide_eq_true_eq] at hok
      obtain ⟨⟨⟨h1, h2⟩, h3⟩, h4⟩ := hok
      unfold GFs.size at hc
      have hy := hx 0 f rfl
      rw [h1, h2] at hy
      simp only [List.map_cons, DataW.weightsEach, List.mem_append] at hw
      obtain ⟨v, v1, v2⟩ := GT.read hK g f.type n _ y h3 hy (fun m hm => hw m (.inl hm))
      obtain ⟨u, u1, u2⟩ := GFs.read hK fs r (off + g.size) n cs ys h4 (by simpa using hl) (by omega) (fun i f' hf' => by have := hx (i + 1) f' (by simpa using hf'); simpa using this) (fun m hm => hw m (.inr hm))
      refine ⟨((v, u) : g.Val × fs.Val), by show g.wf v ∧ fs.wf u; exact ⟨v1, u1⟩, ?_⟩
      show Reps K.bare w (g.cells v ++ fs.cells u) (List.take (g.size + fs.size) _)
      rw [List.take_add, List.drop_drop]
      exact v2.append u2
    | [], _, _, hok, _, _ => simp at hok
end
end

end Go.Aw

/-
  A law's call: whatever is handed in, read as typed values; what the abstract machine tells at the limit is what the call does.
-/
namespace Go.Aw
open Go.RowKit Go.WideShapes Go.ChangeShapes

def GFs.avs : (fs : GFs) → fs.Val → List AV
  | .nil, _ => []
  | .cons g fs, v => g.av v.1 :: fs.avs v.2

def GFs.oks (P : Program) : GFs → List TypeId → Bool
  | .nil, l => l.isEmpty
  | .cons g fs, l => match l with
    | t :: ts => g.ok P t && fs.oks P ts
    | [] => false

section
variable {H : Type} {enc : TypeId × Value → H} {P : Program} {w : World} {K : Kx}

theorem GT.val_read {r : Reach} {base : Nat} {t : TypeId} {v : Value} {g : GT} {x : g.Val} (hok : g.ok P t = true) (hv : Value.okWide P w r base t v) (h : Reps K.bare w (g.cells x) v.cells.toList) : Rep K.bare w (g.av x) v := by
  have one : (∀ cs, v ≠ .agg cs) → v.cells.toList = [v] := fun hn => by
    cases v <;> simp_all [Value.cells]
  cases g with
  | st fs =>
    obtain ⟨a, ht, _⟩ := okst hok
    simp only [Value.okWide, ht] at hv
    obtain ⟨cs, rfl, _⟩ := hv
    exact .agg _ cs (fun y hy => GT.cells_flat _ x y hy) (by simpa [Value.cells] using h.1.symm) (fun j a ha => by simpa [Value.cells] using h.2 j a ha)
  | arr n g =>
    obtain ⟨a, ht, _⟩ := okar hok
    simp only [Value.okWide, ht] at hv
    obtain ⟨cs, rfl, _⟩ := hv
    exact .agg _ cs (fun y hy => GT.cells_flat _ x y hy) (by simpa [Value.cells] using h.1.symm) (fun j a ha => by simpa [Value.cells] using h.2 j a ha)
  | bool =>
    have ht := okb hok
    have hn : ∀ cs, v ≠ .agg cs := by simp only [Value.okWide, ht, Cell.okWide] at hv; rintro cs rfl; simp [Cell.ok, ht] at hv
    rw [one hn] at h
    unfold GT.cells at h
    unfold GT.av GT.cells ofCells GT.ag
    exact h.head
  | int k =>
    have ht := oki hok
    have hn : ∀ cs, v ≠ .agg cs := by simp only [Value.okWide, ht, Cell.okWide] at hv; rintro cs rfl; simp [Cell.ok, ht] at hv
    rw [one hn] at h
    unfold GT.cells at h
    unfold GT.av GT.cells ofCells GT.ag
    exact h.head
  | str =>
    have ht := oks hok
    have hn : ∀ cs, v ≠ .agg cs := by simp only [Value.okWide, ht, Cell.okWide] at hv; rintro cs rfl; simp [Cell.ok, ht] at hv
    rw [one hn] at h
    unfold GT.cells at h
    unfold GT.av GT.cells ofCells GT.ag
    exact h.head
  | sl b g =>
    obtain ⟨e, ht, _⟩ := okl hok
    have hn : ∀ cs, v ≠ .agg cs := by simp only [Value.okWide, ht, Cell.okWide] at hv; rintro cs rfl; simp [Cell.ok, ht] at hv
    rw [one hn] at h
    unfold GT.cells at h
    unfold GT.av GT.cells ofCells GT.ag
    exact h.head

theorem args_read {r : Reach} {base : Nat} (hK : ∀ b o v, w.cell? ⟨b, o, none⟩ = some v → K.prot b o) : ∀ (fs : GFs) (ts : List TypeId) (vs : List Value) (ds : List (DataW H)) (p : List MemPlace), fs.oks P ts = true → DataW.TrodAll enc P w 0 (fun _ => true) true ts vs ds p →
    (∀ (j : Nat) t v, ts[j]? = some t → vs[j]? = some v → Value.okWide P w r base t v) → (∀ m ∈ DataW.weightsEach P ts ds, m ≤ reachBytes) → ∃ x : fs.Val, fs.wf x ∧ Reps K.bare w (fs.avs x) vs
  | .nil, ts, vs, ds, p, hok, h, hv, hw => by
    unfold GFs.oks at hok
    cases ts with
    | cons t ts => simp at hok
    | nil =>
      cases vs with
      | nil => exact ⟨(() : Unit), by show True; trivial, by show Reps K.bare w [] []; exact Reps.nil _ _⟩
      | cons v vs => simp [DataW.TrodAll] at h
  | .cons g fs, ts, vs, ds, p, hok, h, hv, hw => by
    unfold GFs.oks at hok
    cases ts with
    | nil => simp at hok
    | cons t ts =>
      cases vs with
      | nil => simp [DataW.TrodAll] at h
      | cons v vs =>
        cases ds with
        | nil => simp [DataW.TrodAll] at h
        | cons d ds =>
          simp only [Bool.and_eq_true] at hok
          obtain ⟨p1, q1, ⟨n, h1⟩, h2, rfl⟩ := h
          simp only [DataW.weightsEach, List.mem_append] at hw
          obtain ⟨x, x1, x2⟩ := GT.read hK g t n _ _ hok.1 h1 (fun m hm => hw m (.inl hm))
          obtain ⟨y, y1, y2⟩ := args_read (r := r) (base := base) hK fs ts vs ds q1 hok.2 h2 (fun j t' v' a b => hv (j + 1) t' v' (by simpa using a) (by simpa using b)) (fun m hm => hw m (.inr hm))
          exact ⟨((x, y) : g.Val × fs.Val), by show g.wf x ∧ fs.wf y; exact ⟨x1, y1⟩, by
            show Reps K.bare w (g.av x :: fs.avs y) (v :: vs)
            exact Reps.cons (GT.val_read hok.1 (hv 0 t v rfl rfl) x2) y2⟩

theorem trodAll_carry (hl : laidOutB P = true) {W W' : World} (bel : Below W.heap.size W W') : ∀ (ts : List TypeId) (vs : List Value) (ds : List (DataW H)) (p : List MemPlace), (∀ t ∈ ts, P.readableRec t = true ∧ t < P.types.size) →
    DataW.TrodAll enc P W 0 (fun _ => true) true ts vs ds p → DataW.TrodAll enc P W' 0 (fun b => decide (b < W.heap.size)) true ts vs ds p
  | [], [], [], _, _, h => h
  | t :: ts, v :: vs, d :: ds, p, hr, h => by
    obtain ⟨p1, q1, h1, h2, rfl⟩ := h
    refine ⟨p1, q1, ?_, trodAll_carry hl bel ts vs ds q1 (fun t ht => hr t (by simp [ht])) h2, rfl⟩
    refine Below.trod hl (hr t (by simp)).1 (hr t (by simp)).2 h1 bel ?_
    obtain ⟨m, hm⟩ := h1
    exact DataW.trod_lt m _ _ _ hm
  | [], _ :: _, _, _, _, h => h.elim
  | [], [], _ :: _, _, _, h => h.elim
  | _ :: _, [], _, _, _, h => h.elim
  | _ :: _, _ :: _, [], _, _, h => h.elim

/-- The heap as it stands, all of it kept. -/
def seen (w : World) : Kx := ⟨fun b _ => b < w.heap.size, fun b => b < w.heap.size, fun _ => none, fun _ => (0, 0), fun _ => 0⟩

theorem law_walk (hm : P.follows .mixedOrders = true) {E : Env} (htab : ∀ f a, E.tab f = some a → tabOf P f = some a) (hext : CallOk Fence.wide P E.ext) (hclo : CloneOk Fence.wide P E.own) {f : FuncId} {fs : GFs} {ts : List TypeId} (hok : fs.oks P ts = true)
    (hlaw : ∀ x : fs.Val, fs.wf x → cL E f (fs.avs x) = some (.bool true)) {r : Reach} {base : Nat} {args : Array Value} {ds : List (DataW H)} {p : List MemPlace}
    (hval : ∀ (j : Nat) t v, ts[j]? = some t → args[j]? = some v → Value.okWide P w r base t v) (hA : DataW.TrodAll enc P w 0 (fun _ => true) true ts args.toList ds p)
    (hw : ∀ m ∈ DataW.weightsEach P ts ds, m ≤ reachBytes) : Calls P f args w fun e w' => e = .returned (.bool true) ∧ Below w.heap.size w w' := by
  have hK : ∀ b o v, w.cell? ⟨b, o, none⟩ = some v → (seen w).prot b o := fun b o v h => by
    unfold World.cell? at h
    cases hb : w.heap[b]? with
    | none => rw [hb] at h; simp at h
    | some ob => exact (Array.getElem?_eq_some_iff.1 hb).1
  obtain ⟨x, x1, x2⟩ := args_read (r := r) (base := base) hK fs ts args.toList ds p hok hA (fun j t v a b => hval j t v a (by simpa using b)) hw
  obtain ⟨k, hk⟩ := cL_iff.1 (hlaw x x1)
  have hc := (lvl_ok (F := Fence.wide) hm ⟨fun _ => trivial, rfl⟩ rfl htab hext hclo k).1 f _ _ hk
  have h := hc.2 0 (seen w) w args (by simpa using x2.1.symm) (fun b i h => h) (fun b h => h) (fun j t ht => by
    have := x2.2 j t ht
    simpa using this)
  refine callsIn_wide.1 (h.mono fun e w' he => ?_)
  obtain ⟨v, rfl, K', _, _, _, _, _, _, hrep, hbel⟩ := he
  cases hrep
  exact ⟨rfl, hbel⟩
end

end Go.Aw

/-
  Walking code at the limit: lookups in a frame, one rule for each form of code.
-/
namespace Go.Aw

/-- What a slot holds. -/
def gt (s : List AV) (n : Nat) : AV := s.getD n .undef

theorem ev_t (s : List AV) (n : Nat) : X.ev s (.t n) = gt s n := rfl
theorem ev_c (s : List AV) (v : AV) : X.ev s (.c v) = v := rfl
theorem gt_eq {s : List AV} {i : Nat} {v : AV} (h : i < s.length) : gt (s.set i v) i = v := by
  unfold gt; simp [List.getD_eq_getElem?_getD, h]
theorem gt_ne {s : List AV} {i j : Nat} {v : AV} (h : i ≠ j) : gt (s.set i v) j = gt s j := by
  unfold gt; simp [List.getD_eq_getElem?_getD, h]
theorem gt_raw (s : List AV) (n : Nat) : s.getD n .undef = gt s n := rfl

section
variable {E : Env} {pre : Id} {st : St} {Q : Ex → St → Prop}

theorem Xw_region {ops : List AOper} {draw : Bool} {s : List AV} {h : Heap} {ck : Nat} {s' : List AV} {h' : Heap} {ck' : Nat} {lg : List Lg}
    (hx : runOps (cL E) (iL E) E.own E.inl pre ck 0 ops s h (ck + 1) [] = some (s', h', ck', lg)) (hd : (!draw || logOk lg) = true) (hq : Q .normal ⟨s', h', ck'⟩) : Xc E pre (.region ops draw) ⟨s, h, ck⟩ Q := by
  refine Xc_region.2 ?_
  unfold Xo
  rw [show runOps (cL E) (iL E) E.own E.inl pre (St.mk s h ck).ck 0 ops (St.mk s h ck).s (St.mk s h ck).h ((St.mk s h ck).ck + 1) [] = _ from hx]
  refine ⟨fun d => ?_, hq⟩
  subst d
  simpa using hd

theorem Xw_seq {a b : ACode} (h : Xc E pre a st (fun e st' => onEx e (Xc E pre b st' Q) (Q e st'))) : Xc E pre (.seq a b) st Q := Xc_seq.2 h
theorem Xw_skip (h : Q .normal st) : Xc E pre .skip st Q := Xc_skip.2 h
theorem Xw_ret (h : Q .ret st) : Xc E pre .ret st Q := Xc_ret.2 h
theorem Xw_exit {j : Nat} (h : Q (.exit j) st) : Xc E pre (.exit j) st Q := Xc_exit.2 h
theorem Xw_cond {c : X} {x y : ACode} {b : Bool} (hb : c.ev st.s = .bool b) (h1 : b = true → Xc E pre x st Q) (h2 : b = false → Xc E pre y st Q) : Xc E pre (.cond c x y) st Q := (Xc_cond' hb).2 ⟨h1, h2⟩

/-- Where a block comes to. -/
def outOf (id : Nat) (Q : Ex → St → Prop) (e : Ex) (st : St) : Prop := match e with
  | .exit j => if j = id then Q .normal st else Q (.exit j) st
  | e => Q e st
theorem Xw_block {id : Nat} {c : ACode} (h : Xc E pre c st (outOf id Q)) : Xc E pre (.block id c) st Q := Xc_block.2 (h.mono fun e st' h => by unfold outOf at h; cases e <;> exact h)

theorem outOf_normal {id : Nat} : outOf id Q .normal st = Q .normal st := rfl
theorem outOf_ret {id : Nat} : outOf id Q .ret st = Q .ret st := rfl
theorem outOf_exit {id j : Nat} : outOf id Q (.exit j) st = if j = id then Q .normal st else Q (.exit j) st := rfl
theorem onEx_normal {a b : Prop} : onEx .normal a b = a := rfl
theorem onEx_ret {a b : Prop} : onEx .ret a b = b := rfl
theorem onEx_exit {j : Nat} {a b : Prop} : onEx (.exit j) a b = b := rfl

theorem Xw_loop {c : ACode} (I : Nat → St → Prop) (m : Nat) (h0 : I m st) (h : ∀ m s h ck, I m ⟨s, h, ck⟩ → Xc E pre c ⟨s, h, ck⟩ (fun e st' => onEx e (∃ m', m' < m ∧ I m' st') (Q e st'))) : Xc E pre (.loop c) st Q :=
  Xc_loop I h0 (fun m st => h m st.s st.h st.ck)

/-- A pure call. -/
theorem cL_walk {f : FuncId} {fn : AFunc} {args : List AV} {r : AV} (ht : E.tab f = some fn) (hx : E.ext f args = none) (hn : args.length = fn.np)
    (h : ∀ s, s.length = args.length + (fn.nt - args.length) → (∀ i, i < args.length → gt s i = args.getD i .undef) → Xc E [] fn.body ⟨s, ⟨[], []⟩, 0⟩ (fun e st => (e = .ret ∨ e = .normal) ∧ ∃ vs, getAll st.s st.h fn.res = some vs ∧ handBack st.h vs = some r)) : cL E f args = some r := by
  refine cL_body ht hx hn ?_
  unfold start
  refine h _ (by simp) (fun i hi => ?_)
  unfold gt
  simp [List.getD_eq_getElem?_getD, List.getElem?_append_left, hi]
end

/-- A number that fits is not turned. -/
theorem wrap_id {n : Int} (h1 : -9223372036854775808 ≤ n) (h2 : n ≤ 9223372036854775807) : IntKind.i64.wrap n = n := by
  unfold IntKind.wrap
  simp [IntKind.bits, IntKind.signed]
  omega

end Go.Aw
namespace Go.Aw

theorem act_none (h : Heap) (v : AV) (rd wr : List Id) : h.act ⟨v, [], [], [], rd, wr⟩ = h := by
  cases h
  simp [Heap.act, Heap.ups]

theorem min_nat (x y : Nat) : (if ((y : Nat) : Int) < ((x : Nat) : Int) then ((y : Nat) : Int) else ((x : Nat) : Int)) = ((min x y : Nat) : Int) := by
  split <;> omega
theorem max_nat (x y : Nat) : (if ((y : Nat) : Int) > ((x : Nat) : Int) then ((y : Nat) : Int) else ((x : Nat) : Int)) = ((max x y : Nat) : Int) := by
  split <;> omega

theorem wrap_succ {n : Nat} (h : n < 9223372036854775807) : IntKind.i64.wrap ((n : Int) + 1) = ((n + 1 : Nat) : Int) := by
  rw [wrap_id (by omega) (by omega)]; omega

end Go.Aw
namespace Go.Aw

theorem act_ups (h : Heap) (v : AV) (up : List (Id × Obj)) (rd wr : List Id) : h.act ⟨v, up, [], [], rd, wr⟩ = h.ups up := by
  cases e : h.ups up
  simp [Heap.act, e]
theorem row_eq (h : Heap) (i : Id) (cs : List AV) (e : Nat) (a : Bool) (t : Tok) (m : Md) : (h.upd i ⟨cs, e, a, t, m⟩).row i t = some ⟨cs, e, a, t, m⟩ := by
  simp [Heap.row, Heap.get_upd]
theorem row_ne (h : Heap) (i j : Id) (o : Obj) (t : Tok) (hij : i ≠ j) : (h.upd i o).row j t = h.row j t := by
  simp [Heap.row, Heap.get_upd, hij]
theorem get_eq (h : Heap) (i : Id) (o : Obj) : (h.upd i o).get i = some o := by
  simp [Heap.get_upd]
theorem get_ne (h : Heap) (i j : Id) (o : Obj) (hij : i ≠ j) : (h.upd i o).get j = h.get j := by
  simp [Heap.get_upd, hij]

/-- The rules of a heap, as one. -/
theorem xh :
    (∀ (h : Heap) (v : AV) (up : List (Id × Obj)) (rd wr : List Id), h.act ⟨v, up, [], [], rd, wr⟩ = h.ups up) ∧
    (∀ (h : Heap), h.ups [] = h) ∧ (∀ (h : Heap) (i : Id) (o : Obj) (r : List (Id × Obj)), h.ups ((i, o) :: r) = (h.upd i o).ups r) ∧
    (∀ (h : Heap) (i : Id) (cs : List AV) (e : Nat) (a : Bool) (t : Tok) (m : Md), (h.upd i ⟨cs, e, a, t, m⟩).row i t = some ⟨cs, e, a, t, m⟩) ∧
    (∀ (h : Heap) (i j : Id) (o : Obj) (t : Tok), i ≠ j → (h.upd i o).row j t = h.row j t) ∧
    (∀ (h : Heap) (i : Id) (o : Obj), (h.upd i o).get i = some o) ∧
    (∀ (h : Heap) (i j : Id) (o : Obj), i ≠ j → (h.upd i o).get j = h.get j) ∧
    (∀ (a b : Nat) (l m : List Nat), ((a :: l) = (b :: m)) = (a = b ∧ l = m)) ∧ (((0 : Nat) : Int) = 0) ∧ (∀ p : Prop, (p ∧ False) = False) ∧ (∀ p : Prop, (False ∧ p) = False) ∧ (∀ p : Prop, (p ∧ True) = p) ∧ (∀ p : Prop, (True ∧ p) = p) :=
  ⟨act_ups, fun _ => rfl, fun _ _ _ _ => rfl, row_eq, row_ne, get_eq, get_ne, fun _ _ _ _ => List.cons.injEq .., rfl, and_false, false_and, and_true, true_and⟩

/-- The rules by which a walk's words are made plain, as one. -/
theorem xr :
    (∀ (s : List AV) (v : AV), X.ev s (.c v) = v) ∧
    (∀ (s : List AV) (n : Nat), X.ev s (.t n) = gt s n) ∧
    (∀ (h : Heap) (v : AV) (rd wr : List Id), h.act ⟨v, [], [], [], rd, wr⟩ = h) ∧
    (∀ (s : List AV) (i : Nat) (v : AV), i < s.length → gt (s.set i v) i = v) ∧
    (∀ (s : List AV) (i j : Nat) (v : AV), i ≠ j → gt (s.set i v) j = gt s j) ∧
    (∀ (s : List AV) (n : Nat), s.getD n .undef = gt s n) ∧
    (∀ (s : List AV) (i : Nat) (v : AV), (s.set i v).length = s.length) ∧
    (∀ (x y : Nat), (if ((y : Nat) : Int) < ((x : Nat) : Int) then ((y : Nat) : Int) else ((x : Nat) : Int)) = ((min x y : Nat) : Int)) ∧
    (∀ (x y : Nat), (if ((y : Nat) : Int) > ((x : Nat) : Int) then ((y : Nat) : Int) else ((x : Nat) : Int)) = ((max x y : Nat) : Int)) ∧
    (∀ (n : Nat), AV.idx (.int .i64 ((n : Nat) : Int)) = some n) ∧ (∀ (n : Nat), (0 ≤ ((n : Nat) : Int)) = True) ∧ (∀ (n : Nat), ((n : Nat) : Int).toNat = n) ∧
    (∀ (f : Int → AV) (l : List Int), (l.map f).length = l.length) ∧
    (∀ (k : IntKind) (n : Int), AV.cells (.int k n) = [.int k n]) ∧ (∀ (b : Bool), AV.cells (.bool b) = [.bool b]) ∧ (∀ (b : ByteArray), AV.cells (.str b) = [.str b]) ∧
    (∀ (l : List AV), AV.cells (.list l) = [.list l]) ∧ (∀ (l : List AV), AV.cells (.agg l) = l) ∧ AV.cells .nil = [.nil] ∧ AV.cells .nilfn = [.nilfn] ∧ (∀ (i : Id) (t : Tok) (o l : Nat), AV.cells (.sl i t o l) = [.sl i t o l]) ∧
    (∀ (i : Id) (t : Tok) (o : Nat), AV.cells (.ptr i t o) = [.ptr i t o]) ∧ (∀ (f : FuncId) (c : List AV), AV.cells (.fn f c) = [.fn f c]) ∧
    (∀ (l : List AV), ofCells true l = .agg l) ∧ (∀ (v : AV), ofCells false [v] = v) :=
  ⟨ev_c, ev_t, act_none, fun _ _ _ h => gt_eq h, fun _ _ _ _ h => gt_ne h, gt_raw, fun _ _ _ => List.length_set, min_nat, max_nat, fun n => by simp [AV.idx], fun n => eq_true (Int.natCast_nonneg n), Int.toNat_natCast, fun _ _ => List.length_map _,
    fun _ _ => rfl, fun _ => rfl, fun _ => rfl, fun _ => rfl, fun _ => rfl, rfl, rfl, fun _ _ _ _ => rfl, fun _ _ _ => rfl, fun _ _ => rfl, fun _ => rfl, fun _ => rfl⟩

/-- Plain rules of lists and tests, as one. -/
theorem xm {α β : Type} :
    (∀ (f : α → β) (a : α) (l : List α), (a :: l).map f = f a :: l.map f) ∧ (∀ (f : α → β), ([] : List α).map f = []) ∧
    (∀ (f : α → β) (l : List α), (l.map f).length = l.length) ∧ (∀ (f : α → β) (l : List α) (i : Nat), (l.map f)[i]? = l[i]?.map f) ∧
    (∀ (f : α → β) (x : α), (some x).map f = some (f x)) :=
  ⟨fun _ _ _ => rfl, fun _ => rfl, fun _ _ => List.length_map _, fun _ _ _ => List.getElem?_map .., fun _ _ => rfl⟩
theorem xl {α : Type} :
    (∀ (l : List α), l.drop 0 = l) ∧ (∀ (l : List α), l.take 0 = []) ∧ (∀ (a : α) (l : List α) (i : Nat), (a :: l).take (i + 1) = a :: l.take i) ∧ (∀ (a : α) (l : List α) (i : Nat), (a :: l).drop (i + 1) = l.drop i) ∧
    (∀ (a : α) (l : List α), (a :: l).length = l.length + 1) ∧ ([] : List α).length = 0 ∧ (∀ (a : α) (l m : List α), (a :: l) ++ m = a :: (l ++ m)) ∧ (∀ (l : List α), [] ++ l = l) ∧ (∀ (l : List α), l ++ [] = l) ∧
    (∀ (a d : α), (some a).getD d = a) ∧ (∀ (d : α), (none : Option α).getD d = d) ∧ (∀ (a : α) (l : List α), (a :: l)[0]? = some a) ∧ (∀ (a : α) (l : List α) (i : Nat), (a :: l)[i + 1]? = l[i]?) :=
  ⟨fun _ => rfl, fun _ => rfl, fun _ _ _ => rfl, fun _ _ _ => rfl, fun _ _ => rfl, rfl, fun _ _ _ => rfl, fun _ => rfl, List.append_nil, fun _ _ => rfl, fun _ => rfl, fun _ _ => rfl, fun _ _ _ => rfl⟩

theorem ite_cond (p : Prop) [Decidable p] {α : Sort _} (a b : α) : (p → ite p a b = a) ∧ (¬ p → ite p a b = b) := ⟨fun h => if_pos h, fun h => if_neg h⟩

end Go.Aw
namespace Go.Aw

/-- The rules of trees, as one. -/
theorem xt :
    (∀ (h : Heap) (n : Nat) (b : Bool), toTree h (n + 1) (.bool b) = some (.bool b, [])) ∧ (∀ (h : Heap) (n : Nat) (k : IntKind) (i : Int), toTree h (n + 1) (.int k i) = some (.int k i, [])) ∧
    (∀ (h : Heap) (n : Nat) (s : ByteArray), toTree h (n + 1) (.str s) = some (.str s, [])) ∧ (∀ (h : Heap) (n : Nat), toTree h (n + 1) .nilfn = some (.nilfn, [])) ∧ (∀ (h : Heap) (n : Nat), toTree h (n + 1) .nil = some (.list [], [])) ∧
    (∀ (h : Heap) (n : Nat) (l : List AV), toTree h (n + 1) (.list l) = some (.list l, [])) ∧ (∀ (h : Heap) (n : Nat) (l : List AV) (t : Tok), toTree h (n + 1) (.rl l t) = some (.list l, [])) ∧
    (∀ (h : Heap) (n : Nat) (l : List AV), toTree h (n + 1) (.fptr l) = some (.fptr l, [])) ∧ (∀ (h : Heap) (n : Nat) (l : List (AV × AV)), toTree h (n + 1) (.map l) = some (.map l, [])) ∧ (∀ (h : Heap) (n : Nat), toTree h (n + 1) .undef = some (.undef, [])) ∧
    (∀ (h : Heap) (n : Nat) (id : Id) (t : Tok) (off len : Nat), toTree h (n + 1) (.sl id t off len) = match h.row id t with
      | some o => if o.esz ≠ 0 ∧ off + len * o.esz ≤ o.cells.length then (match mapT (toTree h n) (group o.esz o.ag len (o.cells.drop off)) with | some (vs, ids) => some (.list vs, id :: ids) | none => none) else none
      | none => none) ∧
    (∀ (h : Heap) (n : Nat) (id : Id) (t : Tok) (off : Nat), toTree h (n + 1) (.ptr id t off) = match h.row id t with
      | some o => (match mapT (toTree h n) (o.cells.drop off) with | some (vs, ids) => some (.fptr vs, id :: ids) | none => none)
      | none => none) ∧
    (∀ (h : Heap) (n : Nat) (l : List AV), toTree h (n + 1) (.agg l) = match mapT (toTree h n) l with | some (vs, ids) => some (.agg vs, ids) | none => none) ∧
    (∀ (h : Heap) (n : Nat) (l : List AV), toTree h (n + 1) (.tup l) = match mapT (toTree h n) l with | some (vs, ids) => some (.tup vs, ids) | none => none) ∧
    (∀ (h : Heap) (n : Nat) (f : FuncId) (l : List AV), toTree h (n + 1) (.fn f l) = match mapT (toTree h n) l with | some (vs, ids) => some (.fn f vs, ids) | none => none) ∧
    (∀ (f : AV → Option (AV × List Id)), mapT f [] = some ([], [])) ∧
    (∀ (f : AV → Option (AV × List Id)) (a : AV) (r : List AV), mapT f (a :: r) = match f a with | some (a, i) => (match mapT f r with | some (as, is) => some (a :: as, i ++ is) | none => none) | none => none) ∧
    (∀ (f : FuncId) (c : List AV), AV.scal (.fn f c) = c.isEmpty) ∧ (∀ l : List AV, AV.scal (.list l) = false) ∧ (∀ l : List AV, AV.scal (.agg l) = false) ∧ (∀ l : List AV, AV.scal (.fptr l) = false) ∧
    (∀ b : Bool, AV.scal (.bool b) = true) ∧ (∀ (k : IntKind) (i : Int), AV.scal (.int k i) = true) ∧ (∀ s : ByteArray, AV.scal (.str s) = true) ∧
    (∀ l : List AV, AV.scal1 (.agg l) = l.all AV.scal) ∧ (∀ l : List AV, AV.scal2 (.tup l) = l.all AV.scal1) ∧ (∀ l : List AV, AV.scal2 (.agg l) = l.all AV.scal) ∧ (∀ b : Bool, AV.scal2 (.bool b) = true) ∧ (∀ (k : IntKind) (i : Int), AV.scal2 (.int k i) = true) ∧
    (∀ s : ByteArray, AV.scal2 (.str s) = true) ∧ (∀ l : List AV, AV.scal2 (.list l) = false) ∧ (∀ b : Bool, AV.scal1 (.bool b) = true) ∧ (∀ (k : IntKind) (i : Int), AV.scal1 (.int k i) = true) ∧ (∀ s : ByteArray, AV.scal1 (.str s) = true) ∧ (∀ l : List AV, AV.scal1 (.list l) = false) ∧
    (∀ (v : AV), tupOf [v] = v) ∧ (∀ (v w : AV) (r : List AV), tupOf (v :: w :: r) = .tup (v :: w :: r)) ∧ deep = 8 :=
  ⟨fun _ _ _ => rfl, fun _ _ _ _ => rfl, fun _ _ _ => rfl, fun _ _ => rfl, fun _ _ => rfl, fun _ _ _ => rfl, fun _ _ _ _ => rfl, fun _ _ _ => rfl, fun _ _ _ => rfl, fun _ _ => rfl, fun _ _ _ _ _ _ => rfl, fun _ _ _ _ _ => rfl, fun _ _ _ => rfl, fun _ _ _ => rfl, fun _ _ _ _ => rfl,
    fun _ => rfl, fun _ _ _ => rfl, fun _ c => by cases c <;> rfl, fun _ => rfl, fun _ => rfl, fun _ => rfl, fun _ => rfl, fun _ _ => rfl, fun _ => rfl, fun _ => rfl, fun _ => rfl, fun _ => rfl, fun _ => rfl, fun _ _ => rfl, fun _ => rfl, fun _ => rfl, fun _ => rfl, fun _ _ => rfl, fun _ => rfl, fun _ => rfl,
    fun _ => rfl, fun _ _ _ => rfl, rfl⟩

end Go.Aw
namespace Go.Aw
/-- The rules of truth, as one. -/
theorem xb : (∀ (a : AV) (l : List AV), gt (a :: l) 0 = a) ∧ (∀ (a : AV) (l : List AV) (n : Nat), gt (a :: l) (n + 1) = gt l n) ∧ ((true == true) = true) ∧ ((true == false) = false) ∧ ((false == true) = false) ∧ ((false == false) = true) ∧ ((true != true) = false) ∧ ((true != false) = true) ∧ ((false != true) = true) ∧ ((false != false) = false) ∧
    ((!true) = false) ∧ ((!false) = true) ∧ ((true = true) = True) ∧ ((false = false) = True) ∧ ((true = false) = False) ∧ ((false = true) = False) ∧ (∀ b : Bool, (b == true) = b) ∧ (∀ b : Bool, (b == false) = !b) ∧ (∀ b : Bool, (b != false) = b) ∧ (∀ b : Bool, (b != true) = !b) :=
  ⟨fun _ _ => rfl, fun _ _ _ => rfl, rfl, rfl, rfl, rfl, rfl, rfl, rfl, rfl, rfl, rfl, eq_self _, eq_self _, eq_false (by decide), eq_false (by decide), by decide, by decide, by decide, by decide⟩
end Go.Aw

/-
  Lists as rows: elements and cells; trees that stand for themselves.
-/
namespace Go.Aw

theorem group_ag {α : Type} (f : α → List AV) (sz : Nat) : ∀ (l : List α), (∀ x ∈ l, (f x).length = sz) → group sz true l.length (l.flatMap f) = l.map fun x => .agg (f x)
  | [], _ => rfl
  | a :: l, h => by
    simp only [List.length_cons, List.flatMap_cons, List.map_cons, group]
    have ha := h a (by simp)
    rw [List.take_append_of_le_length (by omega), List.take_of_length_le (by omega), List.drop_append_of_le_length (by omega), List.drop_of_length_le (by omega), List.nil_append, group_ag f sz l (fun x hx => h x (by simp [hx]))]
    rfl

theorem group_one {α : Type} (f : α → AV) : ∀ (l : List α), group 1 false l.length (l.map f) = l.map f
  | [] => rfl
  | a :: l => by
    simp only [List.length_cons, List.map_cons, group, List.take_succ_cons, List.take_zero, List.drop_succ_cons, List.drop_zero]
    rw [group_one f l]
    rfl

theorem mapT_id {F : AV → Option (AV × List Id)} : ∀ (l : List AV), (∀ v ∈ l, F v = some (v, [])) → mapT F l = some (l, [])
  | [], _ => rfl
  | a :: l, h => by
    unfold mapT
    rw [h a (by simp), mapT_id l (fun v hv => h v (by simp [hv]))]
    rfl

theorem mapT_map {α : Type} {F : AV → Option (AV × List Id)} (f : α → AV) (l : List α) (h : ∀ x ∈ l, F (f x) = some (f x, [])) : mapT F (l.map f) = some (l.map f, []) :=
  mapT_id _ (fun v hv => by obtain ⟨x, hx, rfl⟩ := List.mem_map.1 hv; exact h x hx)

theorem flatMap_len {α : Type} (f : α → List AV) (sz : Nat) (l : List α) (h : ∀ x ∈ l, (f x).length = sz) : (l.flatMap f).length = l.length * sz := flatMap_length_const h

end Go.Aw
namespace Go.Aw

theorem append1_sl (h : Heap) (e : Ty) (id : Id) (tk : Tok) (i : Id) (t : Tok) (off len : Nat) (cs : List AV) (n : Nat) (rd : List Id) : append1 h e id tk (.sl i t off len) cs n rd =
    if n = 0 then some { v := .sl i t off len, rd := i :: rd }
    else if cs.length = n * e.sz ∧ e.sz ≠ 0 ∧ cs.all AV.one ∧ n ≤ bound then
      match h.row i t with
      | some o =>
        if off = 0 ∧ len ≤ bound ∧ o.esz = e.sz ∧ o.ag = e.ag ∧ (len + n) * e.by_ ≤ bound ∧ len * e.sz ≤ o.cells.length ∧ (len * e.sz = o.cells.length ∧ o.md ≠ .R ∨ o.md = .W) then
          some { v := .sl i tk 0 (len + n), up := [(i, { o with cells := o.cells.take (len * e.sz) ++ cs, t := tk })], rd := i :: rd, wr := [i] }
        else none
      | none => none
    else none := rfl

theorem append1_nil (h : Heap) (e : Ty) (id : Id) (tk : Tok) (cs : List AV) (n : Nat) (rd : List Id) : append1 h e id tk .nil cs n rd =
    if n = 0 then some { v := .nil, rd }
    else if cs.length = n * e.sz ∧ e.sz ≠ 0 ∧ cs.all AV.one ∧ n ≤ bound then
      if n * e.by_ ≤ bound then some { v := .sl id tk 0 n, up := [(id, ⟨cs, e.sz, e.ag, tk, .W⟩)], rd, wr := [id] } else none
    else none := rfl

/-- Behind a list that one holds alone, elements are set. -/
theorem append_own {h : Heap} {sz by_ : Nat} {ag : Bool} {z : List AV} {id : Id} {tk : Tok} {i : Id} {t : Tok} {len : Nat} {old new : List AV} {n : Nat} {rd : List Id}
    (hr : h.row i t = some ⟨old, sz, ag, t, .W⟩) (hn : n ≠ 0) (hs : sz ≠ 0) (ho : old.length = len * sz) (hc : new.length = n * sz) (h1 : new.all AV.one = true) (hb : n ≤ bound) (hl : len ≤ bound) (hb' : (len + n) * by_ ≤ bound) :
    append1 h ⟨sz, ag, by_, z⟩ id tk (.sl i t 0 len) new n rd = some { v := .sl i tk 0 (len + n), up := [(i, ⟨old ++ new, sz, ag, tk, .W⟩)], rd := i :: rd, wr := [i] } := by
  rw [append1_sl, if_neg hn, if_pos ⟨hc, hs, h1, hb⟩, hr]
  dsimp only
  rw [if_pos ⟨rfl, hl, rfl, rfl, hb', by omega, .inr rfl⟩, ← ho, List.take_length]

theorem source_sl (h : Heap) (esz : Nat) (id : Id) (t : Tok) (off len : Nat) : source h esz (.sl id t off len) = match h.row id t with
    | some o => if o.esz = esz ∧ o.esz ≠ 0 ∧ off + len * o.esz ≤ o.cells.length then some ((o.cells.drop off).take (len * esz), len, [id]) else none
    | none => none := rfl

end Go.Aw
namespace Go.Aw
theorem take_min {α : Type} (l : List α) (k : Nat) : l.take (min l.length k) = l.take k := by
  rw [List.take_eq_take_iff]; omega
end Go.Aw
namespace Go.Aw
theorem cL_of_run {E : Env} {k : Nat} {f : FuncId} {a : List AV} {r : AV} (h : (lvl E k).1 f a = some r) : cL E f a = some r := cL_iff.2 (Exists.intro k h)
end Go.Aw
