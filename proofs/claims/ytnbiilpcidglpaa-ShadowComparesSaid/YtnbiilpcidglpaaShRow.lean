/- Walks of this program by an abstract machine: the text ShRow. No conditions. -/
import Derived.Test.YtnbiilpcidglpaaRows
import Derived.Test.YtnbiilpcidglpaaShC
import Derived.Test.YtnbiilpcidglpaaSA1
import Derived.Test.YtnbiilpcidglpaaShEx
import Derived.WalkKit
import Derived.ProofKit
import Derived.OpenShut
import Derived.ShutString
import Derived.ChangeOld
import Derived.Below
import Derived.SizedLaws
set_option linter.unusedSimpArgs false
set_option linter.unusedVariables false

/-
  The row of ShadowCompares: whatever the input, the call returns true, and the input reads as it did.
-/
namespace Go.Aw
open Go.Proofs

def gStream : GT := .st (.cons .str (.cons (.sl 8 (.int .i64)) .nil))
def gCompares : GFs := .cons (.sl 40 gStream) (.cons (.sl 40 gStream) (.cons (.arr 2 (.int .u8)) .nil))

theorem okS_of {a : List Sc.Strm} (h : GT.wf (.sl 40 gStream) a) : okS a ∧ okB a := by
  have h' : a.length * 40 ≤ reachBytes ∧ a.length ≤ maxLen ∧ ∀ v ∈ a, GT.wf gStream v := h
  have hr : reachBytes = 140737488351232 := by decide
  rw [hr] at h'
  refine ⟨⟨by omega, fun x hx => ?_⟩, by unfold okB; omega⟩
  have hx' : x.1.size ≤ reachBytes ∧ (x.2.1.length * 8 ≤ reachBytes ∧ x.2.1.length ≤ maxLen ∧ ∀ v ∈ x.2.1, GT.wf (.int .i64) v) ∧ True := h'.2.2 x hx
  rw [hr] at hx'
  omega

theorem u8_of {n : Int} (h : GT.wf (.int .u8) n) : 0 ≤ n ∧ n ≤ 255 := by
  have h' : (Lit.int .u8 n).wf = true := h
  have e1 : IntKind.u8.min = 0 := rfl
  have e2 : IntKind.u8.max = 255 := rfl
  simp only [Lit.wf, e1, e2, Bool.and_eq_true, decide_eq_true_eq] at h'
  exact h'

theorem arr_of {k : List Int} (h : GT.wf (.arr 2 (.int .u8)) k) : k.length = 2 ∧ ∀ v ∈ k, GT.wf (.int .u8) (v : Int) := h

theorem compares_holds (x : gCompares.Val) (hx : gCompares.wf x) : cL (EE noExt) 3 (gCompares.avs x) = some (.bool true) := by
  obtain ⟨a, b, k, _⟩ := x
  obtain ⟨ha, hb, hk, _⟩ := hx
  have hk' := arr_of hk
  obtain ⟨ha1, ha2⟩ := okS_of ha
  obtain ⟨hb1, hb2⟩ := okS_of hb
  match k, hk' with
  | [k0, k1], hk' =>
    have h0 := u8_of (hk'.2 k0 (List.mem_cons_self ..))
    have h1 := u8_of (hk'.2 k1 (List.mem_cons_of_mem _ (List.mem_cons_self ..)))
    exact law_spec (fun _ _ => rfl) ex52 a b ha1 hb1 ha2 hb2 k0 k1 h0.1 h0.2 h1.1 h1.2

theorem noExt_ok : CallOk Fence.wide Try.prog noExt := fun f ts r h => by cases h
end Go.Aw

namespace Go.Proofs.Ytnbiilpcidglpaa.shadowCompares
open Go.ChangeShapes Go.WideShapes Go.ChangeAt Go.RowKit
open Go.ChangeMaps (open_string shut_string)
theorem own : ownKnob Try.prog.godebug = none := by kernel_rfl
theorem laidOut : laidOutB Try.prog = true := by kernel_rfl
set_option maxRecDepth 100000 in
theorem lifted (os : Os) (started : os.Started) (H : Type) (enc : TypeId × Value → H) :
    ReturnsInHanded {} Try.checked os 3 .any (Rows.shadowComparesSpec.pre6 enc Try.prog Try.f3 Rows.shadowComparesRow.domain false) (Rows.shadowComparesSpec.post enc Try.prog Try.f3 false true false false) := by
  refine returnsInHanded_of_change_sized (C := Try.checked) own started (by kernel_rfl) Try.func3
    (ChangeSpec.witness6 (enc := enc) (C := Try.checked) false ⟨#[], #[.slice none 0 0, .slice none 0 0, .agg #[.int .u8 0, .int .u8 0]], []⟩ 8 (by kernel_rfl) (by kernel_rfl) (by kernel_rfl) (by kernel_rfl)) ?_
  intro W base args ds gs before hval0 hW hcnd hsz0 _
  have hW' := hW
  obtain ⟨p, q, hA, hV, rfl, hfz, hnd⟩ := hW
  obtain ⟨rfl, rfl⟩ := trodVars_none hV
  have hsz : (DataW.weightsEach Try.prog Try.f3.params.toList ds).all (· ≤ reachBytes) = true := by
    have h2 := hsz0
    rw [List.append_nil] at h2
    exact h2
  have hds : ∃ d1 d2 d3, ds = [d1, d2, d3] := by
    have hA' : DataW.TrodAll enc Try.prog W 0 (fun _ => true) true Try.f3.params.toList args.toList ds p := hA
    rw [Try.params3] at hA'
    obtain ⟨v0, vs0, d0, ds0, p0, q0, _, rfl, _, _, r0⟩ := trodAll_cons hA'
    obtain ⟨v1, vs1, d1, ds1, p1, q1, _, rfl, _, _, r1⟩ := trodAll_cons r0
    obtain ⟨v2, vs2, d2, ds2, p2, q2, _, rfl, _, _, r2⟩ := trodAll_cons r1
    obtain ⟨_, rfl, _⟩ := trodAll_nil r2
    exact ⟨_, _, _, rfl⟩
  refine (Aw.law_walk (P := Try.prog) (by kernel_rfl) (fun _ _ h => h) Aw.noExt_ok Aw.cloneOk (fs := Aw.gCompares) (by kernel_rfl) Aw.compares_holds (r := .any) (base := base) (fun j t v h1 h2 => hval0 j t v (by rw [← Array.getElem?_toList]; exact h1) h2) hA (fun m hm => by simpa using List.all_eq_true.1 hsz m hm)).mono fun e W' ⟨he, bel⟩ => ?_
  subst he
  obtain ⟨d1, d2, d3, rfl⟩ := hds
  exact ⟨_, rfl, _, _, _, [], _, [], hW', trodAll_mk1 (shut_bool Try.underlying4 _), Aw.trodAll_carry laidOut bel _ _ _ _ (by decide) hA, rfl, bel.frame _, fun h => by cases h⟩
end Go.Proofs.Ytnbiilpcidglpaa.shadowCompares
