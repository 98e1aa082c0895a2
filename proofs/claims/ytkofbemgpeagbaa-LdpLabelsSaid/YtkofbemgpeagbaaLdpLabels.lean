/- The law LdpLabels holds of the given program, for any arguments: whatever happens, the free labels and those that are given out are together the labels of the beginning. -/
import Derived.Test.YtkofbemgpeagbaaZF
import Derived.Test.YtkofbemgpeagbaaRows
set_option linter.all false
namespace Go.Proofs.Ytkofbemgpeagbaa.LdpLabels
open Go Go.RT Go.Proofs Go.Pl
open Go.ChangeShapes Go.WideShapes Go.ChangeAt Go.RowKit
set_option linter.all false
theorem dn {H : Type} : DnOk H (fun _ => True) maxLen := dnAll H
theorem own : ownKnob Try.prog.godebug = none := by kernel_rfl
theorem laidOut : laidOutB Try.prog = true := by kernel_rfl
set_option maxRecDepth 100000 in
theorem lifted (os : Os) (started : os.Started) (H : Type) (enc : TypeId × Value → H) :
    ReturnsInHanded {} Try.checked os 5 .any (Rows.ldpLabelsSpec.pre6 enc Try.prog Try.f5 Rows.ldpLabelsRow.domain false) (Rows.ldpLabelsSpec.post enc Try.prog Try.f5 false true false false) := by
  refine returnsInHanded_of_change (C := Try.checked) own started (by kernel_rfl) Try.func5
    (ChangeSpec.witness6 (enc := enc) (C := Try.checked) false ⟨#[], #[.int .u32 0, .slice none 0 0, .slice none 0 0], []⟩ 8 (by kernel_rfl) (by kernel_rfl) (by kernel_rfl) (by kernel_rfl)) ?_
  intro W base args ds gs before hval0 hW hcnd _
  have hval : ∀ (j : Nat) t v, Try.f5.params[j]? = some t → args[j]? = some v → Value.okWide Try.prog W .any base t v := hval0
  have hW' := hW
  obtain ⟨p, q, hA0, hV, rfl, hfz, hnd⟩ := hW
  have hA : DataW.TrodAll enc Try.prog W 0 (fun _ => true) true Try.f5.params.toList args.toList ds p := hA0
  have hA1 := hA
  rw [Try.params5] at hA hval
  obtain ⟨v0, vs0, d0, ds0, p0, q0, hargs, rfl, rfl, h0, r0⟩ := trodAll_cons hA
  obtain ⟨v1, vs1, d1, ds1, p1, q1, rfl, rfl, rfl, h1, r1⟩ := trodAll_cons r0
  obtain ⟨v2, vs2, d2, ds2, p2, q2, rfl, rfl, rfl, h2, r2⟩ := trodAll_cons r1
  obtain ⟨rfl, rfl, rfl⟩ := trodAll_nil r2
  obtain rfl : args = #[v0, v1, v2] := by cases args; simp_all
  obtain ⟨rfl, rfl⟩ := trodVars_none hV
  obtain ⟨f0, ⟨n0, m0, e0⟩, F0⟩ := arg_cell (rdc_u) (ok := fun _ => True) trivial Try.underlying22 rfl (hval 0 22 v0 rfl rfl) h0
  cases e0
  obtain ⟨f1, ⟨l1, o1, e1⟩, F1⟩ := arg_cell (rdc_rgs dn) (ok := fun _ => True) trivial Try.underlying37 rfl (hval 1 37 v1 rfl rfl) h1
  cases e1
  obtain ⟨f2, ⟨l2, o2, e2⟩, F2⟩ := arg_cell (rdc_evs dn (Nat.le_refl _)) (ok := fun _ => True) trivial Try.underlying38 rfl (hval 2 38 v2 rfl rfl) h2
  cases e2
  simp only [List.append_nil] at hW'
  refine (law_calls (vs := [v0, v1, v2]) (labels_law n0 l1 l2 o2.1 o1 o2.2) rfl (fun i v f hi hf => by
    match i with
    | 0 => simp at hi hf; subst hi; subst hf; exact F0
    | 1 => simp at hi hf; subst hi; subst hf; exact F1
    | 2 => simp at hi hf; subst hi; subst hf; exact F2
    | i + 3 => simp at hi)).mono fun e W' ⟨he, hS⟩ => ?_
  subst he
  exact ⟨_, rfl, law_end (P := Try.prog) laidOut Try.underlying4 rfl hW' (by simpa using hA1) rfl rfl (by rw [Try.params5]; intro t ht; simp at ht; rcases ht with rfl | rfl | rfl <;> exact ⟨by kernel_rfl, by decide +kernel⟩) hS⟩
theorem over : Rows.ldpLabelsRow.holds Try.pinned (OpenSpec.ofChange Rows.ldpLabelsSpec) :=
  OpenClaim.holds_of_wide 5 Try.f5 rfl rfl rfl rfl rfl rfl rfl ⟨rfl, rfl, rfl, rfl, rfl⟩ rfl rfl rfl rfl rfl (by kernel_rfl) Try.func5 (by kernel_rfl)
    (of_decide_eq_true (by kernel_rfl)) (by unfold Func.isWrapper; first | (rw [if_pos (by decide +kernel)]; kernel_rfl) | (rw [if_neg (by decide +kernel)]; exact ⟨rfl, rfl⟩))
    (fun os started H enc _ => lifted os started H enc)
theorem proved : Rows.LdpLabelsSaid := over
end Go.Proofs.Ytkofbemgpeagbaa.LdpLabels
