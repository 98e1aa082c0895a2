/- The law IspfChanges holds of the given program: Changes is as the reference describes, for any two graphs. No condition is added to the given statement. -/
import Derived.Test.YtcillieggklaaaaGreatZG
import Derived.Test.YtcillieggklaaaaGreatRows
set_option linter.all false
namespace Go.Proofs.YtcillieggklaaaaGreat.IspfChanges
open Go Go.RT Go.Proofs Go.Pl
open Go.ChangeShapes Go.WideShapes Go.ChangeAt Go.RowKit
set_option linter.all false
theorem dn {H : Type} : DnOk H (fun _ => True) maxLen := dnAll H
theorem own : ownKnob Tryz.prog.godebug = none := by kernel_rfl
theorem laidOut : laidOutB Tryz.prog = true := by kernel_rfl
set_option maxRecDepth 100000 in
theorem lifted (os : Os) (started : os.Started) (H : Type) (enc : TypeId × Value → H) :
    ReturnsInHanded {} Tryz.checked os 7 .any (Rows.ispfChangesSpec.pre6 enc Tryz.prog Tryz.f7 Rows.ispfChangesRow.domain false) (Rows.ispfChangesSpec.post enc Tryz.prog Tryz.f7 false true false false) := by
  refine returnsInHanded_of_change (C := Tryz.checked) own started (by kernel_rfl) Tryz.func7
    (ChangeSpec.witness6 (enc := enc) (C := Tryz.checked) false ⟨#[], #[.agg #[.int .i64 0, .int .i64 0, .slice none 0 0], .agg #[.int .i64 0, .int .i64 0, .slice none 0 0]], []⟩ 8 (by kernel_rfl) (by kernel_rfl) (by kernel_rfl) (by kernel_rfl)) ?_
  intro W base args ds gs before hval0 hW hcnd _
  have hval : ∀ (j : Nat) t v, Tryz.f7.params[j]? = some t → args[j]? = some v → Value.okWide Tryz.prog W .any base t v := hval0
  have hW' := hW
  obtain ⟨p, q, hA0, hV, rfl, hfz, hnd⟩ := hW
  have hA : DataW.TrodAll enc Tryz.prog W 0 (fun _ => true) true Tryz.f7.params.toList args.toList ds p := hA0
  have hA1 := hA
  rw [Tryz.params7] at hA hval
  obtain ⟨v0, vs0, d0, ds0, p0, q0, hargs, rfl, rfl, h0, r0⟩ := trodAll_cons hA
  obtain ⟨v1, vs1, d1, ds1, p1, q1, rfl, rfl, rfl, h1, r1⟩ := trodAll_cons r0
  obtain ⟨rfl, rfl, rfl⟩ := trodAll_nil r1
  obtain rfl : args = #[v0, v1] := by cases args; simp_all
  obtain ⟨rfl, rfl⟩ := trodVars_none hV
  obtain ⟨f0, ⟨g0, o0, b0, e0⟩, F0⟩ := arg_struct (rdc_graph dn) (ok := fun _ => True) trivial Tryz.underlying24 (hval 0 24 v0 rfl rfl) h0
  subst e0
  obtain ⟨f1, ⟨g1, o1, b1, e1⟩, F1⟩ := arg_struct (rdc_graph dn) (ok := fun _ => True) trivial Tryz.underlying24 (hval 1 24 v1 rfl rfl) h1
  subst e1
  simp only [List.append_nil] at hW'
  refine (law_calls (vs := [v0, v1]) (changes_law g0 g1 o0 o1) rfl (fun i v f hi hf => by
    match i with
    | 0 => simp at hi hf; subst hi; subst hf; exact F0
    | 1 => simp at hi hf; subst hi; subst hf; exact F1
    | i + 2 => simp at hi)).mono fun e W' ⟨he, hS⟩ => ?_
  subst he
  exact ⟨_, rfl, law_end (P := Tryz.prog) laidOut Tryz.underlying4 rfl hW' (by simpa using hA1) rfl rfl (by rw [Tryz.params7]; intro t ht; simp at ht; rcases ht with rfl <;> exact ⟨by kernel_rfl, by decide +kernel⟩) hS⟩
theorem over : Rows.ispfChangesRow.holds Tryz.pinned (OpenSpec.ofChange Rows.ispfChangesSpec) :=
  OpenClaim.holds_of_wide 7 Tryz.f7 rfl rfl rfl rfl rfl rfl rfl ⟨rfl, rfl, rfl, rfl, rfl⟩ rfl rfl rfl rfl rfl (by kernel_rfl) Tryz.func7 (by kernel_rfl)
    (of_decide_eq_true (by kernel_rfl)) (by unfold Func.isWrapper; first | (rw [if_pos (by decide +kernel)]; kernel_rfl) | (rw [if_neg (by decide +kernel)]; exact ⟨rfl, rfl⟩))
    (fun os started H enc _ => lifted os started H enc)
theorem proved : Rows.IspfChangesSaid := over
end Go.Proofs.YtcillieggklaaaaGreat.IspfChanges
