/- The law LdpPath holds of the given program, for any arguments: in a network of any shape all label-switched paths lead along the next hops to the router of the prefix. -/
import Derived.Test.YtkofbemgpeagbaaGreatZG
import Derived.Test.YtkofbemgpeagbaaGreatRows
set_option linter.all false
namespace Go.Proofs.YtkofbemgpeagbaaGreat.LdpPath
open Go Go.RT Go.Proofs Go.Pl
open Go.ChangeShapes Go.WideShapes Go.ChangeAt Go.RowKit
set_option linter.all false
theorem dn {H : Type} : DnOk H (fun _ => True) maxLen := dnAll H
theorem own : ownKnob Tryz.prog.godebug = none := by kernel_rfl
theorem laidOut : laidOutB Tryz.prog = true := by kernel_rfl
set_option maxRecDepth 100000 in
theorem lifted (os : Os) (started : os.Started) (H : Type) (enc : TypeId × Value → H) :
    ReturnsInHanded {} Tryz.checked os 4 .any (Rows.ldpPathSpec.pre6 enc Tryz.prog Tryz.f4 Rows.ldpPathRow.domain false) (Rows.ldpPathSpec.post enc Tryz.prog Tryz.f4 false true false false) := by
  refine returnsInHanded_of_change (C := Tryz.checked) own started (by kernel_rfl) Tryz.func4
    (ChangeSpec.witness6 (enc := enc) (C := Tryz.checked) false ⟨#[], #[.int .u8 0, .slice none 0 0, .bool false, .int .u32 0], []⟩ 8 (by kernel_rfl) (by kernel_rfl) (by kernel_rfl) (by kernel_rfl)) ?_
  intro W base args ds gs before hval0 hW hcnd _
  have hval : ∀ (j : Nat) t v, Tryz.f4.params[j]? = some t → args[j]? = some v → Value.okWide Tryz.prog W .any base t v := hval0
  have hW' := hW
  obtain ⟨p, q, hA0, hV, rfl, hfz, hnd⟩ := hW
  have hA : DataW.TrodAll enc Tryz.prog W 0 (fun _ => true) true Tryz.f4.params.toList args.toList ds p := hA0
  have hA1 := hA
  rw [Tryz.params4] at hA hval
  obtain ⟨v0, vs0, d0, ds0, p0, q0, hargs, rfl, rfl, h0, r0⟩ := trodAll_cons hA
  obtain ⟨v1, vs1, d1, ds1, p1, q1, rfl, rfl, rfl, h1, r1⟩ := trodAll_cons r0
  obtain ⟨v2, vs2, d2, ds2, p2, q2, rfl, rfl, rfl, h2, r2⟩ := trodAll_cons r1
  obtain ⟨v3, vs3, d3, ds3, p3, q3, rfl, rfl, rfl, h3, r3⟩ := trodAll_cons r2
  obtain ⟨rfl, rfl, rfl⟩ := trodAll_nil r3
  obtain rfl : args = #[v0, v1, v2, v3] := by cases args; simp_all
  obtain ⟨rfl, rfl⟩ := trodVars_none hV
  obtain ⟨f0, ⟨n0, m0, e0⟩, F0⟩ := arg_cell (rdc_u8) (ok := fun _ => True) trivial Tryz.underlying5 rfl (hval 0 5 v0 rfl rfl) h0
  cases e0
  obtain ⟨f1, ⟨l1, o1, e1⟩, F1⟩ := arg_cell (rdc_jns dn (Nat.le_refl _)) (ok := fun _ => True) trivial Tryz.underlying53 rfl (hval 1 53 v1 rfl rfl) h1
  cases e1
  obtain ⟨f2, ⟨b2, e2⟩, F2⟩ := arg_cell (rdc_b) (ok := fun _ => True) trivial Tryz.underlying4 rfl (hval 2 4 v2 rfl rfl) h2
  cases e2
  obtain ⟨f3, ⟨n3, m3, e3⟩, F3⟩ := arg_cell (rdc_u4) (ok := fun _ => True) trivial Tryz.underlying22 rfl (hval 3 22 v3 rfl rfl) h3
  cases e3
  simp only [List.append_nil] at hW'
  refine (law_calls (vs := [v0, v1, v2, v3]) (path_law n0 l1 b2 n3 m0 o1.1 o1.2 m3) rfl (fun i v f hi hf => by
    match i with
    | 0 => simp at hi hf; subst hi; subst hf; exact F0
    | 1 => simp at hi hf; subst hi; subst hf; exact F1
    | 2 => simp at hi hf; subst hi; subst hf; exact F2
    | 3 => simp at hi hf; subst hi; subst hf; exact F3
    | i + 4 => simp at hi)).mono fun e W' ⟨he, hS⟩ => ?_
  subst he
  exact ⟨_, rfl, law_end (P := Tryz.prog) laidOut Tryz.underlying4 rfl hW' (by simpa using hA1) rfl rfl (by rw [Tryz.params4]; intro t ht; simp at ht; rcases ht with rfl | rfl | rfl | rfl <;> exact ⟨by kernel_rfl, by decide +kernel⟩) hS⟩
theorem over : Rows.ldpPathRow.holds Tryz.pinned (OpenSpec.ofChange Rows.ldpPathSpec) :=
  OpenClaim.holds_of_wide 4 Tryz.f4 rfl rfl rfl rfl rfl rfl rfl ⟨rfl, rfl, rfl, rfl, rfl⟩ rfl rfl rfl rfl rfl (by kernel_rfl) Tryz.func4 (by kernel_rfl)
    (of_decide_eq_true (by kernel_rfl)) (by unfold Func.isWrapper; first | (rw [if_pos (by decide +kernel)]; kernel_rfl) | (rw [if_neg (by decide +kernel)]; exact ⟨rfl, rfl⟩))
    (fun os started H enc _ => lifted os started H enc)
theorem proved : Rows.LdpPathSaid := over
end Go.Proofs.YtkofbemgpeagbaaGreat.LdpPath
