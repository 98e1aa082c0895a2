/- The law AdjinRestart holds of the given program: after a restart the routes that were stored again are left. The arguments hold together at most 1048576 values, as the second form of the statement has it. -/
import Derived.Test.YtfkcbglnadjnnaaZG
import Derived.JoinedCond
import Derived.Test.YtfkcbglnadjnnaaRows
set_option linter.all false
namespace Go.Proofs.Ytfkcbglnadjnnaa.AdjinRestart
open Go Go.RT Go.Proofs Go.Pl
open Go.ChangeShapes Go.WideShapes Go.ChangeAt Go.RowKit
set_option linter.all false
theorem bulk_mem {H : Type} : ∀ {es : List (DataW H)} {e : DataW H}, e ∈ es → Rows.uptoBulk e ≤ Rows.uptoBulkAll es
  | x :: es, e, h => by
    simp only [Rows.uptoBulkAll]
    rcases List.mem_cons.1 h with rfl | h
    · omega
    · have := bulk_mem h; omega
theorem bulk_pos {H : Type} (d : DataW H) : 1 ≤ Rows.uptoBulk d := by
  cases d with
  | lit l => cases l <;> simp [Rows.uptoBulk]
  | _ => simp [Rows.uptoBulk]
theorem bulk_len {H : Type} : ∀ (es : List (DataW H)), es.length ≤ Rows.uptoBulkAll es
  | [] => Nat.le_refl _
  | x :: es => by have := bulk_len es; have := bulk_pos x; simp only [Rows.uptoBulkAll, List.length_cons]; omega
theorem dn {H : Type} : DnOk H (fun d => Rows.uptoBulk d ≤ 1048576) 1048576 :=
  ⟨fun es sp h => by simp only [Rows.uptoBulk] at h; exact ⟨fun e he => by have := bulk_mem he; omega, fun _ => by have := bulk_len es; omega⟩, fun ps h p hp => by simp only [Rows.uptoBulk] at h; have := bulk_mem hp; omega⟩
theorem own : ownKnob Try.prog.godebug = none := by kernel_rfl
theorem laidOut : laidOutB Try.prog = true := by kernel_rfl
set_option maxRecDepth 100000 in
theorem lifted (os : Os) (started : os.Started) (H : Type) (enc : TypeId × Value → H) (F : Stop.Interp) :
    ReturnsInHanded {} Try.checked os 8 .any ((Rows.OpenSpec.upto Rows.adjinRestartSpec).pre6 enc Try.prog Try.f8 Rows.adjinRestartUptoRow.domain false) (((Rows.OpenSpec.upto Rows.adjinRestartSpec).at F).post enc Try.prog Try.f8 false true false false) := by
  refine returnsInHanded_of_cond (C := Try.checked) (s := Rows.OpenSpec.upto Rows.adjinRestartSpec) (k := Rows.uptoSmall) rfl own started (by kernel_rfl) Try.func8
    (OpenSpec.witness (enc := enc) (C := Try.checked) (s := Rows.OpenSpec.upto Rows.adjinRestartSpec) (k := Rows.uptoSmall) rfl false ⟨#[], #[.slice none 0 0, .agg #[.int .u32 0, .int .i64 0, .int .i64 0, .slice none 0 0, .int .u32 0, .bool false, .int .i64 0, .bool false, .int .i64 0, .bool false, .bool false, .int .i64 0, .int .u32 0, .slice none 0 0, .bool false, .int .u32 0, .slice none 0 0, .slice none 0 0, .int .i64 0, .int .i64 0, .int .u32 0, .bool false]], []⟩ 8 (by kernel_rfl) (by kernel_rfl) (by kernel_rfl)
      (x := ([.nil, .agg [.agg [.lit (.int .u32 0), .lit (.int .i64 0)], .agg [.lit (.int .i64 0), .nil, .lit (.int .u32 0), .lit (.bool false), .lit (.int .i64 0), .lit (.bool false), .lit (.int .i64 0), .lit (.bool false), .lit (.bool false), .lit (.int .i64 0), .lit (.int .u32 0), .nil, .lit (.bool false), .lit (.int .u32 0), .nil, .nil], .lit (.int .i64 0), .lit (.int .i64 0), .lit (.int .u32 0), .lit (.bool false)]], [], [])) (by kernel_rfl) rfl (by kernel_rfl)) ?_
  intro W base args ds gs before hval0 hW _ hk _
  have hval : ∀ (j : Nat) t v, Try.f8.params[j]? = some t → args[j]? = some v → Value.okWide Try.prog W .any base t v := hval0
  have hW' := hW
  obtain ⟨p, q, hA0, hV, rfl, hfz, hnd⟩ := hW
  have hA : DataW.TrodAll enc Try.prog W 0 (fun _ => true) true Try.f8.params.toList args.toList ds p := hA0
  have hA1 := hA
  rw [Try.params8] at hA hval
  obtain ⟨v0, vs0, d0, ds0, p0, q0, hargs, rfl, rfl, h0, r0⟩ := trodAll_cons hA
  obtain ⟨v1, vs1, d1, ds1, p1, q1, rfl, rfl, rfl, h1, r1⟩ := trodAll_cons r0
  obtain ⟨rfl, rfl, rfl⟩ := trodAll_nil r1
  obtain rfl : args = #[v0, v1] := by cases args; simp_all
  obtain ⟨rfl, rfl⟩ := trodVars_none hV
  have hk2 := of_decide_eq_true hk
  simp only [List.append_nil, Rows.uptoBulkAll] at hk2
  obtain ⟨f0, ⟨l0, o0, e0⟩, F0⟩ := arg_cell (rdc_pvs dn (Nat.le_refl _)) (ok := fun d => Rows.uptoBulk d ≤ 1048576) (by omega) Try.underlying22 rfl (hval 0 22 v0 rfl rfl) h0
  cases e0
  obtain ⟨f1, ⟨r1, q1, e1⟩, F1⟩ := arg_struct (rdc_pv dn (Nat.le_refl _)) (ok := fun d => Rows.uptoBulk d ≤ 1048576) (by omega) Try.underlying37 (hval 1 37 v1 rfl rfl) h1
  subst e1
  simp only [List.append_nil] at hW'
  refine (law_calls (vs := [v0, v1]) (restart_law l0 r1 o0 q1.1 q1.2) rfl (fun i v f hi hf => by
    match i with
    | 0 => simp at hi hf; subst hi; subst hf; exact F0
    | 1 => simp at hi hf; subst hi; subst hf; exact F1
    | i + 2 => simp at hi)).mono fun e W' ⟨he, hS⟩ => ?_
  subst he
  exact ⟨_, rfl, law_end (P := Try.prog) laidOut Try.underlying4 rfl hW' (by simpa using hA1) rfl rfl (by rw [Try.params8]; intro t ht; simp at ht; rcases ht with rfl | rfl <;> exact ⟨by kernel_rfl, by decide +kernel⟩) hS⟩
theorem over : Rows.adjinRestartUptoRow.holds Try.pinned (Rows.OpenSpec.upto Rows.adjinRestartSpec) :=
  OpenClaim.holds_of_cond 8 Try.f8 rfl rfl rfl rfl rfl rfl rfl ⟨rfl, rfl, rfl, rfl, rfl⟩ rfl rfl rfl rfl rfl (by kernel_rfl) Try.func8 (by kernel_rfl)
    (of_decide_eq_true (by kernel_rfl)) (by unfold Func.isWrapper; first | (rw [if_pos (by decide +kernel)]; kernel_rfl) | (rw [if_neg (by decide +kernel)]; exact ⟨rfl, rfl⟩))
    (fun os started H enc _ F => lifted os started H enc F)
theorem proved : Rows.AdjinRestartUptoSaid := over
end Go.Proofs.Ytfkcbglnadjnnaa.AdjinRestart
