/- The law IntraUses holds of the given program: every hop of a route uses an interface of the area that is up, routes have hops, and are ascending. The arguments hold together at most 1048576 values, as the second form of the statement has it. -/
import Derived.Test.YtoeckbdgemnngaaGreatZG
import Derived.JoinedCond
import Derived.Test.YtoeckbdgemnngaaGreatRows
set_option linter.all false
namespace Go.Proofs.YtoeckbdgemnngaaGreat.IntraUses
open Go Go.RT Go.Proofs Go.Pl
open Go.ChangeShapes Go.WideShapes Go.ChangeAt Go.RowKit
set_option linter.all false
theorem bulk_mem {H : Type} : ∀ {es : List (DataW H)} {e : DataW H}, e ∈ es → Rows.uptoBulk e ≤ Rows.uptoBulkAll es
  | x :: es, e, h => by
    simp only [Rows.uptoBulkAll]
    rcases List.mem_cons.1 h with rfl | h
    · omega
    · have := bulk_mem h; omega
theorem bulk_pos {H : Type} (d : DataW H) : 1 ≤ Rows.uptoBulk d := by
  cases d with
  | lit l => cases l <;> simp [Rows.uptoBulk]
  | _ => simp [Rows.uptoBulk]
theorem bulk_len {H : Type} : ∀ (es : List (DataW H)), es.length ≤ Rows.uptoBulkAll es
  | [] => Nat.le_refl _
  | x :: es => by have := bulk_len es; have := bulk_pos x; simp only [Rows.uptoBulkAll, List.length_cons]; omega
theorem dn {H : Type} : DnOk H (fun d => Rows.uptoBulk d ≤ 1048576) 1048576 :=
  ⟨fun es sp h => by simp only [Rows.uptoBulk] at h; exact ⟨fun e he => by have := bulk_mem he; omega, fun _ => by have := bulk_len es; omega⟩, fun ps h p hp => by simp only [Rows.uptoBulk] at h; have := bulk_mem hp; omega⟩
theorem own : ownKnob Tryz.prog.godebug = none := by kernel_rfl
theorem laidOut : laidOutB Tryz.prog = true := by kernel_rfl
set_option maxRecDepth 100000 in
theorem lifted (os : Os) (started : os.Started) (H : Type) (enc : TypeId × Value → H) (F : Stop.Interp) :
    ReturnsInHanded {} Tryz.checked os 4 .any ((Rows.OpenSpec.upto Rows.intraUsesSpec).pre6 enc Tryz.prog Tryz.f4 Rows.intraUsesUptoRow.domain false) (((Rows.OpenSpec.upto Rows.intraUsesSpec).at F).post enc Tryz.prog Tryz.f4 false true false false) := by
  refine returnsInHanded_of_cond (C := Tryz.checked) (s := Rows.OpenSpec.upto Rows.intraUsesSpec) (k := Rows.uptoSmall) rfl own started (by kernel_rfl) Tryz.func4
    (OpenSpec.witness (enc := enc) (C := Tryz.checked) (s := Rows.OpenSpec.upto Rows.intraUsesSpec) (k := Rows.uptoSmall) rfl false ⟨#[], #[.agg #[.int .u32 0, .slice none 0 0], .int .u32 0, .slice none 0 0], []⟩ 8 (by kernel_rfl) (by kernel_rfl) (by kernel_rfl)
      (x := ([.agg [.lit (.int .u32 0), .nil], .lit (.int .u32 0), .nil], [], [])) (by kernel_rfl) rfl (by kernel_rfl)) ?_
  intro W base args ds gs before hval0 hW _ hk _
  have hval : ∀ (j : Nat) t v, Tryz.f4.params[j]? = some t → args[j]? = some v → Value.okWide Tryz.prog W .any base t v := hval0
  have hW' := hW
  obtain ⟨p, q, hA0, hV, rfl, hfz, hnd⟩ := hW
  have hA : DataW.TrodAll enc Tryz.prog W 0 (fun _ => true) true Tryz.f4.params.toList args.toList ds p := hA0
  have hA1 := hA
  rw [Tryz.params4] at hA hval
  obtain ⟨v0, vs0, d0, ds0, p0, q0, hargs, rfl, rfl, h0, r0⟩ := trodAll_cons hA
  obtain ⟨v1, vs1, d1, ds1, p1, q1, rfl, rfl, rfl, h1, r1⟩ := trodAll_cons r0
  obtain ⟨v2, vs2, d2, ds2, p2, q2, rfl, rfl, rfl, h2, r2⟩ := trodAll_cons r1
  obtain ⟨rfl, rfl, rfl⟩ := trodAll_nil r2
  obtain rfl : args = #[v0, v1, v2] := by cases args; simp_all
  obtain ⟨rfl, rfl⟩ := trodVars_none hV
  have hk2 := of_decide_eq_true hk
  simp only [List.append_nil, Rows.uptoBulkAll] at hk2
  obtain ⟨f0, ⟨a0, l0, o0, b0, e0⟩, F0⟩ := arg_struct (rdc_area dn) (ok := fun d => Rows.uptoBulk d ≤ 1048576) (by omega) Tryz.underlying30 (hval 0 30 v0 rfl rfl) h0
  subst e0
  obtain ⟨f1, ⟨n1, m1, e1⟩, F1⟩ := arg_cell (rdc_u) (ok := fun d => Rows.uptoBulk d ≤ 1048576) (by omega) Tryz.underlying27 rfl (hval 1 27 v1 rfl rfl) h1
  cases e1
  obtain ⟨f2, ⟨l2, o2, b2, e2⟩, F2⟩ := arg_cell (rdc_ifs dn) (ok := fun d => Rows.uptoBulk d ≤ 1048576) (by omega) Tryz.underlying31 rfl (hval 2 31 v2 rfl rfl) h2
  cases e2
  simp only [List.append_nil] at hW'
  refine (law_calls (vs := [v0, v1, v2]) (uses_law l0 a0 n1 l2 o0 (Nat.le_trans b0 (by decide)) (Nat.le_trans b2 (by decide)) o2) rfl (fun i v f hi hf => by
    match i with
    | 0 => simp at hi hf; subst hi; subst hf; exact F0
    | 1 => simp at hi hf; subst hi; subst hf; exact F1
    | 2 => simp at hi hf; subst hi; subst hf; exact F2
    | i + 3 => simp at hi)).mono fun e W' ⟨he, hS⟩ => ?_
  subst he
  exact ⟨_, rfl, law_end (P := Tryz.prog) laidOut Tryz.underlying4 rfl hW' (by simpa using hA1) rfl rfl (by rw [Tryz.params4]; intro t ht; simp at ht; rcases ht with rfl | rfl | rfl <;> exact ⟨by kernel_rfl, by decide +kernel⟩) hS⟩
theorem over : Rows.intraUsesUptoRow.holds Tryz.pinned (Rows.OpenSpec.upto Rows.intraUsesSpec) :=
  OpenClaim.holds_of_cond 4 Tryz.f4 rfl rfl rfl rfl rfl rfl rfl ⟨rfl, rfl, rfl, rfl, rfl⟩ rfl rfl rfl rfl rfl (by kernel_rfl) Tryz.func4 (by kernel_rfl)
    (of_decide_eq_true (by kernel_rfl)) (by unfold Func.isWrapper; first | (rw [if_pos (by decide +kernel)]; kernel_rfl) | (rw [if_neg (by decide +kernel)]; exact ⟨rfl, rfl⟩))
    (fun os started H enc _ F => lifted os started H enc F)
theorem proved : Rows.IntraUsesUptoSaid := over
end Go.Proofs.YtoeckbdgemnngaaGreat.IntraUses
