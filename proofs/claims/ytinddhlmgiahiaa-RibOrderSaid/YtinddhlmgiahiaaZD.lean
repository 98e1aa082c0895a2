/- A part of the proof: R4, R5, RP3, RP4, RP5, RP6, RP7, R6, R7, R8, R9, RT43, R10, RP8, R11, GP5. -/
import Derived.Test.YtinddhlmgiahiaaZC
import Derived.DeepKeys4
set_option linter.all false
namespace Go.Proofs.Ytinddhlmgiahiaa
open Go Go.RT Go.Proofs Go.Pl
set_option linter.all false
set_option maxRecDepth 20000
theorem pcmp_c (p q : Pfx) : Pure Try.prog 55 [.agg (encP p), .agg (encP q)] (If .i64 (cmpP p q)) := by
  unfold cmpP
  refine Meets.intro Try.func55 rfl (Nat.le_of_ble_eq_true rfl) fun C hC => ?_
  simp only [List.map, argEnv, Nat.reduceAdd]
  refine nK ?_
  refine s_reg rfl ?_
  refine Run.eff (dd := some 2) rfl rfl (op_box_flat rfl (Opd.tmp _ _ rfl) tC rfl) ?_
  refine Run.eff (dd := some 3) rfl rfl (op_box_flat rfl (Opd.tmp _ _ rfl) tC rfl) ?_
  refine Run.pure (dd := some 4) rfl rfl (op_assign rfl (Opd.const _)) ?_
  refine Run.nil (FinR.mk ?_)
  refine nK ?_
  refine s_reg rfl ?_
  refine Run.pure (dd := some 6) rfl rfl (op_fld_ptr (by decide) rfl (Opd.tmp _ _ rfl)) ?_
  refine Run.load (dd := some 7) rfl rfl (op_load1_flat rfl (Opd.tmp _ _ rfl) tH rfl) ?_
  refine Run.pure (dd := some 8) rfl rfl (op_fld_ptr (by decide) rfl (Opd.tmp _ _ rfl)) ?_
  refine Run.load (dd := some 9) rfl rfl (op_load1_flat rfl (Opd.tmp _ _ rfl) tH rfl) ?_
  refine Run.pure (dd := some 10) rfl rfl (op_lss rfl (Opd.tmp _ _ rfl) (Opd.tmp _ _ rfl)) ?_
  refine Run.pure (dd := some 11) rfl rfl (op_move rfl (Opd.tmp _ _ rfl)) ?_
  refine Run.pureG (dd := some 12) rfl rfl rfl tG (op_fld_ptr (by decide) rfl (Opd.tmp _ _ rfl)) ?_
  refine Run.loadG (dd := some 13) rfl rfl rfl tG (op_load1_flat rfl (Opd.topt _ _ _ rfl tO) tH rfl) ?_
  refine Run.pureG (dd := some 14) rfl rfl rfl tG (op_fld_ptr (by decide) rfl (Opd.tmp _ _ rfl)) ?_
  refine Run.loadG (dd := some 15) rfl rfl rfl tG (op_load1_flat rfl (Opd.topt _ _ _ rfl tO) tH rfl) ?_
  refine Run.pureG (dd := some 16) rfl rfl rfl tG (op_eql rfl (Opd.topt _ _ _ rfl tO) (Opd.topt _ _ _ rfl tO)) ?_
  refine Run.pureG (dd := some 17) rfl rfl rfl tG (op_move rfl (Opd.topt _ _ _ rfl tO)) ?_
  refine Run.pureG (dd := some 18) rfl rfl rfl tG (op_fld_ptr (by decide) rfl (Opd.tmp _ _ rfl)) ?_
  refine Run.loadG (dd := some 19) rfl rfl rfl tG (op_load1_flat rfl (Opd.topt _ _ _ rfl tO) tH rfl) ?_
  refine Run.pureG (dd := some 20) rfl rfl rfl tG (op_fld_ptr (by decide) rfl (Opd.tmp _ _ rfl)) ?_
  refine Run.loadG (dd := some 21) rfl rfl rfl tG (op_load1_flat rfl (Opd.topt _ _ _ rfl tO) tH rfl) ?_
  refine Run.pureG (dd := some 22) rfl rfl rfl tG (op_lss rfl (Opd.topt _ _ _ rfl tO) (Opd.topt _ _ _ rfl tO)) ?_
  refine Run.pureG (dd := some 23) rfl rfl rfl tG (op_pick_and rfl (Opd.topt _ _ _ rfl tO) (Opd.topt _ _ _ rfl tO)) ?_
  refine Run.pure (dd := some 24) rfl rfl (op_pick_or rfl (Opd.tmp _ _ rfl) (Opd.topt _ _ _ rfl tO)) ?_
  refine Run.pure (dd := some 5) rfl rfl (op_assign rfl (Opd.tmp _ _ rfl)) ?_
  refine Run.nil (FinR.mk ?_)
  refine nK ?_
  refine n_cond _ rfl (fun hb => ?_) (fun hb => ?_)
  · rw [if_pos (by simp at hb ⊢; omega)]
    refine nK ?_
    refine s_reg rfl ?_
    refine Run.pure (dd := some 4) rfl rfl (op_assign rfl (Opd.const _)) ?_
    refine Run.nil (FinR.mk ?_)
    refine nK ?_
    (first | exact s_o1 hC rfl tV | exact s_o2 hC rfl tV tV | exact s_o3 hC rfl tV tV tV | exact s_o4 hC rfl tV tV tV tV | exact s_out0 hC rfl | exact s_outO hC rfl rfl rfl)
  · rw [if_neg (by simp at hb ⊢; omega)]
    refine nK ?_
    refine s_reg rfl ?_
    refine Run.load (dd := some 26) rfl rfl (op_loadw_flat rfl (Opd.tmp _ _ rfl) tH rfl) ?_
    refine Run.load (dd := some 27) rfl rfl (op_loadw_flat rfl (Opd.tmp _ _ rfl) tH rfl) ?_
    refine Run.pure (dd := some 28) rfl rfl (op_eqS rfl (Opd.tmp _ _ rfl) (Opd.tmp _ _ rfl) (by kernel_rfl)) ?_
    refine Run.pure (dd := some 25) rfl rfl (op_assign rfl (Opd.tmp _ _ rfl)) ?_
    refine Run.nil (FinR.mk ?_)
    refine nK ?_
    refine n_cond _ rfl (fun hb => ?_) (fun hb => ?_)
    · have e : p = q := by
        have h : eqFs (encP p) (encP q) = true := hb
        rw [eqFs_encP] at h; simpa using h
      rw [if_pos e]
      refine nK ?_
      refine s_reg rfl ?_
      refine Run.pure (dd := some 4) rfl rfl (op_assign rfl (Opd.const _)) ?_
      refine Run.nil (FinR.mk ?_)
      refine nK ?_
      (first | exact s_o1 hC rfl tV | exact s_o2 hC rfl tV tV | exact s_o3 hC rfl tV tV tV | exact s_o4 hC rfl tV tV tV tV | exact s_out0 hC rfl | exact s_outO hC rfl rfl rfl)
    · have e : ¬ p = q := by
        have h : eqFs (encP p) (encP q) = false := hb
        rw [eqFs_encP] at h; simpa using h
      rw [if_neg e]
      refine nK ?_
      refine s_reg rfl ?_
      refine Run.pure (dd := some 4) rfl rfl (op_assign rfl (Opd.const _)) ?_
      refine Run.nil (FinR.mk ?_)
      refine nK ?_
      (first | exact s_o1 hC rfl tV | exact s_o2 hC rfl tV tV | exact s_o3 hC rfl tV tV tV | exact s_o4 hC rfl tV tV tV tV | exact s_out0 hC rfl | exact s_outO hC rfl rfl rfl)
theorem rcmp_c (p q : Pfx) : Pure Try.prog 25 [.agg (encP p), .agg (encP q)] (If .i64 (cmpP p q)) := by
  refine Meets.intro Try.func25 rfl (Nat.le_of_ble_eq_true rfl) fun C hC => ?_
  simp only [List.map, argEnv, Nat.reduceAdd]
  refine nK ?_
  refine s_reg rfl ?_
  refine Run.eff (dd := some 2) rfl rfl (op_box_flat rfl (Opd.tmp _ _ rfl) tC rfl) ?_
  refine Run.eff (dd := some 3) rfl rfl (op_box_flat rfl (Opd.tmp _ _ rfl) tC rfl) ?_
  refine Run.pure (dd := some 4) rfl rfl (op_assign rfl (Opd.const _)) ?_
  refine Run.nil (FinR.mk ?_)
  refine nK ?_
  refine s_reg rfl ?_
  refine Run.pure (dd := some 5) rfl rfl (op_fld_ptr (by decide) rfl (Opd.tmp _ _ rfl)) ?_
  refine Run.load (dd := some 6) rfl rfl (op_load1_flat rfl (Opd.tmp _ _ rfl) tH rfl) ?_
  refine Run.pure (dd := some 7) rfl rfl (op_fld_ptr (by decide) rfl (Opd.tmp _ _ rfl)) ?_
  refine Run.load (dd := some 8) rfl rfl (op_load1_flat rfl (Opd.tmp _ _ rfl) tH rfl) ?_
  refine Run.pure (dd := some 9) rfl rfl (op_neq rfl (Opd.tmp _ _ rfl) (Opd.tmp _ _ rfl)) ?_
  refine Run.nil (FinR.mk ?_)
  refine nK ?_
  refine n_cond _ rfl (fun hb => ?_) (fun hb => ?_)
  · have h1 : p.addr ≠ q.addr := by simp at hb; omega
    refine nK ?_
    refine s_reg rfl ?_
    refine Run.pure (dd := some 10) rfl rfl (op_fld_ptr (by decide) rfl (Opd.tmp _ _ rfl)) ?_
    refine Run.load (dd := some 11) rfl rfl (op_load1_flat rfl (Opd.tmp _ _ rfl) tH rfl) ?_
    refine Run.pure (dd := some 12) rfl rfl (op_fld_ptr (by decide) rfl (Opd.tmp _ _ rfl)) ?_
    refine Run.load (dd := some 13) rfl rfl (op_load1_flat rfl (Opd.tmp _ _ rfl) tH rfl) ?_
    refine Run.pure (dd := some 14) rfl rfl (op_lss rfl (Opd.tmp _ _ rfl) (Opd.tmp _ _ rfl)) ?_
    refine Run.nil (FinR.mk ?_)
    refine nK ?_
    refine n_cond _ rfl (fun hb => ?_) (fun hb => ?_)
    · have e : cmpP p q = -1 := by unfold cmpP; rw [if_pos]; simp at hb ⊢; omega
      rw [e]
      refine nK ?_
      refine s_reg rfl ?_
      refine Run.pure (dd := some 4) rfl rfl (op_assign rfl (Opd.const _)) ?_
      refine Run.nil (FinR.mk ?_)
      refine nK ?_
      (first | exact s_o1 hC rfl tV | exact s_o2 hC rfl tV tV | exact s_o3 hC rfl tV tV tV | exact s_o4 hC rfl tV tV tV tV | exact s_out0 hC rfl | exact s_outO hC rfl rfl rfl)
    · have e : cmpP p q = 1 := by
        unfold cmpP
        rw [if_neg (by simp at hb ⊢; omega), if_neg (fun h => h1 (by rw [h]))]
      rw [e]
      refine nK ?_
      refine s_reg rfl ?_
      refine Run.pure (dd := some 4) rfl rfl (op_assign rfl (Opd.const _)) ?_
      refine Run.nil (FinR.mk ?_)
      refine nK ?_
      (first | exact s_o1 hC rfl tV | exact s_o2 hC rfl tV tV | exact s_o3 hC rfl tV tV tV | exact s_o4 hC rfl tV tV tV tV | exact s_out0 hC rfl | exact s_outO hC rfl rfl rfl)
  · have h1 : p.addr = q.addr := by simp at hb; omega
    refine nK ?_
    refine s_reg rfl ?_
    refine Run.pure (dd := some 15) rfl rfl (op_fld_ptr (by decide) rfl (Opd.tmp _ _ rfl)) ?_
    refine Run.load (dd := some 16) rfl rfl (op_load1_flat rfl (Opd.tmp _ _ rfl) tH rfl) ?_
    refine Run.pure (dd := some 17) rfl rfl (op_fld_ptr (by decide) rfl (Opd.tmp _ _ rfl)) ?_
    refine Run.load (dd := some 18) rfl rfl (op_load1_flat rfl (Opd.tmp _ _ rfl) tH rfl) ?_
    refine Run.pure (dd := some 19) rfl rfl (op_lss rfl (Opd.tmp _ _ rfl) (Opd.tmp _ _ rfl)) ?_
    refine Run.nil (FinR.mk ?_)
    refine nK ?_
    refine n_cond _ rfl (fun hb => ?_) (fun hb => ?_)
    · have e : cmpP p q = -1 := by unfold cmpP; rw [if_pos]; simp at hb ⊢; omega
      rw [e]
      refine nK ?_
      refine s_reg rfl ?_
      refine Run.pure (dd := some 4) rfl rfl (op_assign rfl (Opd.const _)) ?_
      refine Run.nil (FinR.mk ?_)
      refine nK ?_
      (first | exact s_o1 hC rfl tV | exact s_o2 hC rfl tV tV | exact s_o3 hC rfl tV tV tV | exact s_o4 hC rfl tV tV tV tV | exact s_out0 hC rfl | exact s_outO hC rfl rfl rfl)
    · refine nK ?_
      refine s_reg rfl ?_
      refine Run.pure (dd := some 20) rfl rfl (op_fld_ptr (by decide) rfl (Opd.tmp _ _ rfl)) ?_
      refine Run.load (dd := some 21) rfl rfl (op_load1_flat rfl (Opd.tmp _ _ rfl) tH rfl) ?_
      refine Run.pure (dd := some 22) rfl rfl (op_fld_ptr (by decide) rfl (Opd.tmp _ _ rfl)) ?_
      refine Run.load (dd := some 23) rfl rfl (op_load1_flat rfl (Opd.tmp _ _ rfl) tH rfl) ?_
      refine Run.pure (dd := some 24) rfl rfl (op_gtr rfl (Opd.tmp _ _ rfl) (Opd.tmp _ _ rfl)) ?_
      refine Run.nil (FinR.mk ?_)
      refine nK ?_
      refine n_cond _ rfl (fun hb => ?_) (fun hb => ?_)
      · rename_i hb2
        have e : cmpP p q = 1 := by
          unfold cmpP
          rw [if_neg (by simp at hb hb2 ⊢; omega), if_neg (fun h => by simp at hb hb2; rw [h] at hb; omega)]
        rw [e]
        refine nK ?_
        refine s_reg rfl ?_
        refine Run.pure (dd := some 4) rfl rfl (op_assign rfl (Opd.const _)) ?_
        refine Run.nil (FinR.mk ?_)
        refine nK ?_
        (first | exact s_o1 hC rfl tV | exact s_o2 hC rfl tV tV | exact s_o3 hC rfl tV tV tV | exact s_o4 hC rfl tV tV tV tV | exact s_out0 hC rfl | exact s_outO hC rfl rfl rfl)
      · rename_i hb2
        have e : cmpP p q = 0 := (cmpP_zero p q).2 (Pfx.ext' h1 (by simp at hb hb2; omega))
        rw [e]
        refine nK ?_
        refine s_reg rfl ?_
        refine Run.pure (dd := some 4) rfl rfl (op_assign rfl (Opd.const _)) ?_
        refine Run.nil (FinR.mk ?_)
        refine nK ?_
        (first | exact s_o1 hC rfl tV | exact s_o2 hC rfl tV tV | exact s_o3 hC rfl tV tV tV | exact s_o4 hC rfl tV tV tV tV | exact s_out0 hC rfl | exact s_outO hC rfl rfl rfl)
section
variable {rc : Loop} {tps : List PV}
theorem rd_zero (h1 : rc.state = .ready) (h2 : rc.pending = none) (h : RdF rc tps) : MeetsD (DY Try.prog) [.yl 0 rc.tmps tps, .fz (If .i64 0)] 2 [(0, ORec rc), (1, OCell 0)] (.fz (Bf true)) [(0, ORec rc), (1, OCell 0)] 2 := by
  have := h 0
  rw [show jmp 0 = none from rfl, endR_none h1 h2] at this
  exact this
theorem rd_stop (h : RdF rc tps) {v : Int} (hv : v ≠ 0) : MeetsD (DY Try.prog) [.yl 0 rc.tmps tps, .fz (If .i64 v)] 2 [(0, ORec rc), (1, OCell 0)] (.fz (Bf false)) [(0, ORec (endR rc (jmp v))), (1, OCell v)] 2 := by
  have := h v
  rw [show decide (v = 0) = false by simpa using hv] at this
  exact this
end
theorem hopsI_c (a b : Hop) : ∀ (rc : Loop) (tps : List PV), rc.state = .ready → rc.pending = none → ltPs 2 tps = true → renPs [0, 1] tps = tps → RdF rc tps → Meets Try.prog 68 (.yl 0 rc.tmps tps :: [FV.cellp (encHo a), FV.cellp (encHo b)].map PV.fz) 2 [(0, ORec rc), (1, OCell 0)] (.fz (.tup [])) [(0, ORec (endR rc (jmp (cmpHo a b)))), (1, OCell (cmpHo a b))] 2 := by
  intro rc tps h1 h2 htl htr hR
  have hz := rd_zero h1 h2 hR
  have k1 := cmpA_c a.ad b.ad
  have k2 := cmp_c a.ifc b.ifc
  have k3 := cmpU_c a.ro b.ro
  unfold cmpHo
  generalize cmpI a.ad b.ad = x at *
  generalize cmpI a.ifc b.ifc = y at *
  generalize cmpI a.ro b.ro = z at *
  by_cases hx : x = 0
  · subst hx
    by_cases hy : y = 0
    · subst hy
      by_cases hzz : z = 0
      · subst hzz
        have e : fst3 0 0 0 = 0 := rfl
        rw [e, show jmp 0 = none from rfl, endR_none h1 h2]
        refine Meets.intro Try.func68 rfl (Nat.le_of_ble_eq_true rfl) fun C hC => ?_
        simp only [List.map, argEnv, Nat.reduceAdd]
        refine nK ?_
        refine s_reg rfl ?_
        refine Run.pure (dd := some 4) rfl rfl (op_move rfl (Opd.tmp _ _ rfl)) ?_
        refine Run.pure (dd := some 5) rfl rfl (op_fld_fz (by decide) rfl (Opd.tmp _ _ rfl) tR) ?_
        refine Run.pure (dd := some 6) rfl rfl (op_load1_fz rfl (Opd.tmp _ _ rfl) rfl) ?_
        refine Run.pure (dd := some 7) rfl rfl (op_fld_fz (by decide) rfl (Opd.tmp _ _ rfl) tR) ?_
        refine Run.pure (dd := some 8) rfl rfl (op_load1_fz rfl (Opd.tmp _ _ rfl) rfl) ?_
        refine Run.pure (dd := some 9) rfl rfl (op_call_pure (fun _ => k1) rfl (Opd.func _) (Opds.cons _ _ _ _ (Opd.tmp _ _ rfl) (Opds.cons _ _ _ _ (Opd.tmp _ _ rfl) Opds.nil))) ?_
        refine Run.eff (dd := some 10) rfl rfl (op_yield [0, 1] (fun _ => hz) rfl (Opd.tmp _ _ rfl) (Opds.cons _ _ _ _ (Opd.tmp _ _ rfl) Opds.nil) (by simp only [List.map, renP, htr]; rfl) (by simp only [List.all_cons, List.all_nil, ltP, htl]; rfl) (Lent.of rfl rfl (by repeat (first | exact trivial | refine ⟨⟨rfl, rfl, rfl, tL⟩, ?_⟩)) rfl) rfl rfl rfl rfl rfl) ?_
        refine Run.pure (dd := some 11) rfl rfl (op_move rfl (Opd.tmp _ _ rfl)) ?_
        refine Run.pureG (dd := some 12) rfl rfl rfl tG (op_move rfl (Opd.tmp _ _ rfl)) ?_
        refine Run.pureG (dd := some 13) rfl rfl rfl tG (op_fld_fz (by decide) rfl (Opd.tmp _ _ rfl) tR) ?_
        refine Run.pureG (dd := some 14) rfl rfl rfl tG (op_load1_fz rfl (Opd.topt _ _ _ rfl tO) rfl) ?_
        refine Run.pureG (dd := some 15) rfl rfl rfl tG (op_fld_fz (by decide) rfl (Opd.tmp _ _ rfl) tR) ?_
        refine Run.pureG (dd := some 16) rfl rfl rfl tG (op_load1_fz rfl (Opd.topt _ _ _ rfl tO) rfl) ?_
        refine Run.pureG (dd := some 17) rfl rfl rfl tG (op_call_pure (fun _ => k2) rfl (Opd.func _) (Opds.cons _ _ _ _ (Opd.topt _ _ _ rfl tO) (Opds.cons _ _ _ _ (Opd.topt _ _ _ rfl tO) Opds.nil))) ?_
        refine Run.effG (dd := some 18) rfl rfl rfl tG tGt (op_yield [0, 1] (fun _ => hz) rfl (Opd.topt _ _ _ rfl tO) (Opds.cons _ _ _ _ (Opd.topt _ _ _ rfl tO) Opds.nil) (by simp only [List.map, renP, htr]; rfl) (by simp only [List.all_cons, List.all_nil, ltP, htl]; rfl) (Lent.of rfl rfl (by repeat (first | exact trivial | refine ⟨⟨rfl, rfl, rfl, tL⟩, ?_⟩)) rfl) rfl rfl rfl rfl rfl) ?_
        refine Run.pure (dd := some 19) rfl rfl (op_pick_and rfl (Opd.tmp _ _ rfl) (Opd.topt _ _ _ rfl tO)) ?_
        refine Run.pure (dd := some 20) rfl rfl (op_move rfl (Opd.tmp _ _ rfl)) ?_
        refine Run.pureG (dd := some 21) rfl rfl rfl tG (op_move rfl (Opd.tmp _ _ rfl)) ?_
        refine Run.pureG (dd := some 22) rfl rfl rfl tG (op_fld_fz (by decide) rfl (Opd.tmp _ _ rfl) tR) ?_
        refine Run.pureG (dd := some 23) rfl rfl rfl tG (op_load1_fz rfl (Opd.topt _ _ _ rfl tO) rfl) ?_
        refine Run.pureG (dd := some 24) rfl rfl rfl tG (op_fld_fz (by decide) rfl (Opd.tmp _ _ rfl) tR) ?_
        refine Run.pureG (dd := some 25) rfl rfl rfl tG (op_load1_fz rfl (Opd.topt _ _ _ rfl tO) rfl) ?_
        refine Run.pureG (dd := some 26) rfl rfl rfl tG (op_call_pure (fun _ => k3) rfl (Opd.func _) (Opds.cons _ _ _ _ (Opd.topt _ _ _ rfl tO) (Opds.cons _ _ _ _ (Opd.topt _ _ _ rfl tO) Opds.nil))) ?_
        refine Run.effG (dd := some 27) rfl rfl rfl tG tGt (op_yield [0, 1] (fun _ => hz) rfl (Opd.topt _ _ _ rfl tO) (Opds.cons _ _ _ _ (Opd.topt _ _ _ rfl tO) Opds.nil) (by simp only [List.map, renP, htr]; rfl) (by simp only [List.all_cons, List.all_nil, ltP, htl]; rfl) (Lent.of rfl rfl (by repeat (first | exact trivial | refine ⟨⟨rfl, rfl, rfl, tL⟩, ?_⟩)) rfl) rfl rfl rfl rfl rfl) ?_
        refine Run.pure (dd := some 28) rfl rfl (op_pick_and rfl (Opd.tmp _ _ rfl) (Opd.topt _ _ _ rfl tO)) ?_
        refine Run.nil (FinR.mk ?_)
        refine Next.weak [0, 1] [] (by rfl) (keepsN hC _ rfl) (G' := []) (H' := [(0, ORec rc), (1, OCell 0)]) trivial (by exact ⟨ent_same rfl rfl rfl tL, ⟨ent_same rfl rfl rfl tL, trivial⟩⟩) (fun _ h => by simp at h) (n_out0 rfl)
      · have hn := rd_stop hR hzz
        have e : fst3 0 0 z = z := rfl
        rw [e]
        refine Meets.intro Try.func68 rfl (Nat.le_of_ble_eq_true rfl) fun C hC => ?_
        simp only [List.map, argEnv, Nat.reduceAdd]
        refine nK ?_
        refine s_reg rfl ?_
        refine Run.pure (dd := some 4) rfl rfl (op_move rfl (Opd.tmp _ _ rfl)) ?_
        refine Run.pure (dd := some 5) rfl rfl (op_fld_fz (by decide) rfl (Opd.tmp _ _ rfl) tR) ?_
        refine Run.pure (dd := some 6) rfl rfl (op_load1_fz rfl (Opd.tmp _ _ rfl) rfl) ?_
        refine Run.pure (dd := some 7) rfl rfl (op_fld_fz (by decide) rfl (Opd.tmp _ _ rfl) tR) ?_
        refine Run.pure (dd := some 8) rfl rfl (op_load1_fz rfl (Opd.tmp _ _ rfl) rfl) ?_
        refine Run.pure (dd := some 9) rfl rfl (op_call_pure (fun _ => k1) rfl (Opd.func _) (Opds.cons _ _ _ _ (Opd.tmp _ _ rfl) (Opds.cons _ _ _ _ (Opd.tmp _ _ rfl) Opds.nil))) ?_
        refine Run.eff (dd := some 10) rfl rfl (op_yield [0, 1] (fun _ => hz) rfl (Opd.tmp _ _ rfl) (Opds.cons _ _ _ _ (Opd.tmp _ _ rfl) Opds.nil) (by simp only [List.map, renP, htr]; rfl) (by simp only [List.all_cons, List.all_nil, ltP, htl]; rfl) (Lent.of rfl rfl (by repeat (first | exact trivial | refine ⟨⟨rfl, rfl, rfl, tL⟩, ?_⟩)) rfl) rfl rfl rfl rfl rfl) ?_
        refine Run.pure (dd := some 11) rfl rfl (op_move rfl (Opd.tmp _ _ rfl)) ?_
        refine Run.pureG (dd := some 12) rfl rfl rfl tG (op_move rfl (Opd.tmp _ _ rfl)) ?_
        refine Run.pureG (dd := some 13) rfl rfl rfl tG (op_fld_fz (by decide) rfl (Opd.tmp _ _ rfl) tR) ?_
        refine Run.pureG (dd := some 14) rfl rfl rfl tG (op_load1_fz rfl (Opd.topt _ _ _ rfl tO) rfl) ?_
        refine Run.pureG (dd := some 15) rfl rfl rfl tG (op_fld_fz (by decide) rfl (Opd.tmp _ _ rfl) tR) ?_
        refine Run.pureG (dd := some 16) rfl rfl rfl tG (op_load1_fz rfl (Opd.topt _ _ _ rfl tO) rfl) ?_
        refine Run.pureG (dd := some 17) rfl rfl rfl tG (op_call_pure (fun _ => k2) rfl (Opd.func _) (Opds.cons _ _ _ _ (Opd.topt _ _ _ rfl tO) (Opds.cons _ _ _ _ (Opd.topt _ _ _ rfl tO) Opds.nil))) ?_
        refine Run.effG (dd := some 18) rfl rfl rfl tG tGt (op_yield [0, 1] (fun _ => hz) rfl (Opd.topt _ _ _ rfl tO) (Opds.cons _ _ _ _ (Opd.topt _ _ _ rfl tO) Opds.nil) (by simp only [List.map, renP, htr]; rfl) (by simp only [List.all_cons, List.all_nil, ltP, htl]; rfl) (Lent.of rfl rfl (by repeat (first | exact trivial | refine ⟨⟨rfl, rfl, rfl, tL⟩, ?_⟩)) rfl) rfl rfl rfl rfl rfl) ?_
        refine Run.pure (dd := some 19) rfl rfl (op_pick_and rfl (Opd.tmp _ _ rfl) (Opd.topt _ _ _ rfl tO)) ?_
        refine Run.pure (dd := some 20) rfl rfl (op_move rfl (Opd.tmp _ _ rfl)) ?_
        refine Run.pureG (dd := some 21) rfl rfl rfl tG (op_move rfl (Opd.tmp _ _ rfl)) ?_
        refine Run.pureG (dd := some 22) rfl rfl rfl tG (op_fld_fz (by decide) rfl (Opd.tmp _ _ rfl) tR) ?_
        refine Run.pureG (dd := some 23) rfl rfl rfl tG (op_load1_fz rfl (Opd.topt _ _ _ rfl tO) rfl) ?_
        refine Run.pureG (dd := some 24) rfl rfl rfl tG (op_fld_fz (by decide) rfl (Opd.tmp _ _ rfl) tR) ?_
        refine Run.pureG (dd := some 25) rfl rfl rfl tG (op_load1_fz rfl (Opd.topt _ _ _ rfl tO) rfl) ?_
        refine Run.pureG (dd := some 26) rfl rfl rfl tG (op_call_pure (fun _ => k3) rfl (Opd.func _) (Opds.cons _ _ _ _ (Opd.topt _ _ _ rfl tO) (Opds.cons _ _ _ _ (Opd.topt _ _ _ rfl tO) Opds.nil))) ?_
        refine Run.effG (dd := some 27) rfl rfl rfl tG tGt (op_yield [0, 1] (fun _ => hn) rfl (Opd.topt _ _ _ rfl tO) (Opds.cons _ _ _ _ (Opd.topt _ _ _ rfl tO) Opds.nil) (by simp only [List.map, renP, htr]; rfl) (by simp only [List.all_cons, List.all_nil, ltP, htl]; rfl) (Lent.of rfl rfl (by repeat (first | exact trivial | refine ⟨⟨rfl, rfl, rfl, tL⟩, ?_⟩)) rfl) rfl rfl rfl rfl rfl) ?_
        refine Run.pure (dd := some 28) rfl rfl (op_pick_and rfl (Opd.tmp _ _ rfl) (Opd.topt _ _ _ rfl tO)) ?_
        refine Run.nil (FinR.mk ?_)
        refine Next.weak [0, 1] [] (by rfl) (keepsN hC _ rfl) (G' := []) (H' := [(0, ORec (endR rc (jmp z))), (1, OCell z)]) trivial (by exact ⟨ent_same rfl rfl rfl tL, ⟨ent_same rfl rfl rfl tL, trivial⟩⟩) (fun _ h => by simp at h) (n_out0 rfl)
    · have hn := rd_stop hR hy
      have e : fst3 0 y z = y := by simp [fst3, hy]
      rw [e]
      refine Meets.intro Try.func68 rfl (Nat.le_of_ble_eq_true rfl) fun C hC => ?_
      simp only [List.map, argEnv, Nat.reduceAdd]
      refine nK ?_
      refine s_reg rfl ?_
      refine Run.pure (dd := some 4) rfl rfl (op_move rfl (Opd.tmp _ _ rfl)) ?_
      refine Run.pure (dd := some 5) rfl rfl (op_fld_fz (by decide) rfl (Opd.tmp _ _ rfl) tR) ?_
      refine Run.pure (dd := some 6) rfl rfl (op_load1_fz rfl (Opd.tmp _ _ rfl) rfl) ?_
      refine Run.pure (dd := some 7) rfl rfl (op_fld_fz (by decide) rfl (Opd.tmp _ _ rfl) tR) ?_
      refine Run.pure (dd := some 8) rfl rfl (op_load1_fz rfl (Opd.tmp _ _ rfl) rfl) ?_
      refine Run.pure (dd := some 9) rfl rfl (op_call_pure (fun _ => k1) rfl (Opd.func _) (Opds.cons _ _ _ _ (Opd.tmp _ _ rfl) (Opds.cons _ _ _ _ (Opd.tmp _ _ rfl) Opds.nil))) ?_
      refine Run.eff (dd := some 10) rfl rfl (op_yield [0, 1] (fun _ => hz) rfl (Opd.tmp _ _ rfl) (Opds.cons _ _ _ _ (Opd.tmp _ _ rfl) Opds.nil) (by simp only [List.map, renP, htr]; rfl) (by simp only [List.all_cons, List.all_nil, ltP, htl]; rfl) (Lent.of rfl rfl (by repeat (first | exact trivial | refine ⟨⟨rfl, rfl, rfl, tL⟩, ?_⟩)) rfl) rfl rfl rfl rfl rfl) ?_
      refine Run.pure (dd := some 11) rfl rfl (op_move rfl (Opd.tmp _ _ rfl)) ?_
      refine Run.pureG (dd := some 12) rfl rfl rfl tG (op_move rfl (Opd.tmp _ _ rfl)) ?_
      refine Run.pureG (dd := some 13) rfl rfl rfl tG (op_fld_fz (by decide) rfl (Opd.tmp _ _ rfl) tR) ?_
      refine Run.pureG (dd := some 14) rfl rfl rfl tG (op_load1_fz rfl (Opd.topt _ _ _ rfl tO) rfl) ?_
      refine Run.pureG (dd := some 15) rfl rfl rfl tG (op_fld_fz (by decide) rfl (Opd.tmp _ _ rfl) tR) ?_
      refine Run.pureG (dd := some 16) rfl rfl rfl tG (op_load1_fz rfl (Opd.topt _ _ _ rfl tO) rfl) ?_
      refine Run.pureG (dd := some 17) rfl rfl rfl tG (op_call_pure (fun _ => k2) rfl (Opd.func _) (Opds.cons _ _ _ _ (Opd.topt _ _ _ rfl tO) (Opds.cons _ _ _ _ (Opd.topt _ _ _ rfl tO) Opds.nil))) ?_
      refine Run.effG (dd := some 18) rfl rfl rfl tG tGt (op_yield [0, 1] (fun _ => hn) rfl (Opd.topt _ _ _ rfl tO) (Opds.cons _ _ _ _ (Opd.topt _ _ _ rfl tO) Opds.nil) (by simp only [List.map, renP, htr]; rfl) (by simp only [List.all_cons, List.all_nil, ltP, htl]; rfl) (Lent.of rfl rfl (by repeat (first | exact trivial | refine ⟨⟨rfl, rfl, rfl, tL⟩, ?_⟩)) rfl) rfl rfl rfl rfl rfl) ?_
      refine Run.pure (dd := some 19) rfl rfl (op_pick_and rfl (Opd.tmp _ _ rfl) (Opd.topt _ _ _ rfl tO)) ?_
      refine Run.pure (dd := some 20) rfl rfl (op_move rfl (Opd.tmp _ _ rfl)) ?_
      refine Run.pureG (dd := some 21) rfl rfl rfl tG (op_move rfl (Opd.tmp _ _ rfl)) ?_
      refine Run.pureG (dd := some 22) rfl rfl rfl tG (op_fld_fz (by decide) rfl (Opd.tmp _ _ rfl) tR) ?_
      refine Run.pureG (dd := some 23) rfl rfl rfl tG (op_load1_fz rfl (Opd.topt _ _ _ rfl tO) rfl) ?_
      refine Run.pureG (dd := some 24) rfl rfl rfl tG (op_fld_fz (by decide) rfl (Opd.tmp _ _ rfl) tR) ?_
      refine Run.pureG (dd := some 25) rfl rfl rfl tG (op_load1_fz rfl (Opd.topt _ _ _ rfl tO) rfl) ?_
      refine Run.pureG (dd := some 26) rfl rfl rfl tG (op_call_pure (fun _ => k3) rfl (Opd.func _) (Opds.cons _ _ _ _ (Opd.topt _ _ _ rfl tO) (Opds.cons _ _ _ _ (Opd.topt _ _ _ rfl tO) Opds.nil))) ?_
      refine Run.pureG (dd := some 27) rfl rfl rfl tG (op_never (p := .fz (Bf false)) (by rfl)) ?_
      refine Run.pure (dd := some 28) rfl rfl (op_pick_and rfl (Opd.tmp _ _ rfl) (Opd.topt _ _ _ rfl tO)) ?_
      refine Run.nil (FinR.mk ?_)
      refine Next.weak [0, 1] [] (by rfl) (keepsN hC _ rfl) (G' := []) (H' := [(0, ORec (endR rc (jmp y))), (1, OCell y)]) trivial (by exact ⟨ent_same rfl rfl rfl tL, ⟨ent_same rfl rfl rfl tL, trivial⟩⟩) (fun _ h => by simp at h) (n_out0 rfl)
  · have hn := rd_stop hR hx
    have e : fst3 x y z = x := by simp [fst3, hx]
    rw [e]
    refine Meets.intro Try.func68 rfl (Nat.le_of_ble_eq_true rfl) fun C hC => ?_
    simp only [List.map, argEnv, Nat.reduceAdd]
    refine nK ?_
    refine s_reg rfl ?_
    refine Run.pure (dd := some 4) rfl rfl (op_move rfl (Opd.tmp _ _ rfl)) ?_
    refine Run.pure (dd := some 5) rfl rfl (op_fld_fz (by decide) rfl (Opd.tmp _ _ rfl) tR) ?_
    refine Run.pure (dd := some 6) rfl rfl (op_load1_fz rfl (Opd.tmp _ _ rfl) rfl) ?_
    refine Run.pure (dd := some 7) rfl rfl (op_fld_fz (by decide) rfl (Opd.tmp _ _ rfl) tR) ?_
    refine Run.pure (dd := some 8) rfl rfl (op_load1_fz rfl (Opd.tmp _ _ rfl) rfl) ?_
    refine Run.pure (dd := some 9) rfl rfl (op_call_pure (fun _ => k1) rfl (Opd.func _) (Opds.cons _ _ _ _ (Opd.tmp _ _ rfl) (Opds.cons _ _ _ _ (Opd.tmp _ _ rfl) Opds.nil))) ?_
    refine Run.eff (dd := some 10) rfl rfl (op_yield [0, 1] (fun _ => hn) rfl (Opd.tmp _ _ rfl) (Opds.cons _ _ _ _ (Opd.tmp _ _ rfl) Opds.nil) (by simp only [List.map, renP, htr]; rfl) (by simp only [List.all_cons, List.all_nil, ltP, htl]; rfl) (Lent.of rfl rfl (by repeat (first | exact trivial | refine ⟨⟨rfl, rfl, rfl, tL⟩, ?_⟩)) rfl) rfl rfl rfl rfl rfl) ?_
    refine Run.pure (dd := some 11) rfl rfl (op_move rfl (Opd.tmp _ _ rfl)) ?_
    refine Run.pureG (dd := some 12) rfl rfl rfl tG (op_move rfl (Opd.tmp _ _ rfl)) ?_
    refine Run.pureG (dd := some 13) rfl rfl rfl tG (op_fld_fz (by decide) rfl (Opd.tmp _ _ rfl) tR) ?_
    refine Run.pureG (dd := some 14) rfl rfl rfl tG (op_load1_fz rfl (Opd.topt _ _ _ rfl tO) rfl) ?_
    refine Run.pureG (dd := some 15) rfl rfl rfl tG (op_fld_fz (by decide) rfl (Opd.tmp _ _ rfl) tR) ?_
    refine Run.pureG (dd := some 16) rfl rfl rfl tG (op_load1_fz rfl (Opd.topt _ _ _ rfl tO) rfl) ?_
    refine Run.pureG (dd := some 17) rfl rfl rfl tG (op_call_pure (fun _ => k2) rfl (Opd.func _) (Opds.cons _ _ _ _ (Opd.topt _ _ _ rfl tO) (Opds.cons _ _ _ _ (Opd.topt _ _ _ rfl tO) Opds.nil))) ?_
    refine Run.pureG (dd := some 18) rfl rfl rfl tG (op_never (p := .fz (Bf false)) (by rfl)) ?_
    refine Run.pure (dd := some 19) rfl rfl (op_pick_and rfl (Opd.tmp _ _ rfl) (Opd.topt _ _ _ rfl tO)) ?_
    refine Run.pure (dd := some 20) rfl rfl (op_move rfl (Opd.tmp _ _ rfl)) ?_
    refine Run.pureG (dd := some 21) rfl rfl rfl tG (op_move rfl (Opd.tmp _ _ rfl)) ?_
    refine Run.pureG (dd := some 22) rfl rfl rfl tG (op_fld_fz (by decide) rfl (Opd.tmp _ _ rfl) tR) ?_
    refine Run.pureG (dd := some 23) rfl rfl rfl tG (op_load1_fz rfl (Opd.topt _ _ _ rfl tO) rfl) ?_
    refine Run.pureG (dd := some 24) rfl rfl rfl tG (op_fld_fz (by decide) rfl (Opd.tmp _ _ rfl) tR) ?_
    refine Run.pureG (dd := some 25) rfl rfl rfl tG (op_load1_fz rfl (Opd.topt _ _ _ rfl tO) rfl) ?_
    refine Run.pureG (dd := some 26) rfl rfl rfl tG (op_call_pure (fun _ => k3) rfl (Opd.func _) (Opds.cons _ _ _ _ (Opd.topt _ _ _ rfl tO) (Opds.cons _ _ _ _ (Opd.topt _ _ _ rfl tO) Opds.nil))) ?_
    refine Run.pureG (dd := some 27) rfl rfl rfl tG (op_never (p := .fz (Bf false)) (by rfl)) ?_
    refine Run.pure (dd := some 28) rfl rfl (op_pick_and rfl (Opd.tmp _ _ rfl) (Opd.topt _ _ _ rfl tO)) ?_
    refine Run.nil (FinR.mk ?_)
    refine Next.weak [0, 1] [] (by rfl) (keepsN hC _ rfl) (G' := []) (H' := [(0, ORec (endR rc (jmp x))), (1, OCell x)]) trivial (by exact ⟨ent_same rfl rfl rfl tL, ⟨ent_same rfl rfl rfl tL, trivial⟩⟩) (fun _ h => by simp at h) (n_out0 rfl)
theorem rtI_c (a b : Rte) : ∀ (rc : Loop) (tps : List PV), rc.state = .ready → rc.pending = none → ltPs 2 tps = true → renPs [0, 1] tps = tps → RdF rc tps → Meets Try.prog 54 (.yl 0 rc.tmps tps :: [FV.cellp (encRt a), FV.cellp (encRt b)].map PV.fz) 2 [(0, ORec rc), (1, OCell 0)] (.fz (.tup [])) [(0, ORec (endR rc (jmp (cmpRt a b)))), (1, OCell (cmpRt a b))] 2 := by
  intro rc tps h1 h2 htl htr hR
  have hz := rd_zero h1 h2 hR
  have k1 := pcmp_c a.pf b.pf
  have k2 := cmp_c a.di b.di
  have k3 := cmp_c a.pr b.pr
  unfold cmpRt
  generalize cmpP a.pf b.pf = x at *
  generalize cmpI a.di b.di = y at *
  generalize cmpI a.pr b.pr = z at *
  by_cases hx : x = 0
  · subst hx
    by_cases hy : y = 0
    · subst hy
      by_cases hzz : z = 0
      · subst hzz
        have e : fst3 0 0 0 = 0 := rfl
        rw [e, show jmp 0 = none from rfl, endR_none h1 h2]
        refine Meets.intro Try.func54 rfl (Nat.le_of_ble_eq_true rfl) fun C hC => ?_
        simp only [List.map, argEnv, Nat.reduceAdd]
        refine nK ?_
        refine s_reg rfl ?_
        refine Run.pure (dd := some 4) rfl rfl (op_move rfl (Opd.tmp _ _ rfl)) ?_
        refine Run.pure (dd := some 5) rfl rfl (op_fld_fz (by decide) rfl (Opd.tmp _ _ rfl) tR) ?_
        refine Run.pure (dd := some 6) rfl rfl (op_loadn_fz rfl (Opd.tmp _ _ rfl) tR) ?_
        refine Run.pure (dd := some 7) rfl rfl (op_fld_fz (by decide) rfl (Opd.tmp _ _ rfl) tR) ?_
        refine Run.pure (dd := some 8) rfl rfl (op_loadn_fz rfl (Opd.tmp _ _ rfl) tR) ?_
        refine Run.pure (dd := some 9) rfl rfl (op_call_pure (fun _ => k1) rfl (Opd.func _) (Opds.cons _ _ _ _ (Opd.tmp _ _ rfl) (Opds.cons _ _ _ _ (Opd.tmp _ _ rfl) Opds.nil))) ?_
        refine Run.eff (dd := some 10) rfl rfl (op_yield [0, 1] (fun _ => hz) rfl (Opd.tmp _ _ rfl) (Opds.cons _ _ _ _ (Opd.tmp _ _ rfl) Opds.nil) (by simp only [List.map, renP, htr]; rfl) (by simp only [List.all_cons, List.all_nil, ltP, htl]; rfl) (Lent.of rfl rfl (by repeat (first | exact trivial | refine ⟨⟨rfl, rfl, rfl, tL⟩, ?_⟩)) rfl) rfl rfl rfl rfl rfl) ?_
        refine Run.pure (dd := some 11) rfl rfl (op_move rfl (Opd.tmp _ _ rfl)) ?_
        refine Run.pureG (dd := some 12) rfl rfl rfl tG (op_move rfl (Opd.tmp _ _ rfl)) ?_
        refine Run.pureG (dd := some 13) rfl rfl rfl tG (op_fld_fz (by decide) rfl (Opd.tmp _ _ rfl) tR) ?_
        refine Run.pureG (dd := some 14) rfl rfl rfl tG (op_load1_fz rfl (Opd.topt _ _ _ rfl tO) rfl) ?_
        refine Run.pureG (dd := some 15) rfl rfl rfl tG (op_fld_fz (by decide) rfl (Opd.tmp _ _ rfl) tR) ?_
        refine Run.pureG (dd := some 16) rfl rfl rfl tG (op_load1_fz rfl (Opd.topt _ _ _ rfl tO) rfl) ?_
        refine Run.pureG (dd := some 17) rfl rfl rfl tG (op_call_pure (fun _ => k2) rfl (Opd.func _) (Opds.cons _ _ _ _ (Opd.topt _ _ _ rfl tO) (Opds.cons _ _ _ _ (Opd.topt _ _ _ rfl tO) Opds.nil))) ?_
        refine Run.effG (dd := some 18) rfl rfl rfl tG tGt (op_yield [0, 1] (fun _ => hz) rfl (Opd.topt _ _ _ rfl tO) (Opds.cons _ _ _ _ (Opd.topt _ _ _ rfl tO) Opds.nil) (by simp only [List.map, renP, htr]; rfl) (by simp only [List.all_cons, List.all_nil, ltP, htl]; rfl) (Lent.of rfl rfl (by repeat (first | exact trivial | refine ⟨⟨rfl, rfl, rfl, tL⟩, ?_⟩)) rfl) rfl rfl rfl rfl rfl) ?_
        refine Run.pure (dd := some 19) rfl rfl (op_pick_and rfl (Opd.tmp _ _ rfl) (Opd.topt _ _ _ rfl tO)) ?_
        refine Run.pure (dd := some 20) rfl rfl (op_move rfl (Opd.tmp _ _ rfl)) ?_
        refine Run.pureG (dd := some 21) rfl rfl rfl tG (op_move rfl (Opd.tmp _ _ rfl)) ?_
        refine Run.pureG (dd := some 22) rfl rfl rfl tG (op_fld_fz (by decide) rfl (Opd.tmp _ _ rfl) tR) ?_
        refine Run.pureG (dd := some 23) rfl rfl rfl tG (op_load1_fz rfl (Opd.topt _ _ _ rfl tO) rfl) ?_
        refine Run.pureG (dd := some 24) rfl rfl rfl tG (op_fld_fz (by decide) rfl (Opd.tmp _ _ rfl) tR) ?_
        refine Run.pureG (dd := some 25) rfl rfl rfl tG (op_load1_fz rfl (Opd.topt _ _ _ rfl tO) rfl) ?_
        refine Run.pureG (dd := some 26) rfl rfl rfl tG (op_call_pure (fun _ => k3) rfl (Opd.func _) (Opds.cons _ _ _ _ (Opd.topt _ _ _ rfl tO) (Opds.cons _ _ _ _ (Opd.topt _ _ _ rfl tO) Opds.nil))) ?_
        refine Run.effG (dd := some 27) rfl rfl rfl tG tGt (op_yield [0, 1] (fun _ => hz) rfl (Opd.topt _ _ _ rfl tO) (Opds.cons _ _ _ _ (Opd.topt _ _ _ rfl tO) Opds.nil) (by simp only [List.map, renP, htr]; rfl) (by simp only [List.all_cons, List.all_nil, ltP, htl]; rfl) (Lent.of rfl rfl (by repeat (first | exact trivial | refine ⟨⟨rfl, rfl, rfl, tL⟩, ?_⟩)) rfl) rfl rfl rfl rfl rfl) ?_
        refine Run.pure (dd := some 28) rfl rfl (op_pick_and rfl (Opd.tmp _ _ rfl) (Opd.topt _ _ _ rfl tO)) ?_
        refine Run.nil (FinR.mk ?_)
        refine Next.weak [0, 1] [] (by rfl) (keepsN hC _ rfl) (G' := []) (H' := [(0, ORec rc), (1, OCell 0)]) trivial (by exact ⟨ent_same rfl rfl rfl tL, ⟨ent_same rfl rfl rfl tL, trivial⟩⟩) (fun _ h => by simp at h) (n_out0 rfl)
      · have hn := rd_stop hR hzz
        have e : fst3 0 0 z = z := rfl
        rw [e]
        refine Meets.intro Try.func54 rfl (Nat.le_of_ble_eq_true rfl) fun C hC => ?_
        simp only [List.map, argEnv, Nat.reduceAdd]
        refine nK ?_
        refine s_reg rfl ?_
        refine Run.pure (dd := some 4) rfl rfl (op_move rfl (Opd.tmp _ _ rfl)) ?_
        refine Run.pure (dd := some 5) rfl rfl (op_fld_fz (by decide) rfl (Opd.tmp _ _ rfl) tR) ?_
        refine Run.pure (dd := some 6) rfl rfl (op_loadn_fz rfl (Opd.tmp _ _ rfl) tR) ?_
        refine Run.pure (dd := some 7) rfl rfl (op_fld_fz (by decide) rfl (Opd.tmp _ _ rfl) tR) ?_
        refine Run.pure (dd := some 8) rfl rfl (op_loadn_fz rfl (Opd.tmp _ _ rfl) tR) ?_
        refine Run.pure (dd := some 9) rfl rfl (op_call_pure (fun _ => k1) rfl (Opd.func _) (Opds.cons _ _ _ _ (Opd.tmp _ _ rfl) (Opds.cons _ _ _ _ (Opd.tmp _ _ rfl) Opds.nil))) ?_
        refine Run.eff (dd := some 10) rfl rfl (op_yield [0, 1] (fun _ => hz) rfl (Opd.tmp _ _ rfl) (Opds.cons _ _ _ _ (Opd.tmp _ _ rfl) Opds.nil) (by simp only [List.map, renP, htr]; rfl) (by simp only [List.all_cons, List.all_nil, ltP, htl]; rfl) (Lent.of rfl rfl (by repeat (first | exact trivial | refine ⟨⟨rfl, rfl, rfl, tL⟩, ?_⟩)) rfl) rfl rfl rfl rfl rfl) ?_
        refine Run.pure (dd := some 11) rfl rfl (op_move rfl (Opd.tmp _ _ rfl)) ?_
        refine Run.pureG (dd := some 12) rfl rfl rfl tG (op_move rfl (Opd.tmp _ _ rfl)) ?_
        refine Run.pureG (dd := some 13) rfl rfl rfl tG (op_fld_fz (by decide) rfl (Opd.tmp _ _ rfl) tR) ?_
        refine Run.pureG (dd := some 14) rfl rfl rfl tG (op_load1_fz rfl (Opd.topt _ _ _ rfl tO) rfl) ?_
        refine Run.pureG (dd := some 15) rfl rfl rfl tG (op_fld_fz (by decide) rfl (Opd.tmp _ _ rfl) tR) ?_
        refine Run.pureG (dd := some 16) rfl rfl rfl tG (op_load1_fz rfl (Opd.topt _ _ _ rfl tO) rfl) ?_
        refine Run.pureG (dd := some 17) rfl rfl rfl tG (op_call_pure (fun _ => k2) rfl (Opd.func _) (Opds.cons _ _ _ _ (Opd.topt _ _ _ rfl tO) (Opds.cons _ _ _ _ (Opd.topt _ _ _ rfl tO) Opds.nil))) ?_
        refine Run.effG (dd := some 18) rfl rfl rfl tG tGt (op_yield [0, 1] (fun _ => hz) rfl (Opd.topt _ _ _ rfl tO) (Opds.cons _ _ _ _ (Opd.topt _ _ _ rfl tO) Opds.nil) (by simp only [List.map, renP, htr]; rfl) (by simp only [List.all_cons, List.all_nil, ltP, htl]; rfl) (Lent.of rfl rfl (by repeat (first | exact trivial | refine ⟨⟨rfl, rfl, rfl, tL⟩, ?_⟩)) rfl) rfl rfl rfl rfl rfl) ?_
        refine Run.pure (dd := some 19) rfl rfl (op_pick_and rfl (Opd.tmp _ _ rfl) (Opd.topt _ _ _ rfl tO)) ?_
        refine Run.pure (dd := some 20) rfl rfl (op_move rfl (Opd.tmp _ _ rfl)) ?_
        refine Run.pureG (dd := some 21) rfl rfl rfl tG (op_move rfl (Opd.tmp _ _ rfl)) ?_
        refine Run.pureG (dd := some 22) rfl rfl rfl tG (op_fld_fz (by decide) rfl (Opd.tmp _ _ rfl) tR) ?_
        refine Run.pureG (dd := some 23) rfl rfl rfl tG (op_load1_fz rfl (Opd.topt _ _ _ rfl tO) rfl) ?_
        refine Run.pureG (dd := some 24) rfl rfl rfl tG (op_fld_fz (by decide) rfl (Opd.tmp _ _ rfl) tR) ?_
        refine Run.pureG (dd := some 25) rfl rfl rfl tG (op_load1_fz rfl (Opd.topt _ _ _ rfl tO) rfl) ?_
        refine Run.pureG (dd := some 26) rfl rfl rfl tG (op_call_pure (fun _ => k3) rfl (Opd.func _) (Opds.cons _ _ _ _ (Opd.topt _ _ _ rfl tO) (Opds.cons _ _ _ _ (Opd.topt _ _ _ rfl tO) Opds.nil))) ?_
        refine Run.effG (dd := some 27) rfl rfl rfl tG tGt (op_yield [0, 1] (fun _ => hn) rfl (Opd.topt _ _ _ rfl tO) (Opds.cons _ _ _ _ (Opd.topt _ _ _ rfl tO) Opds.nil) (by simp only [List.map, renP, htr]; rfl) (by simp only [List.all_cons, List.all_nil, ltP, htl]; rfl) (Lent.of rfl rfl (by repeat (first | exact trivial | refine ⟨⟨rfl, rfl, rfl, tL⟩, ?_⟩)) rfl) rfl rfl rfl rfl rfl) ?_
        refine Run.pure (dd := some 28) rfl rfl (op_pick_and rfl (Opd.tmp _ _ rfl) (Opd.topt _ _ _ rfl tO)) ?_
        refine Run.nil (FinR.mk ?_)
        refine Next.weak [0, 1] [] (by rfl) (keepsN hC _ rfl) (G' := []) (H' := [(0, ORec (endR rc (jmp z))), (1, OCell z)]) trivial (by exact ⟨ent_same rfl rfl rfl tL, ⟨ent_same rfl rfl rfl tL, trivial⟩⟩) (fun _ h => by simp at h) (n_out0 rfl)
    · have hn := rd_stop hR hy
      have e : fst3 0 y z = y := by simp [fst3, hy]
      rw [e]
      refine Meets.intro Try.func54 rfl (Nat.le_of_ble_eq_true rfl) fun C hC => ?_
      simp only [List.map, argEnv, Nat.reduceAdd]
      refine nK ?_
      refine s_reg rfl ?_
      refine Run.pure (dd := some 4) rfl rfl (op_move rfl (Opd.tmp _ _ rfl)) ?_
      refine Run.pure (dd := some 5) rfl rfl (op_fld_fz (by decide) rfl (Opd.tmp _ _ rfl) tR) ?_
      refine Run.pure (dd := some 6) rfl rfl (op_loadn_fz rfl (Opd.tmp _ _ rfl) tR) ?_
      refine Run.pure (dd := some 7) rfl rfl (op_fld_fz (by decide) rfl (Opd.tmp _ _ rfl) tR) ?_
      refine Run.pure (dd := some 8) rfl rfl (op_loadn_fz rfl (Opd.tmp _ _ rfl) tR) ?_
      refine Run.pure (dd := some 9) rfl rfl (op_call_pure (fun _ => k1) rfl (Opd.func _) (Opds.cons _ _ _ _ (Opd.tmp _ _ rfl) (Opds.cons _ _ _ _ (Opd.tmp _ _ rfl) Opds.nil))) ?_
      refine Run.eff (dd := some 10) rfl rfl (op_yield [0, 1] (fun _ => hz) rfl (Opd.tmp _ _ rfl) (Opds.cons _ _ _ _ (Opd.tmp _ _ rfl) Opds.nil) (by simp only [List.map, renP, htr]; rfl) (by simp only [List.all_cons, List.all_nil, ltP, htl]; rfl) (Lent.of rfl rfl (by repeat (first | exact trivial | refine ⟨⟨rfl, rfl, rfl, tL⟩, ?_⟩)) rfl) rfl rfl rfl rfl rfl) ?_
      refine Run.pure (dd := some 11) rfl rfl (op_move rfl (Opd.tmp _ _ rfl)) ?_
      refine Run.pureG (dd := some 12) rfl rfl rfl tG (op_move rfl (Opd.tmp _ _ rfl)) ?_
      refine Run.pureG (dd := some 13) rfl rfl rfl tG (op_fld_fz (by decide) rfl (Opd.tmp _ _ rfl) tR) ?_
      refine Run.pureG (dd := some 14) rfl rfl rfl tG (op_load1_fz rfl (Opd.topt _ _ _ rfl tO) rfl) ?_
      refine Run.pureG (dd := some 15) rfl rfl rfl tG (op_fld_fz (by decide) rfl (Opd.tmp _ _ rfl) tR) ?_
      refine Run.pureG (dd := some 16) rfl rfl rfl tG (op_load1_fz rfl (Opd.topt _ _ _ rfl tO) rfl) ?_
      refine Run.pureG (dd := some 17) rfl rfl rfl tG (op_call_pure (fun _ => k2) rfl (Opd.func _) (Opds.cons _ _ _ _ (Opd.topt _ _ _ rfl tO) (Opds.cons _ _ _ _ (Opd.topt _ _ _ rfl tO) Opds.nil))) ?_
      refine Run.effG (dd := some 18) rfl rfl rfl tG tGt (op_yield [0, 1] (fun _ => hn) rfl (Opd.topt _ _ _ rfl tO) (Opds.cons _ _ _ _ (Opd.topt _ _ _ rfl tO) Opds.nil) (by simp only [List.map, renP, htr]; rfl) (by simp only [List.all_cons, List.all_nil, ltP, htl]; rfl) (Lent.of rfl rfl (by repeat (first | exact trivial | refine ⟨⟨rfl, rfl, rfl, tL⟩, ?_⟩)) rfl) rfl rfl rfl rfl rfl) ?_
      refine Run.pure (dd := some 19) rfl rfl (op_pick_and rfl (Opd.tmp _ _ rfl) (Opd.topt _ _ _ rfl tO)) ?_
      refine Run.pure (dd := some 20) rfl rfl (op_move rfl (Opd.tmp _ _ rfl)) ?_
      refine Run.pureG (dd := some 21) rfl rfl rfl tG (op_move rfl (Opd.tmp _ _ rfl)) ?_
      refine Run.pureG (dd := some 22) rfl rfl rfl tG (op_fld_fz (by decide) rfl (Opd.tmp _ _ rfl) tR) ?_
      refine Run.pureG (dd := some 23) rfl rfl rfl tG (op_load1_fz rfl (Opd.topt _ _ _ rfl tO) rfl) ?_
      refine Run.pureG (dd := some 24) rfl rfl rfl tG (op_fld_fz (by decide) rfl (Opd.tmp _ _ rfl) tR) ?_
      refine Run.pureG (dd := some 25) rfl rfl rfl tG (op_load1_fz rfl (Opd.topt _ _ _ rfl tO) rfl) ?_
      refine Run.pureG (dd := some 26) rfl rfl rfl tG (op_call_pure (fun _ => k3) rfl (Opd.func _) (Opds.cons _ _ _ _ (Opd.topt _ _ _ rfl tO) (Opds.cons _ _ _ _ (Opd.topt _ _ _ rfl tO) Opds.nil))) ?_
      refine Run.pureG (dd := some 27) rfl rfl rfl tG (op_never (p := .fz (Bf false)) (by rfl)) ?_
      refine Run.pure (dd := some 28) rfl rfl (op_pick_and rfl (Opd.tmp _ _ rfl) (Opd.topt _ _ _ rfl tO)) ?_
      refine Run.nil (FinR.mk ?_)
      refine Next.weak [0, 1] [] (by rfl) (keepsN hC _ rfl) (G' := []) (H' := [(0, ORec (endR rc (jmp y))), (1, OCell y)]) trivial (by exact ⟨ent_same rfl rfl rfl tL, ⟨ent_same rfl rfl rfl tL, trivial⟩⟩) (fun _ h => by simp at h) (n_out0 rfl)
  · have hn := rd_stop hR hx
    have e : fst3 x y z = x := by simp [fst3, hx]
    rw [e]
    refine Meets.intro Try.func54 rfl (Nat.le_of_ble_eq_true rfl) fun C hC => ?_
    simp only [List.map, argEnv, Nat.reduceAdd]
    refine nK ?_
    refine s_reg rfl ?_
    refine Run.pure (dd := some 4) rfl rfl (op_move rfl (Opd.tmp _ _ rfl)) ?_
    refine Run.pure (dd := some 5) rfl rfl (op_fld_fz (by decide) rfl (Opd.tmp _ _ rfl) tR) ?_
    refine Run.pure (dd := some 6) rfl rfl (op_loadn_fz rfl (Opd.tmp _ _ rfl) tR) ?_
    refine Run.pure (dd := some 7) rfl rfl (op_fld_fz (by decide) rfl (Opd.tmp _ _ rfl) tR) ?_
    refine Run.pure (dd := some 8) rfl rfl (op_loadn_fz rfl (Opd.tmp _ _ rfl) tR) ?_
    refine Run.pure (dd := some 9) rfl rfl (op_call_pure (fun _ => k1) rfl (Opd.func _) (Opds.cons _ _ _ _ (Opd.tmp _ _ rfl) (Opds.cons _ _ _ _ (Opd.tmp _ _ rfl) Opds.nil))) ?_
    refine Run.eff (dd := some 10) rfl rfl (op_yield [0, 1] (fun _ => hn) rfl (Opd.tmp _ _ rfl) (Opds.cons _ _ _ _ (Opd.tmp _ _ rfl) Opds.nil) (by simp only [List.map, renP, htr]; rfl) (by simp only [List.all_cons, List.all_nil, ltP, htl]; rfl) (Lent.of rfl rfl (by repeat (first | exact trivial | refine ⟨⟨rfl, rfl, rfl, tL⟩, ?_⟩)) rfl) rfl rfl rfl rfl rfl) ?_
    refine Run.pure (dd := some 11) rfl rfl (op_move rfl (Opd.tmp _ _ rfl)) ?_
    refine Run.pureG (dd := some 12) rfl rfl rfl tG (op_move rfl (Opd.tmp _ _ rfl)) ?_
    refine Run.pureG (dd := some 13) rfl rfl rfl tG (op_fld_fz (by decide) rfl (Opd.tmp _ _ rfl) tR) ?_
    refine Run.pureG (dd := some 14) rfl rfl rfl tG (op_load1_fz rfl (Opd.topt _ _ _ rfl tO) rfl) ?_
    refine Run.pureG (dd := some 15) rfl rfl rfl tG (op_fld_fz (by decide) rfl (Opd.tmp _ _ rfl) tR) ?_
    refine Run.pureG (dd := some 16) rfl rfl rfl tG (op_load1_fz rfl (Opd.topt _ _ _ rfl tO) rfl) ?_
    refine Run.pureG (dd := some 17) rfl rfl rfl tG (op_call_pure (fun _ => k2) rfl (Opd.func _) (Opds.cons _ _ _ _ (Opd.topt _ _ _ rfl tO) (Opds.cons _ _ _ _ (Opd.topt _ _ _ rfl tO) Opds.nil))) ?_
    refine Run.pureG (dd := some 18) rfl rfl rfl tG (op_never (p := .fz (Bf false)) (by rfl)) ?_
    refine Run.pure (dd := some 19) rfl rfl (op_pick_and rfl (Opd.tmp _ _ rfl) (Opd.topt _ _ _ rfl tO)) ?_
    refine Run.pure (dd := some 20) rfl rfl (op_move rfl (Opd.tmp _ _ rfl)) ?_
    refine Run.pureG (dd := some 21) rfl rfl rfl tG (op_move rfl (Opd.tmp _ _ rfl)) ?_
    refine Run.pureG (dd := some 22) rfl rfl rfl tG (op_fld_fz (by decide) rfl (Opd.tmp _ _ rfl) tR) ?_
    refine Run.pureG (dd := some 23) rfl rfl rfl tG (op_load1_fz rfl (Opd.topt _ _ _ rfl tO) rfl) ?_
    refine Run.pureG (dd := some 24) rfl rfl rfl tG (op_fld_fz (by decide) rfl (Opd.tmp _ _ rfl) tR) ?_
    refine Run.pureG (dd := some 25) rfl rfl rfl tG (op_load1_fz rfl (Opd.topt _ _ _ rfl tO) rfl) ?_
    refine Run.pureG (dd := some 26) rfl rfl rfl tG (op_call_pure (fun _ => k3) rfl (Opd.func _) (Opds.cons _ _ _ _ (Opd.topt _ _ _ rfl tO) (Opds.cons _ _ _ _ (Opd.topt _ _ _ rfl tO) Opds.nil))) ?_
    refine Run.pureG (dd := some 27) rfl rfl rfl tG (op_never (p := .fz (Bf false)) (by rfl)) ?_
    refine Run.pure (dd := some 28) rfl rfl (op_pick_and rfl (Opd.tmp _ _ rfl) (Opd.topt _ _ _ rfl tO)) ?_
    refine Run.nil (FinR.mk ?_)
    refine Next.weak [0, 1] [] (by rfl) (keepsN hC _ rfl) (G' := []) (H' := [(0, ORec (endR rc (jmp x))), (1, OCell x)]) trivial (by exact ⟨ent_same rfl rfl rfl tL, ⟨ent_same rfl rfl rfl tL, trivial⟩⟩) (fun _ h => by simp at h) (n_out0 rfl)
open Go Go.RT Go.Proofs Go.Pl
set_option maxRecDepth 20000
theorem chops_c (a b : Hop) : Pure Try.prog 52 [.agg (encHo a), .agg (encHo b)] (If .i64 (cmpHo a b)) := by
  have k := first_c (f := 68) [.cellp (encHo a), .cellp (encHo b)] (cmpHo a b) (hopsI_c a b)
  refine Meets.intro Try.func52 rfl (Nat.le_of_ble_eq_true rfl) fun C hC => ?_
  simp only [List.map, argEnv, Nat.reduceAdd]
  refine nK ?_
  refine s_reg rfl ?_
  refine Run.eff (dd := some 2) rfl rfl (op_box_flat rfl (Opd.tmp _ _ rfl) tC rfl) ?_
  refine Run.eff (dd := some 3) rfl rfl (op_box_flat rfl (Opd.tmp _ _ rfl) tC rfl) ?_
  refine Run.pure (dd := some 4) rfl rfl (op_assign rfl (Opd.const _)) ?_
  refine Run.nil (FinR.mk ?_)
  refine nK ?_
  refine Next.weakS [] [2, 3] (by rfl) (keeps0 hC _) (G' := [(2, .fz (.cellp (encHo a))), (3, .fz (.cellp (encHo b)))]) (H' := []) (by repeat (first | exact trivial | refine ⟨⟨_, rfl, .inl ⟨rfl, rfl⟩⟩, ?_⟩ | refine ⟨⟨_, rfl, .inl ⟨slEq rfl tN, rfl⟩⟩, ?_⟩ | refine ⟨⟨_, rfl, .inl ⟨ivEq tX, rfl⟩⟩, ?_⟩ | refine ⟨⟨_, rfl, .inr ⟨_, rfl, tW⟩⟩, ?_⟩)) trivial rfl ?_
  refine nK ?_
  refine s_reg rfl ?_
  refine Run.pure (dd := some 5) rfl rfl (op_makeFuncF (fs := [.cellp (encHo a), .cellp (encHo b)]) rfl (Opds.cons _ _ _ _ (Opd.tmp _ _ rfl) (Opds.cons _ _ _ _ (Opd.tmp _ _ rfl) Opds.nil))) ?_
  refine Run.pure (dd := some 6) rfl rfl (op_call_pure (fun _ => k) rfl (Opd.func _) (Opds.cons _ _ _ _ (Opd.tmp _ _ rfl) Opds.nil)) ?_
  refine Run.pure (dd := some 4) rfl rfl (op_assign rfl (Opd.tmp _ _ rfl)) ?_
  refine Run.nil (FinR.mk ?_)
  refine nK ?_
  (first | exact s_o1 hC rfl tV | exact s_o2 hC rfl tV tV | exact s_o3 hC rfl tV tV tV | exact s_o4 hC rfl tV tV tV tV | exact s_out0 hC rfl | exact s_outO hC rfl rfl rfl)
theorem crt_c (a b : Rte) : Pure Try.prog 30 [.agg (encRt a), .agg (encRt b)] (If .i64 (cmpRt a b)) := by
  have k := first_c (f := 54) [.cellp (encRt a), .cellp (encRt b)] (cmpRt a b) (rtI_c a b)
  refine Meets.intro Try.func30 rfl (Nat.le_of_ble_eq_true rfl) fun C hC => ?_
  simp only [List.map, argEnv, Nat.reduceAdd]
  refine nK ?_
  refine s_reg rfl ?_
  refine Run.eff (dd := some 2) rfl rfl (op_box_flat rfl (Opd.tmp _ _ rfl) tC rfl) ?_
  refine Run.eff (dd := some 3) rfl rfl (op_box_flat rfl (Opd.tmp _ _ rfl) tC rfl) ?_
  refine Run.pure (dd := some 4) rfl rfl (op_assign rfl (Opd.const _)) ?_
  refine Run.nil (FinR.mk ?_)
  refine nK ?_
  refine Next.weakS [] [2, 3] (by rfl) (keeps0 hC _) (G' := [(2, .fz (.cellp (encRt a))), (3, .fz (.cellp (encRt b)))]) (H' := []) (by repeat (first | exact trivial | refine ⟨⟨_, rfl, .inl ⟨rfl, rfl⟩⟩, ?_⟩ | refine ⟨⟨_, rfl, .inl ⟨slEq rfl tN, rfl⟩⟩, ?_⟩ | refine ⟨⟨_, rfl, .inl ⟨ivEq tX, rfl⟩⟩, ?_⟩ | refine ⟨⟨_, rfl, .inr ⟨_, rfl, tW⟩⟩, ?_⟩)) trivial rfl ?_
  refine nK ?_
  refine s_reg rfl ?_
  refine Run.pure (dd := some 5) rfl rfl (op_makeFuncF (fs := [.cellp (encRt a), .cellp (encRt b)]) rfl (Opds.cons _ _ _ _ (Opd.tmp _ _ rfl) (Opds.cons _ _ _ _ (Opd.tmp _ _ rfl) Opds.nil))) ?_
  refine Run.pure (dd := some 6) rfl rfl (op_call_pure (fun _ => k) rfl (Opd.func _) (Opds.cons _ _ _ _ (Opd.tmp _ _ rfl) Opds.nil)) ?_
  refine Run.pure (dd := some 4) rfl rfl (op_assign rfl (Opd.tmp _ _ rfl)) ?_
  refine Run.nil (FinR.mk ?_)
  refine nK ?_
  (first | exact s_o1 hC rfl tV | exact s_o2 hC rfl tV tV | exact s_o3 hC rfl tV tV tV | exact s_o4 hC rfl tV tV tV tV | exact s_out0 hC rfl | exact s_outO hC rfl rfl rfl)
end Go.Proofs.Ytinddhlmgiahiaa
/- Inserting routes into tables. No program in sight. -/
namespace Go.Pl
open Go Go.RT
set_option linter.all false
theorem befR_iff {r x : Rte} : befR r x = true ↔ ltRt x r := by unfold befR; rw [decide_eq_true_eq, cmpRt_neg]
/-- ascending lists with the same members are equal -/
theorem asc_uniq : ∀ {a b : List Rte}, a.Pairwise ltRt → b.Pairwise ltRt → (∀ x, x ∈ a ↔ x ∈ b) → a = b
  | [], [], _, _, _ => rfl
  | [], y :: b, _, _, h => by have := (h y).2 (List.mem_cons_self ..); simp at this
  | x :: a, [], _, _, h => by have := (h x).1 (List.mem_cons_self ..); simp at this
  | x :: a, y :: b, ha, hb, h => by
    obtain ⟨a1, a2⟩ := List.pairwise_cons.1 ha
    obtain ⟨b1, b2⟩ := List.pairwise_cons.1 hb
    have hxy : x = y := by
      rcases List.mem_cons.1 ((h x).1 (List.mem_cons_self ..)) with e | e
      · exact e
      · rcases List.mem_cons.1 ((h y).2 (List.mem_cons_self ..)) with e2 | e2
        · exact e2.symm
        · exact (((b1 x e).trans (a1 y e2)).irr).elim
    subst hxy
    rw [asc_uniq a2 b2 fun z => ?_]
    constructor
    · intro hz
      rcases List.mem_cons.1 ((h z).1 (List.mem_cons_of_mem _ hz)) with e | e
      · subst e; exact ((a1 z hz).irr).elim
      · exact e
    · intro hz
      rcases List.mem_cons.1 ((h z).2 (List.mem_cons_of_mem _ hz)) with e | e
      · subst e; exact ((b1 z hz).irr).elim
      · exact e
theorem mem_ins {r x : Rte} {l : List Rte} : x ∈ insRt r l ↔ x = r ∨ x ∈ l := by
  unfold insRt
  have : x ∈ l ↔ x ∈ l.takeWhile (befR r) ∨ x ∈ l.dropWhile (befR r) := by
    rw [← List.mem_append, List.takeWhile_append_dropWhile]
  rw [List.mem_append, List.mem_cons, this]
  constructor
  · rintro (h | h | h)
    · exact .inr (.inl h)
    · exact .inl h
    · exact .inr (.inr h)
  · rintro (h | h | h)
    · exact .inr (.inl h)
    · exact .inl h
    · exact .inr (.inr h)
theorem ins_len (r : Rte) (l : List Rte) : (insRt r l).length = l.length + 1 := by
  have : l.length = (l.takeWhile (befR r)).length + (l.dropWhile (befR r)).length := by
    rw [← List.length_append, List.takeWhile_append_dropWhile]
  unfold insRt
  rw [List.length_append, List.length_cons, this]; omega
theorem tw_mem {r x : Rte} : ∀ {l : List Rte}, x ∈ l.takeWhile (befR r) → ltRt x r
  | y :: l, h => by
    rw [List.takeWhile_cons] at h
    by_cases hy : befR r y = true
    · rw [if_pos hy] at h
      rcases List.mem_cons.1 h with rfl | h
      · exact befR_iff.1 hy
      · exact tw_mem h
    · rw [if_neg hy] at h; simp at h
theorem dw_mem {r x : Rte} : ∀ {l : List Rte}, l.Pairwise ltRt → (∀ y ∈ l, ¬ (y.pf = r.pf ∧ y.di = r.di ∧ y.pr = r.pr)) → x ∈ l.dropWhile (befR r) → ltRt r x
  | y :: l, hp, hn, h => by
    obtain ⟨h1, h2⟩ := List.pairwise_cons.1 hp
    rw [List.dropWhile_cons] at h
    by_cases hy : befR r y = true
    · rw [if_pos hy] at h
      exact dw_mem h2 (fun z hz => hn z (List.mem_cons_of_mem _ hz)) h
    · rw [if_neg hy] at h
      have hry : ltRt r y := by
        rcases rt_tri y r with k | k | k
        · exact absurd (befR_iff.2 k) hy
        · exact absurd k (hn y (List.mem_cons_self ..))
        · exact k
      rcases List.mem_cons.1 h with rfl | h
      · exact hry
      · exact hry.trans (h1 x h)
theorem ins_asc {r : Rte} {l : List Rte} (hp : l.Pairwise ltRt) (hn : ∀ y ∈ l, ¬ (y.pf = r.pf ∧ y.di = r.di ∧ y.pr = r.pr)) : (insRt r l).Pairwise ltRt := by
  unfold insRt
  refine List.pairwise_append.2 ⟨hp.sublist (List.takeWhile_sublist _), List.pairwise_cons.2 ⟨fun x hx => dw_mem hp hn hx, hp.sublist (List.dropWhile_sublist _)⟩, fun x hx y hy => ?_⟩
  rcases List.mem_cons.1 hy with rfl | hy
  · exact tw_mem hx
  · exact (tw_mem hx).trans (dw_mem hp hn hy)
theorem uni_of {l : List Rte} (h : l.Pairwise fun a b => ¬ sameK a b) {x y : Rte} (hx : x ∈ l) (hy : y ∈ l) (hk : sameK x y) : x = y := by
  induction h with
  | nil => simp at hx
  | cons h1 _ ih =>
    rcases List.mem_cons.1 hx with ex | hx' <;> rcases List.mem_cons.1 hy with ey | hy'
    · exact ex.trans ey.symm
    · subst ex; exact absurd hk (h1 y hy')
    · subst ey; exact absurd ⟨hk.1.symm, hk.2.symm⟩ (h1 x hx')
    · exact ih hx' hy'
theorem uni_mk : ∀ {l : List Rte}, l.Pairwise ltRt → (∀ x ∈ l, ∀ y ∈ l, sameK x y → x = y) → l.Pairwise fun a b => ¬ sameK a b
  | [], _, _ => List.Pairwise.nil
  | x :: l, hp, h => by
    obtain ⟨h1, h2⟩ := List.pairwise_cons.1 hp
    refine List.pairwise_cons.2 ⟨fun y hy hk => ?_, uni_mk h2 fun a ha b hb => h a (List.mem_cons_of_mem _ ha) b (List.mem_cons_of_mem _ hb)⟩
    have := h x (List.mem_cons_self ..) y (List.mem_cons_of_mem _ hy) hk
    subst this
    exact (h1 x hy).irr
/-- what Put makes of a valid table -/
theorem put_ok {l : List Rte} {r : Rte} (h : TabOk l) (hr : checkRt r = 0) (hn : (l.filter fun x => !(decide (x.pf = r.pf) && decide (x.pr = r.pr))).length < 2000) :
    TabOk (insRt r (l.filter fun x => !(decide (x.pf = r.pf) && decide (x.pr = r.pr)))) ∧ ∀ x, x ∈ insRt r (l.filter fun x => !(decide (x.pf = r.pf) && decide (x.pr = r.pr))) ↔ x = r ∨ x ∈ l ∧ ¬ sameK x r := by
  have hm : ∀ x, x ∈ l.filter (fun x => !(decide (x.pf = r.pf) && decide (x.pr = r.pr))) ↔ x ∈ l ∧ ¬ sameK x r := fun x => by
    rw [List.mem_filter]; simp only [sameK, Bool.not_eq_true', Bool.and_eq_false_iff, decide_eq_false_iff_not]; by_cases h1 : x.pf = r.pf <;> by_cases h2 : x.pr = r.pr <;> simp [h1, h2]
  have hmm : ∀ x, x ∈ insRt r (l.filter fun x => !(decide (x.pf = r.pf) && decide (x.pr = r.pr))) ↔ x = r ∨ x ∈ l ∧ ¬ sameK x r := fun x => by
    rw [mem_ins, hm]
  have hasc := ins_asc (r := r) (h.asc.filter fun x => !(decide (x.pf = r.pf) && decide (x.pr = r.pr))) fun y hy k => ((hm y).1 hy).2 ⟨k.1, k.2.2⟩
  refine ⟨⟨by rw [ins_len]; omega, fun x hx => ?_, hasc, uni_mk hasc fun x hx y hy hk => ?_⟩, hmm⟩
  · rcases (hmm x).1 hx with rfl | k
    · exact hr
    · exact h.chk x k.1
  · rcases (hmm x).1 hx with rfl | k1 <;> rcases (hmm y).1 hy with rfl | k2
    · rfl
    · exact absurd ⟨hk.1.symm, hk.2.symm⟩ k2.2
    · exact absurd hk k1.2
    · exact uni_of h.uni k1.1 k2.1 hk
/-- the place that a search in halves finds -/
theorem place_eq {r : Rte} {l : List Rte} (hp : l.Pairwise ltRt) {i : Nat} (hi : i ≤ l.length) (h1 : ∀ h : 0 < i, ltRt (l[i - 1]'(by omega)) r) (h2 : ∀ h : i < l.length, ¬ ltRt l[i] r) : insRt r l = l.take i ++ r :: l.drop i := by
  have ht : ∀ x ∈ l.take i, befR r x = true := fun x hx => by
    rw [befR_iff]
    obtain ⟨k, hk, rfl⟩ := List.mem_iff_getElem.1 hx
    rw [List.length_take] at hk
    rw [List.getElem_take]
    have h0 := h1 (by omega)
    by_cases e : k = i - 1
    · subst e; exact h0
    · exact (List.pairwise_iff_getElem.1 hp k (i - 1) (by omega) (by omega) (by omega)).trans h0
  have hd : (l.drop i).takeWhile (befR r) = [] := by
    by_cases h : i < l.length
    · rw [List.drop_eq_getElem_cons h, List.takeWhile_cons, if_neg]
      intro k; exact h2 h (befR_iff.1 k)
    · rw [List.drop_eq_nil_of_le (by omega)]; rfl
  have hd2 : (l.drop i).dropWhile (befR r) = l.drop i := by
    by_cases h : i < l.length
    · rw [List.drop_eq_getElem_cons h, List.dropWhile_cons, if_neg]
      intro k; exact h2 h (befR_iff.1 k)
    · rw [List.drop_eq_nil_of_le (by omega)]; rfl
  unfold insRt
  have e1 : l.takeWhile (befR r) = l.take i := by
    conv => lhs; rw [← List.take_append_drop i l]
    rw [List.takeWhile_append_of_pos ht, hd, List.append_nil]
  have e2 : l.dropWhile (befR r) = l.drop i := by
    conv => lhs; rw [← List.take_append_drop i l]
    rw [List.dropWhile_append_of_pos ht, hd2]
  rw [e1, e2]
end Go.Pl
/- Replacing routes; active routes. No program in sight. -/
namespace Go.Pl
open Go Go.RT
set_option linter.all false
theorem repl_iff (n : Int) : ∀ (t s : List Rte), replGo n s t = 0 ↔ (∀ x ∈ t, checkRt x = 0 ∧ x.pr = n) ∧ (t.Pairwise fun a b => a.pf ≠ b.pf) ∧ ∀ x ∈ t, ∀ y ∈ s, y.pf ≠ x.pf
  | [], s => by simp [replGo]
  | x :: t, s => by
    simp only [replGo]
    by_cases h1 : checkRt x ≠ 0
    · rw [if_pos h1]
      exact ⟨fun h => absurd h h1, fun h => absurd (h.1 x (List.mem_cons_self ..)).1 h1⟩
    rw [if_neg h1]
    by_cases h2 : x.pr ≠ n
    · rw [if_pos h2]
      exact ⟨fun h => (by cases h), fun h => absurd (h.1 x (List.mem_cons_self ..)).2 h2⟩
    rw [if_neg h2]
    by_cases h3 : (s.any fun y => decide (y.pf = x.pf)) = true
    · rw [if_pos h3]
      obtain ⟨y, hy, k⟩ := List.any_eq_true.1 h3
      exact ⟨fun h => (by cases h), fun h => absurd (by simpa using k) (h.2.2 x (List.mem_cons_self ..) y hy)⟩
    rw [if_neg h3, repl_iff n t (s ++ [x])]
    have hno : ∀ y ∈ s, y.pf ≠ x.pf := fun y hy k => h3 (List.any_eq_true.2 ⟨y, hy, by simpa using k⟩)
    simp only [List.mem_append, List.mem_singleton]
    constructor
    · rintro ⟨a1, a2, a3⟩
      refine ⟨fun y hy => ?_, List.pairwise_cons.2 ⟨fun y hy => a3 y hy x (.inr rfl), a2⟩, fun y hy z hz => ?_⟩
      · rcases List.mem_cons.1 hy with rfl | hy
        · exact ⟨by simpa using h1, by simpa using h2⟩
        · exact a1 y hy
      · rcases List.mem_cons.1 hy with rfl | hy
        · exact hno z hz
        · exact a3 y hy z (.inl hz)
    · rintro ⟨a1, a2, a3⟩
      obtain ⟨b1, b2⟩ := List.pairwise_cons.1 a2
      refine ⟨fun y hy => a1 y (List.mem_cons_of_mem _ hy), b2, fun y hy z hz => ?_⟩
      rcases hz with hz | rfl
      · exact a3 y (List.mem_cons_of_mem _ hy) z hz
      · exact b1 y hy
def insAll (rs o : List Rte) : List Rte := rs.foldl (fun o r => insRt r o) o
theorem insAll_take {rs o : List Rte} {i : Nat} (h : i < rs.length) : insAll (rs.take (i + 1)) o = insRt rs[i] (insAll (rs.take i) o) := by
  unfold insAll
  rw [List.take_succ_eq_append_getElem h, List.foldl_append]; rfl
theorem insAll_ok : ∀ (rs o : List Rte), (rs.Pairwise fun a b => a.pf ≠ b.pf) → o.Pairwise ltRt → (∀ r ∈ rs, ∀ y ∈ o, ¬ (y.pf = r.pf ∧ y.di = r.di ∧ y.pr = r.pr)) → (insAll rs o).Pairwise ltRt ∧ ∀ x, x ∈ insAll rs o ↔ x ∈ rs ∨ x ∈ o
  | [], o, _, ho, _ => ⟨ho, fun x => by simp [insAll]⟩
  | r :: rs, o, hr, ho, hn => by
    obtain ⟨h1, h2⟩ := List.pairwise_cons.1 hr
    have hi := ins_asc ho (hn r (List.mem_cons_self ..))
    obtain ⟨k1, k2⟩ := insAll_ok rs (insRt r o) h2 hi fun q hq y hy k => by
      rcases mem_ins.1 hy with rfl | hy
      · exact h1 q hq k.1
      · exact hn q (List.mem_cons_of_mem _ hq) y hy k
    refine ⟨k1, fun x => ?_⟩
    show x ∈ insAll rs (insRt r o) ↔ _
    rw [k2, mem_ins, List.mem_cons]
    constructor
    · rintro (h | h | h)
      · exact .inl (.inr h)
      · exact .inl (.inl h)
      · exact .inr h
    · rintro ((h | h) | h)
      · exact .inr (.inl h)
      · exact .inl h
      · exact .inr (.inr h)
theorem insAll_len : ∀ (rs o : List Rte), (insAll rs o).length = o.length + rs.length
  | [], o => rfl
  | r :: rs, o => by
    show (insAll rs (insRt r o)).length = _
    rw [insAll_len rs, ins_len]; simp; omega
/-- active routes -/
theorem act_spec : ∀ (l : List Rte) (p : Option Pfx), l.Pairwise ltRt → (∀ q, p = some q → ∀ x ∈ l, q = x.pf ∨ ltPf q x.pf) →
    (∀ a ∈ actGo p l, a ∈ l ∧ (∀ q, p = some q → ltPf q a.pf) ∧ ∀ x ∈ l, x.pf = a.pf → ¬ ltRt x a) ∧ (∀ r ∈ l, p = some r.pf ∨ ∃ a ∈ actGo p l, a.pf = r.pf) ∧ (actGo p l).Pairwise fun a b => ltPf a.pf b.pf
  | [], p, _, _ => by simp [actGo]
  | y :: l, p, hl, hp => by
    obtain ⟨h1, h2⟩ := List.pairwise_cons.1 hl
    have hy : ∀ q, some y.pf = some q → ∀ x ∈ l, q = x.pf ∨ ltPf q x.pf := fun q hq x hx => by
      cases hq
      rcases h1 x hx with k | ⟨k, _⟩
      · exact .inr k
      · exact .inl k
    obtain ⟨i1, i2, i3⟩ := act_spec l (some y.pf) h2 hy
    have hlt : ∀ a ∈ actGo (some y.pf) l, ltPf y.pf a.pf := fun a ha => (i1 a ha).2.1 _ rfl
    simp only [actGo]
    by_cases c : p = some y.pf
    · rw [if_pos c, List.nil_append]
      refine ⟨fun a ha => ?_, fun r hr => ?_, i3⟩
      · obtain ⟨k1, k2, k3⟩ := i1 a ha
        refine ⟨List.mem_cons_of_mem _ k1, fun q hq => by rw [c] at hq; exact k2 q hq, fun x hx e => ?_⟩
        rcases List.mem_cons.1 hx with rfl | hx
        · exact ((e ▸ hlt a ha).irr).elim
        · exact k3 x hx e
      · rcases List.mem_cons.1 hr with rfl | hr
        · exact .inl c
        · rcases i2 r hr with k | ⟨a, ha, k⟩
          · exact .inl (c.trans k)
          · exact .inr ⟨a, ha, k⟩
    · rw [if_neg c]
      refine ⟨fun a ha => ?_, fun r hr => ?_, ?_⟩
      · rcases List.mem_cons.1 ha with rfl | ha
        · refine ⟨List.mem_cons_self .., fun q hq => ?_, fun x hx e => ?_⟩
          · rcases hp q hq a (List.mem_cons_self ..) with k | k
            · subst k; exact absurd hq c
            · exact k
          · rcases List.mem_cons.1 hx with rfl | hx
            · exact fun k => k.irr
            · exact fun k => ((h1 x hx).trans k).irr
        · obtain ⟨k1, k2, k3⟩ := i1 a ha
          refine ⟨List.mem_cons_of_mem _ k1, fun q hq => ?_, fun x hx e => ?_⟩
          · rcases hp q hq y (List.mem_cons_self ..) with k | k
            · subst k; exact hlt a ha
            · exact k.trans (hlt a ha)
          · rcases List.mem_cons.1 hx with rfl | hx
            · exact ((e ▸ hlt a ha).irr).elim
            · exact k3 x hx e
      · rcases List.mem_cons.1 hr with rfl | hr
        · exact .inr ⟨r, List.mem_cons_self .., rfl⟩
        · rcases i2 r hr with k | ⟨a, ha, k⟩
          · exact .inr ⟨y, List.mem_cons_self .., by simpa using k⟩
          · exact .inr ⟨a, List.mem_cons_of_mem _ ha, k⟩
      · exact List.pairwise_cons.2 ⟨hlt, i3⟩
theorem act_sub : ∀ (l : List Rte) (p : Option Pfx), (actGo p l).Sublist l
  | [], p => List.Sublist.refl _
  | y :: l, p => by
    simp only [actGo]
    by_cases c : p = some y.pf
    · rw [if_pos c, List.nil_append]; exact (act_sub l _).cons _
    · rw [if_neg c]; exact (act_sub l _).cons₂ _
theorem act_len (l : List Rte) (p : Option Pfx) : (actGo p l).length ≤ l.length := (act_sub l p).length_le
abbrev ascPf (l : List Rte) : Prop := l.Pairwise fun a b => ltPf a.pf b.pf
theorem active_asc (l : List Rte) : ascPf (activeF l) := by
  unfold activeF
  by_cases h : checkL l ≠ 0
  · rw [if_pos h]; exact List.Pairwise.nil
  · rw [if_neg h]
    exact (act_spec l none ((check_iff l).1 (by simpa using h)).asc (fun q hq => by cases hq)).2.2
/-- valid tables whose prefixes ascend -/
structure ActOk (l : List Rte) : Prop where
  tab : TabOk l
  asc : ascPf l
theorem active_ok (l : List Rte) : ActOk (activeF l) := by
  refine ⟨?_, active_asc l⟩
  unfold activeF
  by_cases h : checkL l ≠ 0
  · rw [if_pos h]
    exact ⟨by simp, by simp, List.Pairwise.nil, List.Pairwise.nil⟩
  · rw [if_neg h]
    have ht := (check_iff l).1 (by simpa using h)
    have hs := act_sub l none
    exact ⟨Nat.le_trans (act_len l none) ht.len, fun x hx => ht.chk x (hs.subset hx), ht.asc.sublist hs, ht.uni.sublist hs⟩
theorem act_all : ∀ (l : List Rte) (p : Option Pfx), ascPf l → (∀ q, p = some q → ∀ x ∈ l, ltPf q x.pf) → actGo p l = l
  | [], p, _, _ => rfl
  | y :: l, p, h, hp => by
    obtain ⟨h1, h2⟩ := List.pairwise_cons.1 h
    simp only [actGo]
    have hc : ¬ p = some y.pf := fun e => (hp _ e y (List.mem_cons_self ..)).irr
    rw [if_neg hc, act_all l (some y.pf) h2 fun q hq x hx => by cases hq; exact h1 x hx]; rfl
theorem ActOk.list {l : List Rte} (h : ActOk l) : listF l = l := by
  have he : activeF l = l := by
    unfold activeF
    rw [if_neg (by simp [(check_iff l).2 h.tab]), act_all l none h.asc fun q hq => by cases hq]
  unfold listF
  rw [he, if_neg (by omega)]
theorem list_ok (l : List Rte) : ActOk (listF l) := by
  unfold listF
  by_cases h : (activeF l).length < l.length
  · rw [if_pos h]
    exact ⟨⟨by simp, by simp, List.Pairwise.nil, List.Pairwise.nil⟩, List.Pairwise.nil⟩
  · rw [if_neg h]
    have he : activeF l = l := by
      unfold activeF at h ⊢
      by_cases hc : checkL l ≠ 0
      · rw [if_pos hc] at h ⊢
        simp at h; simp [h]
      · rw [if_neg hc] at h ⊢
        exact (act_sub l none).eq_of_length_le (by omega)
    rw [← he]; exact active_ok l
end Go.Pl
/- Lists of prefixes, ascending, each once; changes between lists of active routes. No program in sight. -/
namespace Go.Pl
open Go Go.RT
set_option linter.all false
abbrev ascP (l : List Pfx) : Prop := l.Pairwise ltPf
theorem ascP_uniq : ∀ {a b : List Pfx}, ascP a → ascP b → (∀ x, x ∈ a ↔ x ∈ b) → a = b
  | [], [], _, _, _ => rfl
  | [], y :: b, _, _, h => by have := (h y).2 (List.mem_cons_self ..); simp at this
  | x :: a, [], _, _, h => by have := (h x).1 (List.mem_cons_self ..); simp at this
  | x :: a, y :: b, ha, hb, h => by
    obtain ⟨a1, a2⟩ := List.pairwise_cons.1 ha
    obtain ⟨b1, b2⟩ := List.pairwise_cons.1 hb
    have hxy : x = y := by
      rcases List.mem_cons.1 ((h x).1 (List.mem_cons_self ..)) with e | e
      · exact e
      · rcases List.mem_cons.1 ((h y).2 (List.mem_cons_self ..)) with e2 | e2
        · exact e2.symm
        · exact (((b1 x e).trans (a1 y e2)).irr).elim
    subst hxy
    rw [ascP_uniq a2 b2 fun z => ?_]
    constructor
    · intro hz
      rcases List.mem_cons.1 ((h z).1 (List.mem_cons_of_mem _ hz)) with e | e
      · subst e; exact ((a1 z hz).irr).elim
      · exact e
    · intro hz
      rcases List.mem_cons.1 ((h z).2 (List.mem_cons_of_mem _ hz)) with e | e
      · subst e; exact ((b1 z hz).irr).elim
      · exact e
/-- the reference's insertion -/
def insPf (p : Pfx) : Bool → List Pfx → List Pfx
  | d, [] => if d then [] else [p]
  | d, x :: t => (if (decide (cmpP p x ≤ 0) && !d) = true then [p] else []) ++ ((if cmpP p x ≠ 0 then [x] else []) ++ insPf p (d || decide (cmpP p x ≤ 0) && !d) t)
def sortPf (l : List Pfx) : List Pfx := l.foldl (fun o p => insPf p false o) []
theorem insPf_done (p : Pfx) : ∀ {t : List Pfx}, (∀ x ∈ t, ltPf p x) → insPf p true t = t
  | [], _ => rfl
  | x :: t, h => by
    have hx := h x (List.mem_cons_self ..)
    have hn : cmpP p x ≠ 0 := fun e => by have := (cmpP_zero _ _).1 e; subst this; exact hx.irr
    simp only [insPf, Bool.not_true, Bool.and_false, Bool.false_eq_true, if_false, List.nil_append, if_pos hn, Bool.or_false]
    rw [insPf_done p fun y hy => h y (List.mem_cons_of_mem _ hy)]; rfl
theorem insPf_ok (p : Pfx) : ∀ {l : List Pfx}, ascP l → ascP (insPf p false l) ∧ ∀ x, x ∈ insPf p false l ↔ x = p ∨ x ∈ l
  | [], _ => by simp [insPf]
  | y :: l, h => by
    obtain ⟨h1, h2⟩ := List.pairwise_cons.1 h
    obtain ⟨i1, i2⟩ := insPf_ok p h2
    rcases pf_tri p y with k | k | k
    · have hle : cmpP p y ≤ 0 := by have := (cmpP_neg p y).2 k; omega
      have hne : cmpP p y ≠ 0 := by have := (cmpP_neg p y).2 k; omega
      have hd := insPf_done p (t := l) fun x hx => k.trans (h1 x hx)
      have e : insPf p false (y :: l) = p :: y :: l := by
        simp only [insPf, hle, hne, decide_true, Bool.not_false, Bool.and_self, if_true, ne_eq, not_false_iff, Bool.false_or]
        rw [hd]; rfl
      rw [e]
      refine ⟨List.pairwise_cons.2 ⟨fun x hx => ?_, h⟩, fun x => by simp⟩
      rcases List.mem_cons.1 hx with rfl | hx
      · exact k
      · exact k.trans (h1 x hx)
    · subst k
      have h0 : cmpP p p = 0 := (cmpP_zero p p).2 rfl
      have hd := insPf_done p (t := l) h1
      have e : insPf p false (p :: l) = p :: l := by
        simp only [insPf, h0, Int.le_refl, decide_true, Bool.not_false, Bool.and_self, if_true, ne_eq, not_true_eq_false, if_false, Bool.false_or, List.nil_append]
        rw [hd]; rfl
      rw [e]
      exact ⟨h, fun x => by simp⟩
    · have hgt : ¬ cmpP p y ≤ 0 := fun hle => by
        have h3 : ¬ cmpP p y < 0 := fun q => (((cmpP_neg p y).1 q).trans k).irr
        have := (cmpP_zero p y).1 (by omega)
        subst this; exact k.irr
      have hne : cmpP p y ≠ 0 := by omega
      have e : insPf p false (y :: l) = y :: insPf p false l := by
        simp only [insPf, hgt, hne, decide_false, Bool.not_false, Bool.and_true, Bool.false_eq_true, if_false, ne_eq, not_false_iff, if_true, Bool.or_false, List.nil_append]; rfl
      rw [e]
      refine ⟨List.pairwise_cons.2 ⟨fun x hx => ?_, i1⟩, fun x => ?_⟩
      · rcases (i2 x).1 hx with rfl | hx
        · exact k
        · exact h1 x hx
      · rw [List.mem_cons, i2, List.mem_cons]
        constructor
        · rintro (h | h | h)
          · exact .inr (.inl h)
          · exact .inl h
          · exact .inr (.inr h)
        · rintro (h | h | h)
          · exact .inr (.inl h)
          · exact .inl h
          · exact .inr (.inr h)
theorem sortPf_go : ∀ (l o : List Pfx), ascP o → ascP (l.foldl (fun o p => insPf p false o) o) ∧ ∀ x, x ∈ l.foldl (fun o p => insPf p false o) o ↔ x ∈ l ∨ x ∈ o
  | [], o, h => ⟨h, by simp⟩
  | p :: l, o, h => by
    obtain ⟨h1, h2⟩ := insPf_ok p h
    obtain ⟨k1, k2⟩ := sortPf_go l _ h1
    refine ⟨k1, fun x => ?_⟩
    rw [List.foldl_cons, k2, h2, List.mem_cons]
    constructor
    · rintro (h | h | h)
      · exact .inl (.inr h)
      · exact .inl (.inl h)
      · exact .inr h
    · rintro ((h | h) | h)
      · exact .inr (.inl h)
      · exact .inl h
      · exact .inr (.inr h)
theorem sortPf_asc (l : List Pfx) : ascP (sortPf l) := (sortPf_go l [] List.Pairwise.nil).1
theorem sortPf_mem (l : List Pfx) (x : Pfx) : x ∈ sortPf l ↔ x ∈ l := by
  have := (sortPf_go l [] List.Pairwise.nil).2 x
  rw [show sortPf l = l.foldl (fun o p => insPf p false o) [] from rfl, this]; simp
theorem sortPf_uniq {a l : List Pfx} (h1 : ascP a) (h2 : ∀ x, x ∈ a ↔ x ∈ l) : a = sortPf l := ascP_uniq h1 (sortPf_asc l) fun x => (h2 x).trans (sortPf_mem l x).symm
/-- the first route for a prefix -/
theorem findR_iff {l : List Rte} (h : ascPf l) {p : Pfx} {r : Rte} : findR l p = some r ↔ r ∈ l ∧ r.pf = p := by
  have huni : ∀ {x y : Rte}, x ∈ l → y ∈ l → x.pf = y.pf → x = y := by
    intro x y hx hy e
    clear p r
    induction h with
    | nil => simp at hx
    | cons h1 _ ih =>
      rcases List.mem_cons.1 hx with ex | hx' <;> rcases List.mem_cons.1 hy with ey | hy'
      · exact ex.trans ey.symm
      · subst ex; exact ((e ▸ h1 y hy' : ltPf y.pf y.pf).irr).elim
      · subst ey; exact ((e ▸ h1 x hx' : ltPf x.pf x.pf).irr).elim
      · exact ih hx' hy'
  constructor
  · intro hf
    exact ⟨List.mem_of_find?_eq_some hf, by simpa using List.find?_some hf⟩
  · rintro ⟨h1, h2⟩
    cases hf : findR l p with
    | none => have := List.find?_eq_none.1 hf r h1; simp [h2] at this
    | some x =>
      have hx := List.mem_of_find?_eq_some hf
      have hp : x.pf = p := by simpa using List.find?_some hf
      rw [huni hx h1 (hp.trans h2.symm)]
/-- the prefixes whose rows differ -/
def changesF (a b : List Rte) : List Pfx := sortPf (((a ++ b).map (·.pf)).filter (chgP (listF a) (listF b)))
def refChg (a b : List Rte) : List Pfx := ((listF a).filter fun r => decide (findR (listF b) r.pf ≠ some r)).map (·.pf) ++ ((listF b).filter fun r => decide (findR (listF a) r.pf = none)).map (·.pf)
theorem list_sub {l : List Rte} {x : Rte} (h : x ∈ listF l) : x ∈ l := by
  unfold listF at h
  split at h
  · simp at h
  · exact h
theorem find_mem {l : List Rte} {p : Pfx} {r : Rte} (h : findR l p = some r) : r ∈ l ∧ r.pf = p := ⟨List.mem_of_find?_eq_some h, by simpa using List.find?_some h⟩
theorem chg_mem (a b : List Rte) (p : Pfx) : p ∈ changesF a b ↔ findR (listF a) p ≠ findR (listF b) p := by
  unfold changesF
  rw [sortPf_mem, List.mem_filter]
  simp only [chgP, decide_eq_true_eq, List.mem_map, List.mem_append]
  constructor
  · exact fun h => h.2
  · intro h
    refine ⟨?_, h⟩
    cases ha : findR (listF a) p with
    | some r => obtain ⟨k1, k2⟩ := find_mem ha; exact ⟨r, .inl (list_sub k1), k2⟩
    | none =>
      cases hb : findR (listF b) p with
      | some r => obtain ⟨k1, k2⟩ := find_mem hb; exact ⟨r, .inr (list_sub k1), k2⟩
      | none => rw [ha, hb] at h; exact absurd rfl h
theorem chg_ref (a b : List Rte) : sortPf (refChg a b) = changesF a b := by
  refine ascP_uniq (sortPf_asc _) (sortPf_asc _) fun p => ?_
  rw [chg_mem, sortPf_mem]
  unfold refChg
  have hA := (list_ok a).asc
  have hB := (list_ok b).asc
  generalize listF a = A at *
  generalize listF b = B at *
  simp only [List.mem_append, List.mem_map, List.mem_filter, decide_eq_true_eq]
  constructor
  · rintro (⟨r, ⟨h1, h2⟩, rfl⟩ | ⟨r, ⟨h1, h2⟩, rfl⟩)
    · rw [(findR_iff hA).2 ⟨h1, rfl⟩]; exact fun e => h2 e.symm
    · rw [h2, (findR_iff hB).2 ⟨h1, rfl⟩]; exact fun e => by cases e
  · intro h
    cases ha : findR A p with
    | some r =>
      obtain ⟨k1, k2⟩ := find_mem ha
      exact .inl ⟨r, ⟨k1, fun e => h (by rw [ha, ← k2, e])⟩, k2⟩
    | none =>
      cases hb : findR B p with
      | some r => obtain ⟨k1, k2⟩ := find_mem hb; exact .inr ⟨r, ⟨k1, by rw [k2]; exact ha⟩, k2⟩
      | none => rw [ha, hb] at h; exact absurd rfl h
/-- the same in both directions; none exactly between equal lists -/
theorem chg_comm (a b : List Rte) : changesF a b = changesF b a := ascP_uniq (sortPf_asc _) (sortPf_asc _) fun p => by
  rw [chg_mem, chg_mem]; exact ne_comm
theorem chg_nil {a b : List Rte} (ha : ActOk a) (hb : ActOk b) : changesF a b = [] ↔ a = b := by
  constructor
  · intro h
    have hf : ∀ p, findR a p = findR b p := fun p => by
      have := chg_mem a b p
      rw [h, ha.list, hb.list] at this
      simpa using this
    refine asc_uniq ha.tab.asc hb.tab.asc fun x => ?_
    constructor
    · intro hx
      have := (findR_iff ha.asc).2 ⟨hx, rfl⟩
      rw [hf] at this
      exact ((findR_iff hb.asc).1 this).1
    · intro hx
      have := (findR_iff hb.asc).2 ⟨hx, rfl⟩
      rw [← hf] at this
      exact ((findR_iff ha.asc).1 this).1
  · rintro rfl
    apply List.eq_nil_iff_forall_not_mem.2
    intro p hp
    exact (chg_mem a a p).1 hp rfl
end Go.Pl
/- Steps of the loops over hops and routes. No program in sight. -/
namespace Go.Pl
open Go Go.RT
set_option linter.all false
def prvG {α : Type} (l : List α) (i : Nat) : Option α := if i = 0 then none else l[i - 1]?
theorem prvG_succ {α : Type} {l : List α} {i : Nat} (h : i < l.length) : prvG l (i + 1) = some l[i] := by simp [prvG, h]
theorem hops_step {l : List Hop} {i : Nat} (h : i < l.length) : hopsGo (prvG l i) (l.drop i) = if hopE l[i] ≠ 0 then hopE l[i] else if badHo (prvG l i) l[i] = true then 16 else hopsGo (prvG l (i + 1)) (l.drop (i + 1)) := by
  rw [List.drop_eq_getElem_cons h, prvG_succ h]; rfl
theorem prv_row {α : Type} (f : α → List FV) (l : List α) (d : α) {i : Nat} (h : i ≤ l.length) : ∃ q, 0 < i → prvG l i = some q ∧ (l.map f)[i - 1]? = some (f q) := by
  by_cases h0 : 0 < i
  · exact ⟨l[i - 1], fun _ => ⟨by simp [prvG]; omega, by rw [List.getElem?_map, List.getElem?_eq_getElem (by omega)]; rfl⟩⟩
  · exact ⟨d, fun h => absurd h h0⟩
def zHop : Hop := ⟨0, 0, 0, 0, ⟨0, 0⟩⟩
def zRte : Rte := ⟨⟨0, 0⟩, 0, 0, 0, 0, []⟩
theorem take_last {α : Type} (l : List α) {i : Nat} (h : i ≤ l.length) : (l.take i).getLast? = prvG l i := by
  by_cases h0 : i = 0
  · subst h0; simp [prvG]
  · rw [List.getLast?_eq_getElem?, List.length_take, Nat.min_eq_left h]
    simp only [prvG, h0, if_false]
    rw [List.getElem?_take, if_pos (by omega)]
theorem rtchk_step (L : List Rte) {l : List Rte} {i : Nat} (h : i < l.length) : chkGo L (l.take i) (l.drop i) = if checkRt l[i] ≠ 0 then checkRt l[i] else if hasB (l.take i) l[i].pf l[i].pr = true then 7 else if badRt (prvG l i) l[i] = true then 16 else chkGo L (l.take (i + 1)) (l.drop (i + 1)) := by
  rw [List.drop_eq_getElem_cons h, List.take_succ_eq_append_getElem h, ← take_last l (by omega)]; rfl
theorem repl_step (n : Int) {l : List Rte} {i : Nat} (h : i < l.length) : replGo n (l.take i) (l.drop i) = if checkRt l[i] ≠ 0 then checkRt l[i] else if l[i].pr ≠ n then 14 else if ((l.take i).any fun y => decide (y.pf = l[i].pf)) = true then 7 else replGo n (l.take (i + 1)) (l.drop (i + 1)) := by
  rw [List.drop_eq_getElem_cons h, List.take_succ_eq_append_getElem h]; rfl
theorem act_step {l : List Rte} {i : Nat} (h : i < l.length) : actGo ((prvG l i).map (·.pf)) (l.drop i) = (if (prvG l i).map (·.pf) = some l[i].pf then [] else [l[i]]) ++ actGo ((prvG l (i + 1)).map (·.pf)) (l.drop (i + 1)) := by
  rw [List.drop_eq_getElem_cons h, prvG_succ h]; rfl
end Go.Pl
/- Keys that were seen. No program in sight. -/
namespace Go.Pl
open Go Go.RT
set_option linter.all false
def keysM (s : List Rte) : List ((Pfx × Int) × Bool) := s.foldl (fun m x => mput m (x.pf, x.pr) true) []
theorem keysM_take {l : List Rte} {i : Nat} (h : i < l.length) : keysM (l.take (i + 1)) = mput (keysM (l.take i)) (l[i].pf, l[i].pr) true := by
  unfold keysM
  rw [List.take_succ_eq_append_getElem h, List.foldl_append]; rfl
theorem seen_go (p : Pfx) (n : Int) : ∀ (s : List Rte) (m : List ((Pfx × Int) × Bool)), (mget (s.foldl (fun m x => mput m (x.pf, x.pr) true) m) (p, n)).getD false = (hasB s p n || (mget m (p, n)).getD false)
  | [], m => by simp [hasB]
  | x :: s, m => by
    rw [List.foldl_cons, seen_go p n s, mget_mput]
    have hx : hasB (x :: s) p n = ((decide (x.pf = p) && decide (x.pr = n)) || hasB s p n) := rfl
    rw [hx]
    by_cases e : (x.pf, x.pr) = (p, n)
    · rw [if_pos e]; cases e; simp
    · rw [if_neg e]
      have : (decide (x.pf = p) && decide (x.pr = n)) = false := by
        rw [Bool.and_eq_false_iff]
        by_cases h1 : x.pf = p
        · by_cases h2 : x.pr = n
          · exact absurd (by rw [h1, h2]) e
          · exact .inr (by simp [h2])
        · exact .inl (by simp [h1])
      rw [this, Bool.false_or]
theorem keysM_get (s : List Rte) (p : Pfx) (n : Int) : (mget (keysM s) (p, n)).getD false = hasB s p n := by
  unfold keysM
  rw [seen_go]; simp [mget]
theorem keysM_ok : ∀ (s : List Rte) (m : List ((Pfx × Int) × Bool)), (∀ x ∈ s, okRt x) → (m.map (·.1)).Nodup → (∀ p ∈ m, p.1.1.ok ∧ inr .i64 p.1.2) →
    ((s.foldl (fun m x => mput m (x.pf, x.pr) true) m).map (·.1)).Nodup ∧ ∀ p ∈ s.foldl (fun m x => mput m (x.pf, x.pr) true) m, p.1.1.ok ∧ inr .i64 p.1.2
  | [], m, _, h1, h2 => ⟨h1, h2⟩
  | x :: s, m, ho, h1, h2 => by
    rw [List.foldl_cons]
    refine keysM_ok s _ (fun y hy => ho y (List.mem_cons_of_mem _ hy)) (mput_nodup h1) fun p hp => ?_
    rcases mput_keys m _ _ p hp with e | e
    · rw [e]; have := ho x (List.mem_cons_self ..); exact ⟨this.1, this.2.1⟩
    · exact h2 p e
end Go.Pl
namespace Go.Proofs.Ytinddhlmgiahiaa
open Go Go.RT Go.Proofs Go.Pl
set_option linter.all false
set_option maxRecDepth 20000
abbrev ORt (r : Rte) : Option Ob := some (.flat 7 [encRt r])
theorem ckrt_c (r : Rte) (ho : okRt r) (hn : lenOk r.hs.length) : Pure Try.prog 29 [.agg (encRt r)] (If .i64 (checkRt r)) := by
  obtain ⟨op, o1, o2, o3, o4, oh⟩ := ho
  have kv := valid_any r.pf op
  unfold checkRt
  refine Meets.intro Try.func29 rfl (Nat.le_of_ble_eq_true rfl) fun C hC => ?_
  simp only [List.map, argEnv, Nat.reduceAdd]
  refine nK ?_
  refine s_reg rfl ?_
  refine Run.eff (dd := some 1) rfl rfl (op_box_flat rfl (Opd.tmp _ _ rfl) tC rfl) ?_
  refine Run.pure (dd := some 2) rfl rfl (op_assign rfl (Opd.const _)) ?_
  refine Run.nil (FinR.mk ?_)
  refine nK ?_
  refine s_reg rfl ?_
  refine Run.pure (dd := some 6) rfl rfl (op_fld_ptr (by decide) rfl (Opd.tmp _ _ rfl)) ?_
  refine Run.load (dd := some 7) rfl rfl (op_loadn_flat rfl (Opd.tmp _ _ rfl) tH tR tR) ?_
  refine Run.pure (dd := some 8) rfl rfl (op_call_pure (fun _ => kv) rfl (Opd.func _) (Opds.cons _ _ _ _ (Opd.tmp _ _ rfl) Opds.nil)) ?_
  refine Run.pure (dd := some 9) rfl rfl (op_not rfl (Opd.tmp _ _ rfl)) ?_
  refine Run.pure (dd := some 5) rfl rfl (op_assign rfl (Opd.tmp _ _ rfl)) ?_
  refine Run.nil (FinR.mk ?_)
  refine nK ?_
  refine n_cond _ rfl (fun hb => ?_) (fun hb => ?_)
  · rw [if_pos hb]
    refine nK ?_
    refine s_reg rfl ?_
    refine Run.pure (dd := some 2) rfl rfl (op_assign rfl (Opd.const _)) ?_
    refine Run.nil (FinR.mk ?_)
    refine nK ?_
    (first | exact s_o1 hC rfl tV | exact s_o2 hC rfl tV tV | exact s_o3 hC rfl tV tV tV | exact s_o4 hC rfl tV tV tV tV | exact s_out0 hC rfl | exact s_outO hC rfl rfl rfl)
  · rw [if_neg (by rw [hb]; decide)]
    refine nK ?_
    refine s_reg rfl ?_
    refine Run.pure (dd := some 11) rfl rfl (op_fld_ptr (by decide) rfl (Opd.tmp _ _ rfl)) ?_
    refine Run.load (dd := some 12) rfl rfl (op_load1_flat rfl (Opd.tmp _ _ rfl) tH rfl) ?_
    refine Run.pure (dd := some 13) rfl rfl (op_call_pure (fun _ => out_c _ _ _) rfl (Opd.func _) (Opds.cons _ _ _ _ (Opd.tmp _ _ rfl) (Opds.cons _ _ _ _ (Opd.const _) (Opds.cons _ _ _ _ (Opd.const _) Opds.nil)))) ?_
    refine Run.pure (dd := some 10) rfl rfl (op_assign rfl (Opd.tmp _ _ rfl)) ?_
    refine Run.nil (FinR.mk ?_)
    refine nK ?_
    refine n_cond _ rfl (fun hb => ?_) (fun hb => ?_)
    · rw [if_pos hb]
      refine nK ?_
      refine s_reg rfl ?_
      refine Run.pure (dd := some 2) rfl rfl (op_assign rfl (Opd.const _)) ?_
      refine Run.nil (FinR.mk ?_)
      refine nK ?_
      (first | exact s_o1 hC rfl tV | exact s_o2 hC rfl tV tV | exact s_o3 hC rfl tV tV tV | exact s_o4 hC rfl tV tV tV tV | exact s_out0 hC rfl | exact s_outO hC rfl rfl rfl)
    · rw [if_neg (by rw [hb]; decide)]
      refine nK ?_
      refine s_reg rfl ?_
      refine Run.pure (dd := some 15) rfl rfl (op_fld_ptr (by decide) rfl (Opd.tmp _ _ rfl)) ?_
      refine Run.load (dd := some 16) rfl rfl (op_load1_flat rfl (Opd.tmp _ _ rfl) tH rfl) ?_
      refine Run.pure (dd := some 17) rfl rfl (op_call_pure (fun _ => out_c _ _ _) rfl (Opd.func _) (Opds.cons _ _ _ _ (Opd.tmp _ _ rfl) (Opds.cons _ _ _ _ (Opd.const _) (Opds.cons _ _ _ _ (Opd.const _) Opds.nil)))) ?_
      refine Run.pure (dd := some 18) rfl rfl (op_move rfl (Opd.tmp _ _ rfl)) ?_
      refine Run.pureG (dd := some 19) rfl rfl rfl tG (op_fld_ptr (by decide) rfl (Opd.tmp _ _ rfl)) ?_
      refine Run.loadG (dd := some 20) rfl rfl rfl tG (op_load1_flat rfl (Opd.topt _ _ _ rfl tO) tH rfl) ?_
      refine Run.pureG (dd := some 21) rfl rfl rfl tG (op_call_pure (fun _ => out_c _ _ _) rfl (Opd.func _) (Opds.cons _ _ _ _ (Opd.topt _ _ _ rfl tO) (Opds.cons _ _ _ _ (Opd.const _) (Opds.cons _ _ _ _ (Opd.const _) Opds.nil)))) ?_
      refine Run.pure (dd := some 22) rfl rfl (op_pick_or rfl (Opd.tmp _ _ rfl) (Opd.topt _ _ _ rfl tO)) ?_
      refine Run.pure (dd := some 23) rfl rfl (op_move rfl (Opd.tmp _ _ rfl)) ?_
      refine Run.pureG (dd := some 24) rfl rfl rfl tG (op_fld_ptr (by decide) rfl (Opd.tmp _ _ rfl)) ?_
      refine Run.loadG (dd := some 25) rfl rfl rfl tG (op_load1_flat rfl (Opd.topt _ _ _ rfl tO) tH rfl) ?_
      refine Run.pureG (dd := some 26) rfl rfl rfl tG (op_call_pure (fun _ => out_c _ _ _) rfl (Opd.func _) (Opds.cons _ _ _ _ (Opd.topt _ _ _ rfl tO) (Opds.cons _ _ _ _ (Opd.const _) (Opds.cons _ _ _ _ (Opd.const _) Opds.nil)))) ?_
      refine Run.pure (dd := some 27) rfl rfl (op_pick_or rfl (Opd.tmp _ _ rfl) (Opd.topt _ _ _ rfl tO)) ?_
      refine Run.pure (dd := some 14) rfl rfl (op_assign rfl (Opd.tmp _ _ rfl)) ?_
      refine Run.nil (FinR.mk ?_)
      refine nK ?_
      refine n_cond _ rfl (fun hb => ?_) (fun hb => ?_)
      · rw [if_pos hb]
        refine nK ?_
        refine s_reg rfl ?_
        refine Run.pure (dd := some 2) rfl rfl (op_assign rfl (Opd.const _)) ?_
        refine Run.nil (FinR.mk ?_)
        refine nK ?_
        (first | exact s_o1 hC rfl tV | exact s_o2 hC rfl tV tV | exact s_o3 hC rfl tV tV tV | exact s_o4 hC rfl tV tV tV tV | exact s_out0 hC rfl | exact s_outO hC rfl rfl rfl)
      · rw [if_neg (by rw [hb]; decide)]
        refine nK ?_
        refine s_reg rfl ?_
        refine Run.pure (dd := some 29) rfl rfl (op_fld_ptr (by decide) rfl (Opd.tmp _ _ rfl)) ?_
        refine Run.load (dd := some 30) rfl rfl (op_load1_flat rfl (Opd.tmp _ _ rfl) tH rfl) ?_
        refine Run.pure (dd := some 31) rfl rfl (op_len_fz rfl (by first | exact Opd.tmp _ _ rfl | exact Opd.nil _ _ (Opd.tmp _ _ rfl)) (by first | exact List.length_map _ | rfl)) ?_
        refine Run.pure (dd := some 32) rfl rfl (op_gtr rfl (Opd.tmp _ _ rfl) (Opd.const _)) ?_
        refine Run.pure (dd := some 28) rfl rfl (op_assign rfl (Opd.tmp _ _ rfl)) ?_
        refine Run.nil (FinR.mk ?_)
        refine nK ?_
        refine n_cond _ rfl (fun hb => ?_) (fun hb => ?_)
        · rw [if_pos (by simp at hb; omega)]
          refine nK ?_
          refine s_reg rfl ?_
          refine Run.pure (dd := some 2) rfl rfl (op_assign rfl (Opd.const _)) ?_
          refine Run.nil (FinR.mk ?_)
          refine nK ?_
          (first | exact s_o1 hC rfl tV | exact s_o2 hC rfl tV tV | exact s_o3 hC rfl tV tV tV | exact s_o4 hC rfl tV tV tV tV | exact s_out0 hC rfl | exact s_outO hC rfl rfl rfl)
        · have hlen : r.hs.length ≤ 64 := by simp at hb; omega
          rw [if_neg (by omega)]
          refine nK ?_
          refine s_reg rfl ?_
          refine Run.pure (dd := some 33) rfl rfl (op_fld_ptr (by decide) rfl (Opd.tmp _ _ rfl)) ?_
          refine Run.load (dd := some 34) rfl rfl (op_load1_flat rfl (Opd.tmp _ _ rfl) tH rfl) ?_
          refine Run.pure (dd := some 35) rfl rfl (op_len_fz rfl (by first | exact Opd.tmp _ _ rfl | exact Opd.nil _ _ (Opd.tmp _ _ rfl)) (by first | exact List.length_map _ | rfl)) ?_
          refine Run.pure (dd := some 36) rfl rfl (op_move rfl (Opd.const _)) ?_
          refine Run.nil (FinR.mk ?_)
          refine nK ?_
          refine n_loop (ι := Nat) (fun i => ([(1, .ptr 0 7 0 0), (34, .fz (VHo r.hs)), (35, IV .i64 r.hs.length), (36, IV .i64 i)], [(0, ORt r)], 1)) (fun i => i ≤ r.hs.length ∧ hopsGo (prvG r.hs i) (r.hs.drop i) = hopsGo none r.hs) (fun i => r.hs.length - i) 0 ⟨Nat.zero_le _, rfl⟩ ?_ ?_
          · refine Next.weakS [1] [] (by rfl) (by first | exact keeps0 hC _ | exact keepsN hC _ rfl) (by repeat (first | exact trivial | refine ⟨⟨_, rfl, .inl ⟨rfl, rfl⟩⟩, ?_⟩ | refine ⟨⟨_, rfl, .inl ⟨slEq rfl tN, rfl⟩⟩, ?_⟩ | refine ⟨⟨_, rfl, .inl ⟨ivEq tX, rfl⟩⟩, ?_⟩)) (by repeat (first | exact trivial | refine ⟨ent_same rfl rfl rfl tL, ?_⟩ | refine ⟨ent_same rfl rfl (rfEq rfl tU) tL, ?_⟩ | refine ⟨ent_same rfl rfl (flEq rfl (by first | (simp; done) | (simp; omega) | (simp [encHo, encRt, encP]; done) | simp [maxC, minC])) trivial, ?_⟩)) rfl (rel_intro)
          · intro i ⟨hi, ho⟩ K hK
            refine nK ?_
            refine s_reg rfl ?_
            refine Run.pure (dd := some 37) rfl rfl (op_lss rfl (Opd.tmp _ _ rfl) (Opd.tmp _ _ rfl)) ?_
            refine Run.nil (FinR.mk ?_)
            refine nK ?_
            refine n_cond _ rfl (fun hb => ?_) (fun hb => ?_)
            · have hlt : i < r.hs.length := by simp at hb; omega
              have hr1 := row_at' encHo r.hs i hlt
              rw [hops_step hlt] at ho
              have hK1 := fun h => hK (i + 1) ⟨by omega, h⟩ (by omega)
              have okh := oh _ (List.getElem_mem hlt)
              obtain ⟨q, hq⟩ := prv_row encHo r.hs zHop (by omega : i ≤ r.hs.length)
              generalize r.hs[i] = h at *
              have kw := valid_any h.via okh.2.2.2.2
              have hE : hopE h = if (outB h.ifc (-1) 15 || outB h.we 1 255) = true then 5 else if (!validB h.via) = true then 1 else 0 := rfl
              refine nK ?_
              refine s_reg rfl ?_
              refine Run.pure (dd := some 38) rfl rfl (op_move rfl (Opd.tmp _ _ rfl)) ?_
              refine Run.pure (dd := some 39) rfl rfl (op_idx_fz _ rfl (Opd.tmp _ _ rfl) (Opd.tmp _ _ rfl) tF) ?_
              refine Run.pure (dd := some 40) rfl rfl (op_loadw_fz rfl (Opd.tmp _ _ rfl) rfl) ?_
              refine Run.eff (dd := some 4) rfl rfl (op_alloc rfl rfl rfl rfl) ?_
              refine Run.pure (dd := some 3) rfl rfl (op_assign rfl (Opd.tmp _ _ rfl)) ?_
              refine Run.eff (dd := none) rfl rfl (op_store_flat rfl (Opd.tmp _ _ rfl) (Opd.tmp _ _ rfl) tC rfl rfl (by first | rfl | assumption) tS) ?_
              refine Run.nil (FinR.mk ?_)
              refine nK ?_
              refine s_reg rfl ?_
              refine Run.pure (dd := some 41) rfl rfl (op_fld_ptr (by decide) rfl (Opd.tmp _ _ rfl)) ?_
              refine Run.load (dd := some 42) rfl rfl (op_load1_flat rfl (Opd.tmp _ _ rfl) tH rfl) ?_
              refine Run.pure (dd := some 43) rfl rfl (op_call_pure (fun _ => out_c _ _ _) rfl (Opd.func _) (Opds.cons _ _ _ _ (Opd.tmp _ _ rfl) (Opds.cons _ _ _ _ (Opd.const _) (Opds.cons _ _ _ _ (Opd.const _) Opds.nil)))) ?_
              refine Run.pure (dd := some 44) rfl rfl (op_move rfl (Opd.tmp _ _ rfl)) ?_
              refine Run.pureG (dd := some 45) rfl rfl rfl tG (op_fld_ptr (by decide) rfl (Opd.tmp _ _ rfl)) ?_
              refine Run.loadG (dd := some 46) rfl rfl rfl tG (op_load1_flat rfl (Opd.topt _ _ _ rfl tO) tH rfl) ?_
              refine Run.pureG (dd := some 47) rfl rfl rfl tG (op_call_pure (fun _ => out_c _ _ _) rfl (Opd.func _) (Opds.cons _ _ _ _ (Opd.topt _ _ _ rfl tO) (Opds.cons _ _ _ _ (Opd.const _) (Opds.cons _ _ _ _ (Opd.const _) Opds.nil)))) ?_
              refine Run.pure (dd := some 48) rfl rfl (op_pick_or rfl (Opd.tmp _ _ rfl) (Opd.topt _ _ _ rfl tO)) ?_
              refine Run.nil (FinR.mk ?_)
              refine nK ?_
              refine n_cond _ rfl (fun hb => ?_) (fun hb => ?_)
              · rw [if_pos hb] at hE
                rw [hE, if_pos (by decide)] at ho
                rw [← ho]
                refine nK ?_
                refine s_reg rfl ?_
                refine Run.pure (dd := some 2) rfl rfl (op_assign rfl (Opd.const _)) ?_
                refine Run.nil (FinR.mk ?_)
                refine nK ?_
                (first | exact s_o1 hC rfl tV | exact s_o2 hC rfl tV tV | exact s_o3 hC rfl tV tV tV | exact s_o4 hC rfl tV tV tV tV | exact s_out0 hC rfl | exact s_outO hC rfl rfl rfl)
              · rw [if_neg (by rw [hb]; decide)] at hE
                refine nK ?_
                refine s_reg rfl ?_
                refine Run.pure (dd := some 49) rfl rfl (op_fld_ptr (by decide) rfl (Opd.tmp _ _ rfl)) ?_
                refine Run.load (dd := some 50) rfl rfl (op_loadn_flat rfl (Opd.tmp _ _ rfl) tH tR tR) ?_
                refine Run.pure (dd := some 51) rfl rfl (op_call_pure (fun _ => kw) rfl (Opd.func _) (Opds.cons _ _ _ _ (Opd.tmp _ _ rfl) Opds.nil)) ?_
                refine Run.pure (dd := some 52) rfl rfl (op_not rfl (Opd.tmp _ _ rfl)) ?_
                refine Run.nil (FinR.mk ?_)
                refine nK ?_
                refine n_cond _ rfl (fun hb => ?_) (fun hb => ?_)
                · rw [if_pos hb] at hE
                  rw [hE, if_pos (by decide)] at ho
                  rw [← ho]
                  refine nK ?_
                  refine s_reg rfl ?_
                  refine Run.pure (dd := some 2) rfl rfl (op_assign rfl (Opd.const _)) ?_
                  refine Run.nil (FinR.mk ?_)
                  refine nK ?_
                  (first | exact s_o1 hC rfl tV | exact s_o2 hC rfl tV tV | exact s_o3 hC rfl tV tV tV | exact s_o4 hC rfl tV tV tV tV | exact s_out0 hC rfl | exact s_outO hC rfl rfl rfl)
                · rw [if_neg (by rw [hb]; decide)] at hE
                  rw [if_neg (by rw [hE]; decide)] at ho
                  refine nK ?_
                  refine s_draw mixed ?_
                  refine Run.pure (dd := some 53) rfl rfl (op_move rfl (Opd.tmp _ _ rfl)) ?_
                  refine Run.pure (dd := some 54) rfl rfl (op_gtr rfl (Opd.tmp _ _ rfl) (Opd.const _)) ?_
                  refine Run.pure (dd := some 55) rfl rfl (op_move rfl (Opd.tmp _ _ rfl)) ?_
                  refine Run.pureG (dd := some 56) rfl rfl rfl tG (op_fld_ptr (by decide) rfl (Opd.tmp _ _ rfl)) ?_
                  refine Run.loadG (dd := some 57) rfl rfl rfl tG (op_load1_flat rfl (Opd.topt _ _ _ rfl tO) tH rfl) ?_
                  refine Run.pureG (dd := some 58) rfl rfl rfl tG (op_move rfl (Opd.tmp _ _ rfl)) ?_
                  refine Run.pureG (dd := some 59) rfl rfl rfl tG (op_sub rfl (Opd.topt _ _ _ rfl tO) (Opd.const _) tI) ?_
                  refine Run.pureG (dd := some 60) rfl rfl rfl tG (op_idx_fz (i - 1) rfl (Opd.topt _ _ _ rfl tO) (Opd.topt _ _ _ rfl tO) (by intro hg; have h0 : 0 < i := (by simp at hg; omega); exact ⟨by omega, (hq h0).2⟩)) ?_
                  refine Run.pureG (dd := some 61) rfl rfl rfl tG (op_loadw_fz rfl (Opd.topt _ _ _ rfl tO) rfl) ?_
                  refine Run.loadG (dd := some 62) rfl rfl rfl tG (op_loadw_flat rfl (Opd.tmp _ _ rfl) tH rfl) ?_
                  refine Run.pureG (dd := some 63) rfl rfl rfl tG (op_call_pure (fun _ => chops_c q h) rfl (Opd.func _) (Opds.cons _ _ _ _ (Opd.topt _ _ _ rfl tO) (Opds.cons _ _ _ _ (Opd.topt _ _ _ rfl tO) Opds.nil))) ?_
                  refine Run.pureG (dd := some 64) rfl rfl rfl tG (op_geq rfl (Opd.topt _ _ _ rfl tO) (Opd.const _)) ?_
                  refine Run.pure (dd := some 65) rfl rfl (op_pick_and rfl (Opd.tmp _ _ rfl) (Opd.topt _ _ _ rfl tO)) ?_
                  refine Run.nil (FinD.mk (by kernel_rfl) ?_)
                  refine nK ?_
                  refine n_cond _ rfl (fun hb => ?_) (fun hb => ?_)
                  · have h0 : 0 < i := by simp at hb; omega
                    rw [(hq h0).1, if_pos (by simp at hb; simpa [badHo] using hb.2)] at ho
                    rw [← ho]
                    refine nK ?_
                    refine s_reg rfl ?_
                    refine Run.pure (dd := some 2) rfl rfl (op_assign rfl (Opd.const _)) ?_
                    refine Run.nil (FinR.mk ?_)
                    refine nK ?_
                    (first | exact s_o1 hC rfl tV | exact s_o2 hC rfl tV tV | exact s_o3 hC rfl tV tV tV | exact s_o4 hC rfl tV tV tV tV | exact s_out0 hC rfl | exact s_outO hC rfl rfl rfl)
                  · have hc : ¬ badHo (prvG r.hs i) h = true := by
                      by_cases h0 : 0 < i
                      · rw [(hq h0).1]; simp [h0, badHo] at hb ⊢; exact hb
                      · have : i = 0 := by omega
                        subst this; simp [prvG, badHo]
                    rw [if_neg hc] at ho
                    refine nK ?_
                    refine s_reg rfl ?_
                    refine Run.pure (dd := some 66) rfl rfl (op_add rfl (Opd.tmp _ _ rfl) (Opd.const _) tI) ?_
                    refine Run.pure (dd := some 36) rfl rfl (op_move rfl (Opd.tmp _ _ rfl)) ?_
                    refine Run.nil (FinR.mk ?_)
                    refine nK ?_
                    refine Next.weakS [1] [] (by rfl) (by first | exact keeps0 hC _ | exact keepsN hC _ rfl) (by repeat (first | exact trivial | refine ⟨⟨_, rfl, .inl ⟨rfl, rfl⟩⟩, ?_⟩ | refine ⟨⟨_, rfl, .inl ⟨slEq rfl tN, rfl⟩⟩, ?_⟩ | refine ⟨⟨_, rfl, .inl ⟨ivEq tX, rfl⟩⟩, ?_⟩)) (by repeat (first | exact trivial | refine ⟨ent_same rfl rfl rfl tL, ?_⟩ | refine ⟨ent_same rfl rfl (rfEq rfl tU) tL, ?_⟩ | refine ⟨ent_same rfl rfl (flEq rfl (by first | (simp; done) | (simp; omega) | (simp [encHo, encRt, encP]; done) | simp [maxC, minC])) trivial, ?_⟩)) rfl ((hK1 ho))
            · have hie : i = r.hs.length := by simp at hb; omega
              rw [hie, List.drop_length] at ho
              rw [← ho]
              simp only [hopsGo]
              refine nK ?_
              refine s_reg rfl ?_
              refine Run.pure (dd := some 2) rfl rfl (op_assign rfl (Opd.const _)) ?_
              refine Run.nil (FinR.mk ?_)
              refine nK ?_
              (first | exact s_o1 hC rfl tV | exact s_o2 hC rfl tV tV | exact s_o3 hC rfl tV tV tV | exact s_o4 hC rfl tV tV tV tV | exact s_out0 hC rfl | exact s_outO hC rfl rfl rfl)
open Go Go.RT Go.Proofs Go.Pl
set_option maxRecDepth 20000
theorem less_c (a b : Hop) : Pure Try.prog 73 [.agg (encHo a), .agg (encHo b)] (Bf (decide (cmpHo a b < 0))) := by
  refine Meets.intro Try.func73 rfl (Nat.le_of_ble_eq_true rfl) fun C hC => ?_
  simp only [List.map, argEnv, Nat.reduceAdd]
  refine nK ?_
  refine s_reg rfl ?_
  refine Run.eff (dd := some 2) rfl rfl (op_box_flat rfl (Opd.tmp _ _ rfl) tC rfl) ?_
  refine Run.eff (dd := some 3) rfl rfl (op_box_flat rfl (Opd.tmp _ _ rfl) tC rfl) ?_
  refine Run.pure (dd := some 4) rfl rfl (op_assign rfl (Opd.const _)) ?_
  refine Run.nil (FinR.mk ?_)
  refine nK ?_
  refine s_reg rfl ?_
  refine Run.pure (dd := some 5) rfl rfl (op_fld_ptr (by decide) rfl (Opd.tmp _ _ rfl)) ?_
  refine Run.load (dd := some 6) rfl rfl (op_load1_flat rfl (Opd.tmp _ _ rfl) tH rfl) ?_
  refine Run.pure (dd := some 7) rfl rfl (op_fld_ptr (by decide) rfl (Opd.tmp _ _ rfl)) ?_
  refine Run.load (dd := some 8) rfl rfl (op_load1_flat rfl (Opd.tmp _ _ rfl) tH rfl) ?_
  refine Run.pure (dd := some 9) rfl rfl (op_neq rfl (Opd.tmp _ _ rfl) (Opd.tmp _ _ rfl)) ?_
  refine Run.nil (FinR.mk ?_)
  refine nK ?_
  refine n_cond _ rfl (fun hb => ?_) (fun hb => ?_)
  · have e : decide (cmpHo a b < 0) = decide (a.ad < b.ad) := decide_eq_decide.2 (by rw [cmpHo_neg]; unfold ltHo; simp at hb; omega)
    rw [e]
    refine nK ?_
    refine s_reg rfl ?_
    refine Run.pure (dd := some 10) rfl rfl (op_fld_ptr (by decide) rfl (Opd.tmp _ _ rfl)) ?_
    refine Run.load (dd := some 11) rfl rfl (op_load1_flat rfl (Opd.tmp _ _ rfl) tH rfl) ?_
    refine Run.pure (dd := some 12) rfl rfl (op_fld_ptr (by decide) rfl (Opd.tmp _ _ rfl)) ?_
    refine Run.load (dd := some 13) rfl rfl (op_load1_flat rfl (Opd.tmp _ _ rfl) tH rfl) ?_
    refine Run.pure (dd := some 14) rfl rfl (op_lss rfl (Opd.tmp _ _ rfl) (Opd.tmp _ _ rfl)) ?_
    refine Run.pure (dd := some 4) rfl rfl (op_assign rfl (Opd.tmp _ _ rfl)) ?_
    refine Run.nil (FinR.mk ?_)
    refine nK ?_
    (first | exact s_o1 hC rfl tV | exact s_o2 hC rfl tV tV | exact s_o3 hC rfl tV tV tV | exact s_o4 hC rfl tV tV tV tV | exact s_out0 hC rfl | exact s_outO hC rfl rfl rfl)
  · have hb0 := hb
    refine nK ?_
    refine s_reg rfl ?_
    refine Run.pure (dd := some 15) rfl rfl (op_fld_ptr (by decide) rfl (Opd.tmp _ _ rfl)) ?_
    refine Run.load (dd := some 16) rfl rfl (op_load1_flat rfl (Opd.tmp _ _ rfl) tH rfl) ?_
    refine Run.pure (dd := some 17) rfl rfl (op_fld_ptr (by decide) rfl (Opd.tmp _ _ rfl)) ?_
    refine Run.load (dd := some 18) rfl rfl (op_load1_flat rfl (Opd.tmp _ _ rfl) tH rfl) ?_
    refine Run.pure (dd := some 19) rfl rfl (op_neq rfl (Opd.tmp _ _ rfl) (Opd.tmp _ _ rfl)) ?_
    refine Run.nil (FinR.mk ?_)
    refine nK ?_
    refine n_cond _ rfl (fun hb => ?_) (fun hb => ?_)
    · have e : decide (cmpHo a b < 0) = decide (a.ifc < b.ifc) := decide_eq_decide.2 (by rw [cmpHo_neg]; unfold ltHo; simp at hb hb0; omega)
      rw [e]
      refine nK ?_
      refine s_reg rfl ?_
      refine Run.pure (dd := some 20) rfl rfl (op_fld_ptr (by decide) rfl (Opd.tmp _ _ rfl)) ?_
      refine Run.load (dd := some 21) rfl rfl (op_load1_flat rfl (Opd.tmp _ _ rfl) tH rfl) ?_
      refine Run.pure (dd := some 22) rfl rfl (op_fld_ptr (by decide) rfl (Opd.tmp _ _ rfl)) ?_
      refine Run.load (dd := some 23) rfl rfl (op_load1_flat rfl (Opd.tmp _ _ rfl) tH rfl) ?_
      refine Run.pure (dd := some 24) rfl rfl (op_lss rfl (Opd.tmp _ _ rfl) (Opd.tmp _ _ rfl)) ?_
      refine Run.pure (dd := some 4) rfl rfl (op_assign rfl (Opd.tmp _ _ rfl)) ?_
      refine Run.nil (FinR.mk ?_)
      refine nK ?_
      (first | exact s_o1 hC rfl tV | exact s_o2 hC rfl tV tV | exact s_o3 hC rfl tV tV tV | exact s_o4 hC rfl tV tV tV tV | exact s_out0 hC rfl | exact s_outO hC rfl rfl rfl)
    · have e : decide (cmpHo a b < 0) = decide (a.ro < b.ro) := decide_eq_decide.2 (by rw [cmpHo_neg]; unfold ltHo; simp at hb hb0; omega)
      rw [e]
      refine nK ?_
      refine s_reg rfl ?_
      refine Run.pure (dd := some 25) rfl rfl (op_fld_ptr (by decide) rfl (Opd.tmp _ _ rfl)) ?_
      refine Run.load (dd := some 26) rfl rfl (op_load1_flat rfl (Opd.tmp _ _ rfl) tH rfl) ?_
      refine Run.pure (dd := some 27) rfl rfl (op_fld_ptr (by decide) rfl (Opd.tmp _ _ rfl)) ?_
      refine Run.load (dd := some 28) rfl rfl (op_load1_flat rfl (Opd.tmp _ _ rfl) tH rfl) ?_
      refine Run.pure (dd := some 29) rfl rfl (op_lss rfl (Opd.tmp _ _ rfl) (Opd.tmp _ _ rfl)) ?_
      refine Run.pure (dd := some 4) rfl rfl (op_assign rfl (Opd.tmp _ _ rfl)) ?_
      refine Run.nil (FinR.mk ?_)
      refine nK ?_
      (first | exact s_o1 hC rfl tV | exact s_o2 hC rfl tV tV | exact s_o3 hC rfl tV tV tV | exact s_o4 hC rfl tV tV tV tV | exact s_out0 hC rfl | exact s_outO hC rfl rfl rfl)
theorem before_c (a b : Rte) : Pure Try.prog 33 [.agg (encRt a), .agg (encRt b)] (Bf (decide (cmpRt a b < 0))) := by
  have k := rcmp_c a.pf b.pf
  have hc : decide (cmpRt a b < 0) = if cmpP a.pf b.pf ≠ 0 then decide (cmpP a.pf b.pf < 0) else if a.di ≠ b.di then decide (a.di < b.di) else decide (a.pr < b.pr) := by
    by_cases h : cmpP a.pf b.pf ≠ 0
    · rw [if_pos h]
      have hne : a.pf ≠ b.pf := fun e => h ((cmpP_zero _ _).2 e)
      exact decide_eq_decide.2 (by rw [cmpRt_neg, cmpP_neg]; unfold ltRt; simp [hne])
    · rw [if_neg h]
      have he : a.pf = b.pf := (cmpP_zero _ _).1 (by simpa using h)
      have hni : ¬ ltPf a.pf b.pf := by rw [he]; exact fun k => k.irr
      by_cases h2 : a.di ≠ b.di
      · rw [if_pos h2]; exact decide_eq_decide.2 (by
          rw [cmpRt_neg]; unfold ltRt
          refine ⟨fun h => ?_, fun h => .inr ⟨he, by omega⟩⟩
          rcases h with h | ⟨_, h⟩
          · exact (hni h).elim
          · omega)
      · rw [if_neg h2]; exact decide_eq_decide.2 (by
          rw [cmpRt_neg]; unfold ltRt
          refine ⟨fun h => ?_, fun h => .inr ⟨he, by omega⟩⟩
          rcases h with h | ⟨_, h⟩
          · exact (hni h).elim
          · omega)
  rw [hc]
  generalize cmpP a.pf b.pf = c at *
  refine Meets.intro Try.func33 rfl (Nat.le_of_ble_eq_true rfl) fun C hC => ?_
  simp only [List.map, argEnv, Nat.reduceAdd]
  refine nK ?_
  refine s_reg rfl ?_
  refine Run.eff (dd := some 2) rfl rfl (op_box_flat rfl (Opd.tmp _ _ rfl) tC rfl) ?_
  refine Run.eff (dd := some 3) rfl rfl (op_box_flat rfl (Opd.tmp _ _ rfl) tC rfl) ?_
  refine Run.pure (dd := some 4) rfl rfl (op_assign rfl (Opd.const _)) ?_
  refine Run.nil (FinR.mk ?_)
  refine nK ?_
  refine s_reg rfl ?_
  refine Run.pure (dd := some 6) rfl rfl (op_fld_ptr (by decide) rfl (Opd.tmp _ _ rfl)) ?_
  refine Run.load (dd := some 7) rfl rfl (op_loadn_flat rfl (Opd.tmp _ _ rfl) tH tR tR) ?_
  refine Run.pure (dd := some 8) rfl rfl (op_fld_ptr (by decide) rfl (Opd.tmp _ _ rfl)) ?_
  refine Run.load (dd := some 9) rfl rfl (op_loadn_flat rfl (Opd.tmp _ _ rfl) tH tR tR) ?_
  refine Run.pure (dd := some 10) rfl rfl (op_call_pure (fun _ => k) rfl (Opd.func _) (Opds.cons _ _ _ _ (Opd.tmp _ _ rfl) (Opds.cons _ _ _ _ (Opd.tmp _ _ rfl) Opds.nil))) ?_
  refine Run.pure (dd := some 5) rfl rfl (op_assign rfl (Opd.tmp _ _ rfl)) ?_
  refine Run.nil (FinR.mk ?_)
  refine nK ?_
  refine s_reg rfl ?_
  refine Run.pure (dd := some 11) rfl rfl (op_move rfl (Opd.tmp _ _ rfl)) ?_
  refine Run.pure (dd := some 12) rfl rfl (op_neq rfl (Opd.tmp _ _ rfl) (Opd.const _)) ?_
  refine Run.nil (FinR.mk ?_)
  refine nK ?_
  refine n_cond _ rfl (fun hb => ?_) (fun hb => ?_)
  · rw [if_pos (by simpa using hb)]
    refine nK ?_
    refine s_reg rfl ?_
    refine Run.pure (dd := some 13) rfl rfl (op_move rfl (Opd.tmp _ _ rfl)) ?_
    refine Run.pure (dd := some 14) rfl rfl (op_lss rfl (Opd.tmp _ _ rfl) (Opd.const _)) ?_
    refine Run.pure (dd := some 4) rfl rfl (op_assign rfl (Opd.tmp _ _ rfl)) ?_
    refine Run.nil (FinR.mk ?_)
    refine nK ?_
    (first | exact s_o1 hC rfl tV | exact s_o2 hC rfl tV tV | exact s_o3 hC rfl tV tV tV | exact s_o4 hC rfl tV tV tV tV | exact s_out0 hC rfl | exact s_outO hC rfl rfl rfl)
  · rw [if_neg (by simpa using hb)]
    refine nK ?_
    refine s_reg rfl ?_
    refine Run.pure (dd := some 15) rfl rfl (op_fld_ptr (by decide) rfl (Opd.tmp _ _ rfl)) ?_
    refine Run.load (dd := some 16) rfl rfl (op_load1_flat rfl (Opd.tmp _ _ rfl) tH rfl) ?_
    refine Run.pure (dd := some 17) rfl rfl (op_fld_ptr (by decide) rfl (Opd.tmp _ _ rfl)) ?_
    refine Run.load (dd := some 18) rfl rfl (op_load1_flat rfl (Opd.tmp _ _ rfl) tH rfl) ?_
    refine Run.pure (dd := some 19) rfl rfl (op_neq rfl (Opd.tmp _ _ rfl) (Opd.tmp _ _ rfl)) ?_
    refine Run.nil (FinR.mk ?_)
    refine nK ?_
    refine n_cond _ rfl (fun hb => ?_) (fun hb => ?_)
    · rw [if_pos (by simpa using hb)]
      refine nK ?_
      refine s_reg rfl ?_
      refine Run.pure (dd := some 20) rfl rfl (op_fld_ptr (by decide) rfl (Opd.tmp _ _ rfl)) ?_
      refine Run.load (dd := some 21) rfl rfl (op_load1_flat rfl (Opd.tmp _ _ rfl) tH rfl) ?_
      refine Run.pure (dd := some 22) rfl rfl (op_fld_ptr (by decide) rfl (Opd.tmp _ _ rfl)) ?_
      refine Run.load (dd := some 23) rfl rfl (op_load1_flat rfl (Opd.tmp _ _ rfl) tH rfl) ?_
      refine Run.pure (dd := some 24) rfl rfl (op_lss rfl (Opd.tmp _ _ rfl) (Opd.tmp _ _ rfl)) ?_
      refine Run.pure (dd := some 4) rfl rfl (op_assign rfl (Opd.tmp _ _ rfl)) ?_
      refine Run.nil (FinR.mk ?_)
      refine nK ?_
      (first | exact s_o1 hC rfl tV | exact s_o2 hC rfl tV tV | exact s_o3 hC rfl tV tV tV | exact s_o4 hC rfl tV tV tV tV | exact s_out0 hC rfl | exact s_outO hC rfl rfl rfl)
    · rw [if_neg (by simpa using hb)]
      refine nK ?_
      refine s_reg rfl ?_
      refine Run.pure (dd := some 25) rfl rfl (op_fld_ptr (by decide) rfl (Opd.tmp _ _ rfl)) ?_
      refine Run.load (dd := some 26) rfl rfl (op_load1_flat rfl (Opd.tmp _ _ rfl) tH rfl) ?_
      refine Run.pure (dd := some 27) rfl rfl (op_fld_ptr (by decide) rfl (Opd.tmp _ _ rfl)) ?_
      refine Run.load (dd := some 28) rfl rfl (op_load1_flat rfl (Opd.tmp _ _ rfl) tH rfl) ?_
      refine Run.pure (dd := some 29) rfl rfl (op_lss rfl (Opd.tmp _ _ rfl) (Opd.tmp _ _ rfl)) ?_
      refine Run.pure (dd := some 4) rfl rfl (op_assign rfl (Opd.tmp _ _ rfl)) ?_
      refine Run.nil (FinR.mk ?_)
      refine nK ?_
      (first | exact s_o1 hC rfl tV | exact s_o2 hC rfl tV tV | exact s_o3 hC rfl tV tV tV | exact s_o4 hC rfl tV tV tV tV | exact s_out0 hC rfl | exact s_outO hC rfl rfl rfl)
theorem rhops_c (l : List Hop) (oh : ∀ h ∈ l, okHo h) (hn : lenOk l.length) : Pure Try.prog 58 [VHo l] (If .i64 (if 64 < l.length then 4 else hopsGo none l)) := by
  refine Meets.intro Try.func58 rfl (Nat.le_of_ble_eq_true rfl) fun C hC => ?_
  simp only [List.map, argEnv, Nat.reduceAdd]
  refine nK ?_
  refine s_reg rfl ?_
  refine Run.pure (dd := some 2) rfl rfl (op_assign rfl (Opd.const _)) ?_
  refine Run.nil (FinR.mk ?_)
  refine nK ?_
  refine s_reg rfl ?_
  refine Run.pure (dd := some 5) rfl rfl (op_move rfl (Opd.tmp _ _ rfl)) ?_
  refine Run.pure (dd := some 6) rfl rfl (op_len_fz rfl (by first | exact Opd.tmp _ _ rfl | exact Opd.nil _ _ (Opd.tmp _ _ rfl)) (by first | exact List.length_map _ | rfl)) ?_
  refine Run.pure (dd := some 7) rfl rfl (op_gtr rfl (Opd.tmp _ _ rfl) (Opd.const _)) ?_
  refine Run.nil (FinR.mk ?_)
  refine nK ?_
  refine n_cond _ rfl (fun hb => ?_) (fun hb => ?_)
  · rw [if_pos (by simp at hb; omega)]
    refine nK ?_
    refine s_reg rfl ?_
    refine Run.pure (dd := some 2) rfl rfl (op_assign rfl (Opd.const _)) ?_
    refine Run.nil (FinR.mk ?_)
    refine nK ?_
    (first | exact s_o1 hC rfl tV | exact s_o2 hC rfl tV tV | exact s_o3 hC rfl tV tV tV | exact s_o4 hC rfl tV tV tV tV | exact s_out0 hC rfl | exact s_outO hC rfl rfl rfl)
  · have hlen : l.length ≤ 64 := by simp at hb; omega
    rw [if_neg (by omega)]
    refine nK ?_
    refine s_reg rfl ?_
    refine Run.pure (dd := some 8) rfl rfl (op_move rfl (Opd.tmp _ _ rfl)) ?_
    refine Run.pure (dd := some 9) rfl rfl (op_len_fz rfl (by first | exact Opd.tmp _ _ rfl | exact Opd.nil _ _ (Opd.tmp _ _ rfl)) (by first | exact List.length_map _ | rfl)) ?_
    refine Run.pure (dd := some 10) rfl rfl (op_move rfl (Opd.const _)) ?_
    refine Run.nil (FinR.mk ?_)
    refine nK ?_
    refine n_loop (ι := Nat) (fun i => ([(0, .fz (VHo l)), (8, .fz (VHo l)), (9, IV .i64 l.length), (10, IV .i64 i)], [], 0)) (fun i => i ≤ l.length ∧ hopsGo (prvG l i) (l.drop i) = hopsGo none l) (fun i => l.length - i) 0 ⟨Nat.zero_le _, rfl⟩ ?_ ?_
    · refine Next.weak [] [] (by rfl) (keeps0 hC _) (by repeat (first | exact trivial | refine ⟨⟨_, rfl, .inl ⟨rfl, rfl⟩⟩, ?_⟩)) (by repeat (first | exact trivial | refine ⟨ent_same rfl rfl rfl tL, ?_⟩ | refine ⟨ent_same rfl rfl (rfEq rfl tU) tL, ?_⟩ | refine ⟨ent_same rfl rfl (flEq rfl (by first | (simp; done) | (simp; omega) | (simp [encHo, encRt, encP]; done) | simp [maxC, minC])) trivial, ?_⟩)) (fun _ h => by simp at h) rel_intro
    · intro i ⟨hi, ho⟩ K hK
      refine nK ?_
      refine s_reg rfl ?_
      refine Run.pure (dd := some 11) rfl rfl (op_lss rfl (Opd.tmp _ _ rfl) (Opd.tmp _ _ rfl)) ?_
      refine Run.nil (FinR.mk ?_)
      refine nK ?_
      refine n_cond _ rfl (fun hb => ?_) (fun hb => ?_)
      · have hlt : i < l.length := by simp at hb; omega
        have hr1 := row_at' encHo l i hlt
        rw [hops_step hlt] at ho
        have hK1 := fun h => hK (i + 1) ⟨by omega, h⟩ (by omega)
        have okh := oh _ (List.getElem_mem hlt)
        obtain ⟨q, hq⟩ := prv_row encHo l zHop (by omega : i ≤ l.length)
        generalize l[i] = h at *
        have kw := rvalid_any h.via okh.2.2.2.2
        have hE : hopE h = if (outB h.ifc (-1) 15 || outB h.we 1 255) = true then 5 else if (!validB h.via) = true then 1 else 0 := rfl
        refine nK ?_
        refine s_reg rfl ?_
        refine Run.pure (dd := some 12) rfl rfl (op_move rfl (Opd.tmp _ _ rfl)) ?_
        refine Run.pure (dd := some 13) rfl rfl (op_idx_fz _ rfl (Opd.tmp _ _ rfl) (Opd.tmp _ _ rfl) tF) ?_
        refine Run.pure (dd := some 14) rfl rfl (op_loadw_fz rfl (Opd.tmp _ _ rfl) rfl) ?_
        refine Run.eff (dd := some 4) rfl rfl (op_alloc rfl rfl rfl rfl) ?_
        refine Run.pure (dd := some 3) rfl rfl (op_assign rfl (Opd.tmp _ _ rfl)) ?_
        refine Run.eff (dd := none) rfl rfl (op_store_flat rfl (Opd.tmp _ _ rfl) (Opd.tmp _ _ rfl) tC rfl rfl (by first | rfl | assumption) tS) ?_
        refine Run.nil (FinR.mk ?_)
        refine nK ?_
        refine s_reg rfl ?_
        refine Run.pure (dd := some 16) rfl rfl (op_fld_ptr (by decide) rfl (Opd.tmp _ _ rfl)) ?_
        refine Run.load (dd := some 17) rfl rfl (op_load1_flat rfl (Opd.tmp _ _ rfl) tH rfl) ?_
        refine Run.pure (dd := some 18) rfl rfl (op_lss rfl (Opd.tmp _ _ rfl) (Opd.const _)) ?_
        refine Run.pure (dd := some 19) rfl rfl (op_move rfl (Opd.tmp _ _ rfl)) ?_
        refine Run.pureG (dd := some 20) rfl rfl rfl tG (op_fld_ptr (by decide) rfl (Opd.tmp _ _ rfl)) ?_
        refine Run.loadG (dd := some 21) rfl rfl rfl tG (op_load1_flat rfl (Opd.topt _ _ _ rfl tO) tH rfl) ?_
        refine Run.pureG (dd := some 22) rfl rfl rfl tG (op_geq rfl (Opd.topt _ _ _ rfl tO) (Opd.const _)) ?_
        refine Run.pure (dd := some 23) rfl rfl (op_pick_or rfl (Opd.tmp _ _ rfl) (Opd.topt _ _ _ rfl tO)) ?_
        refine Run.pure (dd := some 24) rfl rfl (op_move rfl (Opd.tmp _ _ rfl)) ?_
        refine Run.pureG (dd := some 25) rfl rfl rfl tG (op_fld_ptr (by decide) rfl (Opd.tmp _ _ rfl)) ?_
        refine Run.loadG (dd := some 26) rfl rfl rfl tG (op_load1_flat rfl (Opd.topt _ _ _ rfl tO) tH rfl) ?_
        refine Run.pureG (dd := some 27) rfl rfl rfl tG (op_lss rfl (Opd.topt _ _ _ rfl tO) (Opd.const _)) ?_
        refine Run.pure (dd := some 28) rfl rfl (op_pick_or rfl (Opd.tmp _ _ rfl) (Opd.topt _ _ _ rfl tO)) ?_
        refine Run.pure (dd := some 29) rfl rfl (op_move rfl (Opd.tmp _ _ rfl)) ?_
        refine Run.pureG (dd := some 30) rfl rfl rfl tG (op_fld_ptr (by decide) rfl (Opd.tmp _ _ rfl)) ?_
        refine Run.loadG (dd := some 31) rfl rfl rfl tG (op_load1_flat rfl (Opd.topt _ _ _ rfl tO) tH rfl) ?_
        refine Run.pureG (dd := some 32) rfl rfl rfl tG (op_gtr rfl (Opd.topt _ _ _ rfl tO) (Opd.const _)) ?_
        refine Run.pure (dd := some 33) rfl rfl (op_pick_or rfl (Opd.tmp _ _ rfl) (Opd.topt _ _ _ rfl tO)) ?_
        refine Run.pure (dd := some 15) rfl rfl (op_assign rfl (Opd.tmp _ _ rfl)) ?_
        refine Run.nil (FinR.mk ?_)
        refine nK ?_
        refine n_cond _ rfl (fun hb => ?_) (fun hb => ?_)
        · rw [if_pos (by simp [outB] at hb ⊢; omega)] at hE
          rw [hE, if_pos (by decide)] at ho
          rw [← ho]
          refine nK ?_
          refine s_reg rfl ?_
          refine Run.pure (dd := some 2) rfl rfl (op_assign rfl (Opd.const _)) ?_
          refine Run.nil (FinR.mk ?_)
          refine nK ?_
          (first | exact s_o1 hC rfl tV | exact s_o2 hC rfl tV tV | exact s_o3 hC rfl tV tV tV | exact s_o4 hC rfl tV tV tV tV | exact s_out0 hC rfl | exact s_outO hC rfl rfl rfl)
        · rw [if_neg (by simp [outB] at hb ⊢; omega)] at hE
          refine nK ?_
          refine s_reg rfl ?_
          refine Run.pure (dd := some 35) rfl rfl (op_fld_ptr (by decide) rfl (Opd.tmp _ _ rfl)) ?_
          refine Run.load (dd := some 36) rfl rfl (op_loadn_flat rfl (Opd.tmp _ _ rfl) tH tR tR) ?_
          refine Run.pure (dd := some 37) rfl rfl (op_call_pure (fun _ => kw) rfl (Opd.func _) (Opds.cons _ _ _ _ (Opd.tmp _ _ rfl) Opds.nil)) ?_
          refine Run.pure (dd := some 38) rfl rfl (op_not rfl (Opd.tmp _ _ rfl)) ?_
          refine Run.pure (dd := some 34) rfl rfl (op_assign rfl (Opd.tmp _ _ rfl)) ?_
          refine Run.nil (FinR.mk ?_)
          refine nK ?_
          refine n_cond _ rfl (fun hb => ?_) (fun hb => ?_)
          · rw [if_pos hb] at hE
            rw [hE, if_pos (by decide)] at ho
            rw [← ho]
            refine nK ?_
            refine s_reg rfl ?_
            refine Run.pure (dd := some 2) rfl rfl (op_assign rfl (Opd.const _)) ?_
            refine Run.nil (FinR.mk ?_)
            refine nK ?_
            (first | exact s_o1 hC rfl tV | exact s_o2 hC rfl tV tV | exact s_o3 hC rfl tV tV tV | exact s_o4 hC rfl tV tV tV tV | exact s_out0 hC rfl | exact s_outO hC rfl rfl rfl)
          · rw [if_neg (by rw [hb]; decide)] at hE
            rw [if_neg (by rw [hE]; decide)] at ho
            refine nK ?_
            refine s_draw mixed ?_
            refine Run.pure (dd := some 40) rfl rfl (op_move rfl (Opd.tmp _ _ rfl)) ?_
            refine Run.pure (dd := some 41) rfl rfl (op_gtr rfl (Opd.tmp _ _ rfl) (Opd.const _)) ?_
            refine Run.pure (dd := some 42) rfl rfl (op_move rfl (Opd.tmp _ _ rfl)) ?_
            refine Run.pureG (dd := some 43) rfl rfl rfl tG (op_move rfl (Opd.tmp _ _ rfl)) ?_
            refine Run.pureG (dd := some 44) rfl rfl rfl tG (op_move rfl (Opd.tmp _ _ rfl)) ?_
            refine Run.pureG (dd := some 45) rfl rfl rfl tG (op_sub rfl (Opd.topt _ _ _ rfl tO) (Opd.const _) tI) ?_
            refine Run.pureG (dd := some 46) rfl rfl rfl tG (op_idx_fz (i - 1) rfl (Opd.topt _ _ _ rfl tO) (Opd.topt _ _ _ rfl tO) (by intro hg; have h0 : 0 < i := (by simp at hg; omega); exact ⟨by omega, (hq h0).2⟩)) ?_
            refine Run.pureG (dd := some 47) rfl rfl rfl tG (op_loadw_fz rfl (Opd.topt _ _ _ rfl tO) rfl) ?_
            refine Run.loadG (dd := some 48) rfl rfl rfl tG (op_loadw_flat rfl (Opd.tmp _ _ rfl) tH rfl) ?_
            refine Run.pureG (dd := some 49) rfl rfl rfl tG (op_call_pure (fun _ => less_c q h) rfl (Opd.func _) (Opds.cons _ _ _ _ (Opd.topt _ _ _ rfl tO) (Opds.cons _ _ _ _ (Opd.topt _ _ _ rfl tO) Opds.nil))) ?_
            refine Run.pureG (dd := some 50) rfl rfl rfl tG (op_not rfl (Opd.topt _ _ _ rfl tO)) ?_
            refine Run.pure (dd := some 51) rfl rfl (op_pick_and rfl (Opd.tmp _ _ rfl) (Opd.topt _ _ _ rfl tO)) ?_
            refine Run.pure (dd := some 39) rfl rfl (op_assign rfl (Opd.tmp _ _ rfl)) ?_
            refine Run.nil (FinD.mk (by kernel_rfl) ?_)
            refine nK ?_
            refine n_cond _ rfl (fun hb => ?_) (fun hb => ?_)
            · have h0 : 0 < i := by simp at hb; omega
              rw [(hq h0).1, if_pos (by simp at hb; simpa [badHo] using hb.2)] at ho
              rw [← ho]
              refine nK ?_
              refine s_reg rfl ?_
              refine Run.pure (dd := some 2) rfl rfl (op_assign rfl (Opd.const _)) ?_
              refine Run.nil (FinR.mk ?_)
              refine nK ?_
              (first | exact s_o1 hC rfl tV | exact s_o2 hC rfl tV tV | exact s_o3 hC rfl tV tV tV | exact s_o4 hC rfl tV tV tV tV | exact s_out0 hC rfl | exact s_outO hC rfl rfl rfl)
            · have hc : ¬ badHo (prvG l i) h = true := by
                by_cases h0 : 0 < i
                · rw [(hq h0).1]; simp [h0, badHo] at hb ⊢; exact hb
                · have : i = 0 := by omega
                  subst this; simp [prvG, badHo]
              rw [if_neg hc] at ho
              refine nK ?_
              refine s_reg rfl ?_
              refine Run.pure (dd := some 52) rfl rfl (op_add rfl (Opd.tmp _ _ rfl) (Opd.const _) tI) ?_
              refine Run.pure (dd := some 10) rfl rfl (op_move rfl (Opd.tmp _ _ rfl)) ?_
              refine Run.nil (FinR.mk ?_)
              refine nK ?_
              refine Next.weak [] [] (by rfl) (keeps0 hC _) (by repeat (first | exact trivial | refine ⟨⟨_, rfl, .inl ⟨rfl, rfl⟩⟩, ?_⟩)) (by repeat (first | exact trivial | refine ⟨ent_same rfl rfl rfl tL, ?_⟩ | refine ⟨ent_same rfl rfl (rfEq rfl tU) tL, ?_⟩ | refine ⟨ent_same rfl rfl (flEq rfl (by first | (simp; done) | (simp; omega) | (simp [encHo, encRt, encP]; done) | simp [maxC, minC])) trivial, ?_⟩)) (fun _ h => by simp at h) (hK1 ho)
      · have hie : i = l.length := by simp at hb; omega
        rw [hie, List.drop_length] at ho
        rw [← ho]
        simp only [hopsGo]
        refine nK ?_
        refine s_reg rfl ?_
        refine Run.pure (dd := some 2) rfl rfl (op_assign rfl (Opd.const _)) ?_
        refine Run.nil (FinR.mk ?_)
        refine nK ?_
        (first | exact s_o1 hC rfl tV | exact s_o2 hC rfl tV tV | exact s_o3 hC rfl tV tV tV | exact s_o4 hC rfl tV tV tV tV | exact s_out0 hC rfl | exact s_outO hC rfl rfl rfl)
theorem rckrt_c (r : Rte) (ho : okRt r) (hn : lenOk r.hs.length) : Pure Try.prog 31 [.agg (encRt r)] (If .i64 (checkRt r)) := by
  obtain ⟨op, o1, o2, o3, o4, oh⟩ := ho
  have kv := rvalid_any r.pf op
  have kh := rhops_c r.hs oh hn
  unfold checkRt
  refine Meets.intro Try.func31 rfl (Nat.le_of_ble_eq_true rfl) fun C hC => ?_
  simp only [List.map, argEnv, Nat.reduceAdd]
  refine nK ?_
  refine s_reg rfl ?_
  refine Run.eff (dd := some 1) rfl rfl (op_box_flat rfl (Opd.tmp _ _ rfl) tC rfl) ?_
  refine Run.pure (dd := some 2) rfl rfl (op_assign rfl (Opd.const _)) ?_
  refine Run.nil (FinR.mk ?_)
  refine nK ?_
  refine s_reg rfl ?_
  refine Run.pure (dd := some 4) rfl rfl (op_fld_ptr (by decide) rfl (Opd.tmp _ _ rfl)) ?_
  refine Run.load (dd := some 5) rfl rfl (op_loadn_flat rfl (Opd.tmp _ _ rfl) tH tR tR) ?_
  refine Run.pure (dd := some 6) rfl rfl (op_call_pure (fun _ => kv) rfl (Opd.func _) (Opds.cons _ _ _ _ (Opd.tmp _ _ rfl) Opds.nil)) ?_
  refine Run.pure (dd := some 7) rfl rfl (op_not rfl (Opd.tmp _ _ rfl)) ?_
  refine Run.pure (dd := some 3) rfl rfl (op_assign rfl (Opd.tmp _ _ rfl)) ?_
  refine Run.nil (FinR.mk ?_)
  refine nK ?_
  refine n_cond _ rfl (fun hb => ?_) (fun hb => ?_)
  · rw [if_pos hb]
    refine nK ?_
    refine s_reg rfl ?_
    refine Run.pure (dd := some 2) rfl rfl (op_assign rfl (Opd.const _)) ?_
    refine Run.nil (FinR.mk ?_)
    refine nK ?_
    (first | exact s_o1 hC rfl tV | exact s_o2 hC rfl tV tV | exact s_o3 hC rfl tV tV tV | exact s_o4 hC rfl tV tV tV tV | exact s_out0 hC rfl | exact s_outO hC rfl rfl rfl)
  · rw [if_neg (by rw [hb]; decide)]
    refine nK ?_
    refine s_reg rfl ?_
    refine Run.pure (dd := some 9) rfl rfl (op_fld_ptr (by decide) rfl (Opd.tmp _ _ rfl)) ?_
    refine Run.load (dd := some 10) rfl rfl (op_load1_flat rfl (Opd.tmp _ _ rfl) tH rfl) ?_
    refine Run.pure (dd := some 11) rfl rfl (op_call_pure (fun _ => proto_c _) rfl (Opd.func _) (Opds.cons _ _ _ _ (Opd.tmp _ _ rfl) Opds.nil)) ?_
    refine Run.pure (dd := some 12) rfl rfl (op_not rfl (Opd.tmp _ _ rfl)) ?_
    refine Run.pure (dd := some 8) rfl rfl (op_assign rfl (Opd.tmp _ _ rfl)) ?_
    refine Run.nil (FinR.mk ?_)
    refine nK ?_
    refine n_cond _ rfl (fun hb => ?_) (fun hb => ?_)
    · rw [if_pos (by simpa using hb)]
      refine nK ?_
      refine s_reg rfl ?_
      refine Run.pure (dd := some 2) rfl rfl (op_assign rfl (Opd.const _)) ?_
      refine Run.nil (FinR.mk ?_)
      refine nK ?_
      (first | exact s_o1 hC rfl tV | exact s_o2 hC rfl tV tV | exact s_o3 hC rfl tV tV tV | exact s_o4 hC rfl tV tV tV tV | exact s_out0 hC rfl | exact s_outO hC rfl rfl rfl)
    · rw [if_neg (by simpa using hb)]
      refine nK ?_
      refine s_reg rfl ?_
      refine Run.pure (dd := some 14) rfl rfl (op_fld_ptr (by decide) rfl (Opd.tmp _ _ rfl)) ?_
      refine Run.load (dd := some 15) rfl rfl (op_load1_flat rfl (Opd.tmp _ _ rfl) tH rfl) ?_
      refine Run.pure (dd := some 16) rfl rfl (op_lss rfl (Opd.tmp _ _ rfl) (Opd.const _)) ?_
      refine Run.pure (dd := some 17) rfl rfl (op_move rfl (Opd.tmp _ _ rfl)) ?_
      refine Run.pureG (dd := some 18) rfl rfl rfl tG (op_fld_ptr (by decide) rfl (Opd.tmp _ _ rfl)) ?_
      refine Run.loadG (dd := some 19) rfl rfl rfl tG (op_load1_flat rfl (Opd.topt _ _ _ rfl tO) tH rfl) ?_
      refine Run.pureG (dd := some 20) rfl rfl rfl tG (op_gtr rfl (Opd.topt _ _ _ rfl tO) (Opd.const _)) ?_
      refine Run.pure (dd := some 21) rfl rfl (op_pick_or rfl (Opd.tmp _ _ rfl) (Opd.topt _ _ _ rfl tO)) ?_
      refine Run.pure (dd := some 22) rfl rfl (op_move rfl (Opd.tmp _ _ rfl)) ?_
      refine Run.pureG (dd := some 23) rfl rfl rfl tG (op_fld_ptr (by decide) rfl (Opd.tmp _ _ rfl)) ?_
      refine Run.loadG (dd := some 24) rfl rfl rfl tG (op_load1_flat rfl (Opd.topt _ _ _ rfl tO) tH rfl) ?_
      refine Run.pureG (dd := some 25) rfl rfl rfl tG (op_lss rfl (Opd.topt _ _ _ rfl tO) (Opd.const _)) ?_
      refine Run.pure (dd := some 26) rfl rfl (op_pick_or rfl (Opd.tmp _ _ rfl) (Opd.topt _ _ _ rfl tO)) ?_
      refine Run.pure (dd := some 27) rfl rfl (op_move rfl (Opd.tmp _ _ rfl)) ?_
      refine Run.pureG (dd := some 28) rfl rfl rfl tG (op_fld_ptr (by decide) rfl (Opd.tmp _ _ rfl)) ?_
      refine Run.loadG (dd := some 29) rfl rfl rfl tG (op_load1_flat rfl (Opd.topt _ _ _ rfl tO) tH rfl) ?_
      refine Run.pureG (dd := some 30) rfl rfl rfl tG (op_gtr rfl (Opd.topt _ _ _ rfl tO) (Opd.const _)) ?_
      refine Run.pure (dd := some 31) rfl rfl (op_pick_or rfl (Opd.tmp _ _ rfl) (Opd.topt _ _ _ rfl tO)) ?_
      refine Run.pure (dd := some 32) rfl rfl (op_move rfl (Opd.tmp _ _ rfl)) ?_
      refine Run.pureG (dd := some 33) rfl rfl rfl tG (op_fld_ptr (by decide) rfl (Opd.tmp _ _ rfl)) ?_
      refine Run.loadG (dd := some 34) rfl rfl rfl tG (op_load1_flat rfl (Opd.topt _ _ _ rfl tO) tH rfl) ?_
      refine Run.pureG (dd := some 35) rfl rfl rfl tG (op_lss rfl (Opd.topt _ _ _ rfl tO) (Opd.const _)) ?_
      refine Run.pure (dd := some 36) rfl rfl (op_pick_or rfl (Opd.tmp _ _ rfl) (Opd.topt _ _ _ rfl tO)) ?_
      refine Run.pure (dd := some 37) rfl rfl (op_move rfl (Opd.tmp _ _ rfl)) ?_
      refine Run.pureG (dd := some 38) rfl rfl rfl tG (op_fld_ptr (by decide) rfl (Opd.tmp _ _ rfl)) ?_
      refine Run.loadG (dd := some 39) rfl rfl rfl tG (op_load1_flat rfl (Opd.topt _ _ _ rfl tO) tH rfl) ?_
      refine Run.pureG (dd := some 40) rfl rfl rfl tG (op_gtr rfl (Opd.topt _ _ _ rfl tO) (Opd.const _)) ?_
      refine Run.pure (dd := some 41) rfl rfl (op_pick_or rfl (Opd.tmp _ _ rfl) (Opd.topt _ _ _ rfl tO)) ?_
      refine Run.pure (dd := some 13) rfl rfl (op_assign rfl (Opd.tmp _ _ rfl)) ?_
      refine Run.nil (FinR.mk ?_)
      refine nK ?_
      refine n_cond _ rfl (fun hb => ?_) (fun hb => ?_)
      · rw [if_pos (by simp [outB] at hb ⊢; omega)]
        refine nK ?_
        refine s_reg rfl ?_
        refine Run.pure (dd := some 2) rfl rfl (op_assign rfl (Opd.const _)) ?_
        refine Run.nil (FinR.mk ?_)
        refine nK ?_
        (first | exact s_o1 hC rfl tV | exact s_o2 hC rfl tV tV | exact s_o3 hC rfl tV tV tV | exact s_o4 hC rfl tV tV tV tV | exact s_out0 hC rfl | exact s_outO hC rfl rfl rfl)
      · rw [if_neg (by simp [outB] at hb ⊢; omega)]
        refine nK ?_
        refine s_reg rfl ?_
        refine Run.pure (dd := some 42) rfl rfl (op_fld_ptr (by decide) rfl (Opd.tmp _ _ rfl)) ?_
        refine Run.load (dd := some 43) rfl rfl (op_load1_flat rfl (Opd.tmp _ _ rfl) tH rfl) ?_
        refine Run.pure (dd := some 44) rfl rfl (op_call_pure (fun _ => kh) rfl (Opd.func _) (Opds.cons _ _ _ _ (Opd.tmp _ _ rfl) Opds.nil)) ?_
        refine Run.pure (dd := some 2) rfl rfl (op_assign rfl (Opd.tmp _ _ rfl)) ?_
        refine Run.nil (FinR.mk ?_)
        refine nK ?_
        (first | exact s_o1 hC rfl tV | exact s_o2 hC rfl tV tV | exact s_o3 hC rfl tV tV tV | exact s_o4 hC rfl tV tV tV tV | exact s_out0 hC rfl | exact s_outO hC rfl rfl rfl)
theorem has_c (l : List Rte) (p : Pfx) (n : Int) (hn : lenOk l.length) : Pure Try.prog 32 [VRt l, .agg (encP p), If .i64 n] (Bf (hasB l p n)) := by
  refine Meets.intro Try.func32 rfl (Nat.le_of_ble_eq_true rfl) fun C hC => ?_
  simp only [List.map, argEnv, Nat.reduceAdd]
  refine nK ?_
  refine s_reg rfl ?_
  refine Run.eff (dd := some 4) rfl rfl (op_box_flat rfl (Opd.tmp _ _ rfl) tC rfl) ?_
  refine Run.pure (dd := some 6) rfl rfl (op_assign rfl (Opd.const _)) ?_
  refine Run.nil (FinR.mk ?_)
  refine nK ?_
  refine s_reg rfl ?_
  refine Run.pure (dd := some 9) rfl rfl (op_move rfl (Opd.tmp _ _ rfl)) ?_
  refine Run.pure (dd := some 10) rfl rfl (op_len_fz rfl (by first | exact Opd.tmp _ _ rfl | exact Opd.nil _ _ (Opd.tmp _ _ rfl)) (by first | exact List.length_map _ | rfl)) ?_
  refine Run.pure (dd := some 11) rfl rfl (op_move rfl (Opd.const _)) ?_
  refine Run.nil (FinR.mk ?_)
  refine nK ?_
  refine n_loop (ι := Nat) (fun i => ([(2, IV .i64 n), (4, .ptr 0 2 0 0), (9, .fz (VRt l)), (10, IV .i64 l.length), (11, IV .i64 i)], [(0, some (.flat 2 [encP p]))], 1)) (fun i => i ≤ l.length ∧ hasB l p n = hasB (l.drop i) p n) (fun i => l.length - i) 0 ⟨Nat.zero_le _, rfl⟩ ?_ ?_
  · refine Next.weakS [4] [] (by rfl) (by first | exact keeps0 hC _ | exact keepsN hC _ rfl) (by repeat (first | exact trivial | refine ⟨⟨_, rfl, .inl ⟨rfl, rfl⟩⟩, ?_⟩ | refine ⟨⟨_, rfl, .inl ⟨slEq rfl tN, rfl⟩⟩, ?_⟩ | refine ⟨⟨_, rfl, .inl ⟨ivEq tX, rfl⟩⟩, ?_⟩)) (by repeat (first | exact trivial | refine ⟨ent_same rfl rfl rfl tL, ?_⟩ | refine ⟨ent_same rfl rfl (rfEq rfl tU) tL, ?_⟩ | refine ⟨ent_same rfl rfl (flEq rfl (by first | (simp; done) | (simp; omega) | (simp [encHo, encRt, encP]; done) | simp [maxC, minC])) trivial, ?_⟩)) rfl (rel_intro)
  · intro i ⟨hi, ho⟩ K hK
    refine nK ?_
    refine s_reg rfl ?_
    refine Run.pure (dd := some 12) rfl rfl (op_lss rfl (Opd.tmp _ _ rfl) (Opd.tmp _ _ rfl)) ?_
    refine Run.nil (FinR.mk ?_)
    refine nK ?_
    refine n_cond _ rfl (fun hb => ?_) (fun hb => ?_)
    · have hlt : i < l.length := by simp at hb; omega
      have hr1 := row_at' encRt l i hlt
      rw [List.drop_eq_getElem_cons hlt] at ho
      have hK1 := fun h => hK (i + 1) ⟨by omega, h⟩ (by omega)
      generalize l[i] = x at *
      have hx : hasB (x :: l.drop (i + 1)) p n = ((decide (x.pf = p) && decide (x.pr = n)) || hasB (l.drop (i + 1)) p n) := rfl
      rw [hx] at ho
      refine nK ?_
      refine s_reg rfl ?_
      refine Run.pure (dd := some 13) rfl rfl (op_idx_fz _ rfl (Opd.tmp _ _ rfl) (Opd.tmp _ _ rfl) tF) ?_
      refine Run.pure (dd := some 14) rfl rfl (op_loadw_fz rfl (Opd.tmp _ _ rfl) rfl) ?_
      refine Run.eff (dd := some 8) rfl rfl (op_alloc rfl rfl rfl rfl) ?_
      refine Run.eff (dd := none) rfl rfl (op_store_flat rfl (Opd.tmp _ _ rfl) (Opd.tmp _ _ rfl) tC rfl rfl (by first | rfl | assumption) tS) ?_
      refine Run.nil (FinR.mk ?_)
      refine nK ?_
      refine s_reg rfl ?_
      refine Run.pure (dd := some 15) rfl rfl (op_fld_ptr (by decide) rfl (Opd.tmp _ _ rfl)) ?_
      refine Run.load (dd := some 16) rfl rfl (op_loadn_flat rfl (Opd.tmp _ _ rfl) tH tR tR) ?_
      refine Run.load (dd := some 17) rfl rfl (op_loadw_flat rfl (Opd.tmp _ _ rfl) tH rfl) ?_
      refine Run.pure (dd := some 18) rfl rfl (op_eqS rfl (Opd.tmp _ _ rfl) (Opd.tmp _ _ rfl) (by kernel_rfl)) ?_
      refine Run.pure (dd := some 19) rfl rfl (op_move rfl (Opd.tmp _ _ rfl)) ?_
      refine Run.pureG (dd := some 20) rfl rfl rfl tG (op_fld_ptr (by decide) rfl (Opd.tmp _ _ rfl)) ?_
      refine Run.loadG (dd := some 21) rfl rfl rfl tG (op_load1_flat rfl (Opd.topt _ _ _ rfl tO) tH rfl) ?_
      refine Run.pureG (dd := some 22) rfl rfl rfl tG (op_move rfl (Opd.tmp _ _ rfl)) ?_
      refine Run.pureG (dd := some 23) rfl rfl rfl tG (op_eql rfl (Opd.topt _ _ _ rfl tO) (Opd.topt _ _ _ rfl tO)) ?_
      refine Run.pure (dd := some 24) rfl rfl (op_pick_and rfl (Opd.tmp _ _ rfl) (Opd.topt _ _ _ rfl tO)) ?_
      refine Run.nil (FinR.mk ?_)
      refine nK ?_
      refine n_cond _ rfl (fun hb => ?_) (fun hb => ?_)
      · have h : (eqFs (encP x.pf) (encP p) && decide (x.pr = n)) = true := hb
        rw [eqFs_encP] at h
        rw [h, Bool.true_or] at ho
        rw [ho]
        refine nK ?_
        refine s_reg rfl ?_
        refine Run.pure (dd := some 6) rfl rfl (op_assign rfl (Opd.const _)) ?_
        refine Run.nil (FinR.mk ?_)
        refine nK ?_
        (first | exact s_o1 hC rfl tV | exact s_o2 hC rfl tV tV | exact s_o3 hC rfl tV tV tV | exact s_o4 hC rfl tV tV tV tV | exact s_out0 hC rfl | exact s_outO hC rfl rfl rfl)
      · have h : (eqFs (encP x.pf) (encP p) && decide (x.pr = n)) = false := hb
        rw [eqFs_encP] at h
        rw [h, Bool.false_or] at ho
        refine nK ?_
        refine s_reg rfl ?_
        refine Run.pure (dd := some 25) rfl rfl (op_add rfl (Opd.tmp _ _ rfl) (Opd.const _) tI) ?_
        refine Run.pure (dd := some 11) rfl rfl (op_move rfl (Opd.tmp _ _ rfl)) ?_
        refine Run.nil (FinR.mk ?_)
        refine nK ?_
        refine Next.weakS [4] [] (by rfl) (by first | exact keeps0 hC _ | exact keepsN hC _ rfl) (by repeat (first | exact trivial | refine ⟨⟨_, rfl, .inl ⟨rfl, rfl⟩⟩, ?_⟩ | refine ⟨⟨_, rfl, .inl ⟨slEq rfl tN, rfl⟩⟩, ?_⟩ | refine ⟨⟨_, rfl, .inl ⟨ivEq tX, rfl⟩⟩, ?_⟩)) (by repeat (first | exact trivial | refine ⟨ent_same rfl rfl rfl tL, ?_⟩ | refine ⟨ent_same rfl rfl (rfEq rfl tU) tL, ?_⟩ | refine ⟨ent_same rfl rfl (flEq rfl (by first | (simp; done) | (simp; omega) | (simp [encHo, encRt, encP]; done) | simp [maxC, minC])) trivial, ?_⟩)) rfl ((hK1 ho))
    · have hie : i = l.length := by simp at hb; omega
      rw [hie, List.drop_length] at ho
      rw [ho]
      refine nK ?_
      refine s_reg rfl ?_
      refine Run.pure (dd := some 6) rfl rfl (op_assign rfl (Opd.const _)) ?_
      refine Run.nil (FinR.mk ?_)
      refine nK ?_
      (first | exact s_o1 hC rfl tV | exact s_o2 hC rfl tV tV | exact s_o3 hC rfl tV tV tV | exact s_o4 hC rfl tV tV tV tV | exact s_out0 hC rfl | exact s_outO hC rfl rfl rfl)
open Go Go.RT Go.Proofs Go.Pl
set_option maxRecDepth 20000
theorem wf_inr {q : IntKind} {n : Int} (hn : inr q n) : (Lit.int q n).wf = true := by
  cases q <;> simp only [inr] at hn <;> simp [Lit.wf, IntKind.min, IntKind.max, IntKind.bits, IntKind.signed] <;> omega
theorem kl_int {P : Program} {t : TypeId} {q : IntKind} (d : Nat) {n : Int} (hu : P.underlying t = some (.int q)) (hn : inr q n) : P.keyLits (d + 1) t [.int q n] = some [.int q n] := by
  simp [Program.keyLits, hu, wf_inr hn]
theorem kl_pfx (d : Nat) (p : Pfx) (hp : p.ok) : Try.prog.keyLits (d + 2) 34 [.int .u32 p.addr, .int .i64 p.len] = some [.int .u32 p.addr, .int .i64 p.len] := by
  have h1 : Try.prog.cellsOf 34 = 2 := by kernel_rfl
  have h2 : Try.prog.cellsOf 32 = 1 := by kernel_rfl
  have h3 : Try.prog.cellsOf 3 = 1 := by kernel_rfl
  have e1 := kl_int (P := Try.prog) (t := 32) (q := .u32) (n := p.addr) d (by kernel_rfl) (by have := hp.1; simp only [inr]; omega)
  have e2 := kl_int (P := Try.prog) (t := 3) (q := .i64) d (by kernel_rfl) hp.2
  unfold Program.keyLits
  simp [Try.underlying34, h1, h2, h3, e1, e2]
theorem kl_key (d : Nat) (p : Pfx) (hp : p.ok) (n : Int) (hn : inr .i64 n) : Try.prog.keyLits (d + 3) 56 [.int .u32 p.addr, .int .i64 p.len, .int .i64 n] = some [.int .u32 p.addr, .int .i64 p.len, .int .i64 n] := by
  have h0 : Try.prog.cellsOf 56 = 3 := by kernel_rfl
  have h1 : Try.prog.cellsOf 34 = 2 := by kernel_rfl
  have h3 : Try.prog.cellsOf 3 = 1 := by kernel_rfl
  have e1 := kl_pfx d p hp
  have e2 := kl_int (P := Try.prog) (t := 3) (q := .i64) (d + 1) (by kernel_rfl) hn
  unfold Program.keyLits
  simp [Try.underlying56, h0, h1, h3, e1, e2]
abbrev ekP (p : Pfx) : FV := .agg (encP p)
abbrev ekK (k : Pfx × Int) : FV := .agg [If .u32 k.1.addr, If .i64 k.1.len, If .i64 k.2]
instance kenc_pfx : KEnc Try.prog 34 Pfx ekP Pfx.ok where
  keyed := Maps.Keyed.of_law (deep_law (m := 3) (by decide) (by kernel_rfl) (by kernel_rfl) (by kernel_rfl))
  ml := fun _ => rfl
  some := fun p hp => by
    have hs : Try.prog.types.size = 138 := by kernel_rfl
    have hk : Try.prog.keyType 34 = true := by kernel_rfl
    have h1 : Try.prog.cellsOf 34 = 2 := by kernel_rfl
    have e := kl_pfx 137 p hp
    refine ⟨.string (keyBytes [.int .u32 p.addr, .int .i64 p.len]), ?_⟩
    unfold keyOf
    simp [Try.underlying34, hk, hs, Value.formed, h1, valF, valFs, encP, If, Value.cells, e]
  inj := fun a b h => by
    simp [valF, valFs, encP, If] at h
    exact Pfx.ext' (by omega) h.2
instance kenc_key : KEnc Try.prog 56 (Pfx × Int) ekK (fun k => k.1.ok ∧ inr .i64 k.2) where
  keyed := Maps.Keyed.of_law (deep_law (m := 4) (by decide) (by kernel_rfl) (by kernel_rfl) (by kernel_rfl))
  ml := fun _ => rfl
  some := fun k hp => by
    have hs : Try.prog.types.size = 138 := by kernel_rfl
    have hk : Try.prog.keyType 56 = true := by kernel_rfl
    have h1 : Try.prog.cellsOf 56 = 3 := by kernel_rfl
    have e := kl_key 136 k.1 hp.1 k.2 hp.2
    refine ⟨.string (keyBytes [.int .u32 k.1.addr, .int .i64 k.1.len, .int .i64 k.2]), ?_⟩
    unfold keyOf
    simp [Try.underlying56, hk, hs, Value.formed, h1, valF, valFs, If, Value.cells, e]
  inj := fun a b h => by
    simp [valF, valFs, If] at h
    exact Prod.ext (Pfx.ext' (by omega) h.2.1) h.2.2
open Go Go.RT Go.Proofs Go.Pl
set_option maxRecDepth 20000
theorem ckl_c (l : List Rte) (ho : ∀ x ∈ l, okRt x) (hh : ∀ x ∈ l, lenOk x.hs.length) (hn : lenOk l.length) : Pure Try.prog 11 [VRt l] (If .i64 (checkL l)) := by
  unfold checkL
  refine Meets.intro Try.func11 rfl (Nat.le_of_ble_eq_true rfl) fun C hC => ?_
  simp only [List.map, argEnv, Nat.reduceAdd]
  refine nK ?_
  refine s_reg rfl ?_
  refine Run.pure (dd := some 2) rfl rfl (op_assign rfl (Opd.const _)) ?_
  refine Run.nil (FinR.mk ?_)
  refine nK ?_
  refine s_reg rfl ?_
  refine Run.pure (dd := some 8) rfl rfl (op_move rfl (Opd.tmp _ _ rfl)) ?_
  refine Run.pure (dd := some 9) rfl rfl (op_len_fz rfl (by first | exact Opd.tmp _ _ rfl | exact Opd.nil _ _ (Opd.tmp _ _ rfl)) (by first | exact List.length_map _ | rfl)) ?_
  refine Run.pure (dd := some 10) rfl rfl (op_gtr rfl (Opd.tmp _ _ rfl) (Opd.const _)) ?_
  refine Run.nil (FinR.mk ?_)
  refine nK ?_
  refine n_cond _ rfl (fun hb => ?_) (fun hb => ?_)
  · rw [if_pos (by simp at hb; omega)]
    refine nK ?_
    refine s_reg rfl ?_
    refine Run.pure (dd := some 2) rfl rfl (op_assign rfl (Opd.const _)) ?_
    refine Run.nil (FinR.mk ?_)
    refine nK ?_
    (first | exact s_o1 hC rfl tV | exact s_o2 hC rfl tV tV | exact s_o3 hC rfl tV tV tV | exact s_o4 hC rfl tV tV tV tV | exact s_out0 hC rfl | exact s_outO hC rfl rfl rfl)
  · have hlen : l.length ≤ 2000 := by simp at hb; omega
    rw [if_neg (by omega)]
    refine nK ?_
    refine s_reg rfl ?_
    refine Run.eff (dd := some 11) rfl rfl (op_makeMap rfl) ?_
    refine Run.pure (dd := some 3) rfl rfl (op_assign rfl (Opd.tmp _ _ rfl)) ?_
    refine Run.nil (FinR.mk ?_)
    refine nK ?_
    refine s_reg rfl ?_
    refine Run.pure (dd := some 12) rfl rfl (op_move rfl (Opd.tmp _ _ rfl)) ?_
    refine Run.pure (dd := some 13) rfl rfl (op_len_fz rfl (by first | exact Opd.tmp _ _ rfl | exact Opd.nil _ _ (Opd.tmp _ _ rfl)) (by first | exact List.length_map _ | rfl)) ?_
    refine Run.pure (dd := some 14) rfl rfl (op_move rfl (Opd.const _)) ?_
    refine Run.nil (FinR.mk ?_)
    refine nK ?_
    refine n_loop (ι := Nat) (fun i => ([(0, .fz (VRt l)), (3, .mp 0), (12, .fz (VRt l)), (13, IV .i64 l.length), (14, IV .i64 i)], [(0, OMap ekK Bf (keysM (l.take i)))], 1)) (fun i => i ≤ l.length ∧ chkGo l (l.take i) (l.drop i) = chkGo l [] l) (fun i => l.length - i) 0 ⟨Nat.zero_le _, rfl⟩ ?_ ?_
    · refine Next.weakS [3] [] (by rfl) (by first | exact keeps0 hC _ | exact keepsN hC _ rfl) (by repeat (first | exact trivial | refine ⟨⟨_, rfl, .inl ⟨rfl, rfl⟩⟩, ?_⟩ | refine ⟨⟨_, rfl, .inl ⟨slEq rfl tN, rfl⟩⟩, ?_⟩ | refine ⟨⟨_, rfl, .inl ⟨ivEq tX, rfl⟩⟩, ?_⟩)) (by repeat (first | exact trivial | refine ⟨ent_same rfl rfl rfl tL, ?_⟩ | refine ⟨ent_same rfl rfl (rfEq rfl tU) tL, ?_⟩ | refine ⟨ent_same rfl rfl (flEq rfl (by first | (simp; done) | (simp; omega) | (simp [encHo, encRt, encP]; done) | simp [maxC, minC])) trivial, ?_⟩)) rfl (rel_intro)
    · intro i ⟨hi, hS⟩ K hK
      refine nK ?_
      refine s_reg rfl ?_
      refine Run.pure (dd := some 15) rfl rfl (op_lss rfl (Opd.tmp _ _ rfl) (Opd.tmp _ _ rfl)) ?_
      refine Run.nil (FinR.mk ?_)
      refine nK ?_
      refine n_cond _ rfl (fun hb => ?_) (fun hb => ?_)
      · have hlt : i < l.length := by simp at hb; omega
        have hr1 := row_at' encRt l i hlt
        rw [rtchk_step l hlt] at hS
        have hK1 := fun h => hK (i + 1) ⟨by omega, h⟩ (by omega)
        have okx := ho _ (List.getElem_mem hlt)
        have lx := hh _ (List.getElem_mem hlt)
        obtain ⟨q, hq⟩ := prv_row encRt l zRte (by omega : i ≤ l.length)
        rw [keysM_take hlt] at hK1
        obtain ⟨kn, kk⟩ := keysM_ok (l.take i) [] (fun y hy => ho y (List.mem_of_mem_take hy)) (by simp) (fun p hp => by simp at hp)
        have kg := fun p n => keysM_get (l.take i) p n
        change ((keysM (l.take i)).map (·.1)).Nodup at kn
        change ∀ p ∈ keysM (l.take i), p.1.1.ok ∧ inr .i64 p.1.2 at kk
        generalize keysM (l.take i) = M at *
        generalize l[i] = x at *
        have kc := ckrt_c x okx lx
        refine nK ?_
        refine s_reg rfl ?_
        refine Run.pure (dd := some 16) rfl rfl (op_move rfl (Opd.tmp _ _ rfl)) ?_
        refine Run.pure (dd := some 17) rfl rfl (op_idx_fz _ rfl (Opd.tmp _ _ rfl) (Opd.tmp _ _ rfl) tF) ?_
        refine Run.pure (dd := some 18) rfl rfl (op_loadw_fz rfl (Opd.tmp _ _ rfl) rfl) ?_
        refine Run.eff (dd := some 5) rfl rfl (op_alloc rfl rfl rfl rfl) ?_
        refine Run.pure (dd := some 4) rfl rfl (op_assign rfl (Opd.tmp _ _ rfl)) ?_
        refine Run.eff (dd := none) rfl rfl (op_store_flat rfl (Opd.tmp _ _ rfl) (Opd.tmp _ _ rfl) tC rfl rfl (by first | rfl | assumption) tS) ?_
        refine Run.nil (FinR.mk ?_)
        refine nK ?_
        refine s_reg rfl ?_
        refine Run.load (dd := some 19) rfl rfl (op_loadw_flat rfl (Opd.tmp _ _ rfl) tH rfl) ?_
        refine Run.pure (dd := some 20) rfl rfl (op_call_pure (fun _ => kc) rfl (Opd.func _) (Opds.cons _ _ _ _ (Opd.tmp _ _ rfl) Opds.nil)) ?_
        refine Run.pure (dd := some 6) rfl rfl (op_assign rfl (Opd.tmp _ _ rfl)) ?_
        refine Run.nil (FinR.mk ?_)
        refine nK ?_
        refine s_reg rfl ?_
        refine Run.pure (dd := some 21) rfl rfl (op_move rfl (Opd.tmp _ _ rfl)) ?_
        refine Run.pure (dd := some 22) rfl rfl (op_neq rfl (Opd.tmp _ _ rfl) (Opd.const _)) ?_
        refine Run.nil (FinR.mk ?_)
        refine nK ?_
        refine n_cond _ rfl (fun hb => ?_) (fun hb => ?_)
        · rw [if_pos (by simpa using hb)] at hS
          rw [← hS]
          refine nK ?_
          refine s_reg rfl ?_
          refine Run.pure (dd := some 23) rfl rfl (op_move rfl (Opd.tmp _ _ rfl)) ?_
          refine Run.pure (dd := some 2) rfl rfl (op_assign rfl (Opd.tmp _ _ rfl)) ?_
          refine Run.nil (FinR.mk ?_)
          refine nK ?_
          (first | exact s_o1 hC rfl tV | exact s_o2 hC rfl tV tV | exact s_o3 hC rfl tV tV tV | exact s_o4 hC rfl tV tV tV tV | exact s_out0 hC rfl | exact s_outO hC rfl rfl rfl)
        · rw [if_neg (by simpa using hb)] at hS
          refine nK ?_
          refine s_reg rfl ?_
          refine Run.pure (dd := some 24) rfl rfl (op_fld_ptr (by decide) rfl (Opd.tmp _ _ rfl)) ?_
          refine Run.load (dd := some 25) rfl rfl (op_loadn_flat rfl (Opd.tmp _ _ rfl) tH tR tR) ?_
          refine Run.pure (dd := some 26) rfl rfl (op_fld_ptr (by decide) rfl (Opd.tmp _ _ rfl)) ?_
          refine Run.load (dd := some 27) rfl rfl (op_load1_flat rfl (Opd.tmp _ _ rfl) tH rfl) ?_
          refine Run.pure (dd := some 28) rfl rfl (op_build rfl rfl rfl (FillF.cons _ _ _ _ _ _ _ _ _ _ (by rfl) (Opd.tmp _ _ rfl) tC (by rfl) tR (FillF.cons _ _ _ _ _ _ _ _ _ _ (by rfl) (Opd.tmp _ _ rfl) tC (by rfl) tR (FillF.nil _)))) ?_
          refine Run.eff (dd := some 7) rfl rfl (op_alloc rfl rfl rfl rfl) ?_
          refine Run.eff (dd := none) rfl rfl (op_store_flat rfl (Opd.tmp _ _ rfl) (Opd.tmp _ _ rfl) tC rfl rfl (by first | rfl | assumption) tS) ?_
          refine Run.nil (FinR.mk ?_)
          refine nK ?_
          refine s_reg rfl ?_
          refine Run.pure (dd := some 29) rfl rfl (op_move rfl (Opd.tmp _ _ rfl)) ?_
          refine Run.load (dd := some 30) rfl rfl (op_loadw_flat rfl (Opd.tmp _ _ rfl) tH rfl) ?_
          refine Run.load (dd := some 31) rfl rfl (op_lookup (κ := Pfx × Int) (ν := Bool) (ek := ekK) (ev := Bf) (l := M) (k := (x.pf, x.pr)) false rfl (Opd.tmp _ _ rfl) (Opd.tmp _ _ rfl) rfl (by intro _; exact ⟨kn, kk, okx.1, okx.2.1⟩) (fun w S => .lit _)) ?_
          refine Run.nil (FinR.mk ?_)
          refine nK ?_
          refine n_cond _ rfl (fun hb => ?_) (fun hb => ?_)
          · have hb' : (mget M (x.pf, x.pr)).getD false = true := hb
            rw [kg] at hb'
            rw [if_pos hb'] at hS
            rw [← hS]
            refine nK ?_
            refine s_reg rfl ?_
            refine Run.pure (dd := some 2) rfl rfl (op_assign rfl (Opd.const _)) ?_
            refine Run.nil (FinR.mk ?_)
            refine nK ?_
            (first | exact s_o1 hC rfl tV | exact s_o2 hC rfl tV tV | exact s_o3 hC rfl tV tV tV | exact s_o4 hC rfl tV tV tV tV | exact s_out0 hC rfl | exact s_outO hC rfl rfl rfl)
          · have hb' : (mget M (x.pf, x.pr)).getD false = false := hb
            rw [kg] at hb'
            rw [if_neg (by rw [hb']; decide)] at hS
            refine nK ?_
            refine s_reg rfl ?_
            refine Run.pure (dd := some 32) rfl rfl (op_move rfl (Opd.tmp _ _ rfl)) ?_
            refine Run.load (dd := some 33) rfl rfl (op_loadw_flat rfl (Opd.tmp _ _ rfl) tH rfl) ?_
            refine Run.eff (dd := none) rfl rfl (op_mapPut (κ := Pfx × Int) (ν := Bool) (ek := ekK) (ev := Bf) (l := M) (k := (x.pf, x.pr)) (v := true) (.inl rfl) (Opd.tmp _ _ rfl) (Opd.tmp _ _ rfl) (Opd.const _) rfl kn kk ⟨okx.1, okx.2.1⟩) ?_
            refine Run.nil (FinR.mk ?_)
            refine nK ?_
            refine s_draw mixed ?_
            refine Run.pure (dd := some 34) rfl rfl (op_move rfl (Opd.tmp _ _ rfl)) ?_
            refine Run.pure (dd := some 35) rfl rfl (op_gtr rfl (Opd.tmp _ _ rfl) (Opd.const _)) ?_
            refine Run.pure (dd := some 36) rfl rfl (op_move rfl (Opd.tmp _ _ rfl)) ?_
            refine Run.pureG (dd := some 37) rfl rfl rfl tG (op_move rfl (Opd.tmp _ _ rfl)) ?_
            refine Run.pureG (dd := some 38) rfl rfl rfl tG (op_move rfl (Opd.tmp _ _ rfl)) ?_
            refine Run.pureG (dd := some 39) rfl rfl rfl tG (op_sub rfl (Opd.topt _ _ _ rfl tO) (Opd.const _) tI) ?_
            refine Run.pureG (dd := some 40) rfl rfl rfl tG (op_idx_fz (i - 1) rfl (Opd.topt _ _ _ rfl tO) (Opd.topt _ _ _ rfl tO) (by intro hg; have h0 : 0 < i := (by simp at hg; omega); exact ⟨by omega, (hq h0).2⟩)) ?_
            refine Run.pureG (dd := some 41) rfl rfl rfl tG (op_loadw_fz rfl (Opd.topt _ _ _ rfl tO) rfl) ?_
            refine Run.loadG (dd := some 42) rfl rfl rfl tG (op_loadw_flat rfl (Opd.tmp _ _ rfl) tH rfl) ?_
            refine Run.pureG (dd := some 43) rfl rfl rfl tG (op_call_pure (fun _ => crt_c q x) rfl (Opd.func _) (Opds.cons _ _ _ _ (Opd.topt _ _ _ rfl tO) (Opds.cons _ _ _ _ (Opd.topt _ _ _ rfl tO) Opds.nil))) ?_
            refine Run.pureG (dd := some 44) rfl rfl rfl tG (op_geq rfl (Opd.topt _ _ _ rfl tO) (Opd.const _)) ?_
            refine Run.pure (dd := some 45) rfl rfl (op_pick_and rfl (Opd.tmp _ _ rfl) (Opd.topt _ _ _ rfl tO)) ?_
            refine Run.nil (FinD.mk (by kernel_rfl) ?_)
            refine nK ?_
            refine n_cond _ rfl (fun hb => ?_) (fun hb => ?_)
            · have h0 : 0 < i := by simp at hb; omega
              rw [(hq h0).1, if_pos (by simp at hb; simpa [badRt] using hb.2)] at hS
              rw [← hS]
              refine nK ?_
              refine s_reg rfl ?_
              refine Run.pure (dd := some 2) rfl rfl (op_assign rfl (Opd.const _)) ?_
              refine Run.nil (FinR.mk ?_)
              refine nK ?_
              (first | exact s_o1 hC rfl tV | exact s_o2 hC rfl tV tV | exact s_o3 hC rfl tV tV tV | exact s_o4 hC rfl tV tV tV tV | exact s_out0 hC rfl | exact s_outO hC rfl rfl rfl)
            · have hc : ¬ badRt (prvG l i) x = true := by
                by_cases h0 : 0 < i
                · rw [(hq h0).1]; simp [h0, badRt] at hb ⊢; exact hb
                · have : i = 0 := by omega
                  subst this; simp [prvG, badRt]
              rw [if_neg hc] at hS
              refine nK ?_
              refine s_reg rfl ?_
              refine Run.pure (dd := some 46) rfl rfl (op_add rfl (Opd.tmp _ _ rfl) (Opd.const _) tI) ?_
              refine Run.pure (dd := some 14) rfl rfl (op_move rfl (Opd.tmp _ _ rfl)) ?_
              refine Run.nil (FinR.mk ?_)
              refine nK ?_
              refine Next.weakS [3] [] (by rfl) (by first | exact keeps0 hC _ | exact keepsN hC _ rfl) (by repeat (first | exact trivial | refine ⟨⟨_, rfl, .inl ⟨rfl, rfl⟩⟩, ?_⟩ | refine ⟨⟨_, rfl, .inl ⟨slEq rfl tN, rfl⟩⟩, ?_⟩ | refine ⟨⟨_, rfl, .inl ⟨ivEq tX, rfl⟩⟩, ?_⟩)) (by repeat (first | exact trivial | refine ⟨ent_same rfl rfl rfl tL, ?_⟩ | refine ⟨ent_same rfl rfl (rfEq rfl tU) tL, ?_⟩ | refine ⟨ent_same rfl rfl (flEq rfl (by first | (simp; done) | (simp; omega) | (simp [encHo, encRt, encP]; done) | simp [maxC, minC])) trivial, ?_⟩)) rfl ((hK1 hS))
      · have hie : i = l.length := by simp at hb; omega
        rw [hie, List.drop_length] at hS
        rw [← hS]
        simp only [chkGo]
        refine nK ?_
        refine s_reg rfl ?_
        refine Run.pure (dd := some 2) rfl rfl (op_assign rfl (Opd.const _)) ?_
        refine Run.nil (FinR.mk ?_)
        refine nK ?_
        (first | exact s_o1 hC rfl tV | exact s_o2 hC rfl tV tV | exact s_o3 hC rfl tV tV tV | exact s_o4 hC rfl tV tV tV tV | exact s_out0 hC rfl | exact s_outO hC rfl rfl rfl)
theorem rckl_c (l : List Rte) (ho : ∀ x ∈ l, okRt x) (hh : ∀ x ∈ l, lenOk x.hs.length) (hn : lenOk l.length) : Pure Try.prog 12 [VRt l] (If .i64 (checkL l)) := by
  unfold checkL
  refine Meets.intro Try.func12 rfl (Nat.le_of_ble_eq_true rfl) fun C hC => ?_
  simp only [List.map, argEnv, Nat.reduceAdd]
  refine nK ?_
  refine s_reg rfl ?_
  refine Run.pure (dd := some 2) rfl rfl (op_assign rfl (Opd.const _)) ?_
  refine Run.nil (FinR.mk ?_)
  refine nK ?_
  refine s_reg rfl ?_
  refine Run.pure (dd := some 6) rfl rfl (op_move rfl (Opd.tmp _ _ rfl)) ?_
  refine Run.pure (dd := some 7) rfl rfl (op_len_fz rfl (by first | exact Opd.tmp _ _ rfl | exact Opd.nil _ _ (Opd.tmp _ _ rfl)) (by first | exact List.length_map _ | rfl)) ?_
  refine Run.pure (dd := some 8) rfl rfl (op_gtr rfl (Opd.tmp _ _ rfl) (Opd.const _)) ?_
  refine Run.nil (FinR.mk ?_)
  refine nK ?_
  refine n_cond _ rfl (fun hb => ?_) (fun hb => ?_)
  · rw [if_pos (by simp at hb; omega)]
    refine nK ?_
    refine s_reg rfl ?_
    refine Run.pure (dd := some 2) rfl rfl (op_assign rfl (Opd.const _)) ?_
    refine Run.nil (FinR.mk ?_)
    refine nK ?_
    (first | exact s_o1 hC rfl tV | exact s_o2 hC rfl tV tV | exact s_o3 hC rfl tV tV tV | exact s_o4 hC rfl tV tV tV tV | exact s_out0 hC rfl | exact s_outO hC rfl rfl rfl)
  · have hlen : l.length ≤ 2000 := by simp at hb; omega
    rw [if_neg (by omega)]
    refine nK ?_
    refine s_reg rfl ?_
    refine Run.pure (dd := some 9) rfl rfl (op_move rfl (Opd.tmp _ _ rfl)) ?_
    refine Run.pure (dd := some 10) rfl rfl (op_len_fz rfl (by first | exact Opd.tmp _ _ rfl | exact Opd.nil _ _ (Opd.tmp _ _ rfl)) (by first | exact List.length_map _ | rfl)) ?_
    refine Run.pure (dd := some 11) rfl rfl (op_move rfl (Opd.const _)) ?_
    refine Run.nil (FinR.mk ?_)
    refine nK ?_
    refine n_loop (ι := Nat) (fun i => ([(0, .fz (VRt l)), (9, .fz (VRt l)), (10, IV .i64 l.length), (11, IV .i64 i)], [], 0)) (fun i => i ≤ l.length ∧ chkGo l (l.take i) (l.drop i) = chkGo l [] l) (fun i => l.length - i) 0 ⟨Nat.zero_le _, rfl⟩ ?_ ?_
    · refine Next.weak [] [] (by rfl) (keeps0 hC _) (by repeat (first | exact trivial | refine ⟨⟨_, rfl, .inl ⟨rfl, rfl⟩⟩, ?_⟩)) (by repeat (first | exact trivial | refine ⟨ent_same rfl rfl rfl tL, ?_⟩ | refine ⟨ent_same rfl rfl (rfEq rfl tU) tL, ?_⟩ | refine ⟨ent_same rfl rfl (flEq rfl (by first | (simp; done) | (simp; omega) | (simp [encHo, encRt, encP]; done) | simp [maxC, minC])) trivial, ?_⟩)) (fun _ h => by simp at h) rel_intro
    · intro i ⟨hi, hS⟩ K hK
      refine nK ?_
      refine s_reg rfl ?_
      refine Run.pure (dd := some 12) rfl rfl (op_lss rfl (Opd.tmp _ _ rfl) (Opd.tmp _ _ rfl)) ?_
      refine Run.nil (FinR.mk ?_)
      refine nK ?_
      refine n_cond _ rfl (fun hb => ?_) (fun hb => ?_)
      · have hlt : i < l.length := by simp at hb; omega
        have hr1 := row_at' encRt l i hlt
        rw [rtchk_step l hlt] at hS
        have hK1 := fun h => hK (i + 1) ⟨by omega, h⟩ (by omega)
        have okx := ho _ (List.getElem_mem hlt)
        have lx := hh _ (List.getElem_mem hlt)
        obtain ⟨q, hq⟩ := prv_row encRt l zRte (by omega : i ≤ l.length)
        generalize l[i] = x at *
        have kc := rckrt_c x okx lx
        have kh := has_c (l.take i) x.pf x.pr (by rw [List.length_take]; omega)
        refine nK ?_
        refine s_reg rfl ?_
        refine Run.pure (dd := some 13) rfl rfl (op_move rfl (Opd.tmp _ _ rfl)) ?_
        refine Run.pure (dd := some 14) rfl rfl (op_idx_fz _ rfl (Opd.tmp _ _ rfl) (Opd.tmp _ _ rfl) tF) ?_
        refine Run.pure (dd := some 15) rfl rfl (op_loadw_fz rfl (Opd.tmp _ _ rfl) rfl) ?_
        refine Run.eff (dd := some 4) rfl rfl (op_alloc rfl rfl rfl rfl) ?_
        refine Run.pure (dd := some 3) rfl rfl (op_assign rfl (Opd.tmp _ _ rfl)) ?_
        refine Run.eff (dd := none) rfl rfl (op_store_flat rfl (Opd.tmp _ _ rfl) (Opd.tmp _ _ rfl) tC rfl rfl (by first | rfl | assumption) tS) ?_
        refine Run.nil (FinR.mk ?_)
        refine nK ?_
        refine s_reg rfl ?_
        refine Run.load (dd := some 16) rfl rfl (op_loadw_flat rfl (Opd.tmp _ _ rfl) tH rfl) ?_
        refine Run.pure (dd := some 17) rfl rfl (op_call_pure (fun _ => kc) rfl (Opd.func _) (Opds.cons _ _ _ _ (Opd.tmp _ _ rfl) Opds.nil)) ?_
        refine Run.pure (dd := some 5) rfl rfl (op_assign rfl (Opd.tmp _ _ rfl)) ?_
        refine Run.nil (FinR.mk ?_)
        refine nK ?_
        refine s_reg rfl ?_
        refine Run.pure (dd := some 18) rfl rfl (op_move rfl (Opd.tmp _ _ rfl)) ?_
        refine Run.pure (dd := some 19) rfl rfl (op_neq rfl (Opd.tmp _ _ rfl) (Opd.const _)) ?_
        refine Run.nil (FinR.mk ?_)
        refine nK ?_
        refine n_cond _ rfl (fun hb => ?_) (fun hb => ?_)
        · rw [if_pos (by simpa using hb)] at hS
          rw [← hS]
          refine nK ?_
          refine s_reg rfl ?_
          refine Run.pure (dd := some 20) rfl rfl (op_move rfl (Opd.tmp _ _ rfl)) ?_
          refine Run.pure (dd := some 2) rfl rfl (op_assign rfl (Opd.tmp _ _ rfl)) ?_
          refine Run.nil (FinR.mk ?_)
          refine nK ?_
          (first | exact s_o1 hC rfl tV | exact s_o2 hC rfl tV tV | exact s_o3 hC rfl tV tV tV | exact s_o4 hC rfl tV tV tV tV | exact s_out0 hC rfl | exact s_outO hC rfl rfl rfl)
        · rw [if_neg (by simpa using hb)] at hS
          refine nK ?_
          refine s_draw mixed ?_
          refine Run.pure (dd := some 21) rfl rfl (op_move rfl (Opd.tmp _ _ rfl)) ?_
          refine Run.pure (dd := some 22) rfl rfl (op_move rfl (Opd.tmp _ _ rfl)) ?_
          refine Run.pure (dd := some 23) rfl rfl (op_slice_fz (l := 0) (h := i) (rs := (l.take i).map encRt) rfl (Opd.tmp _ _ rfl) (Bnd.no _) (Bnd.yes _ _ _ _ _ (Opd.tmp _ _ rfl) (by intro _; rfl)) (by intro _; exact ⟨Nat.zero_le _, by simp; omega, by simp [List.map_take]⟩)) ?_
          refine Run.pure (dd := some 24) rfl rfl (op_fld_ptr (by decide) rfl (Opd.tmp _ _ rfl)) ?_
          refine Run.load (dd := some 25) rfl rfl (op_loadn_flat rfl (Opd.tmp _ _ rfl) tH tR tR) ?_
          refine Run.pure (dd := some 26) rfl rfl (op_fld_ptr (by decide) rfl (Opd.tmp _ _ rfl)) ?_
          refine Run.load (dd := some 27) rfl rfl (op_load1_flat rfl (Opd.tmp _ _ rfl) tH rfl) ?_
          refine Run.pure (dd := some 28) rfl rfl (op_call_pure (fun _ => kh) rfl (Opd.func _) (Opds.cons _ _ _ _ (Opd.tmp _ _ rfl) (Opds.cons _ _ _ _ (Opd.tmp _ _ rfl) (Opds.cons _ _ _ _ (Opd.tmp _ _ rfl) Opds.nil)))) ?_
          refine Run.nil (FinD.mk (by kernel_rfl) ?_)
          refine nK ?_
          refine n_cond _ rfl (fun hb => ?_) (fun hb => ?_)
          · rw [if_pos hb] at hS
            rw [← hS]
            refine nK ?_
            refine s_reg rfl ?_
            refine Run.pure (dd := some 2) rfl rfl (op_assign rfl (Opd.const _)) ?_
            refine Run.nil (FinR.mk ?_)
            refine nK ?_
            (first | exact s_o1 hC rfl tV | exact s_o2 hC rfl tV tV | exact s_o3 hC rfl tV tV tV | exact s_o4 hC rfl tV tV tV tV | exact s_out0 hC rfl | exact s_outO hC rfl rfl rfl)
          · rw [if_neg (by rw [hb]; decide)] at hS
            refine nK ?_
            refine s_draw mixed ?_
            refine Run.pure (dd := some 29) rfl rfl (op_move rfl (Opd.tmp _ _ rfl)) ?_
            refine Run.pure (dd := some 30) rfl rfl (op_gtr rfl (Opd.tmp _ _ rfl) (Opd.const _)) ?_
            refine Run.pure (dd := some 31) rfl rfl (op_move rfl (Opd.tmp _ _ rfl)) ?_
            refine Run.pureG (dd := some 32) rfl rfl rfl tG (op_move rfl (Opd.tmp _ _ rfl)) ?_
            refine Run.pureG (dd := some 33) rfl rfl rfl tG (op_move rfl (Opd.tmp _ _ rfl)) ?_
            refine Run.pureG (dd := some 34) rfl rfl rfl tG (op_sub rfl (Opd.topt _ _ _ rfl tO) (Opd.const _) tI) ?_
            refine Run.pureG (dd := some 35) rfl rfl rfl tG (op_idx_fz (i - 1) rfl (Opd.topt _ _ _ rfl tO) (Opd.topt _ _ _ rfl tO) (by intro hg; have h0 : 0 < i := (by simp at hg; omega); exact ⟨by omega, (hq h0).2⟩)) ?_
            refine Run.pureG (dd := some 36) rfl rfl rfl tG (op_loadw_fz rfl (Opd.topt _ _ _ rfl tO) rfl) ?_
            refine Run.loadG (dd := some 37) rfl rfl rfl tG (op_loadw_flat rfl (Opd.tmp _ _ rfl) tH rfl) ?_
            refine Run.pureG (dd := some 38) rfl rfl rfl tG (op_call_pure (fun _ => before_c q x) rfl (Opd.func _) (Opds.cons _ _ _ _ (Opd.topt _ _ _ rfl tO) (Opds.cons _ _ _ _ (Opd.topt _ _ _ rfl tO) Opds.nil))) ?_
            refine Run.pureG (dd := some 39) rfl rfl rfl tG (op_not rfl (Opd.topt _ _ _ rfl tO)) ?_
            refine Run.pure (dd := some 40) rfl rfl (op_pick_and rfl (Opd.tmp _ _ rfl) (Opd.topt _ _ _ rfl tO)) ?_
            refine Run.nil (FinD.mk (by kernel_rfl) ?_)
            refine nK ?_
            refine n_cond _ rfl (fun hb => ?_) (fun hb => ?_)
            · have h0 : 0 < i := by simp at hb; omega
              rw [(hq h0).1, if_pos (by simp at hb; simpa [badRt] using hb.2)] at hS
              rw [← hS]
              refine nK ?_
              refine s_reg rfl ?_
              refine Run.pure (dd := some 2) rfl rfl (op_assign rfl (Opd.const _)) ?_
              refine Run.nil (FinR.mk ?_)
              refine nK ?_
              (first | exact s_o1 hC rfl tV | exact s_o2 hC rfl tV tV | exact s_o3 hC rfl tV tV tV | exact s_o4 hC rfl tV tV tV tV | exact s_out0 hC rfl | exact s_outO hC rfl rfl rfl)
            · have hc : ¬ badRt (prvG l i) x = true := by
                by_cases h0 : 0 < i
                · rw [(hq h0).1]; simp [h0, badRt] at hb ⊢; exact hb
                · have : i = 0 := by omega
                  subst this; simp [prvG, badRt]
              rw [if_neg hc] at hS
              refine nK ?_
              refine s_reg rfl ?_
              refine Run.pure (dd := some 41) rfl rfl (op_add rfl (Opd.tmp _ _ rfl) (Opd.const _) tI) ?_
              refine Run.pure (dd := some 11) rfl rfl (op_move rfl (Opd.tmp _ _ rfl)) ?_
              refine Run.nil (FinR.mk ?_)
              refine nK ?_
              refine Next.weak [] [] (by rfl) (keeps0 hC _) (by repeat (first | exact trivial | refine ⟨⟨_, rfl, .inl ⟨rfl, rfl⟩⟩, ?_⟩)) (by repeat (first | exact trivial | refine ⟨ent_same rfl rfl rfl tL, ?_⟩ | refine ⟨ent_same rfl rfl (rfEq rfl tU) tL, ?_⟩ | refine ⟨ent_same rfl rfl (flEq rfl (by first | (simp; done) | (simp; omega) | (simp [encHo, encRt, encP]; done) | simp [maxC, minC])) trivial, ?_⟩)) (fun _ h => by simp at h) (hK1 hS)
      · have hie : i = l.length := by simp at hb; omega
        rw [hie, List.drop_length] at hS
        rw [← hS]
        simp only [chkGo]
        refine nK ?_
        refine s_reg rfl ?_
        refine Run.pure (dd := some 2) rfl rfl (op_assign rfl (Opd.const _)) ?_
        refine Run.nil (FinR.mk ?_)
        refine nK ?_
        (first | exact s_o1 hC rfl tV | exact s_o2 hC rfl tV tV | exact s_o3 hC rfl tV tV tV | exact s_o4 hC rfl tV tV tV tV | exact s_out0 hC rfl | exact s_outO hC rfl rfl rfl)
end Go.Proofs.Ytinddhlmgiahiaa
/- '==' on structs that hold structs of numbers. -/
namespace Go.RT
open Go
set_option linter.all false
inductive Cmp (P : Program) : List Field → Nat → List FV → List FV → Prop where
  | nil (k : Nat) : Cmp P [] k [] []
  | int (f : Field) (r : List Field) (k : Nat) (kd kk : IntKind) (u v : Int) (a b : List FV) : (f.name != "_") = true → f.offset = k → P.underlying f.type = some (.int kk) → Cmp P r (k + 1) a b → Cmp P (f :: r) k (.lit (.int kd u) :: a) (.lit (.int kd v) :: b)
  | bool (f : Field) (r : List Field) (k : Nat) (u v : Bool) (a b : List FV) : (f.name != "_") = true → f.offset = k → P.underlying f.type = some .bool → Cmp P r (k + 1) a b → Cmp P (f :: r) k (.lit (.bool u) :: a) (.lit (.bool v) :: b)
  | str (f : Field) (r : List Field) (k n : Nat) (c d a b : List FV) : (f.name != "_") = true → f.offset = k → EqS P f.type n → (P.info? f.type).isSome = true → P.cellsOf f.type = n → c.length = n → d.length = n → fitFs P (P.fieldsOf f.type).toList c d = true → Cmp P r (k + n) a b → Cmp P (f :: r) k (c ++ a) (d ++ b)
theorem eqFs_app {P : Program} : ∀ (fs : List Field) (c d a b : List FV), fitFs P fs c d = true → eqFs (c ++ a) (d ++ b) = (eqFs c d && eqFs a b)
  | [], c, d, a, b, h => by
    match c, d, h with
    | [], [], _ => simp [eqFs]
  | f :: fs, c, d, a, b, h => by
    match c, d, h with
    | .lit (.int k u) :: c, .lit (.int k' v) :: d, h =>
      simp only [fitFs, Bool.and_eq_true] at h
      simp only [List.cons_append, eqFs, eqFs_app fs c d a b h.2, Bool.and_assoc]
    | .lit (.bool u) :: c, .lit (.bool v) :: d, h =>
      simp only [fitFs, Bool.and_eq_true] at h
      simp only [List.cons_append, eqFs, eqFs_app fs c d a b h.2, Bool.and_assoc]
theorem cmp_run {P : Program} {w : World} {S : Nat → Prop} (d : Nat) (xs ys : Array Value) (FX FY : List FV) (hx : xs.size = FX.length) (hy : ys.size = FY.length) (rx : ∀ (i : Nat) (c : Value) (f : FV), xs[i]? = some c → FX[i]? = some f → FRep w S c f) (ry : ∀ (i : Nat) (c : Value) (f : FV), ys[i]? = some c → FY[i]? = some f → FRep w S c f)
    {fs : List Field} {k : Nat} {A B : List FV} (h : Cmp P fs k A B) : FX.drop k = A → FY.drop k = B → (Op.eqFields (d + 2) xs ys fs).run P w = .ok (eqFs A B) w := by
  have tail : ∀ (F : List FV) (k : Nat) (x : FV) (r : List FV), F.drop k = x :: r → F[k]? = some x ∧ F.drop (k + 1) = r := fun F k x r e => by
    have e1 : F[k]? = some x := by rw [← List.head?_drop, e]; rfl
    refine ⟨e1, ?_⟩
    have : (F.drop k).tail = F.drop (k + 1) := by simp
    rw [← this, e]; rfl
  have cell : ∀ (V : Array Value) (F : List FV) (k : Nat) (x : FV), V.size = F.length → F[k]? = some x → ∃ c, V[k]? = some c := fun V F k x hs e => by
    have : k < V.size := by rw [hs]; exact (List.getElem?_eq_some_iff.1 e).1
    exact ⟨V[k], by simp [this]⟩
  induction h with
  | nil k => intro _ _; simp [Op.eqFields, eqFs]
  | int f r k kd kk u v a b h1 h2 h3 _ ih =>
    intro ha hb
    obtain ⟨e1, e2⟩ := tail FX k _ _ ha
    obtain ⟨e3, e4⟩ := tail FY k _ _ hb
    obtain ⟨c1, hc1⟩ := cell xs FX k _ hx e1
    obtain ⟨c2, hc2⟩ := cell ys FY k _ hy e3
    have r1 := rx k c1 _ hc1 e1
    have r2 := ry k c2 _ hc2 e3
    cases r1; cases r2
    have hi : isIntT P f.type = true ∨ isBoolT P f.type = true := .inl (by simp [isIntT, h3])
    have ih' := ih e2 e4
    subst h2
    simp only [bne_iff_ne, ne_eq] at h1
    simp only [Op.eqFields, h1, not_false_eq_true, if_true, Sem.run_bind, run_part1 hi xs _ hc1, run_part1 hi ys _ hc2, Result.andThen_ok, run_equalIn_int w (d + 1) f.type kd kk u v h3, eqFs, ne_eq]
    by_cases huv : u = v
    · subst huv; simp [ih']
    · have : (u == v) = false := by simpa using huv
      simp [huv, this]
  | bool f r k u v a b h1 h2 h3 _ ih =>
    intro ha hb
    obtain ⟨e1, e2⟩ := tail FX k _ _ ha
    obtain ⟨e3, e4⟩ := tail FY k _ _ hb
    obtain ⟨c1, hc1⟩ := cell xs FX k _ hx e1
    obtain ⟨c2, hc2⟩ := cell ys FY k _ hy e3
    have r1 := rx k c1 _ hc1 e1
    have r2 := ry k c2 _ hc2 e3
    cases r1; cases r2
    have hi : isIntT P f.type = true ∨ isBoolT P f.type = true := .inr (by simp [isBoolT, h3])
    have ih' := ih e2 e4
    subst h2
    simp only [bne_iff_ne, ne_eq] at h1
    simp only [Op.eqFields, h1, not_false_eq_true, if_true, Sem.run_bind, run_part1 hi xs _ hc1, run_part1 hi ys _ hc2, Result.andThen_ok, run_equalIn_bool' w (d + 1) f.type u v h3, eqFs, ne_eq]
    by_cases huv : u = v
    · subst huv; simp [ih']
    · have : (u == v) = false := by simpa using huv
      simp [huv, this]
  | str f r k n c e a b h1 h2 hS h3 h4 hc hd hfit _ ih =>
    intro ha hb
    obtain ⟨i, h3⟩ := Option.isSome_iff_exists.1 h3
    obtain ⟨s1, s2, s3, s4⟩ := hS.h
    have hag : TyA P f.type true := ⟨_, s1, rfl⟩
    have hdrop : ∀ (F c a : List FV), F.drop k = c ++ a → c.length = n → F.drop (k + n) = a ∧ ∀ (j : Nat) (x : FV), c[j]? = some x → F[k + j]? = some x := fun F c a e hl => by
      refine ⟨by rw [← List.drop_drop, e, ← hl, List.drop_left], fun j x hj => ?_⟩
      have : (F.drop k)[j]? = some x := by rw [e, List.getElem?_append_left (List.getElem?_eq_some_iff.1 hj).1]; exact hj
      rwa [List.getElem?_drop] at this
    obtain ⟨x1, x2⟩ := hdrop FX c a ha hc
    obtain ⟨y1, y2⟩ := hdrop FY e b hb hd
    have hpart : ∀ (V : Array Value), (part f.type V f.offset).run P w = .ok (.agg (V.extract f.offset (f.offset + n))) w := fun V => by
      simp only [part, Sem.run_bind, run_isAgg hag, Result.andThen_ok, if_true, run_sizeOf w h3, h4, Sem.run_pure]
    have hlen : ∀ (V : Array Value) (F c a : List FV), V.size = F.length → F.drop k = c ++ a → c.length = n → (V.extract k (k + n)).size = c.length := fun V F c a hs e hl => by
      have : (F.drop k).length = c.length + a.length := by rw [e, List.length_append]
      rw [List.length_drop] at this
      rw [Array.size_extract, hs]; omega
    have hget : ∀ (V : Array Value) (j : Nat) (u : Value), (V.extract k (k + n))[j]? = some u → V[k + j]? = some u := fun V j u hj => by
      rw [Array.getElem?_extract] at hj
      split at hj
      · exact hj
      · cases hj
    have hsub := eqFields_run (P := P) (w := w) (S := S) d (xs.extract k (k + n)) (ys.extract k (k + n)) c e (hlen xs FX c a hx ha hc) (hlen ys FY e b hy hb hd) (fun j u q h5 h6 => rx (k + j) u q (hget xs j u h5) (x2 j q h6)) (fun j u q h5 h6 => ry (k + j) u q (hget ys j u h5) (y2 j q h6)) _ 0 n s4 (by simpa using hfit)
    simp only [List.drop_zero] at hsub
    have ih' := ih x1 y1
    subst h2
    simp only [bne_iff_ne, ne_eq] at h1
    simp only [Op.eqFields, h1, not_false_eq_true, if_true, Sem.run_bind, hpart, Result.andThen_ok, run_equalIn_struct w (d + 1) f.type _ _ s1 s2, hsub, eqFs_app _ c e a b hfit, ne_eq]
    cases eqFs c e with
    | true => simp [ih']
    | false => simp
section
variable {P : Program} {o : Oper} {g : Bool} {G : Env} {x y : Operand} {t t' : TypeId}
theorem op_neC {fs gs : List FV} (h1 : P.underlying t = some (.struct (P.fieldsOf t))) (h2 : P.stoodInHeld t = false) (h3 : P.eqGuardType P.depth t = false) (hc : Cmp P (P.fieldsOf t).toList 0 fs gs) (ho : o.op = .binOp .neq t x y t') (hx : Opd G g x (.fz (.agg fs))) (hy : Opd G g y (.fz (.agg gs))) : OpP P o g G (BV (!eqFs fs gs)) :=
  .of fun S m a w hg ha => by
    have r1 := (hx.rep hg (by simp [ho, Op.operands]) ha).frz
    have r2 := (hy.rep hg (by simp [ho, Op.operands]) ha).frz
    generalize hv1 : a.eval x = v1 at r1
    generalize hv2 : a.eval y = v2 at r2
    cases r1 with
    | agg cs _ l1 k1 _ =>
      cases r2 with
      | agg ds _ l2 k2 _ =>
        have := cmp_run (P := P) (w := w) (S := S) 9997 cs ds fs gs l1 l2 k1 k2 hc rfl rfl
        refine ⟨.bool (!eqFs fs gs), ?_, .fz _ _ (.lit _)⟩
        simp only [execOp, ho, hv1, hv2, Sem.run_bind, run_eqGuard_agg w _ t x y cs ds h3, Result.andThen_ok, run_neq_struct, run_equalIn_struct w 9999 t cs ds h1 h2]
        simp [this]
end
end Go.RT
namespace Go.Proofs.Ytinddhlmgiahiaa
open Go Go.RT Go.Proofs Go.Pl
set_option linter.all false
set_option maxRecDepth 20000
theorem drop_eq {α : Type} {a b : List α} {i : Nat} (ha : i < a.length) (hb : i < b.length) : (a.drop i = b.drop i) ↔ a[i] = b[i] ∧ a.drop (i + 1) = b.drop (i + 1) := by
  rw [List.drop_eq_getElem_cons ha, List.drop_eq_getElem_cons hb, List.cons.injEq]
theorem cmp_hop (a b : Hop) : Cmp Try.prog (Try.prog.fieldsOf 52).toList 0 (encHo a) (encHo b) := by
  simp only [Program.fieldsOf, Try.underlying52]
  exact .int _ _ _ _ .u32 _ _ _ _ rfl rfl (by kernel_rfl) (.int _ _ _ _ .i64 _ _ _ _ rfl rfl (by kernel_rfl) (.int _ _ _ _ .u32 _ _ _ _ rfl rfl (by kernel_rfl) (.int _ _ _ _ .i64 _ _ _ _ rfl rfl (by kernel_rfl)
    (.str _ _ _ 2 [If .u32 a.via.addr, If .i64 a.via.len] [If .u32 b.via.addr, If .i64 b.via.len] [] [] rfl rfl inferInstance (by kernel_rfl) (by kernel_rfl) rfl rfl (by kernel_rfl) (.nil _)))))
theorem hop_s1 : Try.prog.underlying 52 = some (.struct (Try.prog.fieldsOf 52)) := by kernel_rfl
theorem hop_s2 : Try.prog.stoodInHeld 52 = false := by kernel_rfl
theorem hop_s3 : Try.prog.eqGuardType Try.prog.depth 52 = false := by kernel_rfl
theorem equalHo_c (a b : List Hop) (ha : lenOk a.length) (hb0 : lenOk b.length) : Pure Try.prog 40 [VHo a, VHo b] (Bf (decide (a = b))) := by
  refine Meets.intro Try.func40 rfl (Nat.le_of_ble_eq_true rfl) fun C hC => ?_
  simp only [List.map, argEnv, Nat.reduceAdd]
  refine nK ?_
  refine s_reg rfl ?_
  refine Run.pure (dd := some 4) rfl rfl (op_assign rfl (Opd.const _)) ?_
  refine Run.nil (FinR.mk ?_)
  refine nK ?_
  refine s_reg rfl ?_
  refine Run.pure (dd := some 6) rfl rfl (op_move rfl (Opd.tmp _ _ rfl)) ?_
  refine Run.pure (dd := some 7) rfl rfl (op_len_fz rfl (by first | exact Opd.tmp _ _ rfl | exact Opd.nil _ _ (Opd.tmp _ _ rfl)) (by first | exact List.length_map _ | rfl)) ?_
  refine Run.pure (dd := some 8) rfl rfl (op_move rfl (Opd.tmp _ _ rfl)) ?_
  refine Run.pure (dd := some 9) rfl rfl (op_len_fz rfl (by first | exact Opd.tmp _ _ rfl | exact Opd.nil _ _ (Opd.tmp _ _ rfl)) (by first | exact List.length_map _ | rfl)) ?_
  refine Run.pure (dd := some 10) rfl rfl (op_neq rfl (Opd.tmp _ _ rfl) (Opd.tmp _ _ rfl)) ?_
  refine Run.nil (FinR.mk ?_)
  refine nK ?_
  refine n_cond _ rfl (fun hb => ?_) (fun hb => ?_)
  · have e : decide (a = b) = false := by
      rw [decide_eq_false_iff_not]; rintro rfl; simp at hb
    rw [e]
    refine nK ?_
    refine s_reg rfl ?_
    refine Run.pure (dd := some 4) rfl rfl (op_assign rfl (Opd.const _)) ?_
    refine Run.nil (FinR.mk ?_)
    refine nK ?_
    (first | exact s_o1 hC rfl tV | exact s_o2 hC rfl tV tV | exact s_o3 hC rfl tV tV tV | exact s_o4 hC rfl tV tV tV tV | exact s_out0 hC rfl | exact s_outO hC rfl rfl rfl)
  · have hl : a.length = b.length := by simp at hb; omega
    refine nK ?_
    refine s_reg rfl ?_
    refine Run.pure (dd := some 11) rfl rfl (op_move rfl (Opd.tmp _ _ rfl)) ?_
    refine Run.pure (dd := some 12) rfl rfl (op_len_fz rfl (by first | exact Opd.tmp _ _ rfl | exact Opd.nil _ _ (Opd.tmp _ _ rfl)) (by first | exact List.length_map _ | rfl)) ?_
    refine Run.pure (dd := some 13) rfl rfl (op_move rfl (Opd.const _)) ?_
    refine Run.nil (FinR.mk ?_)
    refine nK ?_
    refine n_loop (ι := Nat) (fun i => ([(0, .fz (VHo a)), (1, .fz (VHo b)), (12, IV .i64 a.length), (13, IV .i64 i)], [], 0)) (fun i => i ≤ a.length ∧ (a = b ↔ a.drop i = b.drop i)) (fun i => a.length - i) 0 ⟨Nat.zero_le _, Iff.rfl⟩ ?_ ?_
    · refine Next.weak [] [] (by rfl) (keeps0 hC _) (by repeat (first | exact trivial | refine ⟨⟨_, rfl, .inl ⟨rfl, rfl⟩⟩, ?_⟩)) (by repeat (first | exact trivial | refine ⟨ent_same rfl rfl rfl tL, ?_⟩ | refine ⟨ent_same rfl rfl (rfEq rfl tU) tL, ?_⟩ | refine ⟨ent_same rfl rfl (flEq rfl (by first | (simp; done) | (simp; omega) | (simp [encHo, encRt, encP]; done) | simp [maxC, minC])) trivial, ?_⟩)) (fun _ h => by simp at h) rel_intro
    · intro i ⟨hi, ho⟩ K hK
      refine nK ?_
      refine s_reg rfl ?_
      refine Run.pure (dd := some 14) rfl rfl (op_lss rfl (Opd.tmp _ _ rfl) (Opd.tmp _ _ rfl)) ?_
      refine Run.nil (FinR.mk ?_)
      refine nK ?_
      refine n_cond _ rfl (fun hb => ?_) (fun hb => ?_)
      · have hlt : i < a.length := by simp at hb; omega
        have hlt2 : i < b.length := by omega
        rw [drop_eq hlt hlt2] at ho
        have hr1 := row_at' encHo a i hlt
        have hr2 := row_at' encHo b i hlt2
        have hK1 := fun h => hK (i + 1) ⟨by omega, h⟩ (by omega)
        generalize a[i] = x at *
        generalize b[i] = y at *
        refine nK ?_
        refine s_reg rfl ?_
        refine Run.pure (dd := some 15) rfl rfl (op_move rfl (Opd.tmp _ _ rfl)) ?_
        refine Run.pure (dd := some 5) rfl rfl (op_assign rfl (Opd.tmp _ _ rfl)) ?_
        refine Run.nil (FinR.mk ?_)
        refine nK ?_
        refine s_draw mixed ?_
        refine Run.pure (dd := some 16) rfl rfl (op_move rfl (Opd.tmp _ _ rfl)) ?_
        refine Run.pure (dd := some 17) rfl rfl (op_move rfl (Opd.tmp _ _ rfl)) ?_
        refine Run.pure (dd := some 18) rfl rfl (op_idx_fz _ rfl (Opd.tmp _ _ rfl) (Opd.tmp _ _ rfl) tF) ?_
        refine Run.pure (dd := some 19) rfl rfl (op_loadw_fz rfl (Opd.tmp _ _ rfl) rfl) ?_
        refine Run.pure (dd := some 20) rfl rfl (op_move rfl (Opd.tmp _ _ rfl)) ?_
        refine Run.pure (dd := some 21) rfl rfl (op_move rfl (Opd.tmp _ _ rfl)) ?_
        refine Run.pure (dd := some 22) rfl rfl (op_idx_fz _ rfl (Opd.tmp _ _ rfl) (Opd.tmp _ _ rfl) tF) ?_
        refine Run.pure (dd := some 23) rfl rfl (op_loadw_fz rfl (Opd.tmp _ _ rfl) rfl) ?_
        refine Run.pure (dd := some 24) rfl rfl (op_neC hop_s1 hop_s2 hop_s3 (cmp_hop x y) rfl (Opd.tmp _ _ rfl) (Opd.tmp _ _ rfl)) ?_
        refine Run.nil (FinD.mk (by kernel_rfl) ?_)
        refine nK ?_
        refine n_cond _ rfl (fun hb => ?_) (fun hb => ?_)
        · rw [eqFs_encHo] at hb
          have e : decide (a = b) = false := by
            rw [decide_eq_false_iff_not, ho]; simp at hb; exact fun h => hb h.1
          rw [e]
          refine nK ?_
          refine s_reg rfl ?_
          refine Run.pure (dd := some 4) rfl rfl (op_assign rfl (Opd.const _)) ?_
          refine Run.nil (FinR.mk ?_)
          refine nK ?_
          (first | exact s_o1 hC rfl tV | exact s_o2 hC rfl tV tV | exact s_o3 hC rfl tV tV tV | exact s_o4 hC rfl tV tV tV tV | exact s_out0 hC rfl | exact s_outO hC rfl rfl rfl)
        · rw [eqFs_encHo] at hb
          refine nK ?_
          refine s_reg rfl ?_
          refine Run.pure (dd := some 25) rfl rfl (op_add rfl (Opd.tmp _ _ rfl) (Opd.const _) tI) ?_
          refine Run.pure (dd := some 13) rfl rfl (op_move rfl (Opd.tmp _ _ rfl)) ?_
          refine Run.nil (FinR.mk ?_)
          refine nK ?_
          refine Next.weak [] [] (by rfl) (keeps0 hC _) (by repeat (first | exact trivial | refine ⟨⟨_, rfl, .inl ⟨rfl, rfl⟩⟩, ?_⟩)) (by repeat (first | exact trivial | refine ⟨ent_same rfl rfl rfl tL, ?_⟩ | refine ⟨ent_same rfl rfl (rfEq rfl tU) tL, ?_⟩ | refine ⟨ent_same rfl rfl (flEq rfl (by first | (simp; done) | (simp; omega) | (simp [encHo, encRt, encP]; done) | simp [maxC, minC])) trivial, ?_⟩)) (fun _ h => by simp at h) (hK1 (ho.trans ⟨fun h => h.2, fun h => ⟨by simpa using hb, h⟩⟩))
      · have hie : i = a.length := by simp at hb; omega
        have e : decide (a = b) = true := by
          rw [decide_eq_true_iff, ho, hie, List.drop_length, hl, List.drop_length]
        rw [e]
        refine nK ?_
        refine s_reg rfl ?_
        refine Run.pure (dd := some 4) rfl rfl (op_assign rfl (Opd.const _)) ?_
        refine Run.nil (FinR.mk ?_)
        refine nK ?_
        (first | exact s_o1 hC rfl tV | exact s_o2 hC rfl tV tV | exact s_o3 hC rfl tV tV tV | exact s_o4 hC rfl tV tV tV tV | exact s_out0 hC rfl | exact s_outO hC rfl rfl rfl)
theorem snh_c (a b : List Hop) (ha : lenOk a.length) (hb0 : lenOk b.length) : Pure Try.prog 41 [VHo a, VHo b] (Bf (decide (a = b))) := by
  refine Meets.intro Try.func41 rfl (Nat.le_of_ble_eq_true rfl) fun C hC => ?_
  simp only [List.map, argEnv, Nat.reduceAdd]
  refine nK ?_
  refine s_reg rfl ?_
  refine Run.pure (dd := some 4) rfl rfl (op_assign rfl (Opd.const _)) ?_
  refine Run.nil (FinR.mk ?_)
  refine nK ?_
  refine s_reg rfl ?_
  refine Run.pure (dd := some 7) rfl rfl (op_move rfl (Opd.tmp _ _ rfl)) ?_
  refine Run.pure (dd := some 8) rfl rfl (op_len_fz rfl (by first | exact Opd.tmp _ _ rfl | exact Opd.nil _ _ (Opd.tmp _ _ rfl)) (by first | exact List.length_map _ | rfl)) ?_
  refine Run.pure (dd := some 9) rfl rfl (op_move rfl (Opd.tmp _ _ rfl)) ?_
  refine Run.pure (dd := some 10) rfl rfl (op_len_fz rfl (by first | exact Opd.tmp _ _ rfl | exact Opd.nil _ _ (Opd.tmp _ _ rfl)) (by first | exact List.length_map _ | rfl)) ?_
  refine Run.pure (dd := some 11) rfl rfl (op_neq rfl (Opd.tmp _ _ rfl) (Opd.tmp _ _ rfl)) ?_
  refine Run.nil (FinR.mk ?_)
  refine nK ?_
  refine n_cond _ rfl (fun hb => ?_) (fun hb => ?_)
  · have e : decide (a = b) = false := by
      rw [decide_eq_false_iff_not]; rintro rfl; simp at hb
    rw [e]
    refine nK ?_
    refine s_reg rfl ?_
    refine Run.pure (dd := some 4) rfl rfl (op_assign rfl (Opd.const _)) ?_
    refine Run.nil (FinR.mk ?_)
    refine nK ?_
    (first | exact s_o1 hC rfl tV | exact s_o2 hC rfl tV tV | exact s_o3 hC rfl tV tV tV | exact s_o4 hC rfl tV tV tV tV | exact s_out0 hC rfl | exact s_outO hC rfl rfl rfl)
  · have hl : a.length = b.length := by simp at hb; omega
    refine nK ?_
    refine s_reg rfl ?_
    refine Run.pure (dd := some 12) rfl rfl (op_move rfl (Opd.tmp _ _ rfl)) ?_
    refine Run.pure (dd := some 13) rfl rfl (op_len_fz rfl (by first | exact Opd.tmp _ _ rfl | exact Opd.nil _ _ (Opd.tmp _ _ rfl)) (by first | exact List.length_map _ | rfl)) ?_
    refine Run.pure (dd := some 14) rfl rfl (op_move rfl (Opd.const _)) ?_
    refine Run.nil (FinR.mk ?_)
    refine nK ?_
    refine n_loop (ι := Nat) (fun i => ([(0, .fz (VHo a)), (1, .fz (VHo b)), (12, .fz (VHo a)), (13, IV .i64 a.length), (14, IV .i64 i)], [], 0)) (fun i => i ≤ a.length ∧ (a = b ↔ a.drop i = b.drop i)) (fun i => a.length - i) 0 ⟨Nat.zero_le _, Iff.rfl⟩ ?_ ?_
    · refine Next.weak [] [] (by rfl) (keeps0 hC _) (by repeat (first | exact trivial | refine ⟨⟨_, rfl, .inl ⟨rfl, rfl⟩⟩, ?_⟩)) (by repeat (first | exact trivial | refine ⟨ent_same rfl rfl rfl tL, ?_⟩ | refine ⟨ent_same rfl rfl (rfEq rfl tU) tL, ?_⟩ | refine ⟨ent_same rfl rfl (flEq rfl (by first | (simp; done) | (simp; omega) | (simp [encHo, encRt, encP]; done) | simp [maxC, minC])) trivial, ?_⟩)) (fun _ h => by simp at h) rel_intro
    · intro i ⟨hi, ho⟩ K hK
      refine nK ?_
      refine s_reg rfl ?_
      refine Run.pure (dd := some 15) rfl rfl (op_lss rfl (Opd.tmp _ _ rfl) (Opd.tmp _ _ rfl)) ?_
      refine Run.nil (FinR.mk ?_)
      refine nK ?_
      refine n_cond _ rfl (fun hb => ?_) (fun hb => ?_)
      · have hlt : i < a.length := by simp at hb; omega
        have hlt2 : i < b.length := by omega
        rw [drop_eq hlt hlt2] at ho
        have hr1 := row_at' encHo a i hlt
        have hr2 := row_at' encHo b i hlt2
        have hK1 := fun h => hK (i + 1) ⟨by omega, h⟩ (by omega)
        generalize a[i] = x at *
        generalize b[i] = y at *
        refine nK ?_
        refine s_reg rfl ?_
        refine Run.pure (dd := some 16) rfl rfl (op_move rfl (Opd.tmp _ _ rfl)) ?_
        refine Run.pure (dd := some 17) rfl rfl (op_idx_fz _ rfl (Opd.tmp _ _ rfl) (Opd.tmp _ _ rfl) tF) ?_
        refine Run.pure (dd := some 18) rfl rfl (op_loadw_fz rfl (Opd.tmp _ _ rfl) rfl) ?_
        refine Run.eff (dd := some 6) rfl rfl (op_alloc rfl rfl rfl rfl) ?_
        refine Run.pure (dd := some 5) rfl rfl (op_assign rfl (Opd.tmp _ _ rfl)) ?_
        refine Run.eff (dd := none) rfl rfl (op_store_flat rfl (Opd.tmp _ _ rfl) (Opd.tmp _ _ rfl) tC rfl rfl (by first | rfl | assumption) tS) ?_
        refine Run.nil (FinR.mk ?_)
        refine nK ?_
        refine s_draw mixed ?_
        refine Run.load (dd := some 19) rfl rfl (op_loadw_flat rfl (Opd.tmp _ _ rfl) tH rfl) ?_
        refine Run.pure (dd := some 20) rfl rfl (op_move rfl (Opd.tmp _ _ rfl)) ?_
        refine Run.pure (dd := some 21) rfl rfl (op_move rfl (Opd.tmp _ _ rfl)) ?_
        refine Run.pure (dd := some 22) rfl rfl (op_idx_fz _ rfl (Opd.tmp _ _ rfl) (Opd.tmp _ _ rfl) tF) ?_
        refine Run.pure (dd := some 23) rfl rfl (op_loadw_fz rfl (Opd.tmp _ _ rfl) rfl) ?_
        refine Run.pure (dd := some 24) rfl rfl (op_neC hop_s1 hop_s2 hop_s3 (cmp_hop x y) rfl (Opd.tmp _ _ rfl) (Opd.tmp _ _ rfl)) ?_
        refine Run.nil (FinD.mk (by kernel_rfl) ?_)
        refine nK ?_
        refine n_cond _ rfl (fun hb => ?_) (fun hb => ?_)
        · rw [eqFs_encHo] at hb
          have e : decide (a = b) = false := by
            rw [decide_eq_false_iff_not, ho]; simp at hb; exact fun h => hb h.1
          rw [e]
          refine nK ?_
          refine s_reg rfl ?_
          refine Run.pure (dd := some 4) rfl rfl (op_assign rfl (Opd.const _)) ?_
          refine Run.nil (FinR.mk ?_)
          refine nK ?_
          (first | exact s_o1 hC rfl tV | exact s_o2 hC rfl tV tV | exact s_o3 hC rfl tV tV tV | exact s_o4 hC rfl tV tV tV tV | exact s_out0 hC rfl | exact s_outO hC rfl rfl rfl)
        · rw [eqFs_encHo] at hb
          refine nK ?_
          refine s_reg rfl ?_
          refine Run.pure (dd := some 25) rfl rfl (op_add rfl (Opd.tmp _ _ rfl) (Opd.const _) tI) ?_
          refine Run.pure (dd := some 14) rfl rfl (op_move rfl (Opd.tmp _ _ rfl)) ?_
          refine Run.nil (FinR.mk ?_)
          refine nK ?_
          refine Next.weak [] [] (by rfl) (keeps0 hC _) (by repeat (first | exact trivial | refine ⟨⟨_, rfl, .inl ⟨rfl, rfl⟩⟩, ?_⟩)) (by repeat (first | exact trivial | refine ⟨ent_same rfl rfl rfl tL, ?_⟩ | refine ⟨ent_same rfl rfl (rfEq rfl tU) tL, ?_⟩ | refine ⟨ent_same rfl rfl (flEq rfl (by first | (simp; done) | (simp; omega) | (simp [encHo, encRt, encP]; done) | simp [maxC, minC])) trivial, ?_⟩)) (fun _ h => by simp at h) (hK1 (ho.trans ⟨fun h => h.2, fun h => ⟨by simpa using hb, h⟩⟩))
      · have hie : i = a.length := by simp at hb; omega
        have e : decide (a = b) = true := by
          rw [decide_eq_true_iff, ho, hie, List.drop_length, hl, List.drop_length]
        rw [e]
        refine nK ?_
        refine s_reg rfl ?_
        refine Run.pure (dd := some 4) rfl rfl (op_assign rfl (Opd.const _)) ?_
        refine Run.nil (FinR.mk ?_)
        refine nK ?_
        (first | exact s_o1 hC rfl tV | exact s_o2 hC rfl tV tV | exact s_o3 hC rfl tV tV tV | exact s_o4 hC rfl tV tV tV tV | exact s_out0 hC rfl | exact s_outO hC rfl rfl rfl)
theorem rt_eq (a b : Rte) : decide (a = b) = (((((eqFs (encP a.pf) (encP b.pf) && decide (a.pr = b.pr)) && decide (a.di = b.di)) && decide (a.me = b.me)) && decide (a.tg = b.tg)) && decide (a.hs = b.hs)) := by
  rw [eqFs_encP]
  cases a; cases b
  rw [Bool.eq_iff_iff]
  simp [and_assoc]
theorem samert_c (a b : Rte) (ha : lenOk a.hs.length) (hb0 : lenOk b.hs.length) : Pure Try.prog 20 [.agg (encRt a), .agg (encRt b)] (Bf (decide (a = b))) := by
  have k := equalHo_c a.hs b.hs ha hb0
  rw [rt_eq]
  refine Meets.intro Try.func20 rfl (Nat.le_of_ble_eq_true rfl) fun C hC => ?_
  simp only [List.map, argEnv, Nat.reduceAdd]
  refine nK ?_
  refine s_reg rfl ?_
  refine Run.eff (dd := some 2) rfl rfl (op_box_flat rfl (Opd.tmp _ _ rfl) tC rfl) ?_
  refine Run.eff (dd := some 3) rfl rfl (op_box_flat rfl (Opd.tmp _ _ rfl) tC rfl) ?_
  refine Run.pure (dd := some 4) rfl rfl (op_assign rfl (Opd.const _)) ?_
  refine Run.nil (FinR.mk ?_)
  refine nK ?_
  refine s_reg rfl ?_
  refine Run.pure (dd := some 5) rfl rfl (op_fld_ptr (by decide) rfl (Opd.tmp _ _ rfl)) ?_
  refine Run.load (dd := some 6) rfl rfl (op_loadn_flat rfl (Opd.tmp _ _ rfl) tH tR tR) ?_
  refine Run.pure (dd := some 7) rfl rfl (op_fld_ptr (by decide) rfl (Opd.tmp _ _ rfl)) ?_
  refine Run.load (dd := some 8) rfl rfl (op_loadn_flat rfl (Opd.tmp _ _ rfl) tH tR tR) ?_
  refine Run.pure (dd := some 9) rfl rfl (op_eqS rfl (Opd.tmp _ _ rfl) (Opd.tmp _ _ rfl) (by kernel_rfl)) ?_
  refine Run.pure (dd := some 10) rfl rfl (op_move rfl (Opd.tmp _ _ rfl)) ?_
  refine Run.pureG (dd := some 11) rfl rfl rfl tG (op_fld_ptr (by decide) rfl (Opd.tmp _ _ rfl)) ?_
  refine Run.loadG (dd := some 12) rfl rfl rfl tG (op_load1_flat rfl (Opd.topt _ _ _ rfl tO) tH rfl) ?_
  refine Run.pureG (dd := some 13) rfl rfl rfl tG (op_fld_ptr (by decide) rfl (Opd.tmp _ _ rfl)) ?_
  refine Run.loadG (dd := some 14) rfl rfl rfl tG (op_load1_flat rfl (Opd.topt _ _ _ rfl tO) tH rfl) ?_
  refine Run.pureG (dd := some 15) rfl rfl rfl tG (op_eql rfl (Opd.topt _ _ _ rfl tO) (Opd.topt _ _ _ rfl tO)) ?_
  refine Run.pure (dd := some 16) rfl rfl (op_pick_and rfl (Opd.tmp _ _ rfl) (Opd.topt _ _ _ rfl tO)) ?_
  refine Run.pure (dd := some 17) rfl rfl (op_move rfl (Opd.tmp _ _ rfl)) ?_
  refine Run.pureG (dd := some 18) rfl rfl rfl tG (op_fld_ptr (by decide) rfl (Opd.tmp _ _ rfl)) ?_
  refine Run.loadG (dd := some 19) rfl rfl rfl tG (op_load1_flat rfl (Opd.topt _ _ _ rfl tO) tH rfl) ?_
  refine Run.pureG (dd := some 20) rfl rfl rfl tG (op_fld_ptr (by decide) rfl (Opd.tmp _ _ rfl)) ?_
  refine Run.loadG (dd := some 21) rfl rfl rfl tG (op_load1_flat rfl (Opd.topt _ _ _ rfl tO) tH rfl) ?_
  refine Run.pureG (dd := some 22) rfl rfl rfl tG (op_eql rfl (Opd.topt _ _ _ rfl tO) (Opd.topt _ _ _ rfl tO)) ?_
  refine Run.pure (dd := some 23) rfl rfl (op_pick_and rfl (Opd.tmp _ _ rfl) (Opd.topt _ _ _ rfl tO)) ?_
  refine Run.pure (dd := some 24) rfl rfl (op_move rfl (Opd.tmp _ _ rfl)) ?_
  refine Run.pureG (dd := some 25) rfl rfl rfl tG (op_fld_ptr (by decide) rfl (Opd.tmp _ _ rfl)) ?_
  refine Run.loadG (dd := some 26) rfl rfl rfl tG (op_load1_flat rfl (Opd.topt _ _ _ rfl tO) tH rfl) ?_
  refine Run.pureG (dd := some 27) rfl rfl rfl tG (op_fld_ptr (by decide) rfl (Opd.tmp _ _ rfl)) ?_
  refine Run.loadG (dd := some 28) rfl rfl rfl tG (op_load1_flat rfl (Opd.topt _ _ _ rfl tO) tH rfl) ?_
  refine Run.pureG (dd := some 29) rfl rfl rfl tG (op_eql rfl (Opd.topt _ _ _ rfl tO) (Opd.topt _ _ _ rfl tO)) ?_
  refine Run.pure (dd := some 30) rfl rfl (op_pick_and rfl (Opd.tmp _ _ rfl) (Opd.topt _ _ _ rfl tO)) ?_
  refine Run.pure (dd := some 31) rfl rfl (op_move rfl (Opd.tmp _ _ rfl)) ?_
  refine Run.pureG (dd := some 32) rfl rfl rfl tG (op_fld_ptr (by decide) rfl (Opd.tmp _ _ rfl)) ?_
  refine Run.loadG (dd := some 33) rfl rfl rfl tG (op_load1_flat rfl (Opd.topt _ _ _ rfl tO) tH rfl) ?_
  refine Run.pureG (dd := some 34) rfl rfl rfl tG (op_fld_ptr (by decide) rfl (Opd.tmp _ _ rfl)) ?_
  refine Run.loadG (dd := some 35) rfl rfl rfl tG (op_load1_flat rfl (Opd.topt _ _ _ rfl tO) tH rfl) ?_
  refine Run.pureG (dd := some 36) rfl rfl rfl tG (op_eql rfl (Opd.topt _ _ _ rfl tO) (Opd.topt _ _ _ rfl tO)) ?_
  refine Run.pure (dd := some 37) rfl rfl (op_pick_and rfl (Opd.tmp _ _ rfl) (Opd.topt _ _ _ rfl tO)) ?_
  refine Run.pure (dd := some 38) rfl rfl (op_move rfl (Opd.tmp _ _ rfl)) ?_
  refine Run.pureG (dd := some 39) rfl rfl rfl tG (op_fld_ptr (by decide) rfl (Opd.tmp _ _ rfl)) ?_
  refine Run.loadG (dd := some 40) rfl rfl rfl tG (op_load1_flat rfl (Opd.topt _ _ _ rfl tO) tH rfl) ?_
  refine Run.pureG (dd := some 41) rfl rfl rfl tG (op_fld_ptr (by decide) rfl (Opd.tmp _ _ rfl)) ?_
  refine Run.loadG (dd := some 42) rfl rfl rfl tG (op_load1_flat rfl (Opd.topt _ _ _ rfl tO) tH rfl) ?_
  refine Run.pureG (dd := some 43) rfl rfl rfl tG (op_call_pure (fun _ => k) rfl (Opd.func _) (Opds.cons _ _ _ _ (Opd.topt _ _ _ rfl tO) (Opds.cons _ _ _ _ (Opd.topt _ _ _ rfl tO) Opds.nil))) ?_
  refine Run.pure (dd := some 44) rfl rfl (op_pick_and rfl (Opd.tmp _ _ rfl) (Opd.topt _ _ _ rfl tO)) ?_
  refine Run.pure (dd := some 4) rfl rfl (op_assign rfl (Opd.tmp _ _ rfl)) ?_
  refine Run.nil (FinR.mk ?_)
  refine nK ?_
  (first | exact s_o1 hC rfl tV | exact s_o2 hC rfl tV tV | exact s_o3 hC rfl tV tV tV | exact s_o4 hC rfl tV tV tV tV | exact s_out0 hC rfl | exact s_outO hC rfl rfl rfl)
theorem rsamert_c (a b : Rte) (ha : lenOk a.hs.length) (hb0 : lenOk b.hs.length) : Pure Try.prog 21 [.agg (encRt a), .agg (encRt b)] (Bf (decide (a = b))) := by
  have k := snh_c a.hs b.hs ha hb0
  rw [rt_eq]
  refine Meets.intro Try.func21 rfl (Nat.le_of_ble_eq_true rfl) fun C hC => ?_
  simp only [List.map, argEnv, Nat.reduceAdd]
  refine nK ?_
  refine s_reg rfl ?_
  refine Run.eff (dd := some 2) rfl rfl (op_box_flat rfl (Opd.tmp _ _ rfl) tC rfl) ?_
  refine Run.eff (dd := some 3) rfl rfl (op_box_flat rfl (Opd.tmp _ _ rfl) tC rfl) ?_
  refine Run.pure (dd := some 4) rfl rfl (op_assign rfl (Opd.const _)) ?_
  refine Run.nil (FinR.mk ?_)
  refine nK ?_
  refine s_reg rfl ?_
  refine Run.pure (dd := some 5) rfl rfl (op_fld_ptr (by decide) rfl (Opd.tmp _ _ rfl)) ?_
  refine Run.load (dd := some 6) rfl rfl (op_loadn_flat rfl (Opd.tmp _ _ rfl) tH tR tR) ?_
  refine Run.pure (dd := some 7) rfl rfl (op_fld_ptr (by decide) rfl (Opd.tmp _ _ rfl)) ?_
  refine Run.load (dd := some 8) rfl rfl (op_loadn_flat rfl (Opd.tmp _ _ rfl) tH tR tR) ?_
  refine Run.pure (dd := some 9) rfl rfl (op_eqS rfl (Opd.tmp _ _ rfl) (Opd.tmp _ _ rfl) (by kernel_rfl)) ?_
  refine Run.pure (dd := some 10) rfl rfl (op_move rfl (Opd.tmp _ _ rfl)) ?_
  refine Run.pureG (dd := some 11) rfl rfl rfl tG (op_fld_ptr (by decide) rfl (Opd.tmp _ _ rfl)) ?_
  refine Run.loadG (dd := some 12) rfl rfl rfl tG (op_load1_flat rfl (Opd.topt _ _ _ rfl tO) tH rfl) ?_
  refine Run.pureG (dd := some 13) rfl rfl rfl tG (op_fld_ptr (by decide) rfl (Opd.tmp _ _ rfl)) ?_
  refine Run.loadG (dd := some 14) rfl rfl rfl tG (op_load1_flat rfl (Opd.topt _ _ _ rfl tO) tH rfl) ?_
  refine Run.pureG (dd := some 15) rfl rfl rfl tG (op_eql rfl (Opd.topt _ _ _ rfl tO) (Opd.topt _ _ _ rfl tO)) ?_
  refine Run.pure (dd := some 16) rfl rfl (op_pick_and rfl (Opd.tmp _ _ rfl) (Opd.topt _ _ _ rfl tO)) ?_
  refine Run.pure (dd := some 17) rfl rfl (op_move rfl (Opd.tmp _ _ rfl)) ?_
  refine Run.pureG (dd := some 18) rfl rfl rfl tG (op_fld_ptr (by decide) rfl (Opd.tmp _ _ rfl)) ?_
  refine Run.loadG (dd := some 19) rfl rfl rfl tG (op_load1_flat rfl (Opd.topt _ _ _ rfl tO) tH rfl) ?_
  refine Run.pureG (dd := some 20) rfl rfl rfl tG (op_fld_ptr (by decide) rfl (Opd.tmp _ _ rfl)) ?_
  refine Run.loadG (dd := some 21) rfl rfl rfl tG (op_load1_flat rfl (Opd.topt _ _ _ rfl tO) tH rfl) ?_
  refine Run.pureG (dd := some 22) rfl rfl rfl tG (op_eql rfl (Opd.topt _ _ _ rfl tO) (Opd.topt _ _ _ rfl tO)) ?_
  refine Run.pure (dd := some 23) rfl rfl (op_pick_and rfl (Opd.tmp _ _ rfl) (Opd.topt _ _ _ rfl tO)) ?_
  refine Run.pure (dd := some 24) rfl rfl (op_move rfl (Opd.tmp _ _ rfl)) ?_
  refine Run.pureG (dd := some 25) rfl rfl rfl tG (op_fld_ptr (by decide) rfl (Opd.tmp _ _ rfl)) ?_
  refine Run.loadG (dd := some 26) rfl rfl rfl tG (op_load1_flat rfl (Opd.topt _ _ _ rfl tO) tH rfl) ?_
  refine Run.pureG (dd := some 27) rfl rfl rfl tG (op_fld_ptr (by decide) rfl (Opd.tmp _ _ rfl)) ?_
  refine Run.loadG (dd := some 28) rfl rfl rfl tG (op_load1_flat rfl (Opd.topt _ _ _ rfl tO) tH rfl) ?_
  refine Run.pureG (dd := some 29) rfl rfl rfl tG (op_eql rfl (Opd.topt _ _ _ rfl tO) (Opd.topt _ _ _ rfl tO)) ?_
  refine Run.pure (dd := some 30) rfl rfl (op_pick_and rfl (Opd.tmp _ _ rfl) (Opd.topt _ _ _ rfl tO)) ?_
  refine Run.pure (dd := some 31) rfl rfl (op_move rfl (Opd.tmp _ _ rfl)) ?_
  refine Run.pureG (dd := some 32) rfl rfl rfl tG (op_fld_ptr (by decide) rfl (Opd.tmp _ _ rfl)) ?_
  refine Run.loadG (dd := some 33) rfl rfl rfl tG (op_load1_flat rfl (Opd.topt _ _ _ rfl tO) tH rfl) ?_
  refine Run.pureG (dd := some 34) rfl rfl rfl tG (op_fld_ptr (by decide) rfl (Opd.tmp _ _ rfl)) ?_
  refine Run.loadG (dd := some 35) rfl rfl rfl tG (op_load1_flat rfl (Opd.topt _ _ _ rfl tO) tH rfl) ?_
  refine Run.pureG (dd := some 36) rfl rfl rfl tG (op_eql rfl (Opd.topt _ _ _ rfl tO) (Opd.topt _ _ _ rfl tO)) ?_
  refine Run.pure (dd := some 37) rfl rfl (op_pick_and rfl (Opd.tmp _ _ rfl) (Opd.topt _ _ _ rfl tO)) ?_
  refine Run.pure (dd := some 38) rfl rfl (op_move rfl (Opd.tmp _ _ rfl)) ?_
  refine Run.pureG (dd := some 39) rfl rfl rfl tG (op_fld_ptr (by decide) rfl (Opd.tmp _ _ rfl)) ?_
  refine Run.loadG (dd := some 40) rfl rfl rfl tG (op_load1_flat rfl (Opd.topt _ _ _ rfl tO) tH rfl) ?_
  refine Run.pureG (dd := some 41) rfl rfl rfl tG (op_fld_ptr (by decide) rfl (Opd.tmp _ _ rfl)) ?_
  refine Run.loadG (dd := some 42) rfl rfl rfl tG (op_load1_flat rfl (Opd.topt _ _ _ rfl tO) tH rfl) ?_
  refine Run.pureG (dd := some 43) rfl rfl rfl tG (op_call_pure (fun _ => k) rfl (Opd.func _) (Opds.cons _ _ _ _ (Opd.topt _ _ _ rfl tO) (Opds.cons _ _ _ _ (Opd.topt _ _ _ rfl tO) Opds.nil))) ?_
  refine Run.pure (dd := some 44) rfl rfl (op_pick_and rfl (Opd.tmp _ _ rfl) (Opd.topt _ _ _ rfl tO)) ?_
  refine Run.pure (dd := some 4) rfl rfl (op_assign rfl (Opd.tmp _ _ rfl)) ?_
  refine Run.nil (FinR.mk ?_)
  refine nK ?_
  (first | exact s_o1 hC rfl tV | exact s_o2 hC rfl tV tV | exact s_o3 hC rfl tV tV tV | exact s_o4 hC rfl tV tV tV tV | exact s_out0 hC rfl | exact s_outO hC rfl rfl rfl)
theorem lsame_c (a b : List Rte) (ha : lenOk a.length) (hb0 : lenOk b.length) (ka : ∀ x ∈ a, lenOk x.hs.length) (kb : ∀ x ∈ b, lenOk x.hs.length) : Pure Try.prog 13 [VRt a, VRt b] (Bf (decide (a = b))) := by
  refine Meets.intro Try.func13 rfl (Nat.le_of_ble_eq_true rfl) fun C hC => ?_
  simp only [List.map, argEnv, Nat.reduceAdd]
  refine nK ?_
  refine s_reg rfl ?_
  refine Run.pure (dd := some 4) rfl rfl (op_assign rfl (Opd.const _)) ?_
  refine Run.nil (FinR.mk ?_)
  refine nK ?_
  refine s_reg rfl ?_
  refine Run.pure (dd := some 7) rfl rfl (op_move rfl (Opd.tmp _ _ rfl)) ?_
  refine Run.pure (dd := some 8) rfl rfl (op_len_fz rfl (by first | exact Opd.tmp _ _ rfl | exact Opd.nil _ _ (Opd.tmp _ _ rfl)) (by first | exact List.length_map _ | rfl)) ?_
  refine Run.pure (dd := some 9) rfl rfl (op_move rfl (Opd.tmp _ _ rfl)) ?_
  refine Run.pure (dd := some 10) rfl rfl (op_len_fz rfl (by first | exact Opd.tmp _ _ rfl | exact Opd.nil _ _ (Opd.tmp _ _ rfl)) (by first | exact List.length_map _ | rfl)) ?_
  refine Run.pure (dd := some 11) rfl rfl (op_neq rfl (Opd.tmp _ _ rfl) (Opd.tmp _ _ rfl)) ?_
  refine Run.nil (FinR.mk ?_)
  refine nK ?_
  refine n_cond _ rfl (fun hb => ?_) (fun hb => ?_)
  · have e : decide (a = b) = false := by
      rw [decide_eq_false_iff_not]; rintro rfl; simp at hb
    rw [e]
    refine nK ?_
    refine s_reg rfl ?_
    refine Run.pure (dd := some 4) rfl rfl (op_assign rfl (Opd.const _)) ?_
    refine Run.nil (FinR.mk ?_)
    refine nK ?_
    (first | exact s_o1 hC rfl tV | exact s_o2 hC rfl tV tV | exact s_o3 hC rfl tV tV tV | exact s_o4 hC rfl tV tV tV tV | exact s_out0 hC rfl | exact s_outO hC rfl rfl rfl)
  · have hl : a.length = b.length := by simp at hb; omega
    refine nK ?_
    refine s_reg rfl ?_
    refine Run.pure (dd := some 12) rfl rfl (op_move rfl (Opd.tmp _ _ rfl)) ?_
    refine Run.pure (dd := some 13) rfl rfl (op_len_fz rfl (by first | exact Opd.tmp _ _ rfl | exact Opd.nil _ _ (Opd.tmp _ _ rfl)) (by first | exact List.length_map _ | rfl)) ?_
    refine Run.pure (dd := some 14) rfl rfl (op_move rfl (Opd.const _)) ?_
    refine Run.nil (FinR.mk ?_)
    refine nK ?_
    refine n_loop (ι := Nat) (fun i => ([(0, .fz (VRt a)), (1, .fz (VRt b)), (12, .fz (VRt a)), (13, IV .i64 a.length), (14, IV .i64 i)], [], 0)) (fun i => i ≤ a.length ∧ (a = b ↔ a.drop i = b.drop i)) (fun i => a.length - i) 0 ⟨Nat.zero_le _, Iff.rfl⟩ ?_ ?_
    · refine Next.weak [] [] (by rfl) (keeps0 hC _) (by repeat (first | exact trivial | refine ⟨⟨_, rfl, .inl ⟨rfl, rfl⟩⟩, ?_⟩)) (by repeat (first | exact trivial | refine ⟨ent_same rfl rfl rfl tL, ?_⟩ | refine ⟨ent_same rfl rfl (rfEq rfl tU) tL, ?_⟩ | refine ⟨ent_same rfl rfl (flEq rfl (by first | (simp; done) | (simp; omega) | (simp [encHo, encRt, encP]; done) | simp [maxC, minC])) trivial, ?_⟩)) (fun _ h => by simp at h) rel_intro
    · intro i ⟨hi, ho⟩ K hK
      refine nK ?_
      refine s_reg rfl ?_
      refine Run.pure (dd := some 15) rfl rfl (op_lss rfl (Opd.tmp _ _ rfl) (Opd.tmp _ _ rfl)) ?_
      refine Run.nil (FinR.mk ?_)
      refine nK ?_
      refine n_cond _ rfl (fun hb => ?_) (fun hb => ?_)
      · have hlt : i < a.length := by simp at hb; omega
        have hlt2 : i < b.length := by omega
        rw [drop_eq hlt hlt2] at ho
        have hr1 := row_at' encRt a i hlt
        have hr2 := row_at' encRt b i hlt2
        have hK1 := fun h => hK (i + 1) ⟨by omega, h⟩ (by omega)
        have k := rsamert_c a[i] b[i] (ka _ (List.getElem_mem hlt)) (kb _ (List.getElem_mem hlt2))
        generalize a[i] = x at *
        generalize b[i] = y at *
        refine nK ?_
        refine s_reg rfl ?_
        refine Run.pure (dd := some 16) rfl rfl (op_move rfl (Opd.tmp _ _ rfl)) ?_
        refine Run.pure (dd := some 17) rfl rfl (op_idx_fz _ rfl (Opd.tmp _ _ rfl) (Opd.tmp _ _ rfl) tF) ?_
        refine Run.pure (dd := some 18) rfl rfl (op_loadw_fz rfl (Opd.tmp _ _ rfl) rfl) ?_
        refine Run.eff (dd := some 6) rfl rfl (op_alloc rfl rfl rfl rfl) ?_
        refine Run.pure (dd := some 5) rfl rfl (op_assign rfl (Opd.tmp _ _ rfl)) ?_
        refine Run.eff (dd := none) rfl rfl (op_store_flat rfl (Opd.tmp _ _ rfl) (Opd.tmp _ _ rfl) tC rfl rfl (by first | rfl | assumption) tS) ?_
        refine Run.nil (FinR.mk ?_)
        refine nK ?_
        refine s_draw mixed ?_
        refine Run.load (dd := some 19) rfl rfl (op_loadw_flat rfl (Opd.tmp _ _ rfl) tH rfl) ?_
        refine Run.pure (dd := some 20) rfl rfl (op_move rfl (Opd.tmp _ _ rfl)) ?_
        refine Run.pure (dd := some 21) rfl rfl (op_move rfl (Opd.tmp _ _ rfl)) ?_
        refine Run.pure (dd := some 22) rfl rfl (op_idx_fz _ rfl (Opd.tmp _ _ rfl) (Opd.tmp _ _ rfl) tF) ?_
        refine Run.pure (dd := some 23) rfl rfl (op_loadw_fz rfl (Opd.tmp _ _ rfl) rfl) ?_
        refine Run.pure (dd := some 24) rfl rfl (op_call_pure (fun _ => k) rfl (Opd.func _) (Opds.cons _ _ _ _ (Opd.tmp _ _ rfl) (Opds.cons _ _ _ _ (Opd.tmp _ _ rfl) Opds.nil))) ?_
        refine Run.pure (dd := some 25) rfl rfl (op_not rfl (Opd.tmp _ _ rfl)) ?_
        refine Run.nil (FinD.mk (by kernel_rfl) ?_)
        refine nK ?_
        refine n_cond _ rfl (fun hb => ?_) (fun hb => ?_)
        · have e : decide (a = b) = false := by
            rw [decide_eq_false_iff_not, ho]; simp at hb; exact fun h => hb h.1
          rw [e]
          refine nK ?_
          refine s_reg rfl ?_
          refine Run.pure (dd := some 4) rfl rfl (op_assign rfl (Opd.const _)) ?_
          refine Run.nil (FinR.mk ?_)
          refine nK ?_
          (first | exact s_o1 hC rfl tV | exact s_o2 hC rfl tV tV | exact s_o3 hC rfl tV tV tV | exact s_o4 hC rfl tV tV tV tV | exact s_out0 hC rfl | exact s_outO hC rfl rfl rfl)
        · refine nK ?_
          refine s_reg rfl ?_
          refine Run.pure (dd := some 26) rfl rfl (op_add rfl (Opd.tmp _ _ rfl) (Opd.const _) tI) ?_
          refine Run.pure (dd := some 14) rfl rfl (op_move rfl (Opd.tmp _ _ rfl)) ?_
          refine Run.nil (FinR.mk ?_)
          refine nK ?_
          refine Next.weak [] [] (by rfl) (keeps0 hC _) (by repeat (first | exact trivial | refine ⟨⟨_, rfl, .inl ⟨rfl, rfl⟩⟩, ?_⟩)) (by repeat (first | exact trivial | refine ⟨ent_same rfl rfl rfl tL, ?_⟩ | refine ⟨ent_same rfl rfl (rfEq rfl tU) tL, ?_⟩ | refine ⟨ent_same rfl rfl (flEq rfl (by first | (simp; done) | (simp; omega) | (simp [encHo, encRt, encP]; done) | simp [maxC, minC])) trivial, ?_⟩)) (fun _ h => by simp at h) (hK1 (ho.trans ⟨fun h => h.2, fun h => ⟨by simpa using hb, h⟩⟩))
      · have hie : i = a.length := by simp at hb; omega
        have e : decide (a = b) = true := by
          rw [decide_eq_true_iff, ho, hie, List.drop_length, hl, List.drop_length]
        rw [e]
        refine nK ?_
        refine s_reg rfl ?_
        refine Run.pure (dd := some 4) rfl rfl (op_assign rfl (Opd.const _)) ?_
        refine Run.nil (FinR.mk ?_)
        refine nK ?_
        (first | exact s_o1 hC rfl tV | exact s_o2 hC rfl tV tV | exact s_o3 hC rfl tV tV tV | exact s_o4 hC rfl tV tV tV tV | exact s_out0 hC rfl | exact s_outO hC rfl rfl rfl)
abbrev OHo (l : List Hop) : Option Ob := some (.flat 6 (l.map encHo))
theorem cloneHo_c (l : List Hop) (hn : l.length ≤ 2000000) : Meets Try.prog 59 ([VHo l].map PV.fz) 0 [] (.sl 0 6 0 l.length) [(0, OHo l)] 1 := by
  refine Meets.intro Try.func59 rfl (Nat.le_of_ble_eq_true rfl) fun C hC => ?_
  simp only [List.map, argEnv, Nat.reduceAdd]
  refine nK ?_
  refine s_reg rfl ?_
  refine Run.pure (dd := some 2) rfl rfl (op_assign rfl (Opd.const _)) ?_
  refine Run.nil (FinR.mk ?_)
  refine nK ?_
  refine s_reg rfl ?_
  refine Run.pure (dd := some 3) rfl rfl (op_move rfl (Opd.tmp _ _ rfl)) ?_
  refine Run.pure (dd := some 4) rfl rfl (op_eqnil rfl (Opd.tmp _ _ rfl)) ?_
  refine Run.nil (FinR.mk ?_)
  refine nK ?_
  refine Next.abool 4 rfl (fun b hb0 => ?_)
  refine nK ?_
  refine n_cond _ rfl (fun hb => ?_) (fun hb => ?_)
  · have he : l = [] := by have := hb0 hb; simpa using this
    subst he
    refine nK ?_
    refine s_reg rfl ?_
    refine Run.pure (dd := some 2) rfl rfl (op_assign rfl (Opd.const _)) ?_
    refine Run.nil (FinR.mk ?_)
    refine nK ?_
    refine Next.adopt 2 6 rfl ?_
    (first | exact s_o1 hC rfl tV | exact s_o2 hC rfl tV tV | exact s_o3 hC rfl tV tV tV | exact s_o4 hC rfl tV tV tV tV | exact s_out0 hC rfl | exact s_outO hC rfl rfl rfl)
  · refine nK ?_
    refine s_reg rfl ?_
    refine Run.eff (dd := some 5) rfl rfl (op_buildSlice_own rfl (RowsF.nil _) rfl rfl rfl) ?_
    refine Run.pure (dd := some 6) rfl rfl (op_move rfl (Opd.tmp _ _ rfl)) ?_
    refine Run.eff (dd := some 7) rfl rfl (op_append rfl (Opd.tmp _ _ rfl) (Opd.tmp _ _ rfl) rfl rfl rfl rfl tB tB) ?_
    refine Run.pure (dd := some 2) rfl rfl (op_assign rfl (Opd.tmp _ _ rfl)) ?_
    refine Run.nil (FinR.mk ?_)
    refine nK ?_
    refine Next.weakS [2] [] (by rfl) (keeps0 hC _) (G' := [(2, .sl 0 6 0 l.length)]) (H' := [(0, OHo l)]) (by repeat (first | exact trivial | refine ⟨⟨_, rfl, .inl ⟨rfl, rfl⟩⟩, ?_⟩ | refine ⟨⟨_, rfl, .inl ⟨slEq rfl tN, rfl⟩⟩, ?_⟩ | refine ⟨⟨_, rfl, .inl ⟨ivEq tX, rfl⟩⟩, ?_⟩)) (by repeat (first | exact trivial | refine ⟨ent_same rfl rfl rfl tL, ?_⟩ | refine ⟨ent_same rfl rfl (rfEq rfl tU) tL, ?_⟩ | refine ⟨ent_same rfl rfl (flEq rfl (by first | (simp; done) | (simp; omega) | (simp [encHo, encRt, encP]; done) | simp [maxC, minC])) trivial, ?_⟩)) rfl ?_
    (first | exact s_o1 hC rfl tV | exact s_o2 hC rfl tV tV | exact s_o3 hC rfl tV tV tV | exact s_o4 hC rfl tV tV tV tV | exact s_out0 hC rfl | exact s_outO hC rfl rfl rfl)
theorem clonert_c (r : Rte) (hn : r.hs.length ≤ 2000000) : Pure Try.prog 34 [.agg (encRt r)] (.agg (encRt r)) := by
  have k : Pure Try.prog 59 [VHo r.hs] (VHo r.hs) := (cloneHo_c r.hs hn).freeze (by simp)
  refine Meets.intro Try.func34 rfl (Nat.le_of_ble_eq_true rfl) fun C hC => ?_
  simp only [List.map, argEnv, Nat.reduceAdd]
  refine nK ?_
  refine s_reg rfl ?_
  refine Run.eff (dd := some 1) rfl rfl (op_box_flat rfl (Opd.tmp _ _ rfl) tC rfl) ?_
  refine Run.eff (dd := some 2) rfl rfl (op_alloc rfl rfl rfl rfl) ?_
  refine Run.nil (FinR.mk ?_)
  refine nK ?_
  refine s_reg rfl ?_
  refine Run.pure (dd := some 3) rfl rfl (op_fld_ptr (by decide) rfl (Opd.tmp _ _ rfl)) ?_
  refine Run.load (dd := some 4) rfl rfl (op_load1_flat rfl (Opd.tmp _ _ rfl) tH rfl) ?_
  refine Run.pure (dd := some 5) rfl rfl (op_call_pure (fun _ => k) rfl (Opd.func _) (Opds.cons _ _ _ _ (Opd.tmp _ _ rfl) Opds.nil)) ?_
  refine Run.pure (dd := some 6) rfl rfl (op_fld_ptr (by decide) rfl (Opd.tmp _ _ rfl)) ?_
  refine Run.eff (dd := none) rfl rfl (op_store_flat rfl (Opd.tmp _ _ rfl) (Opd.tmp _ _ rfl) tC rfl rfl (by first | rfl | assumption) tS) ?_
  refine Run.nil (FinR.mk ?_)
  refine nK ?_
  refine s_reg rfl ?_
  refine Run.load (dd := some 7) rfl rfl (op_loadw_flat rfl (Opd.tmp _ _ rfl) tH rfl) ?_
  refine Run.eff (dd := none) rfl rfl (op_store_flat rfl (Opd.tmp _ _ rfl) (Opd.tmp _ _ rfl) tC rfl rfl (by first | rfl | assumption) tS) ?_
  refine Run.nil (FinR.mk ?_)
  refine nK ?_
  (first | exact s_o1 hC rfl tV | exact s_o2 hC rfl tV tV | exact s_o3 hC rfl tV tV tV | exact s_o4 hC rfl tV tV tV tV | exact s_out0 hC rfl | exact s_outO hC rfl rfl rfl)
end Go.Proofs.Ytinddhlmgiahiaa
/- Sizes. No program in sight. -/
namespace Go.Pl
open Go Go.RT
set_option linter.all false
theorem ckrt_len {r : Rte} (h : checkRt r = 0) : r.hs.length ≤ 64 := by
  unfold checkRt at h
  by_cases c1 : (!validB r.pf) = true
  · rw [if_pos c1] at h; cases h
  rw [if_neg c1] at h
  by_cases c2 : outB r.pr 1 7 = true
  · rw [if_pos c2] at h; cases h
  rw [if_neg c2] at h
  by_cases c3 : (outB r.di 0 255 || outB r.me 0 16777216 || outB r.tg 0 4294967295) = true
  · rw [if_pos c3] at h; cases h
  rw [if_neg c3] at h
  by_cases c4 : 64 < r.hs.length
  · rw [if_pos c4] at h; cases h
  · omega
theorem tab_len {l : List Rte} (h : checkL l = 0) : ∀ x ∈ l, x.hs.length ≤ 64 := fun x hx => ckrt_len (((check_iff l).1 h).chk x hx)
theorem ne_of_eqFs {p q : Pfx} : (!eqFs (encP p) (encP q)) = decide (p ≠ q) := by
  rw [eqFs_encP]; simp
theorem act_cond {l : List Rte} {i : Nat} {q x : Rte} (hq : 0 < i → prvG l i = some q) : ((prvG l i).map (·.pf) = some x.pf) ↔ (decide ((i : Int) = 0) || decide (q.pf ≠ x.pf)) = false := by
  by_cases h0 : 0 < i
  · rw [hq h0]
    simp; omega
  · have : i = 0 := by omega
    subst this; simp [prvG]
end Go.Pl
namespace Go.Proofs.Ytinddhlmgiahiaa
open Go Go.RT Go.Proofs Go.Pl
set_option linter.all false
set_option maxRecDepth 20000
abbrev ORts (l : List Rte) : Option Ob := some (.flat 7 (l.map encRt))
theorem active_f (l : List Rte) (ho : ∀ x ∈ l, okRt x) (hh : ∀ x ∈ l, lenOk x.hs.length) (hn : l.length ≤ 4000) : Meets Try.prog 14 ([VRt l].map PV.fz) 0 [] (.sl 0 7 0 (activeF l).length) [(0, ORts (activeF l))] 1 := by
  have kc := ckl_c l ho hh (by unfold lenOk; omega)
  unfold activeF
  refine Meets.intro Try.func14 rfl (Nat.le_of_ble_eq_true rfl) fun C hC => ?_
  simp only [List.map, argEnv, Nat.reduceAdd]
  refine nK ?_
  refine s_reg rfl ?_
  refine Run.pure (dd := some 2) rfl rfl (op_assign rfl (Opd.const _)) ?_
  refine Run.nil (FinR.mk ?_)
  refine nK ?_
  refine s_reg rfl ?_
  refine Run.pure (dd := some 6) rfl rfl (op_move rfl (Opd.tmp _ _ rfl)) ?_
  refine Run.pure (dd := some 7) rfl rfl (op_call_pure (fun _ => kc) rfl (Opd.func _) (Opds.cons _ _ _ _ (Opd.tmp _ _ rfl) Opds.nil)) ?_
  refine Run.pure (dd := some 8) rfl rfl (op_neq rfl (Opd.tmp _ _ rfl) (Opd.const _)) ?_
  refine Run.nil (FinR.mk ?_)
  refine nK ?_
  refine n_cond _ rfl (fun hb => ?_) (fun hb => ?_)
  · rw [if_pos (by simpa using hb)]
    refine nK ?_
    refine s_reg rfl ?_
    refine Run.pure (dd := some 2) rfl rfl (op_assign rfl (Opd.const _)) ?_
    refine Run.nil (FinR.mk ?_)
    refine nK ?_
    refine Next.adopt 2 7 rfl ?_
    (first | exact s_o1 hC rfl tV | exact s_o2 hC rfl tV tV | exact s_o3 hC rfl tV tV tV | exact s_o4 hC rfl tV tV tV tV | exact s_out0 hC rfl | exact s_outO hC rfl rfl rfl)
  · have h0 : checkL l = 0 := by simpa using hb
    have hlen := tab_len h0
    rw [if_neg (by simpa using hb)]
    refine nK ?_
    refine s_reg rfl ?_
    refine Run.pure (dd := some 3) rfl rfl (op_assign rfl (Opd.const _)) ?_
    refine Run.nil (FinR.mk ?_)
    refine nK ?_
    refine Next.adopt 3 7 rfl ?_
    refine nK ?_
    refine s_reg rfl ?_
    refine Run.pure (dd := some 9) rfl rfl (op_move rfl (Opd.tmp _ _ rfl)) ?_
    refine Run.pure (dd := some 10) rfl rfl (op_len_fz rfl (by first | exact Opd.tmp _ _ rfl | exact Opd.nil _ _ (Opd.tmp _ _ rfl)) (by first | exact List.length_map _ | rfl)) ?_
    refine Run.pure (dd := some 11) rfl rfl (op_move rfl (Opd.const _)) ?_
    refine Run.nil (FinR.mk ?_)
    refine nK ?_
    refine n_loop (ι := Nat × List Rte) (fun p => ([(0, .fz (VRt l)), (3, .sl 0 7 0 p.2.length), (9, .fz (VRt l)), (10, IV .i64 l.length), (11, IV .i64 p.1)], [(0, ORts p.2)], 1)) (fun p => p.1 ≤ l.length ∧ p.2.length ≤ p.1 ∧ p.2 ++ actGo ((prvG l p.1).map (·.pf)) (l.drop p.1) = actGo none l) (fun p => l.length - p.1) (0, []) ⟨Nat.zero_le _, Nat.le_refl _, rfl⟩ ?_ ?_
    · refine Next.weakS [3] [] (by rfl) (by first | exact keeps0 hC _ | exact keepsN hC _ rfl) (by repeat (first | exact trivial | refine ⟨⟨_, rfl, .inl ⟨rfl, rfl⟩⟩, ?_⟩ | refine ⟨⟨_, rfl, .inl ⟨slEq rfl tN, rfl⟩⟩, ?_⟩ | refine ⟨⟨_, rfl, .inl ⟨ivEq tX, rfl⟩⟩, ?_⟩)) (by repeat (first | exact trivial | refine ⟨ent_same rfl rfl rfl tL, ?_⟩ | refine ⟨ent_same rfl rfl (rfEq rfl tU) tL, ?_⟩ | refine ⟨ent_same rfl rfl (flEq rfl (by first | (simp; done) | (simp; omega) | (simp [encHo, encRt, encP]; done) | simp [maxC, minC])) trivial, ?_⟩)) rfl (rel_intro)
    · intro ⟨i, out⟩ ⟨hi, hol, hS⟩ K hK
      dsimp only at hi hol hS ⊢
      refine nK ?_
      refine s_reg rfl ?_
      refine Run.pure (dd := some 12) rfl rfl (op_lss rfl (Opd.tmp _ _ rfl) (Opd.tmp _ _ rfl)) ?_
      refine Run.nil (FinR.mk ?_)
      refine nK ?_
      refine n_cond _ rfl (fun hb => ?_) (fun hb => ?_)
      · have hlt : i < l.length := by simp at hb; omega
        have hr1 := row_at' encRt l i hlt
        rw [act_step hlt, ← List.append_assoc] at hS
        have hK1 := fun o h1 h => hK (i + 1, o) ⟨by dsimp only; omega, h1, h⟩ (by dsimp only; omega)
        dsimp only at hK1
        obtain ⟨q, hq⟩ := prv_row encRt l zRte (by omega : i ≤ l.length)
        have lx := hlen _ (List.getElem_mem hlt)
        have hac := act_cond (l := l) (i := i) (q := q) (x := l[i]) (fun h => (hq h).1)
        generalize l[i] = x at *
        have kcl := clonert_c x (by omega)
        refine nK ?_
        refine s_reg rfl ?_
        refine Run.pure (dd := some 13) rfl rfl (op_move rfl (Opd.tmp _ _ rfl)) ?_
        refine Run.pure (dd := some 14) rfl rfl (op_idx_fz _ rfl (Opd.tmp _ _ rfl) (Opd.tmp _ _ rfl) tF) ?_
        refine Run.pure (dd := some 15) rfl rfl (op_loadw_fz rfl (Opd.tmp _ _ rfl) rfl) ?_
        refine Run.eff (dd := some 5) rfl rfl (op_alloc rfl rfl rfl rfl) ?_
        refine Run.pure (dd := some 4) rfl rfl (op_assign rfl (Opd.tmp _ _ rfl)) ?_
        refine Run.eff (dd := none) rfl rfl (op_store_flat rfl (Opd.tmp _ _ rfl) (Opd.tmp _ _ rfl) tC rfl rfl (by first | rfl | assumption) tS) ?_
        refine Run.nil (FinR.mk ?_)
        refine nK ?_
        refine s_draw mixed ?_
        refine Run.pure (dd := some 16) rfl rfl (op_move rfl (Opd.tmp _ _ rfl)) ?_
        refine Run.pure (dd := some 17) rfl rfl (op_eql rfl (Opd.tmp _ _ rfl) (Opd.const _)) ?_
        refine Run.pure (dd := some 18) rfl rfl (op_move rfl (Opd.tmp _ _ rfl)) ?_
        refine Run.pureG (dd := some 19) rfl rfl rfl tG (op_move rfl (Opd.tmp _ _ rfl)) ?_
        refine Run.pureG (dd := some 20) rfl rfl rfl tG (op_move rfl (Opd.tmp _ _ rfl)) ?_
        refine Run.pureG (dd := some 21) rfl rfl rfl tG (op_sub rfl (Opd.topt _ _ _ rfl tO) (Opd.const _) tI) ?_
        refine Run.pureG (dd := some 22) rfl rfl rfl tG (op_idx_fz (i - 1) rfl (Opd.topt _ _ _ rfl tO) (Opd.topt _ _ _ rfl tO) (by intro hg; have h0 : 0 < i := (by simp at hg; omega); exact ⟨by omega, (hq h0).2⟩)) ?_
        refine Run.pureG (dd := some 23) rfl rfl rfl tG (op_fld_fz (by decide) rfl (Opd.topt _ _ _ rfl tO) tR) ?_
        refine Run.pureG (dd := some 24) rfl rfl rfl tG (op_loadn_fz rfl (Opd.topt _ _ _ rfl tO) tR) ?_
        refine Run.pureG (dd := some 25) rfl rfl rfl tG (op_fld_ptr (by decide) rfl (Opd.tmp _ _ rfl)) ?_
        refine Run.loadG (dd := some 26) rfl rfl rfl tG (op_loadn_flat rfl (Opd.topt _ _ _ rfl tO) tH tR tR) ?_
        refine Run.pureG (dd := some 27) rfl rfl rfl tG (op_neS rfl (Opd.topt _ _ _ rfl tO) (Opd.topt _ _ _ rfl tO) (by kernel_rfl)) ?_
        refine Run.pure (dd := some 28) rfl rfl (op_pick_or rfl (Opd.tmp _ _ rfl) (Opd.topt _ _ _ rfl tO)) ?_
        refine Run.nil (FinD.mk (by kernel_rfl) ?_)
        refine nK ?_
        refine n_cond _ rfl (fun hb => ?_) (fun hb => ?_)
        · have hb' : (decide ((i : Int) = 0) || !eqFs (encP q.pf) (encP x.pf)) = true := hb
          rw [ne_of_eqFs] at hb'
          rw [if_neg (by rw [hac, hb']; decide)] at hS
          have e1 : (out ++ [x]).length = out.length + 1 := by simp
          have e2 : (out ++ [x]).map encRt = out.map encRt ++ [encRt x] := by simp
          have hK2 := hK1 (out ++ [x]) (by simp; omega) hS
          unfold ORts at hK2
          rw [e1, e2] at hK2
          refine nK ?_
          refine s_reg rfl ?_
          refine Run.pure (dd := some 29) rfl rfl (op_move rfl (Opd.tmp _ _ rfl)) ?_
          refine Run.load (dd := some 30) rfl rfl (op_loadw_flat rfl (Opd.tmp _ _ rfl) tH rfl) ?_
          refine Run.pure (dd := some 31) rfl rfl (op_call_pure (fun _ => kcl) rfl (Opd.func _) (Opds.cons _ _ _ _ (Opd.tmp _ _ rfl) Opds.nil)) ?_
          refine Run.pure (dd := some 32) rfl rfl (op_buildSlice_fz rfl (RowsF.cons _ _ _ _ _ _ (Opd.tmp _ _ rfl) tC (by rfl) (RowsF.nil _)) rfl rfl) ?_
          refine Run.eff (dd := some 33) rfl rfl (op_append rfl (Opd.tmp _ _ rfl) (Opd.tmp _ _ rfl) rfl (by simp) rfl rfl tB tB) ?_
          refine Run.pure (dd := some 3) rfl rfl (op_assign rfl (Opd.tmp _ _ rfl)) ?_
          refine Run.nil (FinR.mk ?_)
          refine nK ?_
          refine s_reg rfl ?_
          refine Run.pure (dd := some 34) rfl rfl (op_add rfl (Opd.tmp _ _ rfl) (Opd.const _) tI) ?_
          refine Run.pure (dd := some 11) rfl rfl (op_move rfl (Opd.tmp _ _ rfl)) ?_
          refine Run.nil (FinR.mk ?_)
          refine nK ?_
          refine Next.weakS [3] [] (by rfl) (by first | exact keeps0 hC _ | exact keepsN hC _ rfl) (by repeat (first | exact trivial | refine ⟨⟨_, rfl, .inl ⟨rfl, rfl⟩⟩, ?_⟩ | refine ⟨⟨_, rfl, .inl ⟨slEq rfl tN, rfl⟩⟩, ?_⟩ | refine ⟨⟨_, rfl, .inl ⟨ivEq tX, rfl⟩⟩, ?_⟩)) (by repeat (first | exact trivial | refine ⟨ent_same rfl rfl rfl tL, ?_⟩ | refine ⟨ent_same rfl rfl (rfEq rfl tU) tL, ?_⟩ | refine ⟨ent_same rfl rfl (flEq rfl (by first | (simp; done) | (simp; omega) | (simp [encHo, encRt, encP]; done) | simp [maxC, minC])) trivial, ?_⟩)) rfl (hK2)
        · have hb' : (decide ((i : Int) = 0) || !eqFs (encP q.pf) (encP x.pf)) = false := hb
          rw [ne_of_eqFs] at hb'
          rw [if_pos (hac.2 hb'), List.append_nil] at hS
          refine nK ?_
          refine s_reg rfl ?_
          refine Run.pure (dd := some 34) rfl rfl (op_add rfl (Opd.tmp _ _ rfl) (Opd.const _) tI) ?_
          refine Run.pure (dd := some 11) rfl rfl (op_move rfl (Opd.tmp _ _ rfl)) ?_
          refine Run.nil (FinR.mk ?_)
          refine nK ?_
          refine Next.weakS [3] [] (by rfl) (by first | exact keeps0 hC _ | exact keepsN hC _ rfl) (by repeat (first | exact trivial | refine ⟨⟨_, rfl, .inl ⟨rfl, rfl⟩⟩, ?_⟩ | refine ⟨⟨_, rfl, .inl ⟨slEq rfl tN, rfl⟩⟩, ?_⟩ | refine ⟨⟨_, rfl, .inl ⟨ivEq tX, rfl⟩⟩, ?_⟩)) (by repeat (first | exact trivial | refine ⟨ent_same rfl rfl rfl tL, ?_⟩ | refine ⟨ent_same rfl rfl (rfEq rfl tU) tL, ?_⟩ | refine ⟨ent_same rfl rfl (flEq rfl (by first | (simp; done) | (simp; omega) | (simp [encHo, encRt, encP]; done) | simp [maxC, minC])) trivial, ?_⟩)) rfl ((hK1 out (by omega) hS))
      · have hie : i = l.length := by simp at hb; omega
        rw [hie, List.drop_length] at hS
        simp only [actGo, List.append_nil] at hS
        subst hS
        refine nK ?_
        refine s_reg rfl ?_
        refine Run.pure (dd := some 35) rfl rfl (op_move rfl (Opd.tmp _ _ rfl)) ?_
        refine Run.pure (dd := some 2) rfl rfl (op_assign rfl (Opd.tmp _ _ rfl)) ?_
        refine Run.nil (FinR.mk ?_)
        refine nK ?_
        (first | exact s_o1 hC rfl tV | exact s_o2 hC rfl tV tV | exact s_o3 hC rfl tV tV tV | exact s_o4 hC rfl tV tV tV tV | exact s_out0 hC rfl | exact s_outO hC rfl rfl rfl)
theorem active_c (l : List Rte) (ho : ∀ x ∈ l, okRt x) (hh : ∀ x ∈ l, lenOk x.hs.length) (hn : l.length ≤ 4000) : Pure Try.prog 14 [VRt l] (VRt (activeF l)) := (active_f l ho hh hn).freeze (by simp)
theorem ractive_f (l : List Rte) (ho : ∀ x ∈ l, okRt x) (hh : ∀ x ∈ l, lenOk x.hs.length) (hn : l.length ≤ 4000) : Meets Try.prog 15 ([VRt l].map PV.fz) 0 [] (.sl 0 7 0 (activeF l).length) [(0, ORts (activeF l))] 1 := by
  have kc := rckl_c l ho hh (by unfold lenOk; omega)
  unfold activeF
  refine Meets.intro Try.func15 rfl (Nat.le_of_ble_eq_true rfl) fun C hC => ?_
  simp only [List.map, argEnv, Nat.reduceAdd]
  refine nK ?_
  refine s_reg rfl ?_
  refine Run.pure (dd := some 2) rfl rfl (op_assign rfl (Opd.const _)) ?_
  refine Run.nil (FinR.mk ?_)
  refine nK ?_
  refine s_reg rfl ?_
  refine Run.pure (dd := some 3) rfl rfl (op_assign rfl (Opd.const _)) ?_
  refine Run.nil (FinR.mk ?_)
  refine nK ?_
  refine s_reg rfl ?_
  refine Run.pure (dd := some 6) rfl rfl (op_move rfl (Opd.tmp _ _ rfl)) ?_
  refine Run.pure (dd := some 7) rfl rfl (op_call_pure (fun _ => kc) rfl (Opd.func _) (Opds.cons _ _ _ _ (Opd.tmp _ _ rfl) Opds.nil)) ?_
  refine Run.pure (dd := some 8) rfl rfl (op_neq rfl (Opd.tmp _ _ rfl) (Opd.const _)) ?_
  refine Run.nil (FinR.mk ?_)
  refine nK ?_
  refine n_cond _ rfl (fun hb => ?_) (fun hb => ?_)
  · rw [if_pos (by simpa using hb)]
    refine nK ?_
    refine s_reg rfl ?_
    refine Run.pure (dd := some 2) rfl rfl (op_assign rfl (Opd.const _)) ?_
    refine Run.nil (FinR.mk ?_)
    refine nK ?_
    refine Next.adopt 2 7 rfl ?_
    (first | exact s_o1 hC rfl tV | exact s_o2 hC rfl tV tV | exact s_o3 hC rfl tV tV tV | exact s_o4 hC rfl tV tV tV tV | exact s_out0 hC rfl | exact s_outO hC rfl rfl rfl)
  · have h0 : checkL l = 0 := by simpa using hb
    have hlen := tab_len h0
    rw [if_neg (by simpa using hb)]
    refine nK ?_
    refine Next.adopt 3 7 rfl ?_
    refine nK ?_
    refine s_reg rfl ?_
    refine Run.pure (dd := some 9) rfl rfl (op_move rfl (Opd.tmp _ _ rfl)) ?_
    refine Run.pure (dd := some 10) rfl rfl (op_len_fz rfl (by first | exact Opd.tmp _ _ rfl | exact Opd.nil _ _ (Opd.tmp _ _ rfl)) (by first | exact List.length_map _ | rfl)) ?_
    refine Run.pure (dd := some 11) rfl rfl (op_move rfl (Opd.const _)) ?_
    refine Run.nil (FinR.mk ?_)
    refine nK ?_
    refine n_loop (ι := Nat × List Rte) (fun p => ([(0, .fz (VRt l)), (3, .sl 0 7 0 p.2.length), (9, .fz (VRt l)), (10, IV .i64 l.length), (11, IV .i64 p.1)], [(0, ORts p.2)], 1)) (fun p => p.1 ≤ l.length ∧ p.2.length ≤ p.1 ∧ p.2 ++ actGo ((prvG l p.1).map (·.pf)) (l.drop p.1) = actGo none l) (fun p => l.length - p.1) (0, []) ⟨Nat.zero_le _, Nat.le_refl _, rfl⟩ ?_ ?_
    · refine Next.weakS [3] [] (by rfl) (by first | exact keeps0 hC _ | exact keepsN hC _ rfl) (by repeat (first | exact trivial | refine ⟨⟨_, rfl, .inl ⟨rfl, rfl⟩⟩, ?_⟩ | refine ⟨⟨_, rfl, .inl ⟨slEq rfl tN, rfl⟩⟩, ?_⟩ | refine ⟨⟨_, rfl, .inl ⟨ivEq tX, rfl⟩⟩, ?_⟩)) (by repeat (first | exact trivial | refine ⟨ent_same rfl rfl rfl tL, ?_⟩ | refine ⟨ent_same rfl rfl (rfEq rfl tU) tL, ?_⟩ | refine ⟨ent_same rfl rfl (flEq rfl (by first | (simp; done) | (simp; omega) | (simp [encHo, encRt, encP]; done) | simp [maxC, minC])) trivial, ?_⟩)) rfl (rel_intro)
    · intro ⟨i, out⟩ ⟨hi, hol, hS⟩ K hK
      dsimp only at hi hol hS ⊢
      refine nK ?_
      refine s_reg rfl ?_
      refine Run.pure (dd := some 12) rfl rfl (op_lss rfl (Opd.tmp _ _ rfl) (Opd.tmp _ _ rfl)) ?_
      refine Run.nil (FinR.mk ?_)
      refine nK ?_
      refine n_cond _ rfl (fun hb => ?_) (fun hb => ?_)
      · have hlt : i < l.length := by simp at hb; omega
        have hr1 := row_at' encRt l i hlt
        rw [act_step hlt, ← List.append_assoc] at hS
        have hK1 := fun o h1 h => hK (i + 1, o) ⟨by dsimp only; omega, h1, h⟩ (by dsimp only; omega)
        dsimp only at hK1
        obtain ⟨q, hq⟩ := prv_row encRt l zRte (by omega : i ≤ l.length)
        have lx := hlen _ (List.getElem_mem hlt)
        have hac := act_cond (l := l) (i := i) (q := q) (x := l[i]) (fun h => (hq h).1)
        generalize l[i] = x at *
        refine nK ?_
        refine s_reg rfl ?_
        refine Run.pure (dd := some 13) rfl rfl (op_move rfl (Opd.tmp _ _ rfl)) ?_
        refine Run.pure (dd := some 14) rfl rfl (op_idx_fz _ rfl (Opd.tmp _ _ rfl) (Opd.tmp _ _ rfl) tF) ?_
        refine Run.pure (dd := some 15) rfl rfl (op_loadw_fz rfl (Opd.tmp _ _ rfl) rfl) ?_
        refine Run.eff (dd := some 5) rfl rfl (op_alloc rfl rfl rfl rfl) ?_
        refine Run.pure (dd := some 4) rfl rfl (op_assign rfl (Opd.tmp _ _ rfl)) ?_
        refine Run.eff (dd := none) rfl rfl (op_store_flat rfl (Opd.tmp _ _ rfl) (Opd.tmp _ _ rfl) tC rfl rfl (by first | rfl | assumption) tS) ?_
        refine Run.nil (FinR.mk ?_)
        refine nK ?_
        refine s_draw mixed ?_
        refine Run.pure (dd := some 16) rfl rfl (op_move rfl (Opd.tmp _ _ rfl)) ?_
        refine Run.pure (dd := some 17) rfl rfl (op_eql rfl (Opd.tmp _ _ rfl) (Opd.const _)) ?_
        refine Run.pure (dd := some 18) rfl rfl (op_move rfl (Opd.tmp _ _ rfl)) ?_
        refine Run.pureG (dd := some 19) rfl rfl rfl tG (op_move rfl (Opd.tmp _ _ rfl)) ?_
        refine Run.pureG (dd := some 20) rfl rfl rfl tG (op_move rfl (Opd.tmp _ _ rfl)) ?_
        refine Run.pureG (dd := some 21) rfl rfl rfl tG (op_sub rfl (Opd.topt _ _ _ rfl tO) (Opd.const _) tI) ?_
        refine Run.pureG (dd := some 22) rfl rfl rfl tG (op_idx_fz (i - 1) rfl (Opd.topt _ _ _ rfl tO) (Opd.topt _ _ _ rfl tO) (by intro hg; have h0 : 0 < i := (by simp at hg; omega); exact ⟨by omega, (hq h0).2⟩)) ?_
        refine Run.pureG (dd := some 23) rfl rfl rfl tG (op_fld_fz (by decide) rfl (Opd.topt _ _ _ rfl tO) tR) ?_
        refine Run.pureG (dd := some 24) rfl rfl rfl tG (op_loadn_fz rfl (Opd.topt _ _ _ rfl tO) tR) ?_
        refine Run.pureG (dd := some 25) rfl rfl rfl tG (op_fld_ptr (by decide) rfl (Opd.tmp _ _ rfl)) ?_
        refine Run.loadG (dd := some 26) rfl rfl rfl tG (op_loadn_flat rfl (Opd.topt _ _ _ rfl tO) tH tR tR) ?_
        refine Run.pureG (dd := some 27) rfl rfl rfl tG (op_neS rfl (Opd.topt _ _ _ rfl tO) (Opd.topt _ _ _ rfl tO) (by kernel_rfl)) ?_
        refine Run.pure (dd := some 28) rfl rfl (op_pick_or rfl (Opd.tmp _ _ rfl) (Opd.topt _ _ _ rfl tO)) ?_
        refine Run.nil (FinD.mk (by kernel_rfl) ?_)
        refine nK ?_
        refine n_cond _ rfl (fun hb => ?_) (fun hb => ?_)
        · have hb' : (decide ((i : Int) = 0) || !eqFs (encP q.pf) (encP x.pf)) = true := hb
          rw [ne_of_eqFs] at hb'
          rw [if_neg (by rw [hac, hb']; decide)] at hS
          have e1 : (out ++ [x]).length = out.length + 1 := by simp
          have e2 : (out ++ [x]).map encRt = out.map encRt ++ [encRt x] := by simp
          have hK2 := hK1 (out ++ [x]) (by simp; omega) hS
          unfold ORts at hK2
          rw [e1, e2] at hK2
          refine nK ?_
          refine s_reg rfl ?_
          refine Run.pure (dd := some 29) rfl rfl (op_move rfl (Opd.tmp _ _ rfl)) ?_
          refine Run.load (dd := some 30) rfl rfl (op_loadw_flat rfl (Opd.tmp _ _ rfl) tH rfl) ?_
          refine Run.pure (dd := some 31) rfl rfl (op_buildSlice_fz rfl (RowsF.cons _ _ _ _ _ _ (Opd.tmp _ _ rfl) tC (by rfl) (RowsF.nil _)) rfl rfl) ?_
          refine Run.eff (dd := some 32) rfl rfl (op_append rfl (Opd.tmp _ _ rfl) (Opd.tmp _ _ rfl) rfl (by simp) rfl rfl tB tB) ?_
          refine Run.pure (dd := some 3) rfl rfl (op_assign rfl (Opd.tmp _ _ rfl)) ?_
          refine Run.nil (FinR.mk ?_)
          refine nK ?_
          refine s_reg rfl ?_
          refine Run.pure (dd := some 33) rfl rfl (op_add rfl (Opd.tmp _ _ rfl) (Opd.const _) tI) ?_
          refine Run.pure (dd := some 11) rfl rfl (op_move rfl (Opd.tmp _ _ rfl)) ?_
          refine Run.nil (FinR.mk ?_)
          refine nK ?_
          refine Next.weakS [3] [] (by rfl) (by first | exact keeps0 hC _ | exact keepsN hC _ rfl) (by repeat (first | exact trivial | refine ⟨⟨_, rfl, .inl ⟨rfl, rfl⟩⟩, ?_⟩ | refine ⟨⟨_, rfl, .inl ⟨slEq rfl tN, rfl⟩⟩, ?_⟩ | refine ⟨⟨_, rfl, .inl ⟨ivEq tX, rfl⟩⟩, ?_⟩)) (by repeat (first | exact trivial | refine ⟨ent_same rfl rfl rfl tL, ?_⟩ | refine ⟨ent_same rfl rfl (rfEq rfl tU) tL, ?_⟩ | refine ⟨ent_same rfl rfl (flEq rfl (by first | (simp; done) | (simp; omega) | (simp [encHo, encRt, encP]; done) | simp [maxC, minC])) trivial, ?_⟩)) rfl (hK2)
        · have hb' : (decide ((i : Int) = 0) || !eqFs (encP q.pf) (encP x.pf)) = false := hb
          rw [ne_of_eqFs] at hb'
          rw [if_pos (hac.2 hb'), List.append_nil] at hS
          refine nK ?_
          refine s_reg rfl ?_
          refine Run.pure (dd := some 33) rfl rfl (op_add rfl (Opd.tmp _ _ rfl) (Opd.const _) tI) ?_
          refine Run.pure (dd := some 11) rfl rfl (op_move rfl (Opd.tmp _ _ rfl)) ?_
          refine Run.nil (FinR.mk ?_)
          refine nK ?_
          refine Next.weakS [3] [] (by rfl) (by first | exact keeps0 hC _ | exact keepsN hC _ rfl) (by repeat (first | exact trivial | refine ⟨⟨_, rfl, .inl ⟨rfl, rfl⟩⟩, ?_⟩ | refine ⟨⟨_, rfl, .inl ⟨slEq rfl tN, rfl⟩⟩, ?_⟩ | refine ⟨⟨_, rfl, .inl ⟨ivEq tX, rfl⟩⟩, ?_⟩)) (by repeat (first | exact trivial | refine ⟨ent_same rfl rfl rfl tL, ?_⟩ | refine ⟨ent_same rfl rfl (rfEq rfl tU) tL, ?_⟩ | refine ⟨ent_same rfl rfl (flEq rfl (by first | (simp; done) | (simp; omega) | (simp [encHo, encRt, encP]; done) | simp [maxC, minC])) trivial, ?_⟩)) rfl ((hK1 out (by omega) hS))
      · have hie : i = l.length := by simp at hb; omega
        rw [hie, List.drop_length] at hS
        simp only [actGo, List.append_nil] at hS
        subst hS
        refine nK ?_
        refine s_reg rfl ?_
        refine Run.pure (dd := some 34) rfl rfl (op_move rfl (Opd.tmp _ _ rfl)) ?_
        refine Run.pure (dd := some 2) rfl rfl (op_assign rfl (Opd.tmp _ _ rfl)) ?_
        refine Run.nil (FinR.mk ?_)
        refine nK ?_
        (first | exact s_o1 hC rfl tV | exact s_o2 hC rfl tV tV | exact s_o3 hC rfl tV tV tV | exact s_o4 hC rfl tV tV tV tV | exact s_out0 hC rfl | exact s_outO hC rfl rfl rfl)
theorem ractive_c (l : List Rte) (ho : ∀ x ∈ l, okRt x) (hh : ∀ x ∈ l, lenOk x.hs.length) (hn : l.length ≤ 4000) : Pure Try.prog 15 [VRt l] (VRt (activeF l)) := (ractive_f l ho hh hn).freeze (by simp)
end Go.Proofs.Ytinddhlmgiahiaa
/- Which nodes can be reached. -/
namespace Go.Pl
open Go.RT
set_option linter.all false
inductive Rch (l : List Edg) (a : Int) : Int → Prop where
  | here : Rch l a a
  | step (e : Edg) : e ∈ l → Rch l a e.f → Rch l a e.t
open Classical in
/-- how many are marked -/
def cntT (l : List Bool) : Nat := l.countP (· == true)
theorem cntT_set {l : List Bool} {v : Nat} (h : l[v]? = some false) : cntT (l.set v true) = cntT l + 1 := by
  obtain ⟨hv, he⟩ := List.getElem?_eq_some_iff.1 h
  induction l generalizing v with
  | nil => simp at hv
  | cons x l ih =>
    cases v with
    | zero => simp at he; subst he; simp [cntT]
    | succ v =>
      have hv2 : v < l.length := by simpa using hv
      have := ih (by simpa using h) hv2 (by simpa using he)
      unfold cntT at *
      simp only [List.set_cons_succ, List.countP_cons, this]; omega
open Go.RT
open Classical in
/-- what the search knows -/
structure Bfs (g : Gr) (a : Int) (out : List Bool) (l : List Int) (i : Nat) : Prop where
  len : out.length = (g.r + g.n).toNat
  from_ : out[a.toNat]? = some true
  i_le : i ≤ l.length
  mem : ∀ x ∈ l, 0 ≤ x ∧ x < g.r + g.n ∧ out[x.toNat]? = some true ∧ Rch g.es a x
  all : ∀ v : Nat, out[v]? = some true → (v : Int) ∈ l
  cnt : l.length = cntT out
  done : ∀ x ∈ l.take i, ∀ e ∈ g.es, e.f = x → out[e.t.toNat]? = some true
theorem set_true {out : List Bool} {v w : Nat} (h : out[w]? = some true) : (out.set v true)[w]? = some true := by
  rw [List.getElem?_set]
  obtain ⟨h1, _⟩ := List.getElem?_eq_some_iff.1 h
  split
  · rename_i e; subst e; rw [if_pos h1]
  · exact h
theorem Bfs.next {g : Gr} {a : Int} {out : List Bool} {l : List Int} {i : Nat} (h : Bfs g a out l i) {x : Int} (hx : l[i]? = some x) (hd : ∀ y ∈ nextI x g.es, out[y.toNat]? = some true) : Bfs g a out l (i + 1) := by
  obtain ⟨hi, hxe⟩ := List.getElem?_eq_some_iff.1 hx
  refine ⟨h.len, h.from_, hi, h.mem, h.all, h.cnt, fun y hy e he1 he2 => ?_⟩
  rw [List.take_succ_eq_append_getElem hi] at hy
  rcases List.mem_append.1 hy with hy | hy
  · exact h.done y hy e he1 he2
  · have : y = x := by simpa [hxe] using hy
    exact hd e.t (((nextI_spec x g.es).2 e.t).2 ⟨e, he1, by omega, rfl⟩)
theorem Bfs.start {g : Gr} {k : Nat} (hk : (k : Int) < g.r + g.n) : Bfs g k ((List.replicate (g.r + g.n).toNat false).set k true) [(k : Int)] 0 := by
  have hf : (List.replicate (g.r + g.n).toNat false)[k]? = some false := by rw [List.getElem?_replicate, if_pos (by omega)]
  have h0 : cntT (List.replicate (g.r + g.n).toNat false) = 0 := by
    unfold cntT; rw [List.countP_eq_zero]; intro b hb; rw [List.eq_of_mem_replicate hb]; simp
  have hkk : ((List.replicate (g.r + g.n).toNat false).set k true)[k]? = some true := by rw [List.getElem?_set, if_pos rfl, if_pos (by simp; omega)]
  refine ⟨by simp, by simpa using hkk, by simp, fun x hx => ?_, fun v hv => ?_, by rw [cntT_set hf, h0]; rfl, fun x hx => by simp at hx⟩
  · have : x = k := by simpa using hx
    subst this
    exact ⟨by omega, hk, by simpa using hkk, .here⟩
  · rw [List.getElem?_set] at hv
    split at hv
    · rename_i e; subst e; simp
    · rw [List.getElem?_replicate] at hv; split at hv <;> simp at hv
end Go.Pl
