/- A part of the proof: R22, R25, R23, R24, RP14, R26, RP15, R27, RP16, RP17, R30, LR. -/
import Derived.Test.YtinddhlmgiahiaaZE
set_option linter.all false
namespace Go.Proofs.Ytinddhlmgiahiaa
open Go Go.RT Go.Proofs Go.Pl
set_option linter.all false
set_option maxRecDepth 20000
theorem rinsPf_f (l : List Pfx) (p : Pfx) (hn : l.length ≤ 9000) : Meets Try.prog 66 ([VP l, .agg (encP p)].map PV.fz) 0 [] (.sl 0 2 0 (insPf p false l).length) [(0, OPf (insPf p false l))] 1 := by
  have app1 : ∀ (o : List Pfx) (x : Pfx), (o ++ [x]).length = o.length + 1 := fun o x => by simp
  have app2 : ∀ (o : List Pfx) (x : Pfx), (o ++ [x]).map encP = o.map encP ++ [encP x] := fun o x => by simp
  refine Meets.intro Try.func66 rfl (Nat.le_of_ble_eq_true rfl) fun C hC => ?_
  simp only [List.map, argEnv, Nat.reduceAdd]
  refine nK ?_
  refine s_reg rfl ?_
  refine Run.eff (dd := some 3) rfl rfl (op_box_flat rfl (Opd.tmp _ _ rfl) tC rfl) ?_
  refine Run.pure (dd := some 4) rfl rfl (op_assign rfl (Opd.const _)) ?_
  refine Run.nil (FinR.mk ?_)
  refine nK ?_
  refine s_reg rfl ?_
  refine Run.pure (dd := some 5) rfl rfl (op_assign rfl (Opd.const _)) ?_
  refine Run.nil (FinR.mk ?_)
  refine nK ?_
  refine Next.adopt 5 2 rfl ?_
  refine nK ?_
  refine s_reg rfl ?_
  refine Run.pure (dd := some 6) rfl rfl (op_assign rfl (Opd.const _)) ?_
  refine Run.nil (FinR.mk ?_)
  refine nK ?_
  refine s_reg rfl ?_
  refine Run.pure (dd := some 9) rfl rfl (op_move rfl (Opd.tmp _ _ rfl)) ?_
  refine Run.pure (dd := some 10) rfl rfl (op_len_fz rfl (by first | exact Opd.tmp _ _ rfl | exact Opd.nil _ _ (Opd.tmp _ _ rfl)) (by first | exact List.length_map _ | rfl)) ?_
  refine Run.pure (dd := some 11) rfl rfl (op_move rfl (Opd.const _)) ?_
  refine Run.nil (FinR.mk ?_)
  refine nK ?_
  refine n_loop (ι := Nat × List Pfx × Bool) (fun g => ([(0, .fz (VP l)), (3, .ptr 0 2 0 0), (5, .sl 1 2 0 g.2.1.length), (6, BV g.2.2), (9, .fz (VP l)), (10, IV .i64 l.length), (11, IV .i64 g.1)], [(0, some (.flat 2 [encP p])), (1, OPf g.2.1)], 2)) (fun g => g.1 ≤ l.length ∧ g.2.1.length + (if g.2.2 = true then 0 else 1) ≤ g.1 + 1 ∧ g.2.1 ++ insPf p g.2.2 (l.drop g.1) = insPf p false l) (fun g => l.length - g.1) (0, [], false) ⟨Nat.zero_le _, by simp, by simp⟩ ?_ ?_
  · refine Next.weakS [3, 5] [] (by rfl) (by first | exact keeps0 hC _ | exact keepsN hC _ rfl) (by repeat (first | exact trivial | refine ⟨⟨_, rfl, .inl ⟨rfl, rfl⟩⟩, ?_⟩ | refine ⟨⟨_, rfl, .inl ⟨slEq rfl tN, rfl⟩⟩, ?_⟩ | refine ⟨⟨_, rfl, .inl ⟨ivEq tX, rfl⟩⟩, ?_⟩)) (by repeat (first | exact trivial | refine ⟨ent_same rfl rfl rfl tL, ?_⟩ | refine ⟨ent_same rfl rfl (rfEq rfl tU) tL, ?_⟩ | refine ⟨ent_same rfl rfl (flEq rfl (by first | (simp; done) | (simp; omega) | (simp [encHo, encRt, encP]; done) | simp [maxC, minC])) trivial, ?_⟩)) rfl (rel_intro)
  · intro ⟨i, out, d⟩ ⟨hi, hol, hS⟩ K hK
    dsimp only at hi hol hS ⊢
    refine nK ?_
    refine s_reg rfl ?_
    refine Run.pure (dd := some 12) rfl rfl (op_lss rfl (Opd.tmp _ _ rfl) (Opd.tmp _ _ rfl)) ?_
    refine Run.nil (FinR.mk ?_)
    refine nK ?_
    refine n_cond _ rfl (fun hb => ?_) (fun hb => ?_)
    · have hlt : i < l.length := by simp at hb; omega
      have hr1 := row_at' encP l i hlt
      rw [List.drop_eq_getElem_cons hlt, insPf_step] at hS
      have hK1 := fun o d h1 h => hK (i + 1, o, d) ⟨by dsimp only; omega, h1, h⟩ (by dsimp only; omega)
      dsimp only at hK1
      generalize l[i] = x at *
      have kc := rcmp_c p x
      have hol2 : out.length ≤ i + 1 := by omega
      refine nK ?_
      refine s_reg rfl ?_
      refine Run.pure (dd := some 13) rfl rfl (op_move rfl (Opd.tmp _ _ rfl)) ?_
      refine Run.pure (dd := some 7) rfl rfl (op_assign rfl (Opd.tmp _ _ rfl)) ?_
      refine Run.nil (FinR.mk ?_)
      refine nK ?_
      refine s_draw mixed ?_
      refine Run.load (dd := some 14) rfl rfl (op_loadw_flat rfl (Opd.tmp _ _ rfl) tH rfl) ?_
      refine Run.pure (dd := some 15) rfl rfl (op_move rfl (Opd.tmp _ _ rfl)) ?_
      refine Run.pure (dd := some 16) rfl rfl (op_move rfl (Opd.tmp _ _ rfl)) ?_
      refine Run.pure (dd := some 17) rfl rfl (op_idx_fz _ rfl (Opd.tmp _ _ rfl) (Opd.tmp _ _ rfl) tF) ?_
      refine Run.pure (dd := some 18) rfl rfl (op_loadw_fz rfl (Opd.tmp _ _ rfl) rfl) ?_
      refine Run.pure (dd := some 19) rfl rfl (op_call_pure (fun _ => kc) rfl (Opd.func _) (Opds.cons _ _ _ _ (Opd.tmp _ _ rfl) (Opds.cons _ _ _ _ (Opd.tmp _ _ rfl) Opds.nil))) ?_
      refine Run.pure (dd := some 8) rfl rfl (op_assign rfl (Opd.tmp _ _ rfl)) ?_
      refine Run.nil (FinD.mk (by kernel_rfl) ?_)
      refine nK ?_
      refine s_reg rfl ?_
      refine Run.pure (dd := some 20) rfl rfl (op_move rfl (Opd.tmp _ _ rfl)) ?_
      refine Run.pure (dd := some 21) rfl rfl (op_leq rfl (Opd.tmp _ _ rfl) (Opd.const _)) ?_
      refine Run.pure (dd := some 22) rfl rfl (op_move rfl (Opd.tmp _ _ rfl)) ?_
      refine Run.pureG (dd := some 23) rfl rfl rfl tG (op_move rfl (Opd.tmp _ _ rfl)) ?_
      refine Run.pureG (dd := some 24) rfl rfl rfl tG (op_not rfl (Opd.topt _ _ _ rfl tO)) ?_
      refine Run.pure (dd := some 25) rfl rfl (op_pick_and rfl (Opd.tmp _ _ rfl) (Opd.topt _ _ _ rfl tO)) ?_
      refine Run.nil (FinR.mk ?_)
      refine nK ?_
      refine n_cond _ rfl (fun hb => ?_) (fun hb => ?_)
      · have hb2 : (decide (cmpP p x ≤ 0) && !d) = true := hb
        rw [hb2, if_pos rfl, Bool.or_true] at hS
        have hd : d = false := by
          cases d with
          | false => rfl
          | true => simp at hb2
        rw [hd] at hol
        simp only [Bool.false_eq_true, if_false] at hol
        refine nK ?_
        refine s_reg rfl ?_
        refine Run.pure (dd := some 26) rfl rfl (op_move rfl (Opd.tmp _ _ rfl)) ?_
        refine Run.load (dd := some 27) rfl rfl (op_loadw_flat rfl (Opd.tmp _ _ rfl) tH rfl) ?_
        refine Run.pure (dd := some 28) rfl rfl (op_buildSlice_fz rfl (RowsF.cons _ _ _ _ _ _ (Opd.tmp _ _ rfl) tC (by rfl) (RowsF.nil _)) rfl rfl) ?_
        refine Run.eff (dd := some 29) rfl rfl (op_append rfl (Opd.tmp _ _ rfl) (Opd.tmp _ _ rfl) rfl (by simp) rfl rfl tB tB) ?_
        refine Run.pure (dd := some 5) rfl rfl (op_assign rfl (Opd.tmp _ _ rfl)) ?_
        refine Run.nil (FinR.mk ?_)
        refine nK ?_
        refine s_reg rfl ?_
        refine Run.pure (dd := some 6) rfl rfl (op_assign rfl (Opd.const _)) ?_
        refine Run.nil (FinR.mk ?_)
        refine nK ?_
        refine s_reg rfl ?_
        refine Run.pure (dd := some 30) rfl rfl (op_move rfl (Opd.tmp _ _ rfl)) ?_
        refine Run.pure (dd := some 31) rfl rfl (op_neq rfl (Opd.tmp _ _ rfl) (Opd.const _)) ?_
        refine Run.nil (FinR.mk ?_)
        refine nK ?_
        refine n_cond _ rfl (fun hb => ?_) (fun hb => ?_)
        · rw [if_pos (by simpa using hb)] at hS
          have hK2 := hK1 (out ++ [p] ++ [x]) true (by simp; omega) (by simpa using hS)
          unfold OPf at hK2
          rw [app1, app1, app2, app2] at hK2
          refine nK ?_
          refine s_reg rfl ?_
          refine Run.pure (dd := some 32) rfl rfl (op_move rfl (Opd.tmp _ _ rfl)) ?_
          refine Run.pure (dd := some 33) rfl rfl (op_move rfl (Opd.tmp _ _ rfl)) ?_
          refine Run.pure (dd := some 34) rfl rfl (op_move rfl (Opd.tmp _ _ rfl)) ?_
          refine Run.pure (dd := some 35) rfl rfl (op_idx_fz _ rfl (Opd.tmp _ _ rfl) (Opd.tmp _ _ rfl) tF) ?_
          refine Run.pure (dd := some 36) rfl rfl (op_loadw_fz rfl (Opd.tmp _ _ rfl) rfl) ?_
          refine Run.pure (dd := some 37) rfl rfl (op_buildSlice_fz rfl (RowsF.cons _ _ _ _ _ _ (Opd.tmp _ _ rfl) tC (by rfl) (RowsF.nil _)) rfl rfl) ?_
          refine Run.eff (dd := some 38) rfl rfl (op_append rfl (Opd.tmp _ _ rfl) (Opd.tmp _ _ rfl) rfl (by simp) rfl rfl tB tB) ?_
          refine Run.pure (dd := some 5) rfl rfl (op_assign rfl (Opd.tmp _ _ rfl)) ?_
          refine Run.nil (FinR.mk ?_)
          refine nK ?_
          refine s_reg rfl ?_
          refine Run.pure (dd := some 39) rfl rfl (op_add rfl (Opd.tmp _ _ rfl) (Opd.const _) tI) ?_
          refine Run.pure (dd := some 11) rfl rfl (op_move rfl (Opd.tmp _ _ rfl)) ?_
          refine Run.nil (FinR.mk ?_)
          refine nK ?_
          refine Next.weakS [3, 5] [] (by rfl) (by first | exact keeps0 hC _ | exact keepsN hC _ rfl) (by repeat (first | exact trivial | refine ⟨⟨_, rfl, .inl ⟨rfl, rfl⟩⟩, ?_⟩ | refine ⟨⟨_, rfl, .inl ⟨slEq rfl tN, rfl⟩⟩, ?_⟩ | refine ⟨⟨_, rfl, .inl ⟨ivEq tX, rfl⟩⟩, ?_⟩)) (by repeat (first | exact trivial | refine ⟨ent_same rfl rfl rfl tL, ?_⟩ | refine ⟨ent_same rfl rfl (rfEq rfl tU) tL, ?_⟩ | refine ⟨ent_same rfl rfl (flEq rfl (by first | (simp; done) | (simp; omega) | (simp [encHo, encRt, encP]; done) | simp [maxC, minC])) trivial, ?_⟩)) rfl (hK2)
        · rw [if_neg (by simpa using hb)] at hS
          have hK2 := hK1 (out ++ [p]) true (by simp; omega) (by simpa using hS)
          unfold OPf at hK2
          rw [app1, app2] at hK2
          refine nK ?_
          refine s_reg rfl ?_
          refine Run.pure (dd := some 39) rfl rfl (op_add rfl (Opd.tmp _ _ rfl) (Opd.const _) tI) ?_
          refine Run.pure (dd := some 11) rfl rfl (op_move rfl (Opd.tmp _ _ rfl)) ?_
          refine Run.nil (FinR.mk ?_)
          refine nK ?_
          refine Next.weakS [3, 5] [] (by rfl) (by first | exact keeps0 hC _ | exact keepsN hC _ rfl) (by repeat (first | exact trivial | refine ⟨⟨_, rfl, .inl ⟨rfl, rfl⟩⟩, ?_⟩ | refine ⟨⟨_, rfl, .inl ⟨slEq rfl tN, rfl⟩⟩, ?_⟩ | refine ⟨⟨_, rfl, .inl ⟨ivEq tX, rfl⟩⟩, ?_⟩)) (by repeat (first | exact trivial | refine ⟨ent_same rfl rfl rfl tL, ?_⟩ | refine ⟨ent_same rfl rfl (rfEq rfl tU) tL, ?_⟩ | refine ⟨ent_same rfl rfl (flEq rfl (by first | (simp; done) | (simp; omega) | (simp [encHo, encRt, encP]; done) | simp [maxC, minC])) trivial, ?_⟩)) rfl (hK2)
      · have hb2 : (decide (cmpP p x ≤ 0) && !d) = false := hb
        rw [hb2, if_neg (by simp), Bool.or_false, List.nil_append] at hS
        refine nK ?_
        refine s_reg rfl ?_
        refine Run.pure (dd := some 30) rfl rfl (op_move rfl (Opd.tmp _ _ rfl)) ?_
        refine Run.pure (dd := some 31) rfl rfl (op_neq rfl (Opd.tmp _ _ rfl) (Opd.const _)) ?_
        refine Run.nil (FinR.mk ?_)
        refine nK ?_
        refine n_cond _ rfl (fun hb => ?_) (fun hb => ?_)
        · rw [if_pos (by simpa using hb)] at hS
          have hK2 := hK1 (out ++ [x]) d (by simp; omega) (by simpa using hS)
          unfold OPf at hK2
          rw [app1, app2] at hK2
          refine nK ?_
          refine s_reg rfl ?_
          refine Run.pure (dd := some 32) rfl rfl (op_move rfl (Opd.tmp _ _ rfl)) ?_
          refine Run.pure (dd := some 33) rfl rfl (op_move rfl (Opd.tmp _ _ rfl)) ?_
          refine Run.pure (dd := some 34) rfl rfl (op_move rfl (Opd.tmp _ _ rfl)) ?_
          refine Run.pure (dd := some 35) rfl rfl (op_idx_fz _ rfl (Opd.tmp _ _ rfl) (Opd.tmp _ _ rfl) tF) ?_
          refine Run.pure (dd := some 36) rfl rfl (op_loadw_fz rfl (Opd.tmp _ _ rfl) rfl) ?_
          refine Run.pure (dd := some 37) rfl rfl (op_buildSlice_fz rfl (RowsF.cons _ _ _ _ _ _ (Opd.tmp _ _ rfl) tC (by rfl) (RowsF.nil _)) rfl rfl) ?_
          refine Run.eff (dd := some 38) rfl rfl (op_append rfl (Opd.tmp _ _ rfl) (Opd.tmp _ _ rfl) rfl (by simp) rfl rfl tB tB) ?_
          refine Run.pure (dd := some 5) rfl rfl (op_assign rfl (Opd.tmp _ _ rfl)) ?_
          refine Run.nil (FinR.mk ?_)
          refine nK ?_
          refine s_reg rfl ?_
          refine Run.pure (dd := some 39) rfl rfl (op_add rfl (Opd.tmp _ _ rfl) (Opd.const _) tI) ?_
          refine Run.pure (dd := some 11) rfl rfl (op_move rfl (Opd.tmp _ _ rfl)) ?_
          refine Run.nil (FinR.mk ?_)
          refine nK ?_
          refine Next.weakS [3, 5] [] (by rfl) (by first | exact keeps0 hC _ | exact keepsN hC _ rfl) (by repeat (first | exact trivial | refine ⟨⟨_, rfl, .inl ⟨rfl, rfl⟩⟩, ?_⟩ | refine ⟨⟨_, rfl, .inl ⟨slEq rfl tN, rfl⟩⟩, ?_⟩ | refine ⟨⟨_, rfl, .inl ⟨ivEq tX, rfl⟩⟩, ?_⟩)) (by repeat (first | exact trivial | refine ⟨ent_same rfl rfl rfl tL, ?_⟩ | refine ⟨ent_same rfl rfl (rfEq rfl tU) tL, ?_⟩ | refine ⟨ent_same rfl rfl (flEq rfl (by first | (simp; done) | (simp; omega) | (simp [encHo, encRt, encP]; done) | simp [maxC, minC])) trivial, ?_⟩)) rfl (hK2)
        · rename_i hb3
          rw [if_neg (by simpa using hb), List.nil_append] at hS
          have hK2 := hK1 out d (by omega) (by simpa using hS)
          refine nK ?_
          refine s_reg rfl ?_
          refine Run.pure (dd := some 39) rfl rfl (op_add rfl (Opd.tmp _ _ rfl) (Opd.const _) tI) ?_
          refine Run.pure (dd := some 11) rfl rfl (op_move rfl (Opd.tmp _ _ rfl)) ?_
          refine Run.nil (FinR.mk ?_)
          refine nK ?_
          refine Next.weakS [3, 5] [] (by rfl) (by first | exact keeps0 hC _ | exact keepsN hC _ rfl) (by repeat (first | exact trivial | refine ⟨⟨_, rfl, .inl ⟨rfl, rfl⟩⟩, ?_⟩ | refine ⟨⟨_, rfl, .inl ⟨slEq rfl tN, rfl⟩⟩, ?_⟩ | refine ⟨⟨_, rfl, .inl ⟨ivEq tX, rfl⟩⟩, ?_⟩)) (by repeat (first | exact trivial | refine ⟨ent_same rfl rfl rfl tL, ?_⟩ | refine ⟨ent_same rfl rfl (rfEq rfl tU) tL, ?_⟩ | refine ⟨ent_same rfl rfl (flEq rfl (by first | (simp; done) | (simp; omega) | (simp [encHo, encRt, encP]; done) | simp [maxC, minC])) trivial, ?_⟩)) rfl (hK2)
    · have hie : i = l.length := by simp at hb; omega
      rw [hie, List.drop_length] at hS
      have hnil : insPf p d [] = if d = true then [] else [p] := rfl
      rw [hnil] at hS
      clear hK
      refine nK ?_
      refine s_reg rfl ?_
      refine Run.pure (dd := some 40) rfl rfl (op_move rfl (Opd.tmp _ _ rfl)) ?_
      refine Run.pure (dd := some 41) rfl rfl (op_not rfl (Opd.tmp _ _ rfl)) ?_
      refine Run.nil (FinR.mk ?_)
      refine nK ?_
      refine n_cond _ rfl (fun hb => ?_) (fun hb => ?_)
      · have hd : d = false := by simpa using hb
        subst hd
        simp only [Bool.false_eq_true, if_false] at hS
        rw [← hS, app1, show OPf (out ++ [p]) = some (.flat 2 (out.map encP ++ [encP p])) by simp]
        refine nK ?_
        refine s_reg rfl ?_
        refine Run.pure (dd := some 42) rfl rfl (op_move rfl (Opd.tmp _ _ rfl)) ?_
        refine Run.load (dd := some 43) rfl rfl (op_loadw_flat rfl (Opd.tmp _ _ rfl) tH rfl) ?_
        refine Run.pure (dd := some 44) rfl rfl (op_buildSlice_fz rfl (RowsF.cons _ _ _ _ _ _ (Opd.tmp _ _ rfl) tC (by rfl) (RowsF.nil _)) rfl rfl) ?_
        refine Run.eff (dd := some 45) rfl rfl (op_append rfl (Opd.tmp _ _ rfl) (Opd.tmp _ _ rfl) rfl (by simp) rfl rfl tB tB) ?_
        refine Run.pure (dd := some 5) rfl rfl (op_assign rfl (Opd.tmp _ _ rfl)) ?_
        refine Run.nil (FinR.mk ?_)
        refine nK ?_
        refine s_reg rfl ?_
        refine Run.pure (dd := some 46) rfl rfl (op_move rfl (Opd.tmp _ _ rfl)) ?_
        refine Run.pure (dd := some 4) rfl rfl (op_assign rfl (Opd.tmp _ _ rfl)) ?_
        refine Run.nil (FinR.mk ?_)
        refine nK ?_
        (first | exact s_o1 hC rfl tV | exact s_o2 hC rfl tV tV | exact s_o3 hC rfl tV tV tV | exact s_o4 hC rfl tV tV tV tV | exact s_out0 hC rfl | exact s_outO hC rfl rfl rfl)
      · have hd : d = true := by simpa using hb
        subst hd
        simp only [if_true, List.append_nil] at hS
        subst hS
        refine nK ?_
        refine s_reg rfl ?_
        refine Run.pure (dd := some 46) rfl rfl (op_move rfl (Opd.tmp _ _ rfl)) ?_
        refine Run.pure (dd := some 4) rfl rfl (op_assign rfl (Opd.tmp _ _ rfl)) ?_
        refine Run.nil (FinR.mk ?_)
        refine nK ?_
        (first | exact s_o1 hC rfl tV | exact s_o2 hC rfl tV tV | exact s_o3 hC rfl tV tV tV | exact s_o4 hC rfl tV tV tV tV | exact s_out0 hC rfl | exact s_outO hC rfl rfl rfl)
theorem rsort_c (l : List Pfx) (hn : l.length ≤ 9000) : Pure Try.prog 47 [VP l] (VP (sortPf l)) := by
  refine Meets.intro Try.func47 rfl (Nat.le_of_ble_eq_true rfl) fun C hC => ?_
  simp only [List.map, argEnv, Nat.reduceAdd]
  refine nK ?_
  refine s_reg rfl ?_
  refine Run.pure (dd := some 2) rfl rfl (op_assign rfl (Opd.const _)) ?_
  refine Run.nil (FinR.mk ?_)
  refine nK ?_
  refine s_reg rfl ?_
  refine Run.pure (dd := some 3) rfl rfl (op_assign rfl (Opd.const _)) ?_
  refine Run.nil (FinR.mk ?_)
  refine nK ?_
  refine Next.adopt 3 2 rfl ?_
  refine nK ?_
  refine s_reg rfl ?_
  refine Run.pure (dd := some 5) rfl rfl (op_move rfl (Opd.tmp _ _ rfl)) ?_
  refine Run.pure (dd := some 6) rfl rfl (op_len_fz rfl (by first | exact Opd.tmp _ _ rfl | exact Opd.nil _ _ (Opd.tmp _ _ rfl)) (by first | exact List.length_map _ | rfl)) ?_
  refine Run.pure (dd := some 7) rfl rfl (op_move rfl (Opd.const _)) ?_
  refine Run.nil (FinR.mk ?_)
  refine nK ?_
  refine n_loop (ι := Nat) (fun i => ([(0, .fz (VP l)), (3, .fz (VP (sortPf (l.take i)))), (5, .fz (VP l)), (6, IV .i64 l.length), (7, IV .i64 i)], [], 0)) (fun i => i ≤ l.length) (fun i => l.length - i) 0 (Nat.zero_le _) ?_ ?_
  · refine Next.weakS [] [3] (by rfl) (by first | exact keeps0 hC _ | exact keepsN hC _ rfl) (by repeat (first | exact trivial | refine ⟨⟨_, rfl, .inl ⟨rfl, rfl⟩⟩, ?_⟩ | refine ⟨⟨_, rfl, .inl ⟨slEq rfl tN, rfl⟩⟩, ?_⟩ | refine ⟨⟨_, rfl, .inl ⟨ivEq tX, rfl⟩⟩, ?_⟩ | refine ⟨⟨_, rfl, .inr ⟨_, rfl, tW⟩⟩, ?_⟩)) (by repeat (first | exact trivial | refine ⟨ent_same rfl rfl rfl tL, ?_⟩ | refine ⟨ent_same rfl rfl (rfEq rfl tU) tL, ?_⟩ | refine ⟨ent_same rfl rfl (flEq rfl (by first | (simp; done) | (simp; omega) | (simp [encHo, encRt, encP]; done) | simp [maxC, minC])) trivial, ?_⟩)) rfl (rel_intro)
  · intro i hi K hK
    have hol := sortPf_len (l.take i)
    rw [List.length_take, Nat.min_eq_left hi] at hol
    refine nK ?_
    refine s_reg rfl ?_
    refine Run.pure (dd := some 8) rfl rfl (op_lss rfl (Opd.tmp _ _ rfl) (Opd.tmp _ _ rfl)) ?_
    refine Run.nil (FinR.mk ?_)
    refine nK ?_
    refine n_cond _ rfl (fun hb => ?_) (fun hb => ?_)
    · have hlt : i < l.length := by simp at hb; omega
      have hr1 := row_at' encP l i hlt
      have hK1 := hK (i + 1) (by omega) (by omega)
      rw [sort_take hlt] at hK1
      generalize sortPf (l.take i) = o at *
      generalize l[i] = x at *
      have ki := rinsPf_f o x (by omega)
      refine nK ?_
      refine s_reg rfl ?_
      refine Run.pure (dd := some 9) rfl rfl (op_move rfl (Opd.tmp _ _ rfl)) ?_
      refine Run.pure (dd := some 4) rfl rfl (op_assign rfl (Opd.tmp _ _ rfl)) ?_
      refine Run.nil (FinR.mk ?_)
      refine nK ?_
      refine s_reg rfl ?_
      refine Run.pure (dd := some 10) rfl rfl (op_move rfl (Opd.tmp _ _ rfl)) ?_
      refine Run.pure (dd := some 11) rfl rfl (op_move rfl (Opd.tmp _ _ rfl)) ?_
      refine Run.pure (dd := some 12) rfl rfl (op_move rfl (Opd.tmp _ _ rfl)) ?_
      refine Run.pure (dd := some 13) rfl rfl (op_idx_fz _ rfl (Opd.tmp _ _ rfl) (Opd.tmp _ _ rfl) tF) ?_
      refine Run.pure (dd := some 14) rfl rfl (op_loadw_fz rfl (Opd.tmp _ _ rfl) rfl) ?_
      refine Run.eff (dd := some 15) rfl rfl (op_call_fresh (fun _ => ki) rfl (Opd.func _) (Opds.cons _ _ _ _ (Opd.tmp _ _ rfl) (Opds.cons _ _ _ _ (Opd.tmp _ _ rfl) Opds.nil))) ?_
      refine Run.pure (dd := some 3) rfl rfl (op_assign rfl (Opd.tmp _ _ rfl)) ?_
      refine Run.nil (FinR.mk ?_)
      refine nK ?_
      refine s_reg rfl ?_
      refine Run.pure (dd := some 16) rfl rfl (op_add rfl (Opd.tmp _ _ rfl) (Opd.const _) tI) ?_
      refine Run.pure (dd := some 7) rfl rfl (op_move rfl (Opd.tmp _ _ rfl)) ?_
      refine Run.nil (FinR.mk ?_)
      refine nK ?_
      refine Next.weakS [] [3] (by rfl) (by first | exact keeps0 hC _ | exact keepsN hC _ rfl) (by repeat (first | exact trivial | refine ⟨⟨_, rfl, .inl ⟨rfl, rfl⟩⟩, ?_⟩ | refine ⟨⟨_, rfl, .inl ⟨slEq rfl tN, rfl⟩⟩, ?_⟩ | refine ⟨⟨_, rfl, .inl ⟨ivEq tX, rfl⟩⟩, ?_⟩ | refine ⟨⟨_, rfl, .inr ⟨_, rfl, tW⟩⟩, ?_⟩)) (by repeat (first | exact trivial | refine ⟨ent_same rfl rfl rfl tL, ?_⟩ | refine ⟨ent_same rfl rfl (rfEq rfl tU) tL, ?_⟩ | refine ⟨ent_same rfl rfl (flEq rfl (by first | (simp; done) | (simp; omega) | (simp [encHo, encRt, encP]; done) | simp [maxC, minC])) trivial, ?_⟩)) rfl (hK1)
    · have hie : i = l.length := by simp at hb; omega
      rw [hie, List.take_length]
      refine nK ?_
      refine s_reg rfl ?_
      refine Run.pure (dd := some 17) rfl rfl (op_move rfl (Opd.tmp _ _ rfl)) ?_
      refine Run.pure (dd := some 2) rfl rfl (op_assign rfl (Opd.tmp _ _ rfl)) ?_
      refine Run.nil (FinR.mk ?_)
      refine nK ?_
      (first | exact s_o1 hC rfl tV | exact s_o2 hC rfl tV tV | exact s_o3 hC rfl tV tV tV | exact s_o4 hC rfl tV tV tV tV | exact s_out0 hC rfl | exact s_outO hC rfl rfl rfl)
theorem rlist_c (l : List Rte) (ho : ∀ x ∈ l, okRt x) (hh : ∀ x ∈ l, lenOk x.hs.length) (hn : l.length ≤ 4000) : Pure Try.prog 45 [VRt l] (VRt (listF l)) := by
  have ka := ractive_c l ho hh hn
  unfold listF
  have hl : (activeF l).length ≤ 4000 := by
    unfold activeF; split
    · simp
    · exact Nat.le_trans (act_len _ _) hn
  refine Meets.intro Try.func45 rfl (Nat.le_of_ble_eq_true rfl) fun C hC => ?_
  simp only [List.map, argEnv, Nat.reduceAdd]
  refine nK ?_
  refine s_reg rfl ?_
  refine Run.pure (dd := some 2) rfl rfl (op_assign rfl (Opd.const _)) ?_
  refine Run.nil (FinR.mk ?_)
  refine nK ?_
  refine s_reg rfl ?_
  refine Run.pure (dd := some 3) rfl rfl (op_move rfl (Opd.tmp _ _ rfl)) ?_
  refine Run.pure (dd := some 4) rfl rfl (op_call_pure (fun _ => ka) rfl (Opd.func _) (Opds.cons _ _ _ _ (Opd.tmp _ _ rfl) Opds.nil)) ?_
  refine Run.pure (dd := some 5) rfl rfl (op_len_fz rfl (by first | exact Opd.tmp _ _ rfl | exact Opd.nil _ _ (Opd.tmp _ _ rfl)) (by first | exact List.length_map _ | rfl)) ?_
  refine Run.pure (dd := some 6) rfl rfl (op_move rfl (Opd.tmp _ _ rfl)) ?_
  refine Run.pure (dd := some 7) rfl rfl (op_len_fz rfl (by first | exact Opd.tmp _ _ rfl | exact Opd.nil _ _ (Opd.tmp _ _ rfl)) (by first | exact List.length_map _ | rfl)) ?_
  refine Run.pure (dd := some 8) rfl rfl (op_lss rfl (Opd.tmp _ _ rfl) (Opd.tmp _ _ rfl)) ?_
  refine Run.nil (FinR.mk ?_)
  refine nK ?_
  refine n_cond _ rfl (fun hb => ?_) (fun hb => ?_)
  · rw [if_pos (by simp at hb; omega)]
    refine nK ?_
    refine s_reg rfl ?_
    refine Run.pure (dd := some 2) rfl rfl (op_assign rfl (Opd.const _)) ?_
    refine Run.nil (FinR.mk ?_)
    refine nK ?_
    refine Next.weakS [] [] (by rfl) (keeps0 hC _) (G' := [(2, .fz (VRt []))]) (H' := []) (by repeat (first | exact trivial | refine ⟨⟨_, rfl, .inl ⟨rfl, rfl⟩⟩, ?_⟩ | refine ⟨⟨_, rfl, .inl ⟨slEq rfl tN, rfl⟩⟩, ?_⟩ | refine ⟨⟨_, rfl, .inl ⟨ivEq tX, rfl⟩⟩, ?_⟩ | refine ⟨⟨_, rfl, .inr ⟨_, rfl, tW⟩⟩, ?_⟩)) trivial rfl ?_
    (first | exact s_o1 hC rfl tV | exact s_o2 hC rfl tV tV | exact s_o3 hC rfl tV tV tV | exact s_o4 hC rfl tV tV tV tV | exact s_out0 hC rfl | exact s_outO hC rfl rfl rfl)
  · rw [if_neg (by simp at hb; omega)]
    refine nK ?_
    refine s_reg rfl ?_
    refine Run.pure (dd := some 9) rfl rfl (op_move rfl (Opd.tmp _ _ rfl)) ?_
    refine Run.pure (dd := some 2) rfl rfl (op_assign rfl (Opd.tmp _ _ rfl)) ?_
    refine Run.nil (FinR.mk ?_)
    refine nK ?_
    (first | exact s_o1 hC rfl tV | exact s_o2 hC rfl tV tV | exact s_o3 hC rfl tV tV tV | exact s_o4 hC rfl tV tV tV tV | exact s_out0 hC rfl | exact s_outO hC rfl rfl rfl)
theorem find_c (l : List Rte) (p : Pfx) (hn : l.length ≤ 4000) : Pure Try.prog 46 [VRt l, .agg (encP p)] (.tup [.agg (encRt ((findR l p).getD zRte)), Bf (findR l p).isSome]) := by
  refine Meets.intro Try.func46 rfl (Nat.le_of_ble_eq_true rfl) fun C hC => ?_
  simp only [List.map, argEnv, Nat.reduceAdd]
  refine nK ?_
  refine s_reg rfl ?_
  refine Run.eff (dd := some 3) rfl rfl (op_box_flat rfl (Opd.tmp _ _ rfl) tC rfl) ?_
  refine Run.eff (dd := some 4) rfl rfl (op_alloc rfl rfl rfl rfl) ?_
  refine Run.pure (dd := some 5) rfl rfl (op_assign rfl (Opd.const _)) ?_
  refine Run.nil (FinR.mk ?_)
  refine nK ?_
  refine s_reg rfl ?_
  refine Run.pure (dd := some 8) rfl rfl (op_move rfl (Opd.tmp _ _ rfl)) ?_
  refine Run.pure (dd := some 9) rfl rfl (op_len_fz rfl (by first | exact Opd.tmp _ _ rfl | exact Opd.nil _ _ (Opd.tmp _ _ rfl)) (by first | exact List.length_map _ | rfl)) ?_
  refine Run.pure (dd := some 10) rfl rfl (op_move rfl (Opd.const _)) ?_
  refine Run.nil (FinR.mk ?_)
  refine nK ?_
  refine n_loop (ι := Nat) (fun i => ([(3, .ptr 0 2 0 0), (4, .ptr 1 7 0 0), (8, .fz (VRt l)), (9, IV .i64 l.length), (10, IV .i64 i)], [(0, some (.flat 2 [encP p])), (1, some (.flat 7 [zCells]))], 2)) (fun i => i ≤ l.length ∧ findR (l.drop i) p = findR l p) (fun i => l.length - i) 0 ⟨Nat.zero_le _, rfl⟩ ?_ ?_
  · refine Next.weakS [3, 4] [] (by rfl) (by first | exact keeps0 hC _ | exact keepsN hC _ rfl) (by repeat (first | exact trivial | refine ⟨⟨_, rfl, .inl ⟨rfl, rfl⟩⟩, ?_⟩ | refine ⟨⟨_, rfl, .inl ⟨slEq rfl tN, rfl⟩⟩, ?_⟩ | refine ⟨⟨_, rfl, .inl ⟨ivEq tX, rfl⟩⟩, ?_⟩)) (by repeat (first | exact trivial | refine ⟨ent_same rfl rfl rfl tL, ?_⟩ | refine ⟨ent_same rfl rfl (rfEq rfl tU) tL, ?_⟩ | refine ⟨ent_same rfl rfl (flEq rfl (by first | (simp; done) | (simp; omega) | (simp [encHo, encRt, encP]; done) | simp [maxC, minC])) trivial, ?_⟩)) rfl (rel_intro)
  · intro i ⟨hi, hS⟩ K hK
    refine nK ?_
    refine s_reg rfl ?_
    refine Run.pure (dd := some 11) rfl rfl (op_lss rfl (Opd.tmp _ _ rfl) (Opd.tmp _ _ rfl)) ?_
    refine Run.nil (FinR.mk ?_)
    refine nK ?_
    refine n_cond _ rfl (fun hb => ?_) (fun hb => ?_)
    · have hlt : i < l.length := by simp at hb; omega
      have hr1 := row_at' encRt l i hlt
      have hK1 := fun h => hK (i + 1) ⟨by omega, h⟩ (by omega)
      rw [List.drop_eq_getElem_cons hlt] at hS
      generalize l[i] = x at *
      refine nK ?_
      refine s_reg rfl ?_
      refine Run.pure (dd := some 12) rfl rfl (op_idx_fz _ rfl (Opd.tmp _ _ rfl) (Opd.tmp _ _ rfl) tF) ?_
      refine Run.pure (dd := some 13) rfl rfl (op_loadw_fz rfl (Opd.tmp _ _ rfl) rfl) ?_
      refine Run.eff (dd := some 7) rfl rfl (op_alloc rfl rfl rfl rfl) ?_
      refine Run.eff (dd := none) rfl rfl (op_store_flat rfl (Opd.tmp _ _ rfl) (Opd.tmp _ _ rfl) tC rfl rfl (by first | rfl | assumption) tS) ?_
      refine Run.nil (FinR.mk ?_)
      refine nK ?_
      refine s_reg rfl ?_
      refine Run.pure (dd := some 14) rfl rfl (op_fld_ptr (by decide) rfl (Opd.tmp _ _ rfl)) ?_
      refine Run.load (dd := some 15) rfl rfl (op_loadn_flat rfl (Opd.tmp _ _ rfl) tH tR tR) ?_
      refine Run.load (dd := some 16) rfl rfl (op_loadw_flat rfl (Opd.tmp _ _ rfl) tH rfl) ?_
      refine Run.pure (dd := some 17) rfl rfl (op_eqS rfl (Opd.tmp _ _ rfl) (Opd.tmp _ _ rfl) (by kernel_rfl)) ?_
      refine Run.nil (FinR.mk ?_)
      refine nK ?_
      refine n_cond _ rfl (fun hb => ?_) (fun hb => ?_)
      · have e : x.pf = p := by change eqFs (encP x.pf) (encP p) = true at hb; rw [eqFs_encP] at hb; simpa using hb
        have e2 : findR l p = some x := by rw [← hS]; simp [findR, e]
        rw [e2]
        refine nK ?_
        refine s_reg rfl ?_
        refine Run.load (dd := some 18) rfl rfl (op_loadw_flat rfl (Opd.tmp _ _ rfl) tH rfl) ?_
        refine Run.eff (dd := none) rfl rfl (op_store_flat rfl (Opd.tmp _ _ rfl) (Opd.tmp _ _ rfl) tC rfl rfl (by first | rfl | assumption) tS) ?_
        refine Run.pure (dd := some 5) rfl rfl (op_assign rfl (Opd.const _)) ?_
        refine Run.nil (FinR.mk ?_)
        refine nK ?_
        (first | exact s_o1 hC rfl tV | exact s_o2 hC rfl tV tV | exact s_o3 hC rfl tV tV tV | exact s_o4 hC rfl tV tV tV tV | exact s_out0 hC rfl | exact s_outO hC rfl rfl rfl)
      · have e : x.pf ≠ p := by change eqFs (encP x.pf) (encP p) = false at hb; rw [eqFs_encP] at hb; simpa using hb
        have e2 : findR (l.drop (i + 1)) p = findR l p := by rw [← hS]; simp [findR, e]
        refine nK ?_
        refine s_reg rfl ?_
        refine Run.pure (dd := some 19) rfl rfl (op_add rfl (Opd.tmp _ _ rfl) (Opd.const _) tI) ?_
        refine Run.pure (dd := some 10) rfl rfl (op_move rfl (Opd.tmp _ _ rfl)) ?_
        refine Run.nil (FinR.mk ?_)
        refine nK ?_
        refine Next.weakS [3, 4] [] (by rfl) (by first | exact keeps0 hC _ | exact keepsN hC _ rfl) (by repeat (first | exact trivial | refine ⟨⟨_, rfl, .inl ⟨rfl, rfl⟩⟩, ?_⟩ | refine ⟨⟨_, rfl, .inl ⟨slEq rfl tN, rfl⟩⟩, ?_⟩ | refine ⟨⟨_, rfl, .inl ⟨ivEq tX, rfl⟩⟩, ?_⟩)) (by repeat (first | exact trivial | refine ⟨ent_same rfl rfl rfl tL, ?_⟩ | refine ⟨ent_same rfl rfl (rfEq rfl tU) tL, ?_⟩ | refine ⟨ent_same rfl rfl (flEq rfl (by first | (simp; done) | (simp; omega) | (simp [encHo, encRt, encP]; done) | simp [maxC, minC])) trivial, ?_⟩)) rfl ((hK1 e2))
    · have hie : i = l.length := by simp at hb; omega
      rw [hie, List.drop_length] at hS
      rw [← hS]
      refine nK ?_
      refine s_reg rfl ?_
      refine Run.pure (dd := some 20) rfl rfl (op_buildZ (encRt zRte) rfl rfl (by exact ⟨.inl rfl, .inl rfl, .inl rfl, .inl rfl, .inl rfl, .inl rfl, .inr ⟨6, rfl, rfl⟩, trivial⟩) (FillF.nil _)) ?_
      refine Run.eff (dd := none) rfl rfl (op_store_flat rfl (Opd.tmp _ _ rfl) (Opd.tmp _ _ rfl) tC rfl rfl (by first | rfl | assumption) tS) ?_
      refine Run.pure (dd := some 5) rfl rfl (op_assign rfl (Opd.const _)) ?_
      refine Run.nil (FinR.mk ?_)
      refine nK ?_
      (first | exact s_o1 hC rfl tV | exact s_o2 hC rfl tV tV | exact s_o3 hC rfl tV tV tV | exact s_o4 hC rfl tV tV tV tV | exact s_out0 hC rfl | exact s_outO hC rfl rfl rfl)
open Go Go.RT Go.Proofs Go.Pl
set_option maxRecDepth 20000
theorem rrepl_c (l : List Rte) (n : Int) (rs : List Rte) (ho : ∀ x ∈ l, okRt x) (hh : ∀ x ∈ l, lenOk x.hs.length) (hn : l.length ≤ 4000) (ho2 : ∀ x ∈ rs, okRt x) (hh2 : ∀ x ∈ rs, lenOk x.hs.length) (hn2 : rs.length ≤ 4000) : Pure Try.prog 27 [VRt l, If .i64 n, VRt rs] (.tup [VRt (replF l n rs).1, If .i64 (replF l n rs).2]) := by
  have app1 : ∀ (o : List Rte) (x : Rte), (o ++ [x]).length = o.length + 1 := fun o x => by simp
  have app2 : ∀ (o : List Rte) (x : Rte), (o ++ [x]).map encRt = o.map encRt ++ [encRt x] := fun o x => by simp
  have kc := rckl_c l ho hh (by unfold lenOk; omega)
  unfold replF
  refine Meets.intro Try.func27 rfl (Nat.le_of_ble_eq_true rfl) fun C hC => ?_
  simp only [List.map, argEnv, Nat.reduceAdd]
  refine nK ?_
  refine s_reg rfl ?_
  refine Run.pure (dd := some 6) rfl rfl (op_assign rfl (Opd.const _)) ?_
  refine Run.pure (dd := some 7) rfl rfl (op_assign rfl (Opd.const _)) ?_
  refine Run.nil (FinR.mk ?_)
  refine nK ?_
  refine s_reg rfl ?_
  refine Run.pure (dd := some 17) rfl rfl (op_move rfl (Opd.tmp _ _ rfl)) ?_
  refine Run.pure (dd := some 18) rfl rfl (op_call_pure (fun _ => kc) rfl (Opd.func _) (Opds.cons _ _ _ _ (Opd.tmp _ _ rfl) Opds.nil)) ?_
  refine Run.pure (dd := some 8) rfl rfl (op_assign rfl (Opd.tmp _ _ rfl)) ?_
  refine Run.nil (FinR.mk ?_)
  refine nK ?_
  refine s_reg rfl ?_
  refine Run.pure (dd := some 19) rfl rfl (op_move rfl (Opd.tmp _ _ rfl)) ?_
  refine Run.pure (dd := some 20) rfl rfl (op_neq rfl (Opd.tmp _ _ rfl) (Opd.const _)) ?_
  refine Run.nil (FinR.mk ?_)
  refine nK ?_
  refine n_cond _ rfl (fun hb => ?_) (fun hb => ?_)
  · rw [if_pos (by simpa using hb)]
    refine nK ?_
    refine s_reg rfl ?_
    refine Run.pure (dd := some 21) rfl rfl (op_move rfl (Opd.tmp _ _ rfl)) ?_
    refine Run.pure (dd := some 6) rfl rfl (op_assign rfl (Opd.const _)) ?_
    refine Run.pure (dd := some 7) rfl rfl (op_assign rfl (Opd.tmp _ _ rfl)) ?_
    refine Run.nil (FinR.mk ?_)
    refine nK ?_
    refine Next.weakS [] [] (by rfl) (keeps0 hC _) (G' := [(6, .fz (VRt [])), (7, IV .i64 (checkL l))]) (H' := []) (by repeat (first | exact trivial | refine ⟨⟨_, rfl, .inl ⟨rfl, rfl⟩⟩, ?_⟩ | refine ⟨⟨_, rfl, .inl ⟨slEq rfl tN, rfl⟩⟩, ?_⟩ | refine ⟨⟨_, rfl, .inl ⟨ivEq tX, rfl⟩⟩, ?_⟩ | refine ⟨⟨_, rfl, .inr ⟨_, rfl, tW⟩⟩, ?_⟩)) trivial rfl ?_
    (first | exact s_o1 hC rfl tV | exact s_o2 hC rfl tV tV | exact s_o3 hC rfl tV tV tV | exact s_o4 hC rfl tV tV tV tV | exact s_out0 hC rfl | exact s_outO hC rfl rfl rfl)
  · have h0 : checkL l = 0 := by simpa using hb
    rw [if_neg (by simpa using hb)]
    refine nK ?_
    refine s_reg rfl ?_
    refine Run.pure (dd := some 22) rfl rfl (op_move rfl (Opd.tmp _ _ rfl)) ?_
    refine Run.pure (dd := some 23) rfl rfl (op_call_pure (fun _ => proto_c _) rfl (Opd.func _) (Opds.cons _ _ _ _ (Opd.tmp _ _ rfl) Opds.nil)) ?_
    refine Run.pure (dd := some 24) rfl rfl (op_not rfl (Opd.tmp _ _ rfl)) ?_
    refine Run.nil (FinR.mk ?_)
    refine nK ?_
    refine n_cond _ rfl (fun hb => ?_) (fun hb => ?_)
    · rw [if_pos (by simpa using hb)]
      refine nK ?_
      refine s_reg rfl ?_
      refine Run.pure (dd := some 6) rfl rfl (op_assign rfl (Opd.const _)) ?_
      refine Run.pure (dd := some 7) rfl rfl (op_assign rfl (Opd.const _)) ?_
      refine Run.nil (FinR.mk ?_)
      refine nK ?_
      refine Next.weakS [] [] (by rfl) (keeps0 hC _) (G' := [(6, .fz (VRt [])), (7, IV .i64 15)]) (H' := []) (by repeat (first | exact trivial | refine ⟨⟨_, rfl, .inl ⟨rfl, rfl⟩⟩, ?_⟩ | refine ⟨⟨_, rfl, .inl ⟨slEq rfl tN, rfl⟩⟩, ?_⟩ | refine ⟨⟨_, rfl, .inl ⟨ivEq tX, rfl⟩⟩, ?_⟩ | refine ⟨⟨_, rfl, .inr ⟨_, rfl, tW⟩⟩, ?_⟩)) trivial rfl ?_
      (first | exact s_o1 hC rfl tV | exact s_o2 hC rfl tV tV | exact s_o3 hC rfl tV tV tV | exact s_o4 hC rfl tV tV tV tV | exact s_out0 hC rfl | exact s_outO hC rfl rfl rfl)
    · rw [if_neg (by simpa using hb)]
      refine nK ?_
      refine s_reg rfl ?_
      refine Run.pure (dd := some 25) rfl rfl (op_move rfl (Opd.tmp _ _ rfl)) ?_
      refine Run.pure (dd := some 26) rfl rfl (op_len_fz rfl (by first | exact Opd.tmp _ _ rfl | exact Opd.nil _ _ (Opd.tmp _ _ rfl)) (by first | exact List.length_map _ | rfl)) ?_
      refine Run.pure (dd := some 27) rfl rfl (op_move rfl (Opd.const _)) ?_
      refine Run.nil (FinR.mk ?_)
      refine nK ?_
      refine n_loop (ι := Nat) (fun i => ([(0, .fz (VRt l)), (1, IV .i64 n), (2, .fz (VRt rs)), (25, .fz (VRt rs)), (26, IV .i64 rs.length), (27, IV .i64 i)], [], 0)) (fun i => i ≤ rs.length ∧ replGo n (rs.take i) (rs.drop i) = replGo n [] rs ∧ ∀ y ∈ rs.take i, y.pr = n) (fun i => rs.length - i) 0 ⟨Nat.zero_le _, rfl, by simp⟩ ?_ ?_
      · refine Next.weak [] [] (by rfl) (keeps0 hC _) (by repeat (first | exact trivial | refine ⟨⟨_, rfl, .inl ⟨rfl, rfl⟩⟩, ?_⟩)) (by repeat (first | exact trivial | refine ⟨ent_same rfl rfl rfl tL, ?_⟩ | refine ⟨ent_same rfl rfl (rfEq rfl tU) tL, ?_⟩ | refine ⟨ent_same rfl rfl (flEq rfl (by first | (simp; done) | (simp; omega) | (simp [encHo, encRt, encP]; done) | simp [maxC, minC])) trivial, ?_⟩)) (fun _ h => by simp at h) rel_intro
      · intro i ⟨hi, hS, hP⟩ K hK
        refine nK ?_
        refine s_reg rfl ?_
        refine Run.pure (dd := some 28) rfl rfl (op_lss rfl (Opd.tmp _ _ rfl) (Opd.tmp _ _ rfl)) ?_
        refine Run.nil (FinR.mk ?_)
        refine nK ?_
        refine n_cond _ rfl (fun hb => ?_) (fun hb => ?_)
        · have hlt : i < rs.length := by simp at hb; omega
          have hr1 := row_at' encRt rs i hlt
          rw [repl_step n hlt] at hS
          have hK1 := fun h h2 => hK (i + 1) ⟨by omega, h, h2⟩ (by omega)
          have okx := ho2 _ (List.getElem_mem hlt)
          have lx := hh2 _ (List.getElem_mem hlt)
          have hP1 : rs[i].pr = n → ∀ y ∈ rs.take (i + 1), y.pr = n := fun h y hy => by
            rw [List.take_succ_eq_append_getElem hlt] at hy
            rcases List.mem_append.1 hy with hy | hy
            · exact hP y hy
            · simp at hy; rw [hy]; exact h
          generalize rs[i] = x at *
          have kr := rckrt_c x okx lx
          have kh := has_c (rs.take i) x.pf n (by rw [List.length_take]; unfold lenOk; omega)
          rw [has_any hP] at kh
          refine nK ?_
          refine s_reg rfl ?_
          refine Run.pure (dd := some 29) rfl rfl (op_move rfl (Opd.tmp _ _ rfl)) ?_
          refine Run.pure (dd := some 30) rfl rfl (op_idx_fz _ rfl (Opd.tmp _ _ rfl) (Opd.tmp _ _ rfl) tF) ?_
          refine Run.pure (dd := some 31) rfl rfl (op_loadw_fz rfl (Opd.tmp _ _ rfl) rfl) ?_
          refine Run.eff (dd := some 10) rfl rfl (op_alloc rfl rfl rfl rfl) ?_
          refine Run.pure (dd := some 9) rfl rfl (op_assign rfl (Opd.tmp _ _ rfl)) ?_
          refine Run.eff (dd := none) rfl rfl (op_store_flat rfl (Opd.tmp _ _ rfl) (Opd.tmp _ _ rfl) tC rfl rfl (by first | rfl | assumption) tS) ?_
          refine Run.nil (FinR.mk ?_)
          refine nK ?_
          refine s_reg rfl ?_
          refine Run.load (dd := some 32) rfl rfl (op_loadw_flat rfl (Opd.tmp _ _ rfl) tH rfl) ?_
          refine Run.pure (dd := some 33) rfl rfl (op_call_pure (fun _ => kr) rfl (Opd.func _) (Opds.cons _ _ _ _ (Opd.tmp _ _ rfl) Opds.nil)) ?_
          refine Run.pure (dd := some 11) rfl rfl (op_assign rfl (Opd.tmp _ _ rfl)) ?_
          refine Run.nil (FinR.mk ?_)
          refine nK ?_
          refine s_reg rfl ?_
          refine Run.pure (dd := some 34) rfl rfl (op_move rfl (Opd.tmp _ _ rfl)) ?_
          refine Run.pure (dd := some 35) rfl rfl (op_neq rfl (Opd.tmp _ _ rfl) (Opd.const _)) ?_
          refine Run.nil (FinR.mk ?_)
          refine nK ?_
          refine n_cond _ rfl (fun hb => ?_) (fun hb => ?_)
          · rw [if_pos (by simpa using hb)] at hS
            rw [← hS, if_pos (by simpa using hb)]
            refine nK ?_
            refine s_reg rfl ?_
            refine Run.pure (dd := some 36) rfl rfl (op_move rfl (Opd.tmp _ _ rfl)) ?_
            refine Run.pure (dd := some 6) rfl rfl (op_assign rfl (Opd.const _)) ?_
            refine Run.pure (dd := some 7) rfl rfl (op_assign rfl (Opd.tmp _ _ rfl)) ?_
            refine Run.nil (FinR.mk ?_)
            refine nK ?_
            refine Next.weakS [] [] (by rfl) (keeps0 hC _) (G' := [(6, .fz (VRt [])), (7, IV .i64 (checkRt x))]) (H' := []) (by repeat (first | exact trivial | refine ⟨⟨_, rfl, .inl ⟨rfl, rfl⟩⟩, ?_⟩ | refine ⟨⟨_, rfl, .inl ⟨slEq rfl tN, rfl⟩⟩, ?_⟩ | refine ⟨⟨_, rfl, .inl ⟨ivEq tX, rfl⟩⟩, ?_⟩ | refine ⟨⟨_, rfl, .inr ⟨_, rfl, tW⟩⟩, ?_⟩)) trivial rfl ?_
            (first | exact s_o1 hC rfl tV | exact s_o2 hC rfl tV tV | exact s_o3 hC rfl tV tV tV | exact s_o4 hC rfl tV tV tV tV | exact s_out0 hC rfl | exact s_outO hC rfl rfl rfl)
          · rw [if_neg (by simpa using hb)] at hS
            refine nK ?_
            refine s_reg rfl ?_
            refine Run.pure (dd := some 37) rfl rfl (op_fld_ptr (by decide) rfl (Opd.tmp _ _ rfl)) ?_
            refine Run.load (dd := some 38) rfl rfl (op_load1_flat rfl (Opd.tmp _ _ rfl) tH rfl) ?_
            refine Run.pure (dd := some 39) rfl rfl (op_move rfl (Opd.tmp _ _ rfl)) ?_
            refine Run.pure (dd := some 40) rfl rfl (op_neq rfl (Opd.tmp _ _ rfl) (Opd.tmp _ _ rfl)) ?_
            refine Run.nil (FinR.mk ?_)
            refine nK ?_
            refine n_cond _ rfl (fun hb => ?_) (fun hb => ?_)
            · rw [if_pos (by simpa using hb)] at hS
              rw [← hS, if_pos (by decide)]
              refine nK ?_
              refine s_reg rfl ?_
              refine Run.pure (dd := some 6) rfl rfl (op_assign rfl (Opd.const _)) ?_
              refine Run.pure (dd := some 7) rfl rfl (op_assign rfl (Opd.const _)) ?_
              refine Run.nil (FinR.mk ?_)
              refine nK ?_
              refine Next.weakS [] [] (by rfl) (keeps0 hC _) (G' := [(6, .fz (VRt [])), (7, IV .i64 14)]) (H' := []) (by repeat (first | exact trivial | refine ⟨⟨_, rfl, .inl ⟨rfl, rfl⟩⟩, ?_⟩ | refine ⟨⟨_, rfl, .inl ⟨slEq rfl tN, rfl⟩⟩, ?_⟩ | refine ⟨⟨_, rfl, .inl ⟨ivEq tX, rfl⟩⟩, ?_⟩ | refine ⟨⟨_, rfl, .inr ⟨_, rfl, tW⟩⟩, ?_⟩)) trivial rfl ?_
              (first | exact s_o1 hC rfl tV | exact s_o2 hC rfl tV tV | exact s_o3 hC rfl tV tV tV | exact s_o4 hC rfl tV tV tV tV | exact s_out0 hC rfl | exact s_outO hC rfl rfl rfl)
            · have hxn : x.pr = n := by simpa using hb
              rw [if_neg (by simpa using hb)] at hS
              refine nK ?_
              refine s_draw mixed ?_
              refine Run.pure (dd := some 41) rfl rfl (op_move rfl (Opd.tmp _ _ rfl)) ?_
              refine Run.pure (dd := some 42) rfl rfl (op_move rfl (Opd.tmp _ _ rfl)) ?_
              refine Run.pure (dd := some 43) rfl rfl (op_slice_fz (l := 0) (h := i) (rs := (rs.take i).map encRt) rfl (Opd.tmp _ _ rfl) (Bnd.no _) (Bnd.yes _ _ _ _ _ (Opd.tmp _ _ rfl) (by intro _; rfl)) (by intro _; exact ⟨Nat.zero_le _, by simp; omega, by simp [List.map_take]⟩)) ?_
              refine Run.pure (dd := some 44) rfl rfl (op_fld_ptr (by decide) rfl (Opd.tmp _ _ rfl)) ?_
              refine Run.load (dd := some 45) rfl rfl (op_loadn_flat rfl (Opd.tmp _ _ rfl) tH tR tR) ?_
              refine Run.pure (dd := some 46) rfl rfl (op_move rfl (Opd.tmp _ _ rfl)) ?_
              refine Run.pure (dd := some 47) rfl rfl (op_call_pure (fun _ => kh) rfl (Opd.func _) (Opds.cons _ _ _ _ (Opd.tmp _ _ rfl) (Opds.cons _ _ _ _ (Opd.tmp _ _ rfl) (Opds.cons _ _ _ _ (Opd.tmp _ _ rfl) Opds.nil)))) ?_
              refine Run.nil (FinD.mk (by kernel_rfl) ?_)
              refine nK ?_
              refine n_cond _ rfl (fun hb => ?_) (fun hb => ?_)
              · rw [if_pos hb] at hS
                rw [← hS, if_pos (by decide)]
                refine nK ?_
                refine s_reg rfl ?_
                refine Run.pure (dd := some 6) rfl rfl (op_assign rfl (Opd.const _)) ?_
                refine Run.pure (dd := some 7) rfl rfl (op_assign rfl (Opd.const _)) ?_
                refine Run.nil (FinR.mk ?_)
                refine nK ?_
                refine Next.weakS [] [] (by rfl) (keeps0 hC _) (G' := [(6, .fz (VRt [])), (7, IV .i64 7)]) (H' := []) (by repeat (first | exact trivial | refine ⟨⟨_, rfl, .inl ⟨rfl, rfl⟩⟩, ?_⟩ | refine ⟨⟨_, rfl, .inl ⟨slEq rfl tN, rfl⟩⟩, ?_⟩ | refine ⟨⟨_, rfl, .inl ⟨ivEq tX, rfl⟩⟩, ?_⟩ | refine ⟨⟨_, rfl, .inr ⟨_, rfl, tW⟩⟩, ?_⟩)) trivial rfl ?_
                (first | exact s_o1 hC rfl tV | exact s_o2 hC rfl tV tV | exact s_o3 hC rfl tV tV tV | exact s_o4 hC rfl tV tV tV tV | exact s_out0 hC rfl | exact s_outO hC rfl rfl rfl)
              · rw [if_neg (by rw [hb]; decide)] at hS
                refine nK ?_
                refine s_reg rfl ?_
                refine Run.pure (dd := some 48) rfl rfl (op_add rfl (Opd.tmp _ _ rfl) (Opd.const _) tI) ?_
                refine Run.pure (dd := some 27) rfl rfl (op_move rfl (Opd.tmp _ _ rfl)) ?_
                refine Run.nil (FinR.mk ?_)
                refine nK ?_
                refine Next.weak [] [] (by rfl) (keeps0 hC _) (by repeat (first | exact trivial | refine ⟨⟨_, rfl, .inl ⟨rfl, rfl⟩⟩, ?_⟩)) (by repeat (first | exact trivial | refine ⟨ent_same rfl rfl rfl tL, ?_⟩ | refine ⟨ent_same rfl rfl (rfEq rfl tU) tL, ?_⟩ | refine ⟨ent_same rfl rfl (flEq rfl (by first | (simp; done) | (simp; omega) | (simp [encHo, encRt, encP]; done) | simp [maxC, minC])) trivial, ?_⟩)) (fun _ h => by simp at h) (hK1 hS (hP1 hxn))
        · have hie : i = rs.length := by simp at hb; omega
          rw [hie, List.drop_length] at hS
          simp only [replGo] at hS
          rw [if_neg (by rw [← hS]; decide)]
          clear hS hK hP
          have hll := List.length_filter_le (fun x => !decide (x.pr = n)) l
          refine nK ?_
          refine s_reg rfl ?_
          refine Run.pure (dd := some 12) rfl rfl (op_assign rfl (Opd.const _)) ?_
          refine Run.nil (FinR.mk ?_)
          refine nK ?_
          refine Next.adopt 12 7 rfl ?_
          refine nK ?_
          refine s_reg rfl ?_
          refine Run.pure (dd := some 49) rfl rfl (op_move rfl (Opd.tmp _ _ rfl)) ?_
          refine Run.pure (dd := some 50) rfl rfl (op_len_fz rfl (by first | exact Opd.tmp _ _ rfl | exact Opd.nil _ _ (Opd.tmp _ _ rfl)) (by first | exact List.length_map _ | rfl)) ?_
          refine Run.pure (dd := some 51) rfl rfl (op_move rfl (Opd.const _)) ?_
          refine Run.nil (FinR.mk ?_)
          refine nK ?_
          refine n_loop (ι := Nat × List Rte) (fun g => ([(1, IV .i64 n), (2, .fz (VRt rs)), (12, .sl 0 7 0 g.2.length), (49, .fz (VRt l)), (50, IV .i64 l.length), (51, IV .i64 g.1)], [(0, ORts g.2)], 1)) (fun g => g.1 ≤ l.length ∧ g.2 = (l.take g.1).filter fun x => !decide (x.pr = n)) (fun g => l.length - g.1) (0, []) ⟨Nat.zero_le _, by simp⟩ ?_ ?_
          · refine Next.weakS [12] [] (by rfl) (by first | exact keeps0 hC _ | exact keepsN hC _ rfl) (by repeat (first | exact trivial | refine ⟨⟨_, rfl, .inl ⟨rfl, rfl⟩⟩, ?_⟩ | refine ⟨⟨_, rfl, .inl ⟨slEq rfl tN, rfl⟩⟩, ?_⟩ | refine ⟨⟨_, rfl, .inl ⟨ivEq tX, rfl⟩⟩, ?_⟩)) (by repeat (first | exact trivial | refine ⟨ent_same rfl rfl rfl tL, ?_⟩ | refine ⟨ent_same rfl rfl (rfEq rfl tU) tL, ?_⟩ | refine ⟨ent_same rfl rfl (flEq rfl (by first | (simp; done) | (simp; omega) | (simp [encHo, encRt, encP]; done) | simp [maxC, minC])) trivial, ?_⟩)) rfl (rel_intro)
          · intro ⟨i, out⟩ ⟨hi, hS⟩ K hK
            dsimp only at hi hS ⊢
            have hol : out.length ≤ i := by rw [hS]; exact Nat.le_trans (List.length_filter_le _ _) (by simp; omega)
            refine nK ?_
            refine s_reg rfl ?_
            refine Run.pure (dd := some 52) rfl rfl (op_lss rfl (Opd.tmp _ _ rfl) (Opd.tmp _ _ rfl)) ?_
            refine Run.nil (FinR.mk ?_)
            refine nK ?_
            refine n_cond _ rfl (fun hb => ?_) (fun hb => ?_)
            · have hlt : i < l.length := by simp at hb; omega
              have hr1 := row_at' encRt l i hlt
              have hs := filt_take (fun x => !decide (x.pr = n)) hlt
              rw [← hS] at hs
              have hK1 := fun o h => hK (i + 1, o) ⟨by dsimp only; omega, h⟩ (by dsimp only; omega)
              dsimp only at hK1
              generalize l[i] = x at *
              refine nK ?_
              refine s_reg rfl ?_
              refine Run.pure (dd := some 53) rfl rfl (op_idx_fz _ rfl (Opd.tmp _ _ rfl) (Opd.tmp _ _ rfl) tF) ?_
              refine Run.pure (dd := some 54) rfl rfl (op_loadw_fz rfl (Opd.tmp _ _ rfl) rfl) ?_
              refine Run.eff (dd := some 14) rfl rfl (op_alloc rfl rfl rfl rfl) ?_
              refine Run.eff (dd := none) rfl rfl (op_store_flat rfl (Opd.tmp _ _ rfl) (Opd.tmp _ _ rfl) tC rfl rfl (by first | rfl | assumption) tS) ?_
              refine Run.nil (FinR.mk ?_)
              refine nK ?_
              refine s_reg rfl ?_
              refine Run.pure (dd := some 55) rfl rfl (op_fld_ptr (by decide) rfl (Opd.tmp _ _ rfl)) ?_
              refine Run.load (dd := some 56) rfl rfl (op_load1_flat rfl (Opd.tmp _ _ rfl) tH rfl) ?_
              refine Run.pure (dd := some 57) rfl rfl (op_move rfl (Opd.tmp _ _ rfl)) ?_
              refine Run.pure (dd := some 58) rfl rfl (op_neq rfl (Opd.tmp _ _ rfl) (Opd.tmp _ _ rfl)) ?_
              refine Run.nil (FinR.mk ?_)
              refine nK ?_
              refine n_cond _ rfl (fun hb => ?_) (fun hb => ?_)
              · rw [if_pos (by simpa using hb)] at hs
                have hK2 := hK1 (out ++ [x]) hs.symm
                unfold ORts at hK2
                rw [app1, app2] at hK2
                refine nK ?_
                refine s_reg rfl ?_
                refine Run.pure (dd := some 59) rfl rfl (op_move rfl (Opd.tmp _ _ rfl)) ?_
                refine Run.load (dd := some 60) rfl rfl (op_loadw_flat rfl (Opd.tmp _ _ rfl) tH rfl) ?_
                refine Run.pure (dd := some 61) rfl rfl (op_buildSlice_fz rfl (RowsF.cons _ _ _ _ _ _ (Opd.tmp _ _ rfl) tC (by rfl) (RowsF.nil _)) rfl rfl) ?_
                refine Run.eff (dd := some 62) rfl rfl (op_append rfl (Opd.tmp _ _ rfl) (Opd.tmp _ _ rfl) rfl (by simp) rfl rfl tB tB) ?_
                refine Run.pure (dd := some 12) rfl rfl (op_assign rfl (Opd.tmp _ _ rfl)) ?_
                refine Run.nil (FinR.mk ?_)
                refine nK ?_
                refine s_reg rfl ?_
                refine Run.pure (dd := some 63) rfl rfl (op_add rfl (Opd.tmp _ _ rfl) (Opd.const _) tI) ?_
                refine Run.pure (dd := some 51) rfl rfl (op_move rfl (Opd.tmp _ _ rfl)) ?_
                refine Run.nil (FinR.mk ?_)
                refine nK ?_
                refine Next.weakS [12] [] (by rfl) (by first | exact keeps0 hC _ | exact keepsN hC _ rfl) (by repeat (first | exact trivial | refine ⟨⟨_, rfl, .inl ⟨rfl, rfl⟩⟩, ?_⟩ | refine ⟨⟨_, rfl, .inl ⟨slEq rfl tN, rfl⟩⟩, ?_⟩ | refine ⟨⟨_, rfl, .inl ⟨ivEq tX, rfl⟩⟩, ?_⟩)) (by repeat (first | exact trivial | refine ⟨ent_same rfl rfl rfl tL, ?_⟩ | refine ⟨ent_same rfl rfl (rfEq rfl tU) tL, ?_⟩ | refine ⟨ent_same rfl rfl (flEq rfl (by first | (simp; done) | (simp; omega) | (simp [encHo, encRt, encP]; done) | simp [maxC, minC])) trivial, ?_⟩)) rfl (hK2)
              · rw [if_neg (by simpa using hb), List.append_nil] at hs
                refine nK ?_
                refine s_reg rfl ?_
                refine Run.pure (dd := some 63) rfl rfl (op_add rfl (Opd.tmp _ _ rfl) (Opd.const _) tI) ?_
                refine Run.pure (dd := some 51) rfl rfl (op_move rfl (Opd.tmp _ _ rfl)) ?_
                refine Run.nil (FinR.mk ?_)
                refine nK ?_
                refine Next.weakS [12] [] (by rfl) (by first | exact keeps0 hC _ | exact keepsN hC _ rfl) (by repeat (first | exact trivial | refine ⟨⟨_, rfl, .inl ⟨rfl, rfl⟩⟩, ?_⟩ | refine ⟨⟨_, rfl, .inl ⟨slEq rfl tN, rfl⟩⟩, ?_⟩ | refine ⟨⟨_, rfl, .inl ⟨ivEq tX, rfl⟩⟩, ?_⟩)) (by repeat (first | exact trivial | refine ⟨ent_same rfl rfl rfl tL, ?_⟩ | refine ⟨ent_same rfl rfl (rfEq rfl tU) tL, ?_⟩ | refine ⟨ent_same rfl rfl (flEq rfl (by first | (simp; done) | (simp; omega) | (simp [encHo, encRt, encP]; done) | simp [maxC, minC])) trivial, ?_⟩)) rfl ((hK1 out hs.symm))
            · have hie : i = l.length := by simp at hb; omega
              rw [hie, List.take_length] at hS
              rw [← hS] at hll ⊢
              clear hK hS
              refine nK ?_
              refine s_reg rfl ?_
              refine Run.pure (dd := some 64) rfl rfl (op_move rfl (Opd.tmp _ _ rfl)) ?_
              refine Run.pure (dd := some 65) rfl rfl (op_len_sl rfl (Opd.tmp _ _ rfl)) ?_
              refine Run.pure (dd := some 66) rfl rfl (op_move rfl (Opd.tmp _ _ rfl)) ?_
              refine Run.pure (dd := some 67) rfl rfl (op_len_fz rfl (by first | exact Opd.tmp _ _ rfl | exact Opd.nil _ _ (Opd.tmp _ _ rfl)) (by first | exact List.length_map _ | rfl)) ?_
              refine Run.pure (dd := some 68) rfl rfl (op_add rfl (Opd.tmp _ _ rfl) (Opd.tmp _ _ rfl) tI) ?_
              refine Run.pure (dd := some 69) rfl rfl (op_gtr rfl (Opd.tmp _ _ rfl) (Opd.const _)) ?_
              refine Run.nil (FinR.mk ?_)
              refine nK ?_
              refine n_cond _ rfl (fun hb => ?_) (fun hb => ?_)
              · rw [if_pos (by simp at hb; omega)]
                refine nK ?_
                refine s_reg rfl ?_
                refine Run.pure (dd := some 6) rfl rfl (op_assign rfl (Opd.const _)) ?_
                refine Run.pure (dd := some 7) rfl rfl (op_assign rfl (Opd.const _)) ?_
                refine Run.nil (FinR.mk ?_)
                refine nK ?_
                refine Next.weakS [] [] (by rfl) (keeps0 hC _) (G' := [(6, .fz (VRt [])), (7, IV .i64 4)]) (H' := []) (by repeat (first | exact trivial | refine ⟨⟨_, rfl, .inl ⟨rfl, rfl⟩⟩, ?_⟩ | refine ⟨⟨_, rfl, .inl ⟨slEq rfl tN, rfl⟩⟩, ?_⟩ | refine ⟨⟨_, rfl, .inl ⟨ivEq tX, rfl⟩⟩, ?_⟩ | refine ⟨⟨_, rfl, .inr ⟨_, rfl, tW⟩⟩, ?_⟩)) trivial rfl ?_
                (first | exact s_o1 hC rfl tV | exact s_o2 hC rfl tV tV | exact s_o3 hC rfl tV tV tV | exact s_o4 hC rfl tV tV tV tV | exact s_out0 hC rfl | exact s_outO hC rfl rfl rfl)
              · have hsum : out.length + rs.length ≤ 2000 := by simp at hb; omega
                rw [if_neg (by omega)]
                refine nK ?_
                refine s_reg rfl ?_
                refine Run.pure (dd := some 70) rfl rfl (op_move rfl (Opd.tmp _ _ rfl)) ?_
                refine Run.pure (dd := some 71) rfl rfl (op_len_fz rfl (by first | exact Opd.tmp _ _ rfl | exact Opd.nil _ _ (Opd.tmp _ _ rfl)) (by first | exact List.length_map _ | rfl)) ?_
                refine Run.pure (dd := some 72) rfl rfl (op_move rfl (Opd.const _)) ?_
                refine Run.nil (FinR.mk ?_)
                refine nK ?_
                refine n_loop (ι := Nat) (fun i => ([(12, .fz (VRt (insAll (rs.take i) out))), (70, .fz (VRt rs)), (71, IV .i64 rs.length), (72, IV .i64 i)], [], 0)) (fun i => i ≤ rs.length) (fun i => rs.length - i) 0 (Nat.zero_le _) ?_ ?_
                · refine Next.weakS [] [12] (by rfl) (by first | exact keeps0 hC _ | exact keepsN hC _ rfl) (by repeat (first | exact trivial | refine ⟨⟨_, rfl, .inl ⟨rfl, rfl⟩⟩, ?_⟩ | refine ⟨⟨_, rfl, .inl ⟨slEq rfl tN, rfl⟩⟩, ?_⟩ | refine ⟨⟨_, rfl, .inl ⟨ivEq tX, rfl⟩⟩, ?_⟩ | refine ⟨⟨_, rfl, .inr ⟨_, rfl, tW⟩⟩, ?_⟩)) (by repeat (first | exact trivial | refine ⟨ent_same rfl rfl rfl tL, ?_⟩ | refine ⟨ent_same rfl rfl (rfEq rfl tU) tL, ?_⟩ | refine ⟨ent_same rfl rfl (flEq rfl (by first | (simp; done) | (simp; omega) | (simp [encHo, encRt, encP]; done) | simp [maxC, minC])) trivial, ?_⟩)) rfl (rel_intro)
                · intro i hi K hK
                  have hla := insAll_len (rs.take i) out
                  rw [List.length_take, Nat.min_eq_left hi] at hla
                  refine nK ?_
                  refine s_reg rfl ?_
                  refine Run.pure (dd := some 73) rfl rfl (op_lss rfl (Opd.tmp _ _ rfl) (Opd.tmp _ _ rfl)) ?_
                  refine Run.nil (FinR.mk ?_)
                  refine nK ?_
                  refine n_cond _ rfl (fun hb => ?_) (fun hb => ?_)
                  · have hlt : i < rs.length := by simp at hb; omega
                    have hr1 := row_at' encRt rs i hlt
                    have hK1 := hK (i + 1) (by omega) (by omega)
                    rw [insAll_take hlt] at hK1
                    generalize insAll (rs.take i) out = o at *
                    generalize rs[i] = x at *
                    have hins := rinsert_f o x (by omega)
                    refine nK ?_
                    refine s_reg rfl ?_
                    refine Run.pure (dd := some 74) rfl rfl (op_idx_fz _ rfl (Opd.tmp _ _ rfl) (Opd.tmp _ _ rfl) tF) ?_
                    refine Run.pure (dd := some 75) rfl rfl (op_loadw_fz rfl (Opd.tmp _ _ rfl) rfl) ?_
                    refine Run.eff (dd := some 16) rfl rfl (op_alloc rfl rfl rfl rfl) ?_
                    refine Run.eff (dd := none) rfl rfl (op_store_flat rfl (Opd.tmp _ _ rfl) (Opd.tmp _ _ rfl) tC rfl rfl (by first | rfl | assumption) tS) ?_
                    refine Run.nil (FinR.mk ?_)
                    refine nK ?_
                    refine s_reg rfl ?_
                    refine Run.pure (dd := some 76) rfl rfl (op_move rfl (Opd.tmp _ _ rfl)) ?_
                    refine Run.load (dd := some 77) rfl rfl (op_loadw_flat rfl (Opd.tmp _ _ rfl) tH rfl) ?_
                    refine Run.eff (dd := some 78) rfl rfl (op_call_fresh (fun _ => hins) rfl (Opd.func _) (Opds.cons _ _ _ _ (Opd.tmp _ _ rfl) (Opds.cons _ _ _ _ (Opd.tmp _ _ rfl) Opds.nil))) ?_
                    refine Run.pure (dd := some 12) rfl rfl (op_assign rfl (Opd.tmp _ _ rfl)) ?_
                    refine Run.nil (FinR.mk ?_)
                    refine nK ?_
                    refine s_reg rfl ?_
                    refine Run.pure (dd := some 79) rfl rfl (op_add rfl (Opd.tmp _ _ rfl) (Opd.const _) tI) ?_
                    refine Run.pure (dd := some 72) rfl rfl (op_move rfl (Opd.tmp _ _ rfl)) ?_
                    refine Run.nil (FinR.mk ?_)
                    refine nK ?_
                    refine Next.weakS [] [12] (by rfl) (by first | exact keeps0 hC _ | exact keepsN hC _ rfl) (by repeat (first | exact trivial | refine ⟨⟨_, rfl, .inl ⟨rfl, rfl⟩⟩, ?_⟩ | refine ⟨⟨_, rfl, .inl ⟨slEq rfl tN, rfl⟩⟩, ?_⟩ | refine ⟨⟨_, rfl, .inl ⟨ivEq tX, rfl⟩⟩, ?_⟩ | refine ⟨⟨_, rfl, .inr ⟨_, rfl, tW⟩⟩, ?_⟩)) (by repeat (first | exact trivial | refine ⟨ent_same rfl rfl rfl tL, ?_⟩ | refine ⟨ent_same rfl rfl (rfEq rfl tU) tL, ?_⟩ | refine ⟨ent_same rfl rfl (flEq rfl (by first | (simp; done) | (simp; omega) | (simp [encHo, encRt, encP]; done) | simp [maxC, minC])) trivial, ?_⟩)) rfl (hK1)
                  · have hie : i = rs.length := by simp at hb; omega
                    subst hie
                    rw [List.take_length] at *
                    refine nK ?_
                    refine s_reg rfl ?_
                    refine Run.pure (dd := some 80) rfl rfl (op_move rfl (Opd.tmp _ _ rfl)) ?_
                    refine Run.pure (dd := some 6) rfl rfl (op_assign rfl (Opd.tmp _ _ rfl)) ?_
                    refine Run.pure (dd := some 7) rfl rfl (op_assign rfl (Opd.const _)) ?_
                    refine Run.nil (FinR.mk ?_)
                    refine nK ?_
                    refine Next.weakS [] [] (by rfl) (keeps0 hC _) (G' := [(6, .fz (VRt (insAll rs out))), (7, IV .i64 0)]) (H' := []) (by repeat (first | exact trivial | refine ⟨⟨_, rfl, .inl ⟨rfl, rfl⟩⟩, ?_⟩ | refine ⟨⟨_, rfl, .inl ⟨slEq rfl tN, rfl⟩⟩, ?_⟩ | refine ⟨⟨_, rfl, .inl ⟨ivEq tX, rfl⟩⟩, ?_⟩ | refine ⟨⟨_, rfl, .inr ⟨_, rfl, tW⟩⟩, ?_⟩)) trivial rfl ?_
                    (first | exact s_o1 hC rfl tV | exact s_o2 hC rfl tV tV | exact s_o3 hC rfl tV tV tV | exact s_o4 hC rfl tV tV tV tV | exact s_out0 hC rfl | exact s_outO hC rfl rfl rfl)
open Go Go.RT Go.Proofs Go.Pl
set_option maxRecDepth 20000
theorem rc_cond (o : Option Rte) (x z : Rte) : (!o.isSome || !decide (x = o.getD z)) = decide (o ≠ some x) := by
  cases o with
  | none => simp
  | some y => simp [eq_comm]
theorem find_val {Q : Rte → Prop} {l : List Rte} (h : ∀ x ∈ l, Q x) (hz : Q zRte) (p : Pfx) : Q ((findR l p).getD zRte) := by
  cases hf : findR l p with
  | none => exact hz
  | some x => exact h x (find_mem hf).1
theorem list_len (l : List Rte) : (listF l).length ≤ l.length := by
  unfold listF
  split <;> simp
theorem rchg_c (a b : List Rte) (hoa : ∀ x ∈ a, okRt x) (hha : ∀ x ∈ a, lenOk x.hs.length) (hna : a.length ≤ 4000) (hob : ∀ x ∈ b, okRt x) (hhb : ∀ x ∈ b, lenOk x.hs.length) (hnb : b.length ≤ 4000) : Pure Try.prog 24 [VRt a, VRt b] (VP (changesF a b)) := by
  have app1 : ∀ (o : List Pfx) (x : Pfx), (o ++ [x]).length = o.length + 1 := fun o x => by simp
  have app2 : ∀ (o : List Pfx) (x : Pfx), (o ++ [x]).map encP = o.map encP ++ [encP x] := fun o x => by simp
  have kA := rlist_c a hoa hha hna
  have kB := rlist_c b hob hhb hnb
  rw [← chg_ref]
  have hA := fun x h => hha x (list_sub h)
  have hB := fun x h => hhb x (list_sub h)
  have lA := Nat.le_trans (list_len a) hna
  have lB := Nat.le_trans (list_len b) hnb
  unfold refChg
  generalize listF a = A at *
  generalize listF b = B at *
  show Pure _ _ _ (VP (sortPf (refT (fun r => decide (findR B r.pf ≠ some r)) A ++ refT (fun r => decide (findR A r.pf = none)) B)))
  have l0 : lenOk zRte.hs.length := by show lenOk 0; unfold lenOk; omega
  refine Meets.intro Try.func24 rfl (Nat.le_of_ble_eq_true rfl) fun C hC => ?_
  simp only [List.map, argEnv, Nat.reduceAdd]
  refine nK ?_
  refine s_reg rfl ?_
  refine Run.pure (dd := some 4) rfl rfl (op_assign rfl (Opd.const _)) ?_
  refine Run.nil (FinR.mk ?_)
  refine nK ?_
  refine s_reg rfl ?_
  refine Run.pure (dd := some 14) rfl rfl (op_move rfl (Opd.tmp _ _ rfl)) ?_
  refine Run.pure (dd := some 15) rfl rfl (op_call_pure (fun _ => kA) rfl (Opd.func _) (Opds.cons _ _ _ _ (Opd.tmp _ _ rfl) Opds.nil)) ?_
  refine Run.pure (dd := some 16) rfl rfl (op_move rfl (Opd.tmp _ _ rfl)) ?_
  refine Run.pure (dd := some 17) rfl rfl (op_call_pure (fun _ => kB) rfl (Opd.func _) (Opds.cons _ _ _ _ (Opd.tmp _ _ rfl) Opds.nil)) ?_
  refine Run.pure (dd := some 0) rfl rfl (op_assign rfl (Opd.tmp _ _ rfl)) ?_
  refine Run.pure (dd := some 1) rfl rfl (op_assign rfl (Opd.tmp _ _ rfl)) ?_
  refine Run.nil (FinR.mk ?_)
  refine nK ?_
  refine s_reg rfl ?_
  refine Run.pure (dd := some 5) rfl rfl (op_assign rfl (Opd.const _)) ?_
  refine Run.nil (FinR.mk ?_)
  refine nK ?_
  refine Next.adopt 5 2 rfl ?_
  refine nK ?_
  refine s_reg rfl ?_
  refine Run.pure (dd := some 18) rfl rfl (op_move rfl (Opd.tmp _ _ rfl)) ?_
  refine Run.pure (dd := some 19) rfl rfl (op_len_fz rfl (by first | exact Opd.tmp _ _ rfl | exact Opd.nil _ _ (Opd.tmp _ _ rfl)) (by first | exact List.length_map _ | rfl)) ?_
  refine Run.pure (dd := some 20) rfl rfl (op_move rfl (Opd.const _)) ?_
  refine Run.nil (FinR.mk ?_)
  refine nK ?_
  refine n_loop (ι := Nat) (fun i => ([(0, .fz (VRt A)), (1, .fz (VRt B)), (5, .sl 0 2 0 (refT (fun r => decide (findR B r.pf ≠ some r)) (A.take i)).length), (18, .fz (VRt A)), (19, IV .i64 A.length), (20, IV .i64 i)], [(0, OPf (refT (fun r => decide (findR B r.pf ≠ some r)) (A.take i)))], 1)) (fun i => i ≤ A.length) (fun i => A.length - i) 0 (Nat.zero_le _) ?_ ?_
  · refine Next.weakS [5] [] (by rfl) (by first | exact keeps0 hC _ | exact keepsN hC _ rfl) (by repeat (first | exact trivial | refine ⟨⟨_, rfl, .inl ⟨rfl, rfl⟩⟩, ?_⟩ | refine ⟨⟨_, rfl, .inl ⟨slEq rfl tN, rfl⟩⟩, ?_⟩ | refine ⟨⟨_, rfl, .inl ⟨ivEq tX, rfl⟩⟩, ?_⟩)) (by repeat (first | exact trivial | refine ⟨ent_same rfl rfl rfl tL, ?_⟩ | refine ⟨ent_same rfl rfl (rfEq rfl tU) tL, ?_⟩ | refine ⟨ent_same rfl rfl (flEq rfl (by first | (simp; done) | (simp; omega) | (simp [encHo, encRt, encP]; done) | simp [maxC, minC])) trivial, ?_⟩)) rfl (rel_intro)
  · intro i hi K hK
    have hol := refT_len (fun r => decide (findR B r.pf ≠ some r)) (A.take i)
    rw [List.length_take, Nat.min_eq_left hi] at hol
    refine nK ?_
    refine s_reg rfl ?_
    refine Run.pure (dd := some 21) rfl rfl (op_lss rfl (Opd.tmp _ _ rfl) (Opd.tmp _ _ rfl)) ?_
    refine Run.nil (FinR.mk ?_)
    refine nK ?_
    refine n_cond _ rfl (fun hb => ?_) (fun hb => ?_)
    · have hlt : i < A.length := by simp at hb; omega
      have hr1 := row_at' encRt A i hlt
      have hK1 := hK (i + 1) (by omega) (by omega)
      rw [refT_take _ hlt] at hK1
      have lx := hA _ (List.getElem_mem hlt)
      generalize refT (fun r => decide (findR B r.pf ≠ some r)) (A.take i) = o at *
      generalize A[i] = x at *
      have kf := find_c B x.pf lB
      have ks := rsamert_c x _ lx (find_val (Q := fun x => lenOk x.hs.length) hB l0 x.pf)
      have hc := rc_cond (findR B x.pf) x zRte
      refine nK ?_
      refine s_reg rfl ?_
      refine Run.pure (dd := some 22) rfl rfl (op_idx_fz _ rfl (Opd.tmp _ _ rfl) (Opd.tmp _ _ rfl) tF) ?_
      refine Run.pure (dd := some 23) rfl rfl (op_loadw_fz rfl (Opd.tmp _ _ rfl) rfl) ?_
      refine Run.eff (dd := some 7) rfl rfl (op_alloc rfl rfl rfl rfl) ?_
      refine Run.eff (dd := none) rfl rfl (op_store_flat rfl (Opd.tmp _ _ rfl) (Opd.tmp _ _ rfl) tC rfl rfl (by first | rfl | assumption) tS) ?_
      refine Run.nil (FinR.mk ?_)
      refine nK ?_
      refine s_reg rfl ?_
      refine Run.pure (dd := some 25) rfl rfl (op_move rfl (Opd.tmp _ _ rfl)) ?_
      refine Run.pure (dd := some 26) rfl rfl (op_fld_ptr (by decide) rfl (Opd.tmp _ _ rfl)) ?_
      refine Run.load (dd := some 27) rfl rfl (op_loadn_flat rfl (Opd.tmp _ _ rfl) tH tR tR) ?_
      refine Run.pure (dd := some 28) rfl rfl (op_call_pure (fun _ => kf) rfl (Opd.func _) (Opds.cons _ _ _ _ (Opd.tmp _ _ rfl) (Opds.cons _ _ _ _ (Opd.tmp _ _ rfl) Opds.nil))) ?_
      refine Run.pure (dd := some 24) rfl rfl (op_move rfl (Opd.tmp _ _ rfl)) ?_
      refine Run.pure (dd := some 29) rfl rfl (op_extract_fz rfl (Opd.tmp _ _ rfl) rfl) ?_
      refine Run.pure (dd := some 30) rfl rfl (op_extract_fz rfl (Opd.tmp _ _ rfl) rfl) ?_
      refine Run.eff (dd := some 8) rfl rfl (op_alloc rfl rfl rfl rfl) ?_
      refine Run.eff (dd := none) rfl rfl (op_store_flat rfl (Opd.tmp _ _ rfl) (Opd.tmp _ _ rfl) tC rfl rfl (by first | rfl | assumption) tS) ?_
      refine Run.pure (dd := some 9) rfl rfl (op_assign rfl (Opd.tmp _ _ rfl)) ?_
      refine Run.nil (FinR.mk ?_)
      refine nK ?_
      refine s_reg rfl ?_
      refine Run.pure (dd := some 31) rfl rfl (op_move rfl (Opd.tmp _ _ rfl)) ?_
      refine Run.pure (dd := some 32) rfl rfl (op_not rfl (Opd.tmp _ _ rfl)) ?_
      refine Run.pure (dd := some 33) rfl rfl (op_move rfl (Opd.tmp _ _ rfl)) ?_
      refine Run.loadG (dd := some 34) rfl rfl rfl tG (op_loadw_flat rfl (Opd.tmp _ _ rfl) tH rfl) ?_
      refine Run.loadG (dd := some 35) rfl rfl rfl tG (op_loadw_flat rfl (Opd.tmp _ _ rfl) tH rfl) ?_
      refine Run.pureG (dd := some 36) rfl rfl rfl tG (op_call_pure (fun _ => ks) rfl (Opd.func _) (Opds.cons _ _ _ _ (Opd.topt _ _ _ rfl tO) (Opds.cons _ _ _ _ (Opd.topt _ _ _ rfl tO) Opds.nil))) ?_
      refine Run.pureG (dd := some 37) rfl rfl rfl tG (op_not rfl (Opd.topt _ _ _ rfl tO)) ?_
      refine Run.pure (dd := some 38) rfl rfl (op_pick_or rfl (Opd.tmp _ _ rfl) (Opd.topt _ _ _ rfl tO)) ?_
      refine Run.nil (FinR.mk ?_)
      refine nK ?_
      refine n_cond _ rfl (fun hb => ?_) (fun hb => ?_)
      · rw [if_pos (hc.symm.trans hb)] at hK1
        unfold OPf at hK1
        rw [app1, app2] at hK1
        refine nK ?_
        refine s_reg rfl ?_
        refine Run.pure (dd := some 39) rfl rfl (op_move rfl (Opd.tmp _ _ rfl)) ?_
        refine Run.pure (dd := some 40) rfl rfl (op_fld_ptr (by decide) rfl (Opd.tmp _ _ rfl)) ?_
        refine Run.load (dd := some 41) rfl rfl (op_loadn_flat rfl (Opd.tmp _ _ rfl) tH tR tR) ?_
        refine Run.pure (dd := some 42) rfl rfl (op_buildSlice_fz rfl (RowsF.cons _ _ _ _ _ _ (Opd.tmp _ _ rfl) tC (by rfl) (RowsF.nil _)) rfl rfl) ?_
        refine Run.eff (dd := some 43) rfl rfl (op_append rfl (Opd.tmp _ _ rfl) (Opd.tmp _ _ rfl) rfl (by simp) rfl rfl tB tB) ?_
        refine Run.pure (dd := some 5) rfl rfl (op_assign rfl (Opd.tmp _ _ rfl)) ?_
        refine Run.nil (FinR.mk ?_)
        refine nK ?_
        refine s_reg rfl ?_
        refine Run.pure (dd := some 44) rfl rfl (op_add rfl (Opd.tmp _ _ rfl) (Opd.const _) tI) ?_
        refine Run.pure (dd := some 20) rfl rfl (op_move rfl (Opd.tmp _ _ rfl)) ?_
        refine Run.nil (FinR.mk ?_)
        refine nK ?_
        refine Next.weakS [5] [] (by rfl) (by first | exact keeps0 hC _ | exact keepsN hC _ rfl) (by repeat (first | exact trivial | refine ⟨⟨_, rfl, .inl ⟨rfl, rfl⟩⟩, ?_⟩ | refine ⟨⟨_, rfl, .inl ⟨slEq rfl tN, rfl⟩⟩, ?_⟩ | refine ⟨⟨_, rfl, .inl ⟨ivEq tX, rfl⟩⟩, ?_⟩)) (by repeat (first | exact trivial | refine ⟨ent_same rfl rfl rfl tL, ?_⟩ | refine ⟨ent_same rfl rfl (rfEq rfl tU) tL, ?_⟩ | refine ⟨ent_same rfl rfl (flEq rfl (by first | (simp; done) | (simp; omega) | (simp [encHo, encRt, encP]; done) | simp [maxC, minC])) trivial, ?_⟩)) rfl (hK1)
      · rw [if_neg (by rw [← hc]; intro h; rw [h] at hb; cases hb), List.append_nil] at hK1
        refine nK ?_
        refine s_reg rfl ?_
        refine Run.pure (dd := some 44) rfl rfl (op_add rfl (Opd.tmp _ _ rfl) (Opd.const _) tI) ?_
        refine Run.pure (dd := some 20) rfl rfl (op_move rfl (Opd.tmp _ _ rfl)) ?_
        refine Run.nil (FinR.mk ?_)
        refine nK ?_
        refine Next.weakS [5] [] (by rfl) (by first | exact keeps0 hC _ | exact keepsN hC _ rfl) (by repeat (first | exact trivial | refine ⟨⟨_, rfl, .inl ⟨rfl, rfl⟩⟩, ?_⟩ | refine ⟨⟨_, rfl, .inl ⟨slEq rfl tN, rfl⟩⟩, ?_⟩ | refine ⟨⟨_, rfl, .inl ⟨ivEq tX, rfl⟩⟩, ?_⟩)) (by repeat (first | exact trivial | refine ⟨ent_same rfl rfl rfl tL, ?_⟩ | refine ⟨ent_same rfl rfl (rfEq rfl tU) tL, ?_⟩ | refine ⟨ent_same rfl rfl (flEq rfl (by first | (simp; done) | (simp; omega) | (simp [encHo, encRt, encP]; done) | simp [maxC, minC])) trivial, ?_⟩)) rfl (hK1)
    · have hie : i = A.length := by simp at hb; omega
      rw [hie, List.take_length]
      clear hK hol
      have hla := refT_len (fun r => decide (findR B r.pf ≠ some r)) A
      generalize refT (fun r => decide (findR B r.pf ≠ some r)) A = c at *
      refine nK ?_
      refine s_reg rfl ?_
      refine Run.pure (dd := some 45) rfl rfl (op_move rfl (Opd.tmp _ _ rfl)) ?_
      refine Run.pure (dd := some 46) rfl rfl (op_len_fz rfl (by first | exact Opd.tmp _ _ rfl | exact Opd.nil _ _ (Opd.tmp _ _ rfl)) (by first | exact List.length_map _ | rfl)) ?_
      refine Run.pure (dd := some 47) rfl rfl (op_move rfl (Opd.const _)) ?_
      refine Run.nil (FinR.mk ?_)
      refine nK ?_
      refine n_loop (ι := Nat) (fun i => ([(0, .fz (VRt A)), (1, .fz (VRt B)), (5, .sl 0 2 0 (c ++ refT (fun r => decide (findR A r.pf = none)) (B.take i)).length), (45, .fz (VRt B)), (46, IV .i64 B.length), (47, IV .i64 i)], [(0, OPf (c ++ refT (fun r => decide (findR A r.pf = none)) (B.take i)))], 1)) (fun i => i ≤ B.length) (fun i => B.length - i) 0 (Nat.zero_le _) ?_ ?_
      · rw [List.take_zero, show refT (fun r => decide (findR A r.pf = none)) [] = [] from rfl, List.append_nil]
        refine Next.weakS [5] [] (by rfl) (by first | exact keeps0 hC _ | exact keepsN hC _ rfl) (by repeat (first | exact trivial | refine ⟨⟨_, rfl, .inl ⟨rfl, rfl⟩⟩, ?_⟩ | refine ⟨⟨_, rfl, .inl ⟨slEq rfl tN, rfl⟩⟩, ?_⟩ | refine ⟨⟨_, rfl, .inl ⟨ivEq tX, rfl⟩⟩, ?_⟩)) (by repeat (first | exact trivial | refine ⟨ent_same rfl rfl rfl tL, ?_⟩ | refine ⟨ent_same rfl rfl (rfEq rfl tU) tL, ?_⟩ | refine ⟨ent_same rfl rfl (flEq rfl (by first | (simp; done) | (simp; omega) | (simp [encHo, encRt, encP]; done) | simp [maxC, minC])) trivial, ?_⟩)) rfl (rel_intro)
      · intro i hi K hK
        have hol := refT_len (fun r => decide (findR A r.pf = none)) (B.take i)
        rw [List.length_take, Nat.min_eq_left hi] at hol
        refine nK ?_
        refine s_reg rfl ?_
        refine Run.pure (dd := some 48) rfl rfl (op_lss rfl (Opd.tmp _ _ rfl) (Opd.tmp _ _ rfl)) ?_
        refine Run.nil (FinR.mk ?_)
        refine nK ?_
        refine n_cond _ rfl (fun hb => ?_) (fun hb => ?_)
        · have hlt : i < B.length := by simp at hb; omega
          have hr1 := row_at' encRt B i hlt
          have hK1 := hK (i + 1) (by omega) (by omega)
          rw [refT_take _ hlt, ← List.append_assoc] at hK1
          have hol2 : (c ++ refT (fun r => decide (findR A r.pf = none)) (B.take i)).length ≤ 8000 := by simp; omega
          generalize c ++ refT (fun r => decide (findR A r.pf = none)) (B.take i) = o at *
          generalize B[i] = x at *
          have kf := find_c A x.pf lA
          have hc : (!(findR A x.pf).isSome) = decide (findR A x.pf = none) := by cases findR A x.pf <;> simp
          refine nK ?_
          refine s_reg rfl ?_
          refine Run.pure (dd := some 49) rfl rfl (op_idx_fz _ rfl (Opd.tmp _ _ rfl) (Opd.tmp _ _ rfl) tF) ?_
          refine Run.pure (dd := some 50) rfl rfl (op_loadw_fz rfl (Opd.tmp _ _ rfl) rfl) ?_
          refine Run.eff (dd := some 11) rfl rfl (op_alloc rfl rfl rfl rfl) ?_
          refine Run.eff (dd := none) rfl rfl (op_store_flat rfl (Opd.tmp _ _ rfl) (Opd.tmp _ _ rfl) tC rfl rfl (by first | rfl | assumption) tS) ?_
          refine Run.nil (FinR.mk ?_)
          refine nK ?_
          refine s_reg rfl ?_
          refine Run.pure (dd := some 52) rfl rfl (op_move rfl (Opd.tmp _ _ rfl)) ?_
          refine Run.pure (dd := some 53) rfl rfl (op_fld_ptr (by decide) rfl (Opd.tmp _ _ rfl)) ?_
          refine Run.load (dd := some 54) rfl rfl (op_loadn_flat rfl (Opd.tmp _ _ rfl) tH tR tR) ?_
          refine Run.pure (dd := some 55) rfl rfl (op_call_pure (fun _ => kf) rfl (Opd.func _) (Opds.cons _ _ _ _ (Opd.tmp _ _ rfl) (Opds.cons _ _ _ _ (Opd.tmp _ _ rfl) Opds.nil))) ?_
          refine Run.pure (dd := some 51) rfl rfl (op_move rfl (Opd.tmp _ _ rfl)) ?_
          refine Run.pure (dd := some 56) rfl rfl (op_extract_fz rfl (Opd.tmp _ _ rfl) rfl) ?_
          refine Run.pure (dd := some 57) rfl rfl (op_extract_fz rfl (Opd.tmp _ _ rfl) rfl) ?_
          refine Run.eff (dd := some 12) rfl rfl (op_alloc rfl rfl rfl rfl) ?_
          refine Run.eff (dd := none) rfl rfl (op_store_flat rfl (Opd.tmp _ _ rfl) (Opd.tmp _ _ rfl) tC rfl rfl (by first | rfl | assumption) tS) ?_
          refine Run.pure (dd := some 13) rfl rfl (op_assign rfl (Opd.tmp _ _ rfl)) ?_
          refine Run.nil (FinR.mk ?_)
          refine nK ?_
          refine s_reg rfl ?_
          refine Run.pure (dd := some 58) rfl rfl (op_move rfl (Opd.tmp _ _ rfl)) ?_
          refine Run.pure (dd := some 59) rfl rfl (op_not rfl (Opd.tmp _ _ rfl)) ?_
          refine Run.nil (FinR.mk ?_)
          refine nK ?_
          refine n_cond _ rfl (fun hb => ?_) (fun hb => ?_)
          · have hb' : (!(findR A x.pf).isSome) = true := hb
            rw [if_pos (hc.symm.trans hb')] at hK1
            unfold OPf at hK1
            rw [app1, app2] at hK1
            refine nK ?_
            refine s_reg rfl ?_
            refine Run.pure (dd := some 60) rfl rfl (op_move rfl (Opd.tmp _ _ rfl)) ?_
            refine Run.pure (dd := some 61) rfl rfl (op_fld_ptr (by decide) rfl (Opd.tmp _ _ rfl)) ?_
            refine Run.load (dd := some 62) rfl rfl (op_loadn_flat rfl (Opd.tmp _ _ rfl) tH tR tR) ?_
            refine Run.pure (dd := some 63) rfl rfl (op_buildSlice_fz rfl (RowsF.cons _ _ _ _ _ _ (Opd.tmp _ _ rfl) tC (by rfl) (RowsF.nil _)) rfl rfl) ?_
            refine Run.eff (dd := some 64) rfl rfl (op_append rfl (Opd.tmp _ _ rfl) (Opd.tmp _ _ rfl) rfl (by simp) rfl rfl tB tB) ?_
            refine Run.pure (dd := some 5) rfl rfl (op_assign rfl (Opd.tmp _ _ rfl)) ?_
            refine Run.nil (FinR.mk ?_)
            refine nK ?_
            refine s_reg rfl ?_
            refine Run.pure (dd := some 65) rfl rfl (op_add rfl (Opd.tmp _ _ rfl) (Opd.const _) tI) ?_
            refine Run.pure (dd := some 47) rfl rfl (op_move rfl (Opd.tmp _ _ rfl)) ?_
            refine Run.nil (FinR.mk ?_)
            refine nK ?_
            refine Next.weakS [5] [] (by rfl) (by first | exact keeps0 hC _ | exact keepsN hC _ rfl) (by repeat (first | exact trivial | refine ⟨⟨_, rfl, .inl ⟨rfl, rfl⟩⟩, ?_⟩ | refine ⟨⟨_, rfl, .inl ⟨slEq rfl tN, rfl⟩⟩, ?_⟩ | refine ⟨⟨_, rfl, .inl ⟨ivEq tX, rfl⟩⟩, ?_⟩)) (by repeat (first | exact trivial | refine ⟨ent_same rfl rfl rfl tL, ?_⟩ | refine ⟨ent_same rfl rfl (rfEq rfl tU) tL, ?_⟩ | refine ⟨ent_same rfl rfl (flEq rfl (by first | (simp; done) | (simp; omega) | (simp [encHo, encRt, encP]; done) | simp [maxC, minC])) trivial, ?_⟩)) rfl (hK1)
          · have hb' : (!(findR A x.pf).isSome) = false := hb
            rw [if_neg (by rw [← hc, hb']; decide), List.append_nil] at hK1
            refine nK ?_
            refine s_reg rfl ?_
            refine Run.pure (dd := some 65) rfl rfl (op_add rfl (Opd.tmp _ _ rfl) (Opd.const _) tI) ?_
            refine Run.pure (dd := some 47) rfl rfl (op_move rfl (Opd.tmp _ _ rfl)) ?_
            refine Run.nil (FinR.mk ?_)
            refine nK ?_
            refine Next.weakS [5] [] (by rfl) (by first | exact keeps0 hC _ | exact keepsN hC _ rfl) (by repeat (first | exact trivial | refine ⟨⟨_, rfl, .inl ⟨rfl, rfl⟩⟩, ?_⟩ | refine ⟨⟨_, rfl, .inl ⟨slEq rfl tN, rfl⟩⟩, ?_⟩ | refine ⟨⟨_, rfl, .inl ⟨ivEq tX, rfl⟩⟩, ?_⟩)) (by repeat (first | exact trivial | refine ⟨ent_same rfl rfl rfl tL, ?_⟩ | refine ⟨ent_same rfl rfl (rfEq rfl tU) tL, ?_⟩ | refine ⟨ent_same rfl rfl (flEq rfl (by first | (simp; done) | (simp; omega) | (simp [encHo, encRt, encP]; done) | simp [maxC, minC])) trivial, ?_⟩)) rfl (hK1)
        · have hie : i = B.length := by simp at hb; omega
          rw [hie, List.take_length]
          clear hK hol
          have hlb := refT_len (fun r => decide (findR A r.pf = none)) B
          generalize refT (fun r => decide (findR A r.pf = none)) B = d at *
          have kso := rsort_c (c ++ d) (by simp; omega)
          refine nK ?_
          refine Next.weakS [] [5] (by rfl) (keeps0 hC _) (G' := [(5, .fz (VP (c ++ d)))]) (H' := []) (by repeat (first | exact trivial | refine ⟨⟨_, rfl, .inl ⟨rfl, rfl⟩⟩, ?_⟩ | refine ⟨⟨_, rfl, .inl ⟨slEq rfl tN, rfl⟩⟩, ?_⟩ | refine ⟨⟨_, rfl, .inl ⟨ivEq tX, rfl⟩⟩, ?_⟩ | refine ⟨⟨_, rfl, .inr ⟨_, rfl, tW⟩⟩, ?_⟩)) trivial rfl ?_
          refine nK ?_
          refine s_reg rfl ?_
          refine Run.pure (dd := some 66) rfl rfl (op_move rfl (Opd.tmp _ _ rfl)) ?_
          refine Run.pure (dd := some 67) rfl rfl (op_call_pure (fun _ => kso) rfl (Opd.func _) (Opds.cons _ _ _ _ (Opd.tmp _ _ rfl) Opds.nil)) ?_
          refine Run.pure (dd := some 4) rfl rfl (op_assign rfl (Opd.tmp _ _ rfl)) ?_
          refine Run.nil (FinR.mk ?_)
          refine nK ?_
          (first | exact s_o1 hC rfl tV | exact s_o2 hC rfl tV tV | exact s_o3 hC rfl tV tV tV | exact s_o4 hC rfl tV tV tV tV | exact s_out0 hC rfl | exact s_outO hC rfl rfl rfl)
open Go Go.RT Go.Proofs Go.Pl
set_option maxRecDepth 20000
theorem same_any (a b : List Pfx) (ha : a.length ≤ 9000) (hb0 : b.length ≤ 9000) : Pure Try.prog 22 [VP a, VP b] (Bf (decide (a = b))) := by
  refine Meets.intro Try.func22 rfl (Nat.le_of_ble_eq_true rfl) fun C hC => ?_
  simp only [List.map, argEnv, Nat.reduceAdd]
  refine nK ?_
  refine s_reg rfl ?_
  refine Run.pure (dd := some 4) rfl rfl (op_assign rfl (Opd.const _)) ?_
  refine Run.nil (FinR.mk ?_)
  refine nK ?_
  refine s_reg rfl ?_
  refine Run.pure (dd := some 7) rfl rfl (op_move rfl (Opd.tmp _ _ rfl)) ?_
  refine Run.pure (dd := some 8) rfl rfl (op_len_fz rfl (by first | exact Opd.tmp _ _ rfl | exact Opd.nil _ _ (Opd.tmp _ _ rfl)) (by first | exact List.length_map _ | rfl)) ?_
  refine Run.pure (dd := some 9) rfl rfl (op_move rfl (Opd.tmp _ _ rfl)) ?_
  refine Run.pure (dd := some 10) rfl rfl (op_len_fz rfl (by first | exact Opd.tmp _ _ rfl | exact Opd.nil _ _ (Opd.tmp _ _ rfl)) (by first | exact List.length_map _ | rfl)) ?_
  refine Run.pure (dd := some 11) rfl rfl (op_neq rfl (Opd.tmp _ _ rfl) (Opd.tmp _ _ rfl)) ?_
  refine Run.nil (FinR.mk ?_)
  refine nK ?_
  refine n_cond _ rfl (fun hb => ?_) (fun hb => ?_)
  · have e : decide (a = b) = false := by
      rw [decide_eq_false_iff_not]; rintro rfl; simp at hb
    rw [e]
    refine nK ?_
    refine s_reg rfl ?_
    refine Run.pure (dd := some 4) rfl rfl (op_assign rfl (Opd.const _)) ?_
    refine Run.nil (FinR.mk ?_)
    refine nK ?_
    (first | exact s_o1 hC rfl tV | exact s_o2 hC rfl tV tV | exact s_o3 hC rfl tV tV tV | exact s_o4 hC rfl tV tV tV tV | exact s_out0 hC rfl | exact s_outO hC rfl rfl rfl)
  · have hl : a.length = b.length := by simp at hb; omega
    refine nK ?_
    refine s_reg rfl ?_
    refine Run.pure (dd := some 12) rfl rfl (op_move rfl (Opd.tmp _ _ rfl)) ?_
    refine Run.pure (dd := some 13) rfl rfl (op_len_fz rfl (by first | exact Opd.tmp _ _ rfl | exact Opd.nil _ _ (Opd.tmp _ _ rfl)) (by first | exact List.length_map _ | rfl)) ?_
    refine Run.pure (dd := some 14) rfl rfl (op_move rfl (Opd.const _)) ?_
    refine Run.nil (FinR.mk ?_)
    refine nK ?_
    refine n_loop (ι := Nat) (fun i => ([(0, .fz (VP a)), (1, .fz (VP b)), (12, .fz (VP a)), (13, IV .i64 a.length), (14, IV .i64 i)], [], 0)) (fun i => i ≤ a.length ∧ (a = b ↔ a.drop i = b.drop i)) (fun i => a.length - i) 0 ⟨Nat.zero_le _, Iff.rfl⟩ ?_ ?_
    · refine Next.weak [] [] (by rfl) (keeps0 hC _) (by repeat (first | exact trivial | refine ⟨⟨_, rfl, .inl ⟨rfl, rfl⟩⟩, ?_⟩)) (by repeat (first | exact trivial | refine ⟨ent_same rfl rfl rfl tL, ?_⟩ | refine ⟨ent_same rfl rfl (rfEq rfl tU) tL, ?_⟩ | refine ⟨ent_same rfl rfl (flEq rfl (by first | (simp; done) | (simp; omega) | (simp [encHo, encRt, encP]; done) | simp [maxC, minC])) trivial, ?_⟩)) (fun _ h => by simp at h) rel_intro
    · intro i ⟨hi, ho⟩ K hK
      refine nK ?_
      refine s_reg rfl ?_
      refine Run.pure (dd := some 15) rfl rfl (op_lss rfl (Opd.tmp _ _ rfl) (Opd.tmp _ _ rfl)) ?_
      refine Run.nil (FinR.mk ?_)
      refine nK ?_
      refine n_cond _ rfl (fun hb => ?_) (fun hb => ?_)
      · have hlt : i < a.length := by simp at hb; omega
        have hlt2 : i < b.length := by omega
        rw [drop_eq hlt hlt2] at ho
        have hr1 := row_at' encP a i hlt
        have hr2 := row_at' encP b i hlt2
        have hK1 := fun h => hK (i + 1) ⟨by omega, h⟩ (by omega)
        generalize a[i] = x at *
        generalize b[i] = y at *
        refine nK ?_
        refine s_reg rfl ?_
        refine Run.pure (dd := some 16) rfl rfl (op_move rfl (Opd.tmp _ _ rfl)) ?_
        refine Run.pure (dd := some 17) rfl rfl (op_idx_fz _ rfl (Opd.tmp _ _ rfl) (Opd.tmp _ _ rfl) tF) ?_
        refine Run.pure (dd := some 18) rfl rfl (op_loadw_fz rfl (Opd.tmp _ _ rfl) rfl) ?_
        refine Run.eff (dd := some 6) rfl rfl (op_alloc rfl rfl rfl rfl) ?_
        refine Run.pure (dd := some 5) rfl rfl (op_assign rfl (Opd.tmp _ _ rfl)) ?_
        refine Run.eff (dd := none) rfl rfl (op_store_flat rfl (Opd.tmp _ _ rfl) (Opd.tmp _ _ rfl) tC rfl rfl (by first | rfl | assumption) tS) ?_
        refine Run.nil (FinR.mk ?_)
        refine nK ?_
        refine s_draw mixed ?_
        refine Run.load (dd := some 19) rfl rfl (op_loadw_flat rfl (Opd.tmp _ _ rfl) tH rfl) ?_
        refine Run.pure (dd := some 20) rfl rfl (op_move rfl (Opd.tmp _ _ rfl)) ?_
        refine Run.pure (dd := some 21) rfl rfl (op_move rfl (Opd.tmp _ _ rfl)) ?_
        refine Run.pure (dd := some 22) rfl rfl (op_idx_fz _ rfl (Opd.tmp _ _ rfl) (Opd.tmp _ _ rfl) tF) ?_
        refine Run.pure (dd := some 23) rfl rfl (op_loadw_fz rfl (Opd.tmp _ _ rfl) rfl) ?_
        refine Run.pure (dd := some 24) rfl rfl (op_neS rfl (Opd.tmp _ _ rfl) (Opd.tmp _ _ rfl) (by kernel_rfl)) ?_
        refine Run.nil (FinD.mk (by kernel_rfl) ?_)
        refine nK ?_
        refine n_cond _ rfl (fun hb => ?_) (fun hb => ?_)
        · rw [eqFs_encP] at hb
          have e : decide (a = b) = false := by
            rw [decide_eq_false_iff_not, ho]; simp at hb; exact fun h => hb h.1
          rw [e]
          refine nK ?_
          refine s_reg rfl ?_
          refine Run.pure (dd := some 4) rfl rfl (op_assign rfl (Opd.const _)) ?_
          refine Run.nil (FinR.mk ?_)
          refine nK ?_
          (first | exact s_o1 hC rfl tV | exact s_o2 hC rfl tV tV | exact s_o3 hC rfl tV tV tV | exact s_o4 hC rfl tV tV tV tV | exact s_out0 hC rfl | exact s_outO hC rfl rfl rfl)
        · rw [eqFs_encP] at hb
          refine nK ?_
          refine s_reg rfl ?_
          refine Run.pure (dd := some 25) rfl rfl (op_add rfl (Opd.tmp _ _ rfl) (Opd.const _) tI) ?_
          refine Run.pure (dd := some 14) rfl rfl (op_move rfl (Opd.tmp _ _ rfl)) ?_
          refine Run.nil (FinR.mk ?_)
          refine nK ?_
          refine Next.weak [] [] (by rfl) (keeps0 hC _) (by repeat (first | exact trivial | refine ⟨⟨_, rfl, .inl ⟨rfl, rfl⟩⟩, ?_⟩)) (by repeat (first | exact trivial | refine ⟨ent_same rfl rfl rfl tL, ?_⟩ | refine ⟨ent_same rfl rfl (rfEq rfl tU) tL, ?_⟩ | refine ⟨ent_same rfl rfl (flEq rfl (by first | (simp; done) | (simp; omega) | (simp [encHo, encRt, encP]; done) | simp [maxC, minC])) trivial, ?_⟩)) (fun _ h => by simp at h) (hK1 (ho.trans ⟨fun h => h.2, fun h => ⟨by simpa using hb, h⟩⟩))
      · have hie : i = a.length := by simp at hb; omega
        have e : decide (a = b) = true := by
          rw [decide_eq_true_iff, ho, hie, List.drop_length, hl, List.drop_length]
        rw [e]
        refine nK ?_
        refine s_reg rfl ?_
        refine Run.pure (dd := some 4) rfl rfl (op_assign rfl (Opd.const _)) ?_
        refine Run.nil (FinR.mk ?_)
        refine nK ?_
        (first | exact s_o1 hC rfl tV | exact s_o2 hC rfl tV tV | exact s_o3 hC rfl tV tV tV | exact s_o4 hC rfl tV tV tV tV | exact s_out0 hC rfl | exact s_outO hC rfl rfl rfl)
end Go.Proofs.Ytinddhlmgiahiaa
/- The chapter's examples. No program in sight. -/
namespace Go.Pl
open Go Go.RT
set_option linter.all false
def tenP : Pfx := ⟨167772160, 8⟩
def exA : Rte := ⟨tenP, 7, 200, 0, 0, []⟩
def exB : Rte := ⟨tenP, 3, 110, 0, 0, [⟨0, 1, 0, 1, ⟨0, 0⟩⟩]⟩
theorem ex1 : putRt [] exA = ([exA], 0) := by decide +kernel
theorem ex2 : putRt [exA] exB = ([exB, exA], 0) := by decide +kernel
theorem ex3 : activeF [exB, exA] = [exB] := by decide +kernel
theorem ex4 : (changesF [exB] []).length = 1 := by decide +kernel
end Go.Pl
namespace Go.Proofs.Ytinddhlmgiahiaa
open Go Go.RT Go.Proofs Go.Pl
set_option linter.all false
set_option maxRecDepth 20000
theorem ten_c : Pure Try.prog 28 [] (.agg (encP tenP)) := by
  refine Meets.intro Try.func28 rfl (Nat.le_of_ble_eq_true rfl) fun C hC => ?_
  simp only [List.map, argEnv, Nat.reduceAdd]
  refine nK ?_
  refine s_reg rfl ?_
  refine Run.eff (dd := some 0) rfl rfl (op_alloc rfl rfl rfl rfl) ?_
  refine Run.nil (FinR.mk ?_)
  refine nK ?_
  refine s_reg rfl ?_
  refine Run.pure (dd := some 1) rfl rfl (op_build rfl rfl rfl (FillF.cons _ _ _ _ _ _ _ _ _ _ (by rfl) (Opd.const _) tC (by rfl) tR (FillF.cons _ _ _ _ _ _ _ _ _ _ (by rfl) (Opd.const _) tC (by rfl) tR (FillF.nil _)))) ?_
  refine Run.eff (dd := none) rfl rfl (op_store_flat rfl (Opd.tmp _ _ rfl) (Opd.tmp _ _ rfl) tC rfl rfl (by first | rfl | assumption) tS) ?_
  refine Run.nil (FinR.mk ?_)
  refine nK ?_
  (first | exact s_o1 hC rfl tV | exact s_o2 hC rfl tV tV | exact s_o3 hC rfl tV tV tV | exact s_o4 hC rfl tV tV tV tV | exact s_out0 hC rfl | exact s_outO hC rfl rfl rfl)
theorem zk : zOk #[Value.int .u32 0, .int .i64 0, .int .i64 0, .int .i64 0, .int .i64 0, .int .i64 0, .slice none 0 0].toList (encRt zRte) := ⟨.inl rfl, .inl rfl, .inl rfl, .inl rfl, .inl rfl, .inl rfl, .inr ⟨6, rfl, rfl⟩, trivial⟩
theorem lenOk' {n : Nat} (h : n ≤ 1000) : lenOk n := by unfold lenOk; omega
theorem awake_c : Pure Try.prog 10 [] (Bf true) := by
  have oA : okRt exA := by simp [okRt, exA, tenP, Pfx.ok, inr]
  have oB : okRt exB := by simp [okRt, okHo, exB, tenP, Pfx.ok, inr]
  have k1 := put_c [] exA (by simp) (by simp) (by simp) oA (lenOk' (by decide))
  have k2 := put_c [exA] exB (by simpa using oA) (by intro x hx; simp at hx; subst hx; exact lenOk' (by decide)) (by simp) oB (lenOk' (by decide))
  have k3 := active_c [exB, exA] (by intro x hx; simp at hx; rcases hx with rfl | rfl <;> first | exact oB | exact oA) (by intro x hx; simp at hx; rcases hx with rfl | rfl <;> exact lenOk' (by decide)) (by simp)
  have k4 := samert_c exB exB (lenOk' (by decide)) (lenOk' (by decide))
  have k5 := samert_c exA exB (lenOk' (by decide)) (lenOk' (by decide))
  have k6 := dist_c [] 6 (lenOk' (by decide))
  have k7 := dist_c [5] 1 (lenOk' (by decide))
  have k8 := dist_c [5] 2 (lenOk' (by decide))
  have k9 := chg_c [exB] [] (by intro x hx; simp at hx; subst hx; exact oB) (by intro x hx; simp at hx; subst hx; exact lenOk' (by decide)) (by simp) (by simp) (by simp) (by simp)
  rw [ex1] at k1
  rw [ex2] at k2
  rw [ex3] at k3
  rw [show decide (exB = exB) = true by simp] at k4
  rw [show decide (exA = exB) = false by decide] at k5
  rw [show distF [] 6 = 20 by decide] at k6
  rw [show distF [5] 1 = 5 by decide] at k7
  rw [show distF [5] 2 = 1 by decide] at k8
  have e4 := ex4
  generalize changesF [exB] [] = ch at *
  refine Meets.intro Try.func10 rfl (Nat.le_of_ble_eq_true rfl) fun C hC => ?_
  simp only [List.map, argEnv, Nat.reduceAdd]
  refine nK ?_
  refine s_reg rfl ?_
  refine Run.pure (dd := some 0) rfl rfl (op_assign rfl (Opd.const _)) ?_
  refine Run.nil (FinR.mk ?_)
  refine nK ?_
  refine s_reg rfl ?_
  refine Run.pure (dd := some 7) rfl rfl (op_call_pure (fun _ => ten_c) rfl (Opd.func _) Opds.nil) ?_
  refine Run.pure (dd := some 8) rfl rfl (op_buildZ (encRt zRte) rfl rfl (by exact zk) (FillF.cons _ _ _ _ _ _ _ _ _ _ (by rfl) (Opd.tmp _ _ rfl) tC (by rfl) tR (FillF.cons _ _ _ _ _ _ _ _ _ _ (by rfl) (Opd.const _) tC (by rfl) tR (FillF.cons _ _ _ _ _ _ _ _ _ _ (by rfl) (Opd.const _) tC (by rfl) tR (FillF.nil _))))) ?_
  refine Run.eff (dd := some 1) rfl rfl (op_alloc rfl rfl rfl rfl) ?_
  refine Run.eff (dd := none) rfl rfl (op_store_flat rfl (Opd.tmp _ _ rfl) (Opd.tmp _ _ rfl) tC rfl rfl (by first | rfl | assumption) tS) ?_
  refine Run.nil (FinR.mk ?_)
  refine nK ?_
  refine s_reg rfl ?_
  refine Run.pure (dd := some 9) rfl rfl (op_call_pure (fun _ => ten_c) rfl (Opd.func _) Opds.nil) ?_
  refine Run.pure (dd := some 10) rfl rfl (op_build rfl rfl rfl (FillF.cons _ _ _ _ _ _ _ _ _ _ (by rfl) (Opd.const _) tC (by rfl) tR (FillF.cons _ _ _ _ _ _ _ _ _ _ (by rfl) (Opd.const _) tC (by rfl) tR (FillF.nil _)))) ?_
  refine Run.pure (dd := some 11) rfl rfl (op_buildSlice_fz rfl (RowsF.cons _ _ _ _ _ _ (Opd.tmp _ _ rfl) tC (by rfl) (RowsF.nil _)) rfl rfl) ?_
  refine Run.pure (dd := some 12) rfl rfl (op_buildZ (encRt zRte) rfl rfl (by exact zk) (FillF.cons _ _ _ _ _ _ _ _ _ _ (by rfl) (Opd.tmp _ _ rfl) tC (by rfl) tR (FillF.cons _ _ _ _ _ _ _ _ _ _ (by rfl) (Opd.const _) tC (by rfl) tR (FillF.cons _ _ _ _ _ _ _ _ _ _ (by rfl) (Opd.const _) tC (by rfl) tR (FillF.cons _ _ _ _ _ _ _ _ _ _ (by rfl) (Opd.tmp _ _ rfl) tC (by rfl) tR (FillF.nil _)))))) ?_
  refine Run.eff (dd := some 2) rfl rfl (op_alloc rfl rfl rfl rfl) ?_
  refine Run.eff (dd := none) rfl rfl (op_store_flat rfl (Opd.tmp _ _ rfl) (Opd.tmp _ _ rfl) tC rfl rfl (by first | rfl | assumption) tS) ?_
  refine Run.nil (FinR.mk ?_)
  refine nK ?_
  refine s_reg rfl ?_
  refine Run.load (dd := some 14) rfl rfl (op_loadw_flat rfl (Opd.tmp _ _ rfl) tH rfl) ?_
  refine Run.pure (dd := some 15) rfl rfl (op_call_pure (fun _ => k1) rfl (Opd.func _) (Opds.cons _ _ _ _ (Opd.nil _ _ (Opd.const _)) (Opds.cons _ _ _ _ (Opd.tmp _ _ rfl) Opds.nil))) ?_
  refine Run.pure (dd := some 13) rfl rfl (op_move rfl (Opd.tmp _ _ rfl)) ?_
  refine Run.pure (dd := some 16) rfl rfl (op_extract_fz rfl (Opd.tmp _ _ rfl) rfl) ?_
  refine Run.pure (dd := some 17) rfl rfl (op_extract_fz rfl (Opd.tmp _ _ rfl) rfl) ?_
  refine Run.pure (dd := some 3) rfl rfl (op_assign rfl (Opd.tmp _ _ rfl)) ?_
  refine Run.pure (dd := some 4) rfl rfl (op_assign rfl (Opd.tmp _ _ rfl)) ?_
  refine Run.nil (FinR.mk ?_)
  refine nK ?_
  refine s_reg rfl ?_
  refine Run.pure (dd := some 19) rfl rfl (op_move rfl (Opd.tmp _ _ rfl)) ?_
  refine Run.load (dd := some 20) rfl rfl (op_loadw_flat rfl (Opd.tmp _ _ rfl) tH rfl) ?_
  refine Run.pure (dd := some 21) rfl rfl (op_call_pure (fun _ => k2) rfl (Opd.func _) (Opds.cons _ _ _ _ (Opd.tmp _ _ rfl) (Opds.cons _ _ _ _ (Opd.tmp _ _ rfl) Opds.nil))) ?_
  refine Run.pure (dd := some 18) rfl rfl (op_move rfl (Opd.tmp _ _ rfl)) ?_
  refine Run.pure (dd := some 22) rfl rfl (op_extract_fz rfl (Opd.tmp _ _ rfl) rfl) ?_
  refine Run.pure (dd := some 23) rfl rfl (op_extract_fz rfl (Opd.tmp _ _ rfl) rfl) ?_
  refine Run.pure (dd := some 3) rfl rfl (op_assign rfl (Opd.tmp _ _ rfl)) ?_
  refine Run.pure (dd := some 5) rfl rfl (op_assign rfl (Opd.tmp _ _ rfl)) ?_
  refine Run.nil (FinR.mk ?_)
  refine nK ?_
  refine s_reg rfl ?_
  refine Run.pure (dd := some 24) rfl rfl (op_move rfl (Opd.tmp _ _ rfl)) ?_
  refine Run.pure (dd := some 25) rfl rfl (op_call_pure (fun _ => k3) rfl (Opd.func _) (Opds.cons _ _ _ _ (Opd.tmp _ _ rfl) Opds.nil)) ?_
  refine Run.pure (dd := some 6) rfl rfl (op_assign rfl (Opd.tmp _ _ rfl)) ?_
  refine Run.nil (FinR.mk ?_)
  refine nK ?_
  refine s_draw mixed ?_
  refine Run.pure (dd := some 26) rfl rfl (op_move rfl (Opd.tmp _ _ rfl)) ?_
  refine Run.pure (dd := some 27) rfl rfl (op_eql rfl (Opd.tmp _ _ rfl) (Opd.const _)) ?_
  refine Run.pure (dd := some 28) rfl rfl (op_move rfl (Opd.tmp _ _ rfl)) ?_
  refine Run.pureG (dd := some 29) rfl rfl rfl tG (op_move rfl (Opd.tmp _ _ rfl)) ?_
  refine Run.pureG (dd := some 30) rfl rfl rfl tG (op_eql rfl (Opd.topt _ _ _ rfl tO) (Opd.const _)) ?_
  refine Run.pure (dd := some 31) rfl rfl (op_pick_and rfl (Opd.tmp _ _ rfl) (Opd.topt _ _ _ rfl tO)) ?_
  refine Run.pure (dd := some 32) rfl rfl (op_move rfl (Opd.tmp _ _ rfl)) ?_
  refine Run.pureG (dd := some 33) rfl rfl rfl tG (op_move rfl (Opd.tmp _ _ rfl)) ?_
  refine Run.pureG (dd := some 34) rfl rfl rfl tG (op_len_fz rfl (by first | exact Opd.topt _ _ _ rfl tO | exact Opd.nil _ _ (Opd.topt _ _ _ rfl tO)) (by first | exact List.length_map _ | rfl)) ?_
  refine Run.pureG (dd := some 35) rfl rfl rfl tG (op_eql rfl (Opd.topt _ _ _ rfl tO) (Opd.const _)) ?_
  refine Run.pure (dd := some 36) rfl rfl (op_pick_and rfl (Opd.tmp _ _ rfl) (Opd.topt _ _ _ rfl tO)) ?_
  refine Run.pure (dd := some 37) rfl rfl (op_move rfl (Opd.tmp _ _ rfl)) ?_
  refine Run.pureG (dd := some 38) rfl rfl rfl tG (op_move rfl (Opd.tmp _ _ rfl)) ?_
  refine Run.pureG (dd := some 39) rfl rfl rfl tG (op_len_fz rfl (by first | exact Opd.topt _ _ _ rfl tO | exact Opd.nil _ _ (Opd.topt _ _ _ rfl tO)) (by first | exact List.length_map _ | rfl)) ?_
  refine Run.pureG (dd := some 40) rfl rfl rfl tG (op_eql rfl (Opd.topt _ _ _ rfl tO) (Opd.const _)) ?_
  refine Run.pure (dd := some 41) rfl rfl (op_pick_and rfl (Opd.tmp _ _ rfl) (Opd.topt _ _ _ rfl tO)) ?_
  refine Run.pure (dd := some 42) rfl rfl (op_move rfl (Opd.tmp _ _ rfl)) ?_
  refine Run.pureG (dd := some 43) rfl rfl rfl tG (op_move rfl (Opd.tmp _ _ rfl)) ?_
  refine Run.pureG (dd := some 44) rfl rfl rfl tG (op_idx_fz _ rfl (Opd.topt _ _ _ rfl tO) (Opd.const _) tF) ?_
  refine Run.pureG (dd := some 45) rfl rfl rfl tG (op_loadw_fz rfl (Opd.topt _ _ _ rfl tO) rfl) ?_
  refine Run.loadG (dd := some 46) rfl rfl rfl tG (op_loadw_flat rfl (Opd.tmp _ _ rfl) tH rfl) ?_
  refine Run.pureG (dd := some 47) rfl rfl rfl tG (op_call_pure (fun _ => k4) rfl (Opd.func _) (Opds.cons _ _ _ _ (Opd.topt _ _ _ rfl tO) (Opds.cons _ _ _ _ (Opd.topt _ _ _ rfl tO) Opds.nil))) ?_
  refine Run.pure (dd := some 48) rfl rfl (op_pick_and rfl (Opd.tmp _ _ rfl) (Opd.topt _ _ _ rfl tO)) ?_
  refine Run.pure (dd := some 49) rfl rfl (op_move rfl (Opd.tmp _ _ rfl)) ?_
  refine Run.loadG (dd := some 50) rfl rfl rfl tG (op_loadw_flat rfl (Opd.tmp _ _ rfl) tH rfl) ?_
  refine Run.loadG (dd := some 51) rfl rfl rfl tG (op_loadw_flat rfl (Opd.tmp _ _ rfl) tH rfl) ?_
  refine Run.pureG (dd := some 52) rfl rfl rfl tG (op_call_pure (fun _ => k5) rfl (Opd.func _) (Opds.cons _ _ _ _ (Opd.topt _ _ _ rfl tO) (Opds.cons _ _ _ _ (Opd.topt _ _ _ rfl tO) Opds.nil))) ?_
  refine Run.pureG (dd := some 53) rfl rfl rfl tG (op_not rfl (Opd.topt _ _ _ rfl tO)) ?_
  refine Run.pure (dd := some 54) rfl rfl (op_pick_and rfl (Opd.tmp _ _ rfl) (Opd.topt _ _ _ rfl tO)) ?_
  refine Run.pure (dd := some 55) rfl rfl (op_move rfl (Opd.tmp _ _ rfl)) ?_
  refine Run.pureG (dd := some 56) rfl rfl rfl tG (op_call_pure (fun _ => k6) rfl (Opd.func _) (Opds.cons _ _ _ _ (Opd.nil _ _ (Opd.const _)) (Opds.cons _ _ _ _ (Opd.const _) Opds.nil))) ?_
  refine Run.pureG (dd := some 57) rfl rfl rfl tG (op_eql rfl (Opd.topt _ _ _ rfl tO) (Opd.const _)) ?_
  refine Run.pure (dd := some 58) rfl rfl (op_pick_and rfl (Opd.tmp _ _ rfl) (Opd.topt _ _ _ rfl tO)) ?_
  refine Run.pure (dd := some 59) rfl rfl (op_move rfl (Opd.tmp _ _ rfl)) ?_
  refine Run.pureG (dd := some 60) rfl rfl rfl tG (op_buildSlice_fz rfl (RowsF.cons _ _ _ _ _ _ (Opd.const _) tC (by rfl) (RowsF.nil _)) rfl rfl) ?_
  refine Run.pureG (dd := some 61) rfl rfl rfl tG (op_call_pure (fun _ => k7) rfl (Opd.func _) (Opds.cons _ _ _ _ (Opd.topt _ _ _ rfl tO) (Opds.cons _ _ _ _ (Opd.const _) Opds.nil))) ?_
  refine Run.pureG (dd := some 62) rfl rfl rfl tG (op_eql rfl (Opd.topt _ _ _ rfl tO) (Opd.const _)) ?_
  refine Run.pure (dd := some 63) rfl rfl (op_pick_and rfl (Opd.tmp _ _ rfl) (Opd.topt _ _ _ rfl tO)) ?_
  refine Run.pure (dd := some 64) rfl rfl (op_move rfl (Opd.tmp _ _ rfl)) ?_
  refine Run.pureG (dd := some 65) rfl rfl rfl tG (op_buildSlice_fz rfl (RowsF.cons _ _ _ _ _ _ (Opd.const _) tC (by rfl) (RowsF.nil _)) rfl rfl) ?_
  refine Run.pureG (dd := some 66) rfl rfl rfl tG (op_call_pure (fun _ => k8) rfl (Opd.func _) (Opds.cons _ _ _ _ (Opd.topt _ _ _ rfl tO) (Opds.cons _ _ _ _ (Opd.const _) Opds.nil))) ?_
  refine Run.pureG (dd := some 67) rfl rfl rfl tG (op_eql rfl (Opd.topt _ _ _ rfl tO) (Opd.const _)) ?_
  refine Run.pure (dd := some 68) rfl rfl (op_pick_and rfl (Opd.tmp _ _ rfl) (Opd.topt _ _ _ rfl tO)) ?_
  refine Run.pure (dd := some 69) rfl rfl (op_move rfl (Opd.tmp _ _ rfl)) ?_
  refine Run.pureG (dd := some 70) rfl rfl rfl tG (op_move rfl (Opd.tmp _ _ rfl)) ?_
  refine Run.pureG (dd := some 71) rfl rfl rfl tG (op_call_pure (fun _ => k9) rfl (Opd.func _) (Opds.cons _ _ _ _ (Opd.topt _ _ _ rfl tO) (Opds.cons _ _ _ _ (Opd.nil _ _ (Opd.const _)) Opds.nil))) ?_
  refine Run.pureG (dd := some 72) rfl rfl rfl tG (op_len_fz rfl (by first | exact Opd.topt _ _ _ rfl tO | exact Opd.nil _ _ (Opd.topt _ _ _ rfl tO)) (by first | exact List.length_map _ | rfl)) ?_
  refine Run.pureG (dd := some 73) rfl rfl rfl tG (op_eql rfl (Opd.topt _ _ _ rfl tO) (Opd.const _)) ?_
  refine Run.pure (dd := some 74) rfl rfl (op_pick_and rfl (Opd.tmp _ _ rfl) (Opd.topt _ _ _ rfl tO)) ?_
  refine Run.pure (dd := some 0) rfl rfl (op_assign rfl (Opd.tmp _ _ rfl)) ?_
  refine Run.nil (FinD.mk (by kernel_rfl) ?_)
  refine nK ?_
  refine s_oB hC rfl rfl ?_
  simp [e4, exA, exB]
end Go.Proofs.Ytinddhlmgiahiaa
/- Bounds of what the functions return; what the laws say. No program in sight. -/
namespace Go.Pl
open Go Go.RT
set_option linter.all false
theorem activeF_len (l : List Rte) : (activeF l).length ≤ l.length := by
  unfold activeF
  split
  · simp
  · exact act_len _ _
theorem activeF_sub {l : List Rte} {x : Rte} (h : x ∈ activeF l) : x ∈ l := by
  unfold activeF at h
  split at h
  · simp at h
  · exact (act_sub _ _).subset h
theorem putRt_len (l : List Rte) (r : Rte) : (putRt l r).1.length ≤ l.length + 1 := by
  unfold putRt
  split
  · simp
  · split
    · simp
    · split
      · simp
      · show (insRt r _).length ≤ _
        rw [ins_len]
        have := List.length_filter_le (fun x : Rte => !(decide (x.pf = r.pf) && decide (x.pr = r.pr))) l
        omega
theorem putRt_sub {l : List Rte} {r x : Rte} (h : x ∈ (putRt l r).1) : x = r ∨ x ∈ l := by
  unfold putRt at h
  split at h
  · simp at h
  · split at h
    · simp at h
    · split at h
      · simp at h
      · rcases mem_ins.1 h with h | h
        · exact .inl h
        · exact .inr (List.mem_filter.1 h).1
theorem insAll_sub {x : Rte} : ∀ {rs o : List Rte}, x ∈ insAll rs o → x ∈ rs ∨ x ∈ o
  | [], o, h => .inr h
  | r :: rs, o, h => by
    rcases insAll_sub (rs := rs) (o := insRt r o) h with k | k
    · exact .inl (List.mem_cons_of_mem _ k)
    · rcases mem_ins.1 k with rfl | k
      · exact .inl (List.mem_cons_self ..)
      · exact .inr k
theorem replF_len (l : List Rte) (n : Int) (rs : List Rte) : (replF l n rs).1.length ≤ l.length + rs.length := by
  unfold replF
  split
  · simp
  · split
    · simp
    · split
      · simp
      · split
        · simp
        · show (insAll rs _).length ≤ _
          rw [insAll_len]
          have := List.length_filter_le (fun x : Rte => !decide (x.pr = n)) l
          omega
theorem replF_sub {l : List Rte} {n : Int} {rs : List Rte} {x : Rte} (h : x ∈ (replF l n rs).1) : x ∈ rs ∨ x ∈ l := by
  unfold replF at h
  split at h
  · simp at h
  · split at h
    · simp at h
    · split at h
      · simp at h
      · split at h
        · simp at h
        · rcases insAll_sub (rs := rs) h with h | h
          · exact .inl h
          · exact .inr (List.mem_filter.1 h).1
theorem changesF_len (a b : List Rte) : (changesF a b).length ≤ a.length + b.length := by
  unfold changesF
  refine Nat.le_trans (sortPf_len _) (Nat.le_trans (List.length_filter_le _ _) ?_)
  simp
/-- replacing the routes of a protocol by those that the table has -/
theorem repl_own {l : List Rte} {n : Int} (h : TabOk l) (hn : outB n 1 7 = false) : replF l n (l.filter fun x => decide (x.pr = n)) = (l, 0) := by
  have h0 := (check_iff l).2 h
  have hown : (l.filter fun x => decide (x.pr = n)).Pairwise fun a b => a.pf ≠ b.pf := by
    have h1 := h.uni.filter (fun x => decide (x.pr = n))
    have h2 : ∀ x ∈ l.filter (fun x => decide (x.pr = n)), x.pr = n := fun x hx => by simpa using (List.mem_filter.1 hx).2
    generalize l.filter (fun x => decide (x.pr = n)) = s at *
    refine (List.pairwise_iff_getElem.2 fun i j hi hj hij => ?_)
    have := List.pairwise_iff_getElem.1 h1 i j hi hj hij
    exact fun e => this ⟨e, (h2 _ (List.getElem_mem hi)).trans (h2 _ (List.getElem_mem hj)).symm⟩
  have hr : replGo n [] (l.filter fun x => decide (x.pr = n)) = 0 := (repl_iff n _ []).2 ⟨fun x hx => by
    obtain ⟨k1, k2⟩ := List.mem_filter.1 hx
    exact ⟨h.chk x k1, by simpa using k2⟩, hown, by simp⟩
  have hsum : (l.filter fun x => !decide (x.pr = n)).length + (l.filter fun x => decide (x.pr = n)).length = l.length := by
    have : ∀ l : List Rte, (l.filter fun x => !decide (x.pr = n)).length + (l.filter fun x => decide (x.pr = n)).length = l.length := by
      intro l
      induction l with
      | nil => rfl
      | cons x l ih =>
        by_cases c : x.pr = n
        · simp [c]; omega
        · simp [c]; omega
    exact this l
  unfold replF
  rw [if_neg (by simp [h0]), if_neg (by simp [hn]), if_neg (by simp [hr]), if_neg (by have := h.len; omega)]
  have hi := insAll_ok (l.filter fun x => decide (x.pr = n)) (l.filter fun x => !decide (x.pr = n)) hown (h.asc.filter _) (fun r hr y hy k => by
    have h1 := (List.mem_filter.1 hr).2
    have h2 := (List.mem_filter.1 hy).2
    simp at h1 h2
    exact h2 (k.2.2.trans h1))
  have : insAll (l.filter fun x => decide (x.pr = n)) (l.filter fun x => !decide (x.pr = n)) = l := by
    refine asc_uniq hi.1 h.asc fun x => ?_
    rw [hi.2, List.mem_filter, List.mem_filter]
    by_cases c : x.pr = n <;> simp [c]
  show (insAll _ _, 0) = _
  rw [this]
end Go.Pl
namespace Go.Proofs.Ytinddhlmgiahiaa
open Go Go.RT Go.Proofs Go.Pl
set_option linter.all false
set_option maxRecDepth 20000
structure okL (l : List Rte) : Prop where
  ok : ∀ x ∈ l, okRt x
  hs : ∀ x ∈ l, lenOk x.hs.length
  len : lenOk l.length
theorem checks_law (l : List Rte) (ds : List Int) (p : Int) (h : okL l) (hd : lenOk ds.length) : Pure Try.prog 3 [VRt l, VI ds, If .i64 p] (Bf true) := by
  refine Meets.intro Try.func3 rfl (Nat.le_of_ble_eq_true rfl) fun C hC => ?_
  simp only [List.map, argEnv, Nat.reduceAdd]
  refine nK ?_
  refine s_reg rfl ?_
  refine Run.pure (dd := some 6) rfl rfl (op_assign rfl (Opd.const _)) ?_
  refine Run.nil (FinR.mk ?_)
  refine nK ?_
  refine s_reg rfl ?_
  refine Run.pure (dd := some 7) rfl rfl (op_move rfl (Opd.tmp _ _ rfl)) ?_
  refine Run.pure (dd := some 8) rfl rfl (op_len_fz rfl (by first | exact Opd.tmp _ _ rfl | exact Opd.nil _ _ (Opd.tmp _ _ rfl)) (by first | exact List.length_map _ | rfl)) ?_
  refine Run.pure (dd := some 9) rfl rfl (op_gtr rfl (Opd.tmp _ _ rfl) (Opd.const _)) ?_
  refine Run.nil (FinR.mk ?_)
  refine nK ?_
  refine n_cond _ rfl (fun hb => ?_) (fun hb => ?_)
  · refine nK ?_
    refine s_reg rfl ?_
    refine Run.pure (dd := some 10) rfl rfl (op_call_pure (fun _ => awake_c) rfl (Opd.func _) Opds.nil) ?_
    refine Run.pure (dd := some 6) rfl rfl (op_assign rfl (Opd.tmp _ _ rfl)) ?_
    refine Run.nil (FinR.mk ?_)
    refine nK ?_
    (first | exact s_o1 hC rfl tV | exact s_o2 hC rfl tV tV | exact s_o3 hC rfl tV tV tV | exact s_o4 hC rfl tV tV tV tV | exact s_out0 hC rfl | exact s_outO hC rfl rfl rfl)
  · have hl : l.length ≤ 100 := by simp at hb; omega
    have k1 := ckl_c l h.ok h.hs h.len
    have k2 := rckl_c l h.ok h.hs h.len
    have k3 := active_c l h.ok h.hs (by omega)
    have k4 := ractive_c l h.ok h.hs (by omega)
    have hla := activeF_len l
    have k5 := lsame_c (activeF l) (activeF l) (by unfold lenOk; omega) (by unfold lenOk; omega) (fun x hx => h.hs x (activeF_sub hx)) (fun x hx => h.hs x (activeF_sub hx))
    rw [show decide (activeF l = activeF l) = true by simp] at k5
    have k6 := dist_c ds p hd
    have k7 := rdist_c ds p hd
    refine nK ?_
    refine s_reg rfl ?_
    refine Run.pure (dd := some 11) rfl rfl (op_call_pure (fun _ => awake_c) rfl (Opd.func _) Opds.nil) ?_
    refine Run.pure (dd := some 12) rfl rfl (op_move rfl (Opd.tmp _ _ rfl)) ?_
    refine Run.pureG (dd := some 13) rfl rfl rfl tG (op_move rfl (Opd.tmp _ _ rfl)) ?_
    refine Run.pureG (dd := some 14) rfl rfl rfl tG (op_call_pure (fun _ => k1) rfl (Opd.func _) (Opds.cons _ _ _ _ (Opd.topt _ _ _ rfl tO) Opds.nil)) ?_
    refine Run.pureG (dd := some 15) rfl rfl rfl tG (op_move rfl (Opd.tmp _ _ rfl)) ?_
    refine Run.pureG (dd := some 16) rfl rfl rfl tG (op_call_pure (fun _ => k2) rfl (Opd.func _) (Opds.cons _ _ _ _ (Opd.topt _ _ _ rfl tO) Opds.nil)) ?_
    refine Run.pureG (dd := some 17) rfl rfl rfl tG (op_eql rfl (Opd.topt _ _ _ rfl tO) (Opd.topt _ _ _ rfl tO)) ?_
    refine Run.pure (dd := some 18) rfl rfl (op_pick_and rfl (Opd.tmp _ _ rfl) (Opd.topt _ _ _ rfl tO)) ?_
    refine Run.pure (dd := some 19) rfl rfl (op_move rfl (Opd.tmp _ _ rfl)) ?_
    refine Run.pureG (dd := some 20) rfl rfl rfl tG (op_move rfl (Opd.tmp _ _ rfl)) ?_
    refine Run.pureG (dd := some 21) rfl rfl rfl tG (op_call_pure (fun _ => k3) rfl (Opd.func _) (Opds.cons _ _ _ _ (Opd.topt _ _ _ rfl tO) Opds.nil)) ?_
    refine Run.pureG (dd := some 22) rfl rfl rfl tG (op_move rfl (Opd.tmp _ _ rfl)) ?_
    refine Run.pureG (dd := some 23) rfl rfl rfl tG (op_call_pure (fun _ => k4) rfl (Opd.func _) (Opds.cons _ _ _ _ (Opd.topt _ _ _ rfl tO) Opds.nil)) ?_
    refine Run.pureG (dd := some 24) rfl rfl rfl tG (op_call_pure (fun _ => k5) rfl (Opd.func _) (Opds.cons _ _ _ _ (Opd.topt _ _ _ rfl tO) (Opds.cons _ _ _ _ (Opd.topt _ _ _ rfl tO) Opds.nil))) ?_
    refine Run.pure (dd := some 25) rfl rfl (op_pick_and rfl (Opd.tmp _ _ rfl) (Opd.topt _ _ _ rfl tO)) ?_
    refine Run.pure (dd := some 26) rfl rfl (op_move rfl (Opd.tmp _ _ rfl)) ?_
    refine Run.pureG (dd := some 27) rfl rfl rfl tG (op_move rfl (Opd.tmp _ _ rfl)) ?_
    refine Run.pureG (dd := some 28) rfl rfl rfl tG (op_move rfl (Opd.tmp _ _ rfl)) ?_
    refine Run.pureG (dd := some 29) rfl rfl rfl tG (op_call_pure (fun _ => k6) rfl (Opd.func _) (Opds.cons _ _ _ _ (Opd.topt _ _ _ rfl tO) (Opds.cons _ _ _ _ (Opd.topt _ _ _ rfl tO) Opds.nil))) ?_
    refine Run.pureG (dd := some 30) rfl rfl rfl tG (op_move rfl (Opd.tmp _ _ rfl)) ?_
    refine Run.pureG (dd := some 31) rfl rfl rfl tG (op_move rfl (Opd.tmp _ _ rfl)) ?_
    refine Run.pureG (dd := some 32) rfl rfl rfl tG (op_call_pure (fun _ => k7) rfl (Opd.func _) (Opds.cons _ _ _ _ (Opd.topt _ _ _ rfl tO) (Opds.cons _ _ _ _ (Opd.topt _ _ _ rfl tO) Opds.nil))) ?_
    refine Run.pureG (dd := some 33) rfl rfl rfl tG (op_eql rfl (Opd.topt _ _ _ rfl tO) (Opd.topt _ _ _ rfl tO)) ?_
    refine Run.pure (dd := some 34) rfl rfl (op_pick_and rfl (Opd.tmp _ _ rfl) (Opd.topt _ _ _ rfl tO)) ?_
    refine Run.pure (dd := some 6) rfl rfl (op_assign rfl (Opd.tmp _ _ rfl)) ?_
    refine Run.nil (FinR.mk ?_)
    refine nK ?_
    refine s_oB hC rfl rfl ?_
    simp
theorem puts_law (l : List Rte) (r : Rte) (h : okL l) (hr : okRt r) (hrl : lenOk r.hs.length) : Pure Try.prog 4 [VRt l, .agg (encRt r)] (Bf true) := by
  refine Meets.intro Try.func4 rfl (Nat.le_of_ble_eq_true rfl) fun C hC => ?_
  simp only [List.map, argEnv, Nat.reduceAdd]
  refine nK ?_
  refine s_reg rfl ?_
  refine Run.eff (dd := some 3) rfl rfl (op_box_flat rfl (Opd.tmp _ _ rfl) tC rfl) ?_
  refine Run.pure (dd := some 4) rfl rfl (op_assign rfl (Opd.const _)) ?_
  refine Run.nil (FinR.mk ?_)
  refine nK ?_
  refine s_reg rfl ?_
  refine Run.pure (dd := some 9) rfl rfl (op_move rfl (Opd.tmp _ _ rfl)) ?_
  refine Run.pure (dd := some 10) rfl rfl (op_len_fz rfl (by first | exact Opd.tmp _ _ rfl | exact Opd.nil _ _ (Opd.tmp _ _ rfl)) (by first | exact List.length_map _ | rfl)) ?_
  refine Run.pure (dd := some 11) rfl rfl (op_gtr rfl (Opd.tmp _ _ rfl) (Opd.const _)) ?_
  refine Run.nil (FinR.mk ?_)
  refine nK ?_
  refine n_cond _ rfl (fun hb => ?_) (fun hb => ?_)
  · refine nK ?_
    refine s_reg rfl ?_
    refine Run.pure (dd := some 12) rfl rfl (op_call_pure (fun _ => awake_c) rfl (Opd.func _) Opds.nil) ?_
    refine Run.pure (dd := some 4) rfl rfl (op_assign rfl (Opd.tmp _ _ rfl)) ?_
    refine Run.nil (FinR.mk ?_)
    refine nK ?_
    (first | exact s_o1 hC rfl tV | exact s_o2 hC rfl tV tV | exact s_o3 hC rfl tV tV tV | exact s_o4 hC rfl tV tV tV tV | exact s_out0 hC rfl | exact s_outO hC rfl rfl rfl)
  · have hl : l.length ≤ 100 := by simp at hb; omega
    have k1 := put_c l r h.ok h.hs (by omega) hr hrl
    have k2 := rput_c l r h.ok h.hs (by omega) hr hrl
    have hla := putRt_len l r
    have hv : ∀ x ∈ (putRt l r).1, lenOk x.hs.length := fun x hx => by
      rcases putRt_sub hx with rfl | hx
      · exact hrl
      · exact h.hs x hx
    have k5 := lsame_c (putRt l r).1 (putRt l r).1 (by unfold lenOk; omega) (by unfold lenOk; omega) hv hv
    rw [show decide ((putRt l r).1 = (putRt l r).1) = true by simp] at k5
    refine nK ?_
    refine s_reg rfl ?_
    refine Run.pure (dd := some 14) rfl rfl (op_move rfl (Opd.tmp _ _ rfl)) ?_
    refine Run.load (dd := some 15) rfl rfl (op_loadw_flat rfl (Opd.tmp _ _ rfl) tH rfl) ?_
    refine Run.pure (dd := some 16) rfl rfl (op_call_pure (fun _ => k1) rfl (Opd.func _) (Opds.cons _ _ _ _ (Opd.tmp _ _ rfl) (Opds.cons _ _ _ _ (Opd.tmp _ _ rfl) Opds.nil))) ?_
    refine Run.pure (dd := some 13) rfl rfl (op_move rfl (Opd.tmp _ _ rfl)) ?_
    refine Run.pure (dd := some 17) rfl rfl (op_extract_fz rfl (Opd.tmp _ _ rfl) rfl) ?_
    refine Run.pure (dd := some 18) rfl rfl (op_extract_fz rfl (Opd.tmp _ _ rfl) rfl) ?_
    refine Run.pure (dd := some 5) rfl rfl (op_assign rfl (Opd.tmp _ _ rfl)) ?_
    refine Run.pure (dd := some 6) rfl rfl (op_assign rfl (Opd.tmp _ _ rfl)) ?_
    refine Run.nil (FinR.mk ?_)
    refine nK ?_
    refine s_reg rfl ?_
    refine Run.pure (dd := some 20) rfl rfl (op_move rfl (Opd.tmp _ _ rfl)) ?_
    refine Run.load (dd := some 21) rfl rfl (op_loadw_flat rfl (Opd.tmp _ _ rfl) tH rfl) ?_
    refine Run.pure (dd := some 22) rfl rfl (op_call_pure (fun _ => k2) rfl (Opd.func _) (Opds.cons _ _ _ _ (Opd.tmp _ _ rfl) (Opds.cons _ _ _ _ (Opd.tmp _ _ rfl) Opds.nil))) ?_
    refine Run.pure (dd := some 19) rfl rfl (op_move rfl (Opd.tmp _ _ rfl)) ?_
    refine Run.pure (dd := some 23) rfl rfl (op_extract_fz rfl (Opd.tmp _ _ rfl) rfl) ?_
    refine Run.pure (dd := some 24) rfl rfl (op_extract_fz rfl (Opd.tmp _ _ rfl) rfl) ?_
    refine Run.pure (dd := some 7) rfl rfl (op_assign rfl (Opd.tmp _ _ rfl)) ?_
    refine Run.pure (dd := some 8) rfl rfl (op_assign rfl (Opd.tmp _ _ rfl)) ?_
    refine Run.nil (FinR.mk ?_)
    refine nK ?_
    refine s_reg rfl ?_
    refine Run.pure (dd := some 25) rfl rfl (op_call_pure (fun _ => awake_c) rfl (Opd.func _) Opds.nil) ?_
    refine Run.pure (dd := some 26) rfl rfl (op_move rfl (Opd.tmp _ _ rfl)) ?_
    refine Run.pureG (dd := some 27) rfl rfl rfl tG (op_move rfl (Opd.tmp _ _ rfl)) ?_
    refine Run.pureG (dd := some 28) rfl rfl rfl tG (op_move rfl (Opd.tmp _ _ rfl)) ?_
    refine Run.pureG (dd := some 29) rfl rfl rfl tG (op_call_pure (fun _ => k5) rfl (Opd.func _) (Opds.cons _ _ _ _ (Opd.topt _ _ _ rfl tO) (Opds.cons _ _ _ _ (Opd.topt _ _ _ rfl tO) Opds.nil))) ?_
    refine Run.pure (dd := some 30) rfl rfl (op_pick_and rfl (Opd.tmp _ _ rfl) (Opd.topt _ _ _ rfl tO)) ?_
    refine Run.pure (dd := some 31) rfl rfl (op_move rfl (Opd.tmp _ _ rfl)) ?_
    refine Run.pureG (dd := some 32) rfl rfl rfl tG (op_move rfl (Opd.tmp _ _ rfl)) ?_
    refine Run.pureG (dd := some 33) rfl rfl rfl tG (op_move rfl (Opd.tmp _ _ rfl)) ?_
    refine Run.pureG (dd := some 34) rfl rfl rfl tG (op_eql rfl (Opd.topt _ _ _ rfl tO) (Opd.topt _ _ _ rfl tO)) ?_
    refine Run.pure (dd := some 35) rfl rfl (op_pick_and rfl (Opd.tmp _ _ rfl) (Opd.topt _ _ _ rfl tO)) ?_
    refine Run.pure (dd := some 4) rfl rfl (op_assign rfl (Opd.tmp _ _ rfl)) ?_
    refine Run.nil (FinR.mk ?_)
    refine nK ?_
    refine s_oB hC rfl rfl ?_
    simp
theorem replaces_law (l : List Rte) (n : Int) (rs : List Rte) (h : okL l) (hr : okL rs) : Pure Try.prog 8 [VRt l, If .i64 n, VRt rs] (Bf true) := by
  refine Meets.intro Try.func8 rfl (Nat.le_of_ble_eq_true rfl) fun C hC => ?_
  simp only [List.map, argEnv, Nat.reduceAdd]
  refine nK ?_
  refine s_reg rfl ?_
  refine Run.pure (dd := some 6) rfl rfl (op_assign rfl (Opd.const _)) ?_
  refine Run.nil (FinR.mk ?_)
  refine nK ?_
  refine s_reg rfl ?_
  refine Run.pure (dd := some 11) rfl rfl (op_move rfl (Opd.tmp _ _ rfl)) ?_
  refine Run.pure (dd := some 12) rfl rfl (op_len_fz rfl (by first | exact Opd.tmp _ _ rfl | exact Opd.nil _ _ (Opd.tmp _ _ rfl)) (by first | exact List.length_map _ | rfl)) ?_
  refine Run.pure (dd := some 13) rfl rfl (op_gtr rfl (Opd.tmp _ _ rfl) (Opd.const _)) ?_
  refine Run.pure (dd := some 14) rfl rfl (op_move rfl (Opd.tmp _ _ rfl)) ?_
  refine Run.pureG (dd := some 15) rfl rfl rfl tG (op_move rfl (Opd.tmp _ _ rfl)) ?_
  refine Run.pureG (dd := some 16) rfl rfl rfl tG (op_len_fz rfl (by first | exact Opd.topt _ _ _ rfl tO | exact Opd.nil _ _ (Opd.topt _ _ _ rfl tO)) (by first | exact List.length_map _ | rfl)) ?_
  refine Run.pureG (dd := some 17) rfl rfl rfl tG (op_gtr rfl (Opd.topt _ _ _ rfl tO) (Opd.const _)) ?_
  refine Run.pure (dd := some 18) rfl rfl (op_pick_or rfl (Opd.tmp _ _ rfl) (Opd.topt _ _ _ rfl tO)) ?_
  refine Run.nil (FinR.mk ?_)
  refine nK ?_
  refine n_cond _ rfl (fun hb => ?_) (fun hb => ?_)
  · refine nK ?_
    refine s_reg rfl ?_
    refine Run.pure (dd := some 19) rfl rfl (op_call_pure (fun _ => awake_c) rfl (Opd.func _) Opds.nil) ?_
    refine Run.pure (dd := some 6) rfl rfl (op_assign rfl (Opd.tmp _ _ rfl)) ?_
    refine Run.nil (FinR.mk ?_)
    refine nK ?_
    (first | exact s_o1 hC rfl tV | exact s_o2 hC rfl tV tV | exact s_o3 hC rfl tV tV tV | exact s_o4 hC rfl tV tV tV tV | exact s_out0 hC rfl | exact s_outO hC rfl rfl rfl)
  · have hl : l.length ≤ 100 ∧ rs.length ≤ 100 := by simp at hb; omega
    have k1 := repl_c l n rs h.ok h.hs (by omega) hr.ok hr.hs (by omega)
    have k2 := rrepl_c l n rs h.ok h.hs (by omega) hr.ok hr.hs (by omega)
    have hla := replF_len l n rs
    have hv : ∀ x ∈ (replF l n rs).1, lenOk x.hs.length := fun x hx => by
      rcases replF_sub hx with hx | hx
      · exact hr.hs x hx
      · exact h.hs x hx
    have k5 := lsame_c (replF l n rs).1 (replF l n rs).1 (by unfold lenOk; omega) (by unfold lenOk; omega) hv hv
    rw [show decide ((replF l n rs).1 = (replF l n rs).1) = true by simp] at k5
    refine nK ?_
    refine s_reg rfl ?_
    refine Run.pure (dd := some 21) rfl rfl (op_move rfl (Opd.tmp _ _ rfl)) ?_
    refine Run.pure (dd := some 22) rfl rfl (op_move rfl (Opd.tmp _ _ rfl)) ?_
    refine Run.pure (dd := some 23) rfl rfl (op_move rfl (Opd.tmp _ _ rfl)) ?_
    refine Run.pure (dd := some 24) rfl rfl (op_call_pure (fun _ => k1) rfl (Opd.func _) (Opds.cons _ _ _ _ (Opd.tmp _ _ rfl) (Opds.cons _ _ _ _ (Opd.tmp _ _ rfl) (Opds.cons _ _ _ _ (Opd.tmp _ _ rfl) Opds.nil)))) ?_
    refine Run.pure (dd := some 20) rfl rfl (op_move rfl (Opd.tmp _ _ rfl)) ?_
    refine Run.pure (dd := some 25) rfl rfl (op_extract_fz rfl (Opd.tmp _ _ rfl) rfl) ?_
    refine Run.pure (dd := some 26) rfl rfl (op_extract_fz rfl (Opd.tmp _ _ rfl) rfl) ?_
    refine Run.pure (dd := some 7) rfl rfl (op_assign rfl (Opd.tmp _ _ rfl)) ?_
    refine Run.pure (dd := some 8) rfl rfl (op_assign rfl (Opd.tmp _ _ rfl)) ?_
    refine Run.nil (FinR.mk ?_)
    refine nK ?_
    refine s_reg rfl ?_
    refine Run.pure (dd := some 28) rfl rfl (op_move rfl (Opd.tmp _ _ rfl)) ?_
    refine Run.pure (dd := some 29) rfl rfl (op_move rfl (Opd.tmp _ _ rfl)) ?_
    refine Run.pure (dd := some 30) rfl rfl (op_move rfl (Opd.tmp _ _ rfl)) ?_
    refine Run.pure (dd := some 31) rfl rfl (op_call_pure (fun _ => k2) rfl (Opd.func _) (Opds.cons _ _ _ _ (Opd.tmp _ _ rfl) (Opds.cons _ _ _ _ (Opd.tmp _ _ rfl) (Opds.cons _ _ _ _ (Opd.tmp _ _ rfl) Opds.nil)))) ?_
    refine Run.pure (dd := some 27) rfl rfl (op_move rfl (Opd.tmp _ _ rfl)) ?_
    refine Run.pure (dd := some 32) rfl rfl (op_extract_fz rfl (Opd.tmp _ _ rfl) rfl) ?_
    refine Run.pure (dd := some 33) rfl rfl (op_extract_fz rfl (Opd.tmp _ _ rfl) rfl) ?_
    refine Run.pure (dd := some 9) rfl rfl (op_assign rfl (Opd.tmp _ _ rfl)) ?_
    refine Run.pure (dd := some 10) rfl rfl (op_assign rfl (Opd.tmp _ _ rfl)) ?_
    refine Run.nil (FinR.mk ?_)
    refine nK ?_
    refine s_reg rfl ?_
    refine Run.pure (dd := some 34) rfl rfl (op_call_pure (fun _ => awake_c) rfl (Opd.func _) Opds.nil) ?_
    refine Run.pure (dd := some 35) rfl rfl (op_move rfl (Opd.tmp _ _ rfl)) ?_
    refine Run.pureG (dd := some 36) rfl rfl rfl tG (op_move rfl (Opd.tmp _ _ rfl)) ?_
    refine Run.pureG (dd := some 37) rfl rfl rfl tG (op_move rfl (Opd.tmp _ _ rfl)) ?_
    refine Run.pureG (dd := some 38) rfl rfl rfl tG (op_call_pure (fun _ => k5) rfl (Opd.func _) (Opds.cons _ _ _ _ (Opd.topt _ _ _ rfl tO) (Opds.cons _ _ _ _ (Opd.topt _ _ _ rfl tO) Opds.nil))) ?_
    refine Run.pure (dd := some 39) rfl rfl (op_pick_and rfl (Opd.tmp _ _ rfl) (Opd.topt _ _ _ rfl tO)) ?_
    refine Run.pure (dd := some 40) rfl rfl (op_move rfl (Opd.tmp _ _ rfl)) ?_
    refine Run.pureG (dd := some 41) rfl rfl rfl tG (op_move rfl (Opd.tmp _ _ rfl)) ?_
    refine Run.pureG (dd := some 42) rfl rfl rfl tG (op_move rfl (Opd.tmp _ _ rfl)) ?_
    refine Run.pureG (dd := some 43) rfl rfl rfl tG (op_eql rfl (Opd.topt _ _ _ rfl tO) (Opd.topt _ _ _ rfl tO)) ?_
    refine Run.pure (dd := some 44) rfl rfl (op_pick_and rfl (Opd.tmp _ _ rfl) (Opd.topt _ _ _ rfl tO)) ?_
    refine Run.pure (dd := some 6) rfl rfl (op_assign rfl (Opd.tmp _ _ rfl)) ?_
    refine Run.nil (FinR.mk ?_)
    refine nK ?_
    refine s_oB hC rfl rfl ?_
    simp
theorem changes_law (a b : List Rte) (h : okL a) (hr : okL b) : Pure Try.prog 5 [VRt a, VRt b] (Bf true) := by
  refine Meets.intro Try.func5 rfl (Nat.le_of_ble_eq_true rfl) fun C hC => ?_
  simp only [List.map, argEnv, Nat.reduceAdd]
  refine nK ?_
  refine s_reg rfl ?_
  refine Run.pure (dd := some 4) rfl rfl (op_assign rfl (Opd.const _)) ?_
  refine Run.nil (FinR.mk ?_)
  refine nK ?_
  refine s_reg rfl ?_
  refine Run.pure (dd := some 7) rfl rfl (op_move rfl (Opd.tmp _ _ rfl)) ?_
  refine Run.pure (dd := some 8) rfl rfl (op_len_fz rfl (by first | exact Opd.tmp _ _ rfl | exact Opd.nil _ _ (Opd.tmp _ _ rfl)) (by first | exact List.length_map _ | rfl)) ?_
  refine Run.pure (dd := some 9) rfl rfl (op_gtr rfl (Opd.tmp _ _ rfl) (Opd.const _)) ?_
  refine Run.pure (dd := some 10) rfl rfl (op_move rfl (Opd.tmp _ _ rfl)) ?_
  refine Run.pureG (dd := some 11) rfl rfl rfl tG (op_move rfl (Opd.tmp _ _ rfl)) ?_
  refine Run.pureG (dd := some 12) rfl rfl rfl tG (op_len_fz rfl (by first | exact Opd.topt _ _ _ rfl tO | exact Opd.nil _ _ (Opd.topt _ _ _ rfl tO)) (by first | exact List.length_map _ | rfl)) ?_
  refine Run.pureG (dd := some 13) rfl rfl rfl tG (op_gtr rfl (Opd.topt _ _ _ rfl tO) (Opd.const _)) ?_
  refine Run.pure (dd := some 14) rfl rfl (op_pick_or rfl (Opd.tmp _ _ rfl) (Opd.topt _ _ _ rfl tO)) ?_
  refine Run.nil (FinR.mk ?_)
  refine nK ?_
  refine n_cond _ rfl (fun hb => ?_) (fun hb => ?_)
  · refine nK ?_
    refine s_reg rfl ?_
    refine Run.pure (dd := some 15) rfl rfl (op_call_pure (fun _ => awake_c) rfl (Opd.func _) Opds.nil) ?_
    refine Run.pure (dd := some 4) rfl rfl (op_assign rfl (Opd.tmp _ _ rfl)) ?_
    refine Run.nil (FinR.mk ?_)
    refine nK ?_
    (first | exact s_o1 hC rfl tV | exact s_o2 hC rfl tV tV | exact s_o3 hC rfl tV tV tV | exact s_o4 hC rfl tV tV tV tV | exact s_out0 hC rfl | exact s_outO hC rfl rfl rfl)
  · have hl : a.length ≤ 60 ∧ b.length ≤ 60 := by simp at hb; omega
    have k1 := chg_c a b h.ok h.hs (by omega) hr.ok hr.hs (by omega)
    have k2 := rchg_c a b h.ok h.hs (by omega) hr.ok hr.hs (by omega)
    have hla := changesF_len a b
    have k5 := same_any (changesF a b) (changesF a b) (by omega) (by omega)
    rw [show decide (changesF a b = changesF a b) = true by simp] at k5
    refine nK ?_
    refine s_reg rfl ?_
    refine Run.pure (dd := some 16) rfl rfl (op_move rfl (Opd.tmp _ _ rfl)) ?_
    refine Run.pure (dd := some 17) rfl rfl (op_len_fz rfl (by first | exact Opd.tmp _ _ rfl | exact Opd.nil _ _ (Opd.tmp _ _ rfl)) (by first | exact List.length_map _ | rfl)) ?_
    refine Run.pure (dd := some 18) rfl rfl (op_move rfl (Opd.const _)) ?_
    refine Run.nil (FinR.mk ?_)
    refine nK ?_
    refine n_loop (ι := Nat) (fun i => ([(0, .fz (VRt a)), (1, .fz (VRt b)), (16, .fz (VRt a)), (17, IV .i64 a.length), (18, IV .i64 i)], [], 0)) (fun i => i ≤ a.length) (fun i => a.length - i) 0 (Nat.zero_le _) ?_ ?_
    · refine Next.weak [] [] (by rfl) (keeps0 hC _) (by repeat (first | exact trivial | refine ⟨⟨_, rfl, .inl ⟨rfl, rfl⟩⟩, ?_⟩)) (by repeat (first | exact trivial | refine ⟨ent_same rfl rfl rfl tL, ?_⟩ | refine ⟨ent_same rfl rfl (rfEq rfl tU) tL, ?_⟩ | refine ⟨ent_same rfl rfl (flEq rfl (by first | (simp; done) | (simp; omega) | (simp [encHo, encRt, encP]; done) | simp [maxC, minC])) trivial, ?_⟩)) (fun _ h => by simp at h) rel_intro
    · intro i hi K hK
      refine nK ?_
      refine s_reg rfl ?_
      refine Run.pure (dd := some 19) rfl rfl (op_lss rfl (Opd.tmp _ _ rfl) (Opd.tmp _ _ rfl)) ?_
      refine Run.nil (FinR.mk ?_)
      refine nK ?_
      refine n_cond _ rfl (fun hb => ?_) (fun hb => ?_)
      · have hlt : i < a.length := by simp at hb; omega
        have hr1 := row_at' encRt a i hlt
        have hK1 := hK (i + 1) (by omega) (by omega)
        have lx := h.hs _ (List.getElem_mem hlt)
        generalize a[i] = x at *
        have hy : ∃ y, lenOk y.hs.length ∧ (i < b.length → (b.map encRt)[i]? = some (encRt y)) := by
          by_cases hib : i < b.length
          · exact ⟨b[i], hr.hs _ (List.getElem_mem hib), fun _ => row_at' encRt b i hib⟩
          · exact ⟨x, lx, fun h => absurd h hib⟩
        obtain ⟨y, ly, hy⟩ := hy
        have s1 := samert_c x y lx ly
        have s2 := rsamert_c x y lx ly
        refine nK ?_
        refine s_reg rfl ?_
        refine Run.pure (dd := some 20) rfl rfl (op_move rfl (Opd.tmp _ _ rfl)) ?_
        refine Run.pure (dd := some 21) rfl rfl (op_idx_fz _ rfl (Opd.tmp _ _ rfl) (Opd.tmp _ _ rfl) tF) ?_
        refine Run.pure (dd := some 22) rfl rfl (op_loadw_fz rfl (Opd.tmp _ _ rfl) rfl) ?_
        refine Run.eff (dd := some 6) rfl rfl (op_alloc rfl rfl rfl rfl) ?_
        refine Run.pure (dd := some 5) rfl rfl (op_assign rfl (Opd.tmp _ _ rfl)) ?_
        refine Run.eff (dd := none) rfl rfl (op_store_flat rfl (Opd.tmp _ _ rfl) (Opd.tmp _ _ rfl) tC rfl rfl (by first | rfl | assumption) tS) ?_
        refine Run.nil (FinR.mk ?_)
        refine nK ?_
        refine s_draw mixed ?_
        refine Run.pure (dd := some 23) rfl rfl (op_move rfl (Opd.tmp _ _ rfl)) ?_
        refine Run.pure (dd := some 24) rfl rfl (op_move rfl (Opd.tmp _ _ rfl)) ?_
        refine Run.pure (dd := some 25) rfl rfl (op_len_fz rfl (by first | exact Opd.tmp _ _ rfl | exact Opd.nil _ _ (Opd.tmp _ _ rfl)) (by first | exact List.length_map _ | rfl)) ?_
        refine Run.pure (dd := some 26) rfl rfl (op_lss rfl (Opd.tmp _ _ rfl) (Opd.tmp _ _ rfl)) ?_
        refine Run.pure (dd := some 27) rfl rfl (op_move rfl (Opd.tmp _ _ rfl)) ?_
        refine Run.loadG (dd := some 28) rfl rfl rfl tG (op_loadw_flat rfl (Opd.tmp _ _ rfl) tH rfl) ?_
        refine Run.pureG (dd := some 29) rfl rfl rfl tG (op_move rfl (Opd.tmp _ _ rfl)) ?_
        refine Run.pureG (dd := some 30) rfl rfl rfl tG (op_move rfl (Opd.tmp _ _ rfl)) ?_
        refine Run.pureG (dd := some 31) rfl rfl rfl tG (op_idx_fz i rfl (Opd.topt _ _ _ rfl tO) (Opd.topt _ _ _ rfl tO) (by intro hg; have h0 : i < b.length := (by simp at hg; omega); exact ⟨by omega, hy h0⟩)) ?_
        refine Run.pureG (dd := some 32) rfl rfl rfl tG (op_loadw_fz rfl (Opd.topt _ _ _ rfl tO) rfl) ?_
        refine Run.pureG (dd := some 33) rfl rfl rfl tG (op_call_pure (fun _ => s1) rfl (Opd.func _) (Opds.cons _ _ _ _ (Opd.topt _ _ _ rfl tO) (Opds.cons _ _ _ _ (Opd.topt _ _ _ rfl tO) Opds.nil))) ?_
        refine Run.loadG (dd := some 34) rfl rfl rfl tG (op_loadw_flat rfl (Opd.tmp _ _ rfl) tH rfl) ?_
        refine Run.pureG (dd := some 35) rfl rfl rfl tG (op_move rfl (Opd.tmp _ _ rfl)) ?_
        refine Run.pureG (dd := some 36) rfl rfl rfl tG (op_move rfl (Opd.tmp _ _ rfl)) ?_
        refine Run.pureG (dd := some 37) rfl rfl rfl tG (op_idx_fz i rfl (Opd.topt _ _ _ rfl tO) (Opd.topt _ _ _ rfl tO) (by intro hg; have h0 : i < b.length := (by simp at hg; omega); exact ⟨by omega, hy h0⟩)) ?_
        refine Run.pureG (dd := some 38) rfl rfl rfl tG (op_loadw_fz rfl (Opd.topt _ _ _ rfl tO) rfl) ?_
        refine Run.pureG (dd := some 39) rfl rfl rfl tG (op_call_pure (fun _ => s2) rfl (Opd.func _) (Opds.cons _ _ _ _ (Opd.topt _ _ _ rfl tO) (Opds.cons _ _ _ _ (Opd.topt _ _ _ rfl tO) Opds.nil))) ?_
        refine Run.pureG (dd := some 40) rfl rfl rfl tG (op_neqB rfl (Opd.topt _ _ _ rfl tO) (Opd.topt _ _ _ rfl tO)) ?_
        refine Run.pure (dd := some 41) rfl rfl (op_pick_and rfl (Opd.tmp _ _ rfl) (Opd.topt _ _ _ rfl tO)) ?_
        refine Run.nil (FinD.mk (by kernel_rfl) ?_)
        refine nK ?_
        refine n_cond _ rfl (fun hb => ?_) (fun hb => ?_)
        · exfalso; simp at hb
        · refine nK ?_
          refine s_reg rfl ?_
          refine Run.pure (dd := some 42) rfl rfl (op_add rfl (Opd.tmp _ _ rfl) (Opd.const _) tI) ?_
          refine Run.pure (dd := some 18) rfl rfl (op_move rfl (Opd.tmp _ _ rfl)) ?_
          refine Run.nil (FinR.mk ?_)
          refine nK ?_
          refine Next.weak [] [] (by rfl) (keeps0 hC _) (by repeat (first | exact trivial | refine ⟨⟨_, rfl, .inl ⟨rfl, rfl⟩⟩, ?_⟩)) (by repeat (first | exact trivial | refine ⟨ent_same rfl rfl rfl tL, ?_⟩ | refine ⟨ent_same rfl rfl (rfEq rfl tU) tL, ?_⟩ | refine ⟨ent_same rfl rfl (flEq rfl (by first | (simp; done) | (simp; omega) | (simp [encHo, encRt, encP]; done) | simp [maxC, minC])) trivial, ?_⟩)) (fun _ h => by simp at h) hK1
      · refine nK ?_
        refine s_reg rfl ?_
        refine Run.pure (dd := some 43) rfl rfl (op_call_pure (fun _ => awake_c) rfl (Opd.func _) Opds.nil) ?_
        refine Run.pure (dd := some 44) rfl rfl (op_move rfl (Opd.tmp _ _ rfl)) ?_
        refine Run.pureG (dd := some 45) rfl rfl rfl tG (op_move rfl (Opd.tmp _ _ rfl)) ?_
        refine Run.pureG (dd := some 46) rfl rfl rfl tG (op_move rfl (Opd.tmp _ _ rfl)) ?_
        refine Run.pureG (dd := some 47) rfl rfl rfl tG (op_call_pure (fun _ => k1) rfl (Opd.func _) (Opds.cons _ _ _ _ (Opd.topt _ _ _ rfl tO) (Opds.cons _ _ _ _ (Opd.topt _ _ _ rfl tO) Opds.nil))) ?_
        refine Run.pureG (dd := some 48) rfl rfl rfl tG (op_move rfl (Opd.tmp _ _ rfl)) ?_
        refine Run.pureG (dd := some 49) rfl rfl rfl tG (op_move rfl (Opd.tmp _ _ rfl)) ?_
        refine Run.pureG (dd := some 50) rfl rfl rfl tG (op_call_pure (fun _ => k2) rfl (Opd.func _) (Opds.cons _ _ _ _ (Opd.topt _ _ _ rfl tO) (Opds.cons _ _ _ _ (Opd.topt _ _ _ rfl tO) Opds.nil))) ?_
        refine Run.pureG (dd := some 51) rfl rfl rfl tG (op_call_pure (fun _ => k5) rfl (Opd.func _) (Opds.cons _ _ _ _ (Opd.topt _ _ _ rfl tO) (Opds.cons _ _ _ _ (Opd.topt _ _ _ rfl tO) Opds.nil))) ?_
        refine Run.pure (dd := some 52) rfl rfl (op_pick_and rfl (Opd.tmp _ _ rfl) (Opd.topt _ _ _ rfl tO)) ?_
        refine Run.pure (dd := some 4) rfl rfl (op_assign rfl (Opd.tmp _ _ rfl)) ?_
        refine Run.nil (FinR.mk ?_)
        refine nK ?_
        refine s_oB hC rfl rfl ?_
        simp
end Go.Proofs.Ytinddhlmgiahiaa
/- Exactly one active route for every prefix. No program in sight. -/
namespace Go.Pl
open Go Go.RT
set_option linter.all false
def cntP (p : Pfx) (l : List Rte) : Nat := (l.filter fun a => decide (a.pf = p)).length
theorem cntP_take (p : Pfx) {l : List Rte} {i : Nat} (h : i < l.length) : cntP p (l.take (i + 1)) = cntP p (l.take i) + if l[i].pf = p then 1 else 0 := by
  unfold cntP
  rw [List.take_succ_eq_append_getElem h, List.filter_append, List.length_append]
  by_cases c : l[i].pf = p <;> simp [c]
theorem cntP_le (p : Pfx) (l : List Rte) : cntP p l ≤ l.length := List.length_filter_le _ _
theorem least_all {l : List Rte} (h : TabOk l) {a x : Rte} (ha : a ∈ activeF l) (hx : x ∈ l) (e : x.pf = a.pf) : ¬ (x.di < a.di ∨ x.di = a.di ∧ x.pr < a.pr) := by
  have h0 := (check_iff l).2 h
  unfold activeF at ha
  rw [if_neg (by simp [h0])] at ha
  have := ((act_spec l none h.asc (fun q hq => by cases hq)).1 a ha).2.2 x hx e
  exact fun k => this (.inr ⟨e, k⟩)
theorem least_one {l : List Rte} (h : TabOk l) {r : Rte} (hr : r ∈ l) : cntP r.pf (activeF l) = 1 := by
  have hasc := active_asc l
  have hex : ∃ a ∈ activeF l, a.pf = r.pf := by
    have h0 := (check_iff l).2 h
    unfold activeF
    rw [if_neg (by simp [h0])]
    rcases (act_spec l none h.asc (fun q hq => by cases hq)).2.1 r hr with k | k
    · cases k
    · exact k
  obtain ⟨a, ha, e⟩ := hex
  have hm : a ∈ (activeF l).filter fun x => decide (x.pf = r.pf) := List.mem_filter.2 ⟨ha, by simpa using e⟩
  have hp := hasc.filter (fun x => decide (x.pf = r.pf))
  have hq : ∀ x ∈ (activeF l).filter (fun x => decide (x.pf = r.pf)), x.pf = r.pf := fun x hx => by simpa using (List.mem_filter.1 hx).2
  unfold cntP
  generalize (activeF l).filter (fun x => decide (x.pf = r.pf)) = s at *
  match s, hm, hp, hq with
  | [x], _, _, _ => rfl
  | x :: y :: t, _, hp, hq =>
    have h1 := (List.pairwise_cons.1 hp).1 y (by simp)
    have e1 := hq x (by simp)
    have e2 := hq y (by simp)
    rw [e1, e2] at h1
    exact h1.irr.elim
end Go.Pl
/- Routes that are put in any order. No program in sight. -/
namespace Go.Pl
open Go Go.RT
set_option linter.all false
structure OrdOk (a seen : List Rte) : Prop where
  tab : TabOk a
  mem : ∀ x, x ∈ a ↔ x ∈ seen
  len : a.length = seen.length
  uni : seen.Pairwise fun x y => ¬ sameK x y
theorem ord_nil : OrdOk [] [] := ⟨⟨by simp, by simp, List.Pairwise.nil, List.Pairwise.nil⟩, by simp, rfl, List.Pairwise.nil⟩
theorem putRt_ok {l : List Rte} {r : Rte} (h : TabOk l) (hr : checkRt r = 0) (hn : (l.filter fun x => !(decide (x.pf = r.pf) && decide (x.pr = r.pr))).length < 2000) : putRt l r = (insRt r (l.filter fun x => !(decide (x.pf = r.pf) && decide (x.pr = r.pr))), 0) := by
  unfold putRt
  rw [if_neg (by simp [(check_iff l).2 h]), if_neg (by simp [hr]), if_neg (by omega)]
theorem put_zero {l : List Rte} {r : Rte} (he : (putRt l r).2 = 0) : TabOk l ∧ checkRt r = 0 ∧ (l.filter fun x => !(decide (x.pf = r.pf) && decide (x.pr = r.pr))).length < 2000 := by
  unfold putRt at he
  by_cases h1 : checkL l ≠ 0
  · rw [if_pos h1] at he; exact absurd he h1
  · rw [if_neg h1] at he
    by_cases h2 : checkRt r ≠ 0
    · rw [if_pos h2] at he; exact absurd he h2
    · rw [if_neg h2] at he
      by_cases h3 : 2000 ≤ (l.filter fun x => !(decide (x.pf = r.pf) && decide (x.pr = r.pr))).length
      · rw [if_pos h3] at he; cases he
      · exact ⟨(check_iff l).1 (by simpa using h1), by simpa using h2, by omega⟩
theorem fil_self {l : List Rte} {r : Rte} (h : ∀ x ∈ l, ¬ sameK x r) : (l.filter fun x => !(decide (x.pf = r.pf) && decide (x.pr = r.pr))) = l := by
  refine List.filter_eq_self.2 fun x hx => ?_
  have := h x hx
  unfold sameK at this
  by_cases h1 : x.pf = r.pf
  · by_cases h2 : x.pr = r.pr
    · exact absurd ⟨h1, h2⟩ this
    · simp [h2]
  · simp [h1]
theorem ord_step {a seen : List Rte} {r : Rte} (h : OrdOk a seen) (he : (putRt a r).2 = 0) (hl : (putRt a r).1.length = a.length + 1) : OrdOk (putRt a r).1 (seen ++ [r]) := by
  obtain ⟨h1, h2, h3⟩ := put_zero he
  rw [putRt_ok h1 h2 h3] at hl ⊢
  obtain ⟨k1, k2⟩ := put_ok h1 h2 h3
  have hl' : (a.filter fun x => !(decide (x.pf = r.pf) && decide (x.pr = r.pr))).length = a.length := by
    have : (insRt r (a.filter fun x => !(decide (x.pf = r.pf) && decide (x.pr = r.pr)))).length = a.length + 1 := hl
    rw [ins_len] at this; omega
  have hno : ∀ x ∈ a, ¬ sameK x r := fun x hx k => by
    have hs := (List.filter_sublist (p := fun x : Rte => !(decide (x.pf = r.pf) && decide (x.pr = r.pr))) (l := a)).eq_of_length hl'
    rw [← hs] at hx
    have := (List.mem_filter.1 hx).2
    simp [k.1, k.2] at this
  refine ⟨k1, fun x => ?_, ?_, ?_⟩
  · rw [show ((insRt r (a.filter fun x => !(decide (x.pf = r.pf) && decide (x.pr = r.pr))), (0 : Int)).1) = insRt r (a.filter fun x => !(decide (x.pf = r.pf) && decide (x.pr = r.pr))) from rfl, k2, List.mem_append, List.mem_singleton, ← h.mem]
    constructor
    · rintro (k | k)
      · exact .inr k
      · exact .inl k.1
    · rintro (k | k)
      · exact .inr ⟨k, hno x k⟩
      · exact .inl k
  · rw [hl, h.len]; simp
  · exact List.pairwise_append.2 ⟨h.uni, List.pairwise_singleton .., fun x hx y hy => by
      simp at hy; subst hy; exact hno x ((h.mem x).2 hx)⟩
structure BackOk (seen : List Rte) (k : Nat) (b : List Rte) : Prop where
  tab : TabOk b
  mem : ∀ x, x ∈ b ↔ x ∈ seen.drop k
  len : b.length = seen.length - k
theorem back_nil (seen : List Rte) : BackOk seen seen.length [] := ⟨ord_nil.tab, by simp, by simp⟩
theorem back_step {a seen b : List Rte} (h : OrdOk a seen) (hlen : seen.length ≤ 2000) {m : Nat} (hm : m < seen.length) (hb : BackOk seen (m + 1) b) : (putRt b seen[m]).2 = 0 ∧ BackOk seen m (putRt b seen[m]).1 := by
  have hc : checkRt seen[m] = 0 := h.tab.chk _ ((h.mem _).2 (List.getElem_mem hm))
  have hu : ∀ x ∈ b, ¬ sameK x seen[m] := fun x hx k => by
    have hx' := (hb.mem x).1 hx
    have hd := List.drop_eq_getElem_cons hm
    have := h.uni.sublist (List.drop_sublist m seen)
    rw [hd] at this
    exact (List.pairwise_cons.1 this).1 x hx' ⟨k.1.symm, k.2.symm⟩
  have hf := fil_self hu
  have hn : (b.filter fun x => !(decide (x.pf = seen[m].pf) && decide (x.pr = seen[m].pr))).length < 2000 := by
    rw [hf, hb.len]; omega
  obtain ⟨k1, k2⟩ := put_ok hb.tab hc hn
  rw [putRt_ok hb.tab hc hn]
  refine ⟨rfl, k1, fun x => ?_, ?_⟩
  · rw [show ((insRt seen[m] (b.filter fun x => !(decide (x.pf = seen[m].pf) && decide (x.pr = seen[m].pr))), (0 : Int)).1) = insRt seen[m] (b.filter fun x => !(decide (x.pf = seen[m].pf) && decide (x.pr = seen[m].pr))) from rfl, k2, List.drop_eq_getElem_cons hm, List.mem_cons, ← hb.mem]
    constructor
    · rintro (k | k)
      · exact .inl k
      · exact .inr k.1
    · rintro (k | k)
      · exact .inl k
      · exact .inr ⟨k, hu x k⟩
  · show (insRt _ _).length = _
    rw [ins_len, hf, hb.len]; omega
theorem back_all {a seen b : List Rte} (h : OrdOk a seen) (hb : BackOk seen 0 b) : a = b := asc_uniq h.tab.asc hb.tab.asc fun x => by
  rw [h.mem, hb.mem, List.drop_zero]
end Go.Pl
namespace Go.Proofs.Ytinddhlmgiahiaa
open Go Go.RT Go.Proofs Go.Pl
set_option linter.all false
set_option maxRecDepth 20000
theorem order_law (l : List Rte) (h : okL l) : Pure Try.prog 7 [VRt l] (Bf true) := by
  have app1 : ∀ (o : List Rte) (x : Rte), (o ++ [x]).length = o.length + 1 := fun o x => by simp
  have app2 : ∀ (o : List Rte) (x : Rte), (o ++ [x]).map encRt = o.map encRt ++ [encRt x] := fun o x => by simp
  refine Meets.intro Try.func7 rfl (Nat.le_of_ble_eq_true rfl) fun C hC => ?_
  simp only [List.map, argEnv, Nat.reduceAdd]
  refine nK ?_
  refine s_reg rfl ?_
  refine Run.pure (dd := some 2) rfl rfl (op_assign rfl (Opd.const _)) ?_
  refine Run.nil (FinR.mk ?_)
  refine nK ?_
  refine s_reg rfl ?_
  refine Run.pure (dd := some 13) rfl rfl (op_move rfl (Opd.tmp _ _ rfl)) ?_
  refine Run.pure (dd := some 14) rfl rfl (op_len_fz rfl (by first | exact Opd.tmp _ _ rfl | exact Opd.nil _ _ (Opd.tmp _ _ rfl)) (by first | exact List.length_map _ | rfl)) ?_
  refine Run.pure (dd := some 15) rfl rfl (op_gtr rfl (Opd.tmp _ _ rfl) (Opd.const _)) ?_
  refine Run.nil (FinR.mk ?_)
  refine nK ?_
  refine n_cond _ rfl (fun hb => ?_) (fun hb => ?_)
  · refine nK ?_
    refine s_reg rfl ?_
    refine Run.pure (dd := some 16) rfl rfl (op_call_pure (fun _ => awake_c) rfl (Opd.func _) Opds.nil) ?_
    refine Run.pure (dd := some 2) rfl rfl (op_assign rfl (Opd.tmp _ _ rfl)) ?_
    refine Run.nil (FinR.mk ?_)
    refine nK ?_
    (first | exact s_o1 hC rfl tV | exact s_o2 hC rfl tV tV | exact s_o3 hC rfl tV tV tV | exact s_o4 hC rfl tV tV tV tV | exact s_out0 hC rfl | exact s_outO hC rfl rfl rfl)
  · have hl : l.length ≤ 30 := by simp at hb; omega
    refine nK ?_
    refine s_reg rfl ?_
    refine Run.pure (dd := some 3) rfl rfl (op_assign rfl (Opd.const _)) ?_
    refine Run.pure (dd := some 4) rfl rfl (op_assign rfl (Opd.const _)) ?_
    refine Run.pure (dd := some 5) rfl rfl (op_assign rfl (Opd.const _)) ?_
    refine Run.nil (FinR.mk ?_)
    refine nK ?_
    refine Next.adopt 3 7 rfl ?_
    refine Next.adopt 4 7 rfl ?_
    refine Next.adopt 5 7 rfl ?_
    refine nK ?_
    refine s_reg rfl ?_
    refine Run.pure (dd := some 17) rfl rfl (op_move rfl (Opd.tmp _ _ rfl)) ?_
    refine Run.pure (dd := some 18) rfl rfl (op_len_fz rfl (by first | exact Opd.tmp _ _ rfl | exact Opd.nil _ _ (Opd.tmp _ _ rfl)) (by first | exact List.length_map _ | rfl)) ?_
    refine Run.pure (dd := some 19) rfl rfl (op_move rfl (Opd.const _)) ?_
    refine Run.nil (FinR.mk ?_)
    refine nK ?_
    refine n_loop (ι := Nat × List Rte × List Rte) (fun g => ([(3, .fz (VRt g.2.1)), (4, .fz (VRt [])), (5, .sl 0 7 0 g.2.2.length), (17, .fz (VRt l)), (18, IV .i64 l.length), (19, IV .i64 g.1)], [(0, ORts g.2.2)], 1)) (fun g => g.1 ≤ l.length ∧ OrdOk g.2.1 g.2.2 ∧ g.2.2.length ≤ g.1 ∧ ∀ x ∈ g.2.2, okRt x ∧ lenOk x.hs.length) (fun g => l.length - g.1) (0, [], []) ⟨Nat.zero_le _, ord_nil, Nat.le_refl _, by simp⟩ ?_ ?_
    · refine Next.weakS [5] [3, 4] (by rfl) (by first | exact keeps0 hC _ | exact keepsN hC _ rfl) (by repeat (first | exact trivial | refine ⟨⟨_, rfl, .inl ⟨rfl, rfl⟩⟩, ?_⟩ | refine ⟨⟨_, rfl, .inl ⟨slEq rfl tN, rfl⟩⟩, ?_⟩ | refine ⟨⟨_, rfl, .inl ⟨ivEq tX, rfl⟩⟩, ?_⟩ | refine ⟨⟨_, rfl, .inr ⟨_, rfl, tW⟩⟩, ?_⟩)) (by repeat (first | exact trivial | refine ⟨ent_same rfl rfl rfl tL, ?_⟩ | refine ⟨ent_same rfl rfl (rfEq rfl tU) tL, ?_⟩ | refine ⟨ent_same rfl rfl (flEq rfl (by first | (simp; done) | (simp; omega) | (simp [encHo, encRt, encP]; done) | simp [maxC, minC])) trivial, ?_⟩)) rfl (rel_intro)
    · intro ⟨i, a, seen⟩ ⟨hi, hO, hsl, hok⟩ K hK
      dsimp only at hi hO hsl hok ⊢
      have hal := hO.len
      refine nK ?_
      refine s_reg rfl ?_
      refine Run.pure (dd := some 20) rfl rfl (op_lss rfl (Opd.tmp _ _ rfl) (Opd.tmp _ _ rfl)) ?_
      refine Run.nil (FinR.mk ?_)
      refine nK ?_
      refine n_cond _ rfl (fun hb => ?_) (fun hb => ?_)
      · have hlt : i < l.length := by simp at hb; omega
        have hr1 := row_at' encRt l i hlt
        have hK1 := fun a s h1 h2 h3 => hK (i + 1, a, s) ⟨by dsimp only; omega, h1, h2, h3⟩ (by dsimp only; omega)
        dsimp only at hK1
        have ox := h.ok _ (List.getElem_mem hlt)
        have lx := h.hs _ (List.getElem_mem hlt)
        generalize l[i] = x at *
        have kp := put_c a x (fun y hy => (hok y ((hO.mem y).1 hy)).1) (fun y hy => (hok y ((hO.mem y).1 hy)).2) (by omega) ox lx
        have hst := ord_step (r := x) hO
        have hpl := putRt_len a x
        generalize (putRt a x).1 = m at *
        generalize (putRt a x).2 = e at *
        refine nK ?_
        refine s_reg rfl ?_
        refine Run.pure (dd := some 21) rfl rfl (op_idx_fz _ rfl (Opd.tmp _ _ rfl) (Opd.tmp _ _ rfl) tF) ?_
        refine Run.pure (dd := some 22) rfl rfl (op_loadw_fz rfl (Opd.tmp _ _ rfl) rfl) ?_
        refine Run.eff (dd := some 7) rfl rfl (op_alloc rfl rfl rfl rfl) ?_
        refine Run.eff (dd := none) rfl rfl (op_store_flat rfl (Opd.tmp _ _ rfl) (Opd.tmp _ _ rfl) tC rfl rfl (by first | rfl | assumption) tS) ?_
        refine Run.nil (FinR.mk ?_)
        refine nK ?_
        refine s_reg rfl ?_
        refine Run.pure (dd := some 24) rfl rfl (op_move rfl (Opd.tmp _ _ rfl)) ?_
        refine Run.load (dd := some 25) rfl rfl (op_loadw_flat rfl (Opd.tmp _ _ rfl) tH rfl) ?_
        refine Run.pure (dd := some 26) rfl rfl (op_call_pure (fun _ => kp) rfl (Opd.func _) (Opds.cons _ _ _ _ (Opd.tmp _ _ rfl) (Opds.cons _ _ _ _ (Opd.tmp _ _ rfl) Opds.nil))) ?_
        refine Run.pure (dd := some 23) rfl rfl (op_move rfl (Opd.tmp _ _ rfl)) ?_
        refine Run.pure (dd := some 27) rfl rfl (op_extract_fz rfl (Opd.tmp _ _ rfl) rfl) ?_
        refine Run.pure (dd := some 28) rfl rfl (op_extract_fz rfl (Opd.tmp _ _ rfl) rfl) ?_
        refine Run.pure (dd := some 8) rfl rfl (op_assign rfl (Opd.tmp _ _ rfl)) ?_
        refine Run.pure (dd := some 9) rfl rfl (op_assign rfl (Opd.tmp _ _ rfl)) ?_
        refine Run.nil (FinR.mk ?_)
        refine nK ?_
        refine s_reg rfl ?_
        refine Run.pure (dd := some 29) rfl rfl (op_move rfl (Opd.tmp _ _ rfl)) ?_
        refine Run.pure (dd := some 30) rfl rfl (op_neq rfl (Opd.tmp _ _ rfl) (Opd.const _)) ?_
        refine Run.nil (FinR.mk ?_)
        refine nK ?_
        refine n_cond _ rfl (fun hb => ?_) (fun hb => ?_)
        · refine nK ?_
          refine s_reg rfl ?_
          refine Run.pure (dd := some 42) rfl rfl (op_add rfl (Opd.tmp _ _ rfl) (Opd.const _) tI) ?_
          refine Run.pure (dd := some 19) rfl rfl (op_move rfl (Opd.tmp _ _ rfl)) ?_
          refine Run.nil (FinR.mk ?_)
          refine nK ?_
          refine Next.weakS [5] [] (by rfl) (by first | exact keeps0 hC _ | exact keepsN hC _ rfl) (by repeat (first | exact trivial | refine ⟨⟨_, rfl, .inl ⟨rfl, rfl⟩⟩, ?_⟩ | refine ⟨⟨_, rfl, .inl ⟨slEq rfl tN, rfl⟩⟩, ?_⟩ | refine ⟨⟨_, rfl, .inl ⟨ivEq tX, rfl⟩⟩, ?_⟩)) (by repeat (first | exact trivial | refine ⟨ent_same rfl rfl rfl tL, ?_⟩ | refine ⟨ent_same rfl rfl (rfEq rfl tU) tL, ?_⟩ | refine ⟨ent_same rfl rfl (flEq rfl (by first | (simp; done) | (simp; omega) | (simp [encHo, encRt, encP]; done) | simp [maxC, minC])) trivial, ?_⟩)) rfl ((hK1 a seen hO (by omega) hok))
        · have he : e = 0 := by simpa using hb
          refine nK ?_
          refine s_reg rfl ?_
          refine Run.pure (dd := some 31) rfl rfl (op_move rfl (Opd.tmp _ _ rfl)) ?_
          refine Run.pure (dd := some 32) rfl rfl (op_len_fz rfl (by first | exact Opd.tmp _ _ rfl | exact Opd.nil _ _ (Opd.tmp _ _ rfl)) (by first | exact List.length_map _ | rfl)) ?_
          refine Run.pure (dd := some 33) rfl rfl (op_move rfl (Opd.tmp _ _ rfl)) ?_
          refine Run.pure (dd := some 34) rfl rfl (op_len_fz rfl (by first | exact Opd.tmp _ _ rfl | exact Opd.nil _ _ (Opd.tmp _ _ rfl)) (by first | exact List.length_map _ | rfl)) ?_
          refine Run.pure (dd := some 35) rfl rfl (op_add rfl (Opd.tmp _ _ rfl) (Opd.const _) tI) ?_
          refine Run.pure (dd := some 36) rfl rfl (op_eql rfl (Opd.tmp _ _ rfl) (Opd.tmp _ _ rfl)) ?_
          refine Run.nil (FinR.mk ?_)
          refine nK ?_
          refine n_cond _ rfl (fun hb => ?_) (fun hb => ?_)
          · have hm : m.length = a.length + 1 := by simp at hb; omega
            have hK2 := hK1 m (seen ++ [x]) (hst he hm) (by simp; omega) (fun y hy => by
              rcases List.mem_append.1 hy with hy | hy
              · exact hok y hy
              · simp at hy; subst hy; exact ⟨ox, lx⟩)
            unfold ORts at hK2
            rw [app1, app2] at hK2
            refine nK ?_
            refine s_reg rfl ?_
            refine Run.pure (dd := some 37) rfl rfl (op_move rfl (Opd.tmp _ _ rfl)) ?_
            refine Run.load (dd := some 38) rfl rfl (op_loadw_flat rfl (Opd.tmp _ _ rfl) tH rfl) ?_
            refine Run.pure (dd := some 39) rfl rfl (op_buildSlice_fz rfl (RowsF.cons _ _ _ _ _ _ (Opd.tmp _ _ rfl) tC (by rfl) (RowsF.nil _)) rfl rfl) ?_
            refine Run.eff (dd := some 40) rfl rfl (op_append rfl (Opd.tmp _ _ rfl) (Opd.tmp _ _ rfl) rfl (by simp) rfl rfl tB tB) ?_
            refine Run.pure (dd := some 5) rfl rfl (op_assign rfl (Opd.tmp _ _ rfl)) ?_
            refine Run.nil (FinR.mk ?_)
            refine nK ?_
            refine s_reg rfl ?_
            refine Run.pure (dd := some 41) rfl rfl (op_move rfl (Opd.tmp _ _ rfl)) ?_
            refine Run.pure (dd := some 3) rfl rfl (op_assign rfl (Opd.tmp _ _ rfl)) ?_
            refine Run.nil (FinR.mk ?_)
            refine nK ?_
            refine s_reg rfl ?_
            refine Run.pure (dd := some 42) rfl rfl (op_add rfl (Opd.tmp _ _ rfl) (Opd.const _) tI) ?_
            refine Run.pure (dd := some 19) rfl rfl (op_move rfl (Opd.tmp _ _ rfl)) ?_
            refine Run.nil (FinR.mk ?_)
            refine nK ?_
            refine Next.weakS [5] [] (by rfl) (by first | exact keeps0 hC _ | exact keepsN hC _ rfl) (by repeat (first | exact trivial | refine ⟨⟨_, rfl, .inl ⟨rfl, rfl⟩⟩, ?_⟩ | refine ⟨⟨_, rfl, .inl ⟨slEq rfl tN, rfl⟩⟩, ?_⟩ | refine ⟨⟨_, rfl, .inl ⟨ivEq tX, rfl⟩⟩, ?_⟩)) (by repeat (first | exact trivial | refine ⟨ent_same rfl rfl rfl tL, ?_⟩ | refine ⟨ent_same rfl rfl (rfEq rfl tU) tL, ?_⟩ | refine ⟨ent_same rfl rfl (flEq rfl (by first | (simp; done) | (simp; omega) | (simp [encHo, encRt, encP]; done) | simp [maxC, minC])) trivial, ?_⟩)) rfl (hK2)
          · refine nK ?_
            refine s_reg rfl ?_
            refine Run.pure (dd := some 42) rfl rfl (op_add rfl (Opd.tmp _ _ rfl) (Opd.const _) tI) ?_
            refine Run.pure (dd := some 19) rfl rfl (op_move rfl (Opd.tmp _ _ rfl)) ?_
            refine Run.nil (FinR.mk ?_)
            refine nK ?_
            refine Next.weakS [5] [] (by rfl) (by first | exact keeps0 hC _ | exact keepsN hC _ rfl) (by repeat (first | exact trivial | refine ⟨⟨_, rfl, .inl ⟨rfl, rfl⟩⟩, ?_⟩ | refine ⟨⟨_, rfl, .inl ⟨slEq rfl tN, rfl⟩⟩, ?_⟩ | refine ⟨⟨_, rfl, .inl ⟨ivEq tX, rfl⟩⟩, ?_⟩)) (by repeat (first | exact trivial | refine ⟨ent_same rfl rfl rfl tL, ?_⟩ | refine ⟨ent_same rfl rfl (rfEq rfl tU) tL, ?_⟩ | refine ⟨ent_same rfl rfl (flEq rfl (by first | (simp; done) | (simp; omega) | (simp [encHo, encRt, encP]; done) | simp [maxC, minC])) trivial, ?_⟩)) rfl ((hK1 a seen hO (by omega) hok))
      · have hie : i = l.length := by simp at hb; omega
        clear hK
        have kck := rckl_c a (fun y hy => (hok y ((hO.mem y).1 hy)).1) (fun y hy => (hok y ((hO.mem y).1 hy)).2) (by unfold lenOk; omega)
        rw [(check_iff a).2 hO.tab] at kck
        have ksm := lsame_c a a (by unfold lenOk; omega) (by unfold lenOk; omega) (fun y hy => (hok y ((hO.mem y).1 hy)).2) (fun y hy => (hok y ((hO.mem y).1 hy)).2)
        rw [show decide (a = a) = true by simp] at ksm
        refine nK ?_
        refine s_reg rfl ?_
        refine Run.pure (dd := some 43) rfl rfl (op_move rfl (Opd.tmp _ _ rfl)) ?_
        refine Run.pure (dd := some 44) rfl rfl (op_len_sl rfl (Opd.tmp _ _ rfl)) ?_
        refine Run.pure (dd := some 45) rfl rfl (op_sub rfl (Opd.tmp _ _ rfl) (Opd.const _) tI) ?_
        refine Run.pure (dd := some 10) rfl rfl (op_assign rfl (Opd.tmp _ _ rfl)) ?_
        refine Run.nil (FinR.mk ?_)
        refine nK ?_
        refine n_loop (ι := Nat × List Rte) (fun g => ([(3, .fz (VRt a)), (4, .fz (VRt g.2)), (5, .fz (VRt seen)), (10, IV .i64 ((g.1 : Int) - 1))], [], 0)) (fun g => g.1 ≤ seen.length ∧ BackOk seen g.1 g.2) (fun g => g.1) (seen.length, []) ⟨Nat.le_refl _, back_nil seen⟩ ?_ ?_
        · refine Next.weakS [] [5] (by rfl) (by first | exact keeps0 hC _ | exact keepsN hC _ rfl) (by repeat (first | exact trivial | refine ⟨⟨_, rfl, .inl ⟨rfl, rfl⟩⟩, ?_⟩ | refine ⟨⟨_, rfl, .inl ⟨slEq rfl tN, rfl⟩⟩, ?_⟩ | refine ⟨⟨_, rfl, .inl ⟨ivEq tX, rfl⟩⟩, ?_⟩ | refine ⟨⟨_, rfl, .inr ⟨_, rfl, tW⟩⟩, ?_⟩)) (by repeat (first | exact trivial | refine ⟨ent_same rfl rfl rfl tL, ?_⟩ | refine ⟨ent_same rfl rfl (rfEq rfl tU) tL, ?_⟩ | refine ⟨ent_same rfl rfl (flEq rfl (by first | (simp; done) | (simp; omega) | (simp [encHo, encRt, encP]; done) | simp [maxC, minC])) trivial, ?_⟩)) rfl (rel_intro)
        · intro ⟨k, b⟩ ⟨hk, hB⟩ K hK
          dsimp only at hk hB ⊢
          have hbl := hB.len
          refine nK ?_
          refine s_reg rfl ?_
          refine Run.pure (dd := some 46) rfl rfl (op_move rfl (Opd.tmp _ _ rfl)) ?_
          refine Run.pure (dd := some 47) rfl rfl (op_geq rfl (Opd.tmp _ _ rfl) (Opd.const _)) ?_
          refine Run.nil (FinR.mk ?_)
          refine nK ?_
          refine n_cond _ rfl (fun hb => ?_) (fun hb => ?_)
          · obtain ⟨m, rfl⟩ : ∃ m, k = m + 1 := ⟨k - 1, by simp at hb; omega⟩
            have hr1 := row_at' encRt seen m (by omega)
            obtain ⟨s1, s2⟩ := back_step hO (by omega) (by omega : m < seen.length) hB
            have hK1 := fun b h => hK (m, b) ⟨by dsimp only; omega, h⟩ (by dsimp only; omega)
            dsimp only at hK1
            have ox := hok _ (List.getElem_mem (by omega : m < seen.length))
            generalize seen[m] = x at *
            have hbm : ∀ y ∈ b, okRt y ∧ lenOk y.hs.length := fun y hy => hok y (List.mem_of_mem_drop ((hB.mem y).1 hy))
            have kp := put_c b x (fun y hy => (hbm y hy).1) (fun y hy => (hbm y hy).2) (by omega) ox.1 ox.2
            rw [s1] at kp
            generalize (putRt b x).1 = c at *
            have hK2 := hK1 c s2
            have e : (((m + 1 : Nat) : Int) - 1 - 1) = (m : Int) - 1 := by omega
            rw [← e] at hK2
            refine nK ?_
            refine s_reg rfl ?_
            refine Run.pure (dd := some 51) rfl rfl (op_move rfl (Opd.tmp _ _ rfl)) ?_
            refine Run.pure (dd := some 52) rfl rfl (op_move rfl (Opd.tmp _ _ rfl)) ?_
            refine Run.pure (dd := some 53) rfl rfl (op_move rfl (Opd.tmp _ _ rfl)) ?_
            refine Run.pure (dd := some 54) rfl rfl (op_idx_fz m rfl (Opd.tmp _ _ rfl) (Opd.tmp _ _ rfl) (by intro _; exact ⟨by omega, hr1⟩)) ?_
            refine Run.pure (dd := some 55) rfl rfl (op_loadw_fz rfl (Opd.tmp _ _ rfl) rfl) ?_
            refine Run.pure (dd := some 56) rfl rfl (op_call_pure (fun _ => kp) rfl (Opd.func _) (Opds.cons _ _ _ _ (Opd.tmp _ _ rfl) (Opds.cons _ _ _ _ (Opd.tmp _ _ rfl) Opds.nil))) ?_
            refine Run.pure (dd := some 50) rfl rfl (op_move rfl (Opd.tmp _ _ rfl)) ?_
            refine Run.pure (dd := some 57) rfl rfl (op_extract_fz rfl (Opd.tmp _ _ rfl) rfl) ?_
            refine Run.pure (dd := some 58) rfl rfl (op_extract_fz rfl (Opd.tmp _ _ rfl) rfl) ?_
            refine Run.pure (dd := some 11) rfl rfl (op_assign rfl (Opd.tmp _ _ rfl)) ?_
            refine Run.pure (dd := some 12) rfl rfl (op_assign rfl (Opd.tmp _ _ rfl)) ?_
            refine Run.nil (FinR.mk ?_)
            refine nK ?_
            refine s_reg rfl ?_
            refine Run.pure (dd := some 59) rfl rfl (op_move rfl (Opd.tmp _ _ rfl)) ?_
            refine Run.pure (dd := some 60) rfl rfl (op_neq rfl (Opd.tmp _ _ rfl) (Opd.const _)) ?_
            refine Run.nil (FinR.mk ?_)
            refine nK ?_
            refine n_cond _ rfl (fun hb => ?_) (fun hb => ?_)
            · exfalso; simp at hb
            · refine nK ?_
              refine s_reg rfl ?_
              refine Run.pure (dd := some 61) rfl rfl (op_move rfl (Opd.tmp _ _ rfl)) ?_
              refine Run.pure (dd := some 4) rfl rfl (op_assign rfl (Opd.tmp _ _ rfl)) ?_
              refine Run.nil (FinR.mk ?_)
              refine nK ?_
              refine s_reg rfl ?_
              refine Run.pure (dd := some 48) rfl rfl (op_move rfl (Opd.tmp _ _ rfl)) ?_
              refine Run.pure (dd := some 49) rfl rfl (op_sub rfl (Opd.tmp _ _ rfl) (Opd.const _) tI) ?_
              refine Run.pure (dd := some 10) rfl rfl (op_assign rfl (Opd.tmp _ _ rfl)) ?_
              refine Run.nil (FinR.mk ?_)
              refine nK ?_
              refine Next.weak [] [] (by rfl) (keeps0 hC _) (by repeat (first | exact trivial | refine ⟨⟨_, rfl, .inl ⟨rfl, rfl⟩⟩, ?_⟩)) (by repeat (first | exact trivial | refine ⟨ent_same rfl rfl rfl tL, ?_⟩ | refine ⟨ent_same rfl rfl (rfEq rfl tU) tL, ?_⟩ | refine ⟨ent_same rfl rfl (flEq rfl (by first | (simp; done) | (simp; omega) | (simp [encHo, encRt, encP]; done) | simp [maxC, minC])) trivial, ?_⟩)) (fun _ h => by simp at h) hK2
          · obtain rfl : k = 0 := by simp at hb; omega
            have hab := back_all hO hB
            subst hab
            refine nK ?_
            refine s_reg rfl ?_
            refine Run.pure (dd := some 62) rfl rfl (op_call_pure (fun _ => awake_c) rfl (Opd.func _) Opds.nil) ?_
            refine Run.pure (dd := some 63) rfl rfl (op_move rfl (Opd.tmp _ _ rfl)) ?_
            refine Run.pureG (dd := some 64) rfl rfl rfl tG (op_move rfl (Opd.tmp _ _ rfl)) ?_
            refine Run.pureG (dd := some 65) rfl rfl rfl tG (op_move rfl (Opd.tmp _ _ rfl)) ?_
            refine Run.pureG (dd := some 66) rfl rfl rfl tG (op_call_pure (fun _ => ksm) rfl (Opd.func _) (Opds.cons _ _ _ _ (Opd.topt _ _ _ rfl tO) (Opds.cons _ _ _ _ (Opd.topt _ _ _ rfl tO) Opds.nil))) ?_
            refine Run.pure (dd := some 67) rfl rfl (op_pick_and rfl (Opd.tmp _ _ rfl) (Opd.topt _ _ _ rfl tO)) ?_
            refine Run.pure (dd := some 68) rfl rfl (op_move rfl (Opd.tmp _ _ rfl)) ?_
            refine Run.pureG (dd := some 69) rfl rfl rfl tG (op_move rfl (Opd.tmp _ _ rfl)) ?_
            refine Run.pureG (dd := some 70) rfl rfl rfl tG (op_len_fz rfl (by first | exact Opd.topt _ _ _ rfl tO | exact Opd.nil _ _ (Opd.topt _ _ _ rfl tO)) (by first | exact List.length_map _ | rfl)) ?_
            refine Run.pureG (dd := some 71) rfl rfl rfl tG (op_move rfl (Opd.tmp _ _ rfl)) ?_
            refine Run.pureG (dd := some 72) rfl rfl rfl tG (op_len_fz rfl (by first | exact Opd.topt _ _ _ rfl tO | exact Opd.nil _ _ (Opd.topt _ _ _ rfl tO)) (by first | exact List.length_map _ | rfl)) ?_
            refine Run.pureG (dd := some 73) rfl rfl rfl tG (op_eql rfl (Opd.topt _ _ _ rfl tO) (Opd.topt _ _ _ rfl tO)) ?_
            refine Run.pure (dd := some 74) rfl rfl (op_pick_and rfl (Opd.tmp _ _ rfl) (Opd.topt _ _ _ rfl tO)) ?_
            refine Run.pure (dd := some 75) rfl rfl (op_move rfl (Opd.tmp _ _ rfl)) ?_
            refine Run.pureG (dd := some 76) rfl rfl rfl tG (op_move rfl (Opd.tmp _ _ rfl)) ?_
            refine Run.pureG (dd := some 77) rfl rfl rfl tG (op_call_pure (fun _ => kck) rfl (Opd.func _) (Opds.cons _ _ _ _ (Opd.topt _ _ _ rfl tO) Opds.nil)) ?_
            refine Run.pureG (dd := some 78) rfl rfl rfl tG (op_eql rfl (Opd.topt _ _ _ rfl tO) (Opd.const _)) ?_
            refine Run.pure (dd := some 79) rfl rfl (op_pick_and rfl (Opd.tmp _ _ rfl) (Opd.topt _ _ _ rfl tO)) ?_
            refine Run.pure (dd := some 2) rfl rfl (op_assign rfl (Opd.tmp _ _ rfl)) ?_
            refine Run.nil (FinR.mk ?_)
            refine nK ?_
            refine s_oB hC rfl rfl ?_
            simp [hal]
end Go.Proofs.Ytinddhlmgiahiaa
/- How the arguments of the rows read. -/
namespace Go.Proofs.Ytinddhlmgiahiaa
open Go Go.RT Go.Proofs Go.Pl
set_option linter.all false
variable {H : Type} {enc : TypeId × Value → H} {W : World} {ok : DataW H → Prop} {B : Nat}
theorem len_ok {n : Nat} (h : n ≤ maxLen) : lenOk n := by unfold lenOk; unfold maxLen at h; omega
theorem rdc_n : RdC ok enc Try.prog W 3 (fun fs => ∃ n, inr .i64 n ∧ fs = [If .i64 n]) := rdc_int (P := Try.prog) (t := 3) inferInstance
theorem rdc_u : RdC ok enc Try.prog W 31 (fun fs => ∃ n, inr .u32 n ∧ fs = [If .u32 n]) := rdc_int (P := Try.prog) (t := 31) inferInstance
theorem rdc_a : RdC ok enc Try.prog W 32 (fun fs => ∃ n, inr .u32 n ∧ fs = [If .u32 n]) := rdc_int (P := Try.prog) (t := 32) inferInstance
theorem rdc_pfx (dn : DnOk H ok B) : RdC ok enc Try.prog W 34 (fun fs => ∃ p : Pfx, p.ok ∧ fs = encP p) :=
  (rdc_struct (P := Try.prog) (t := 34) dn Try.underlying34 (by kernel_rfl) (.cons _ _ _ _ rdc_a (.cons _ _ _ _ rdc_n .nil))).imp fun fs h => by
    obtain ⟨_, _, rfl, ⟨a, ha, rfl⟩, _, _, rfl, ⟨b, hb, rfl⟩, rfl⟩ := h
    have ha' : 0 ≤ a ∧ a < 4294967296 := by simp only [inr] at ha; omega
    refine ⟨⟨a.toNat, b⟩, ⟨by show a.toNat < 2 ^ 32; omega, hb⟩, ?_⟩
    simp only [encP]
    rw [Int.toNat_of_nonneg ha'.1]; rfl
theorem rdc_hop (dn : DnOk H ok B) : RdC ok enc Try.prog W 52 (fun fs => ∃ h : Hop, okHo h ∧ fs = encHo h) :=
  (rdc_struct (P := Try.prog) (t := 52) dn Try.underlying52 (by kernel_rfl) (.cons _ _ _ _ rdc_a (.cons _ _ _ _ rdc_n (.cons _ _ _ _ rdc_u (.cons _ _ _ _ rdc_n (.cons _ _ _ _ (rdc_pfx dn) .nil)))))).imp fun fs h => by
    obtain ⟨_, _, rfl, ⟨a, ha, rfl⟩, _, _, rfl, ⟨b, hb, rfl⟩, _, _, rfl, ⟨c, hc, rfl⟩, _, _, rfl, ⟨d, hd, rfl⟩, _, _, rfl, ⟨p, hp, rfl⟩, rfl⟩ := h
    exact ⟨⟨a, b, c, d, p⟩, ⟨ha, hb, hc, hd, hp⟩, rfl⟩
theorem rdc_hops (dn : DnOk H ok B) : RdC ok enc Try.prog W 35 (fun fs => ∃ l : List Hop, (∀ x ∈ l, okHo x) ∧ l.length ≤ B ∧ fs = [VHo l]) :=
  (rdc_slice (P := Try.prog) (t := 35) (e := 52) dn inferInstance inferInstance (by decide) (rdc_hop dn)).imp fun fs h => by
    obtain ⟨rows, hr, hl, rfl⟩ := h
    obtain ⟨l, rfl, ho⟩ := rows_of (enc := encHo) (ok := okHo) (fun fs h => h) hr
    exact ⟨l, ho, by simpa using hl, rfl⟩
theorem rdc_rt (dn : DnOk H ok B) : RdC ok enc Try.prog W 37 (fun fs => ∃ r : Rte, (okRt r ∧ r.hs.length ≤ B) ∧ fs = encRt r) :=
  (rdc_struct (P := Try.prog) (t := 37) dn Try.underlying37 (by kernel_rfl) (.cons _ _ _ _ (rdc_pfx dn) (.cons _ _ _ _ rdc_n (.cons _ _ _ _ rdc_n (.cons _ _ _ _ rdc_n (.cons _ _ _ _ rdc_n (.cons _ _ _ _ (rdc_hops dn) .nil))))))).imp fun fs h => by
    obtain ⟨_, _, rfl, ⟨p, hp, rfl⟩, _, _, rfl, ⟨a, ha, rfl⟩, _, _, rfl, ⟨b, hb, rfl⟩, _, _, rfl, ⟨c, hc, rfl⟩, _, _, rfl, ⟨d, hd, rfl⟩, _, _, rfl, ⟨l, hl, hB, rfl⟩, rfl⟩ := h
    exact ⟨⟨p, a, b, c, d, l⟩, ⟨⟨hp, ha, hb, hc, hd, hl⟩, hB⟩, rfl⟩
theorem rdc_rts (dn : DnOk H ok B) : RdC ok enc Try.prog W 22 (fun fs => ∃ l : List Rte, (∀ x ∈ l, okRt x ∧ x.hs.length ≤ B) ∧ l.length ≤ B ∧ fs = [VRt l]) :=
  (rdc_slice (P := Try.prog) (t := 22) (e := 37) dn inferInstance inferInstance (by decide) (rdc_rt dn)).imp fun fs h => by
    obtain ⟨rows, hr, hl, rfl⟩ := h
    obtain ⟨l, rfl, ho⟩ := rows_of (enc := encRt) (ok := fun x => okRt x ∧ x.hs.length ≤ B) (fun fs h => h) hr
    exact ⟨l, ho, by simpa using hl, rfl⟩
theorem rdc_ns (dn : DnOk H ok B) : RdC ok enc Try.prog W 23 (fun fs => ∃ l : List Int, l.length ≤ B ∧ fs = [VI l]) :=
  (rdc_slice (P := Try.prog) (t := 23) (e := 3) dn inferInstance inferInstance (by decide) rdc_n).imp fun fs h => by
    obtain ⟨rows, hr, hl, rfl⟩ := h
    obtain ⟨l, rfl, ho⟩ := rows_of (enc := fun n => [If .i64 n]) (ok := inr .i64) (fun fs h => h) hr
    exact ⟨l, by simpa using hl, rfl⟩
theorem okL_of {l : List Rte} (h : ∀ x ∈ l, okRt x ∧ x.hs.length ≤ maxLen) (hl : l.length ≤ maxLen) : okL l := ⟨fun x hx => (h x hx).1, fun x hx => len_ok (h x hx).2, len_ok hl⟩
end Go.Proofs.Ytinddhlmgiahiaa
