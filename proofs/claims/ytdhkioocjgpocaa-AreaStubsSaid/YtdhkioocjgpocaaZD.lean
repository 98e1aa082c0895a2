/- A part of the proof: A12, RT34, RT35, RT36, AP1, A20, A21, AP2, A22. -/
import Derived.Test.YtdhkioocjgpocaaZC
set_option linter.all false
namespace Go.Proofs.Ytdhkioocjgpocaa
open Go Go.RT Go.Proofs Go.Pl
set_option linter.all false
set_option maxRecDepth 20000
theorem put_f (l : List Edg) (e : Edg) (hn : l.length ≤ 40000000) : Meets Try.prog 62 ([VE l, .agg (encE e)].map PV.fz) 0 [] (.sl 0 3 0 (putR e false l).length) [(0, OE (putR e false l))] 1 := by
  have hlen := putR_len e l false
  refine Meets.intro Try.func62 rfl (Nat.le_of_ble_eq_true rfl) fun C hC => ?_
  simp only [List.map, argEnv, Nat.reduceAdd]
  refine nK ?_
  refine s_reg rfl ?_
  refine Run.eff (dd := some 3) rfl rfl (op_box_flat rfl (Opd.tmp _ _ rfl) tC rfl) ?_
  refine Run.pure (dd := some 4) rfl rfl (op_assign rfl (Opd.const _)) ?_
  refine Run.nil (FinR.mk ?_)
  refine nK ?_
  refine s_reg rfl ?_
  refine Run.eff (dd := some 8) rfl rfl (op_buildSlice_own rfl (RowsF.nil _) rfl rfl rfl) ?_
  refine Run.pure (dd := some 5) rfl rfl (op_assign rfl (Opd.tmp _ _ rfl)) ?_
  refine Run.nil (FinR.mk ?_)
  refine nK ?_
  refine s_reg rfl ?_
  refine Run.pure (dd := some 6) rfl rfl (op_assign rfl (Opd.const _)) ?_
  refine Run.nil (FinR.mk ?_)
  refine nK ?_
  refine s_reg rfl ?_
  refine Run.pure (dd := some 7) rfl rfl (op_assign rfl (Opd.const _)) ?_
  refine Run.nil (FinR.mk ?_)
  refine nK ?_
  refine n_loop (ι := Nat × Bool × List Edg) (fun g => ([(0, .fz (VE l)), (3, .ptr 0 3 0 0), (5, .sl 1 3 0 g.2.2.length), (6, BV g.2.1), (7, IV .i64 g.1)], [(0, some (.flat 3 [encE e])), (1, OE g.2.2)], 2)) (fun g => g.1 ≤ l.length ∧ g.2.2 ++ putR e g.2.1 (l.drop g.1) = putR e false l) (fun g => l.length - g.1) (0, false, []) ⟨Nat.zero_le _, rfl⟩ ?_ ?_
  · refine Next.weakS [3, 5] [] (by rfl) (by first | exact keeps0 hC _ | exact keepsN hC _ rfl) (by repeat (first | exact trivial | refine ⟨⟨_, rfl, .inl ⟨rfl, rfl⟩⟩, ?_⟩ | refine ⟨⟨_, rfl, .inl ⟨slEq rfl tN, rfl⟩⟩, ?_⟩ | refine ⟨⟨_, rfl, .inl ⟨ivEq tX, rfl⟩⟩, ?_⟩)) (by repeat (first | exact trivial | refine ⟨ent_same rfl rfl rfl tL, ?_⟩ | refine ⟨ent_same rfl rfl (rfEq rfl tU) tL, ?_⟩ | refine ⟨ent_same rfl rfl (flEq rfl (by first | (simp; done) | (simp; omega) | (simp [encE, encN, encB]; done) | simp [maxC, minC])) trivial, ?_⟩)) rfl (rel_intro)
  · intro ⟨i, d, out⟩ ⟨hi, ho⟩ K hK
    dsimp only at hi ho ⊢
    have hol : out.length ≤ l.length + 1 := by rw [← ho] at hlen; simp at hlen; omega
    refine nK ?_
    refine s_reg rfl ?_
    refine Run.pure (dd := some 9) rfl rfl (op_move rfl (Opd.tmp _ _ rfl)) ?_
    refine Run.pure (dd := some 10) rfl rfl (op_move rfl (Opd.tmp _ _ rfl)) ?_
    refine Run.pure (dd := some 11) rfl rfl (op_len_fz rfl (by first | exact Opd.tmp _ _ rfl | exact Opd.nil _ _ (Opd.tmp _ _ rfl)) (by first | exact List.length_map _ | rfl)) ?_
    refine Run.pure (dd := some 12) rfl rfl (op_lss rfl (Opd.tmp _ _ rfl) (Opd.tmp _ _ rfl)) ?_
    refine Run.nil (FinR.mk ?_)
    refine nK ?_
    refine n_cond _ rfl (fun hb => ?_) (fun hb => ?_)
    · have hlt : i < l.length := by simp at hb; omega
      have hr1 := row_at' encE l i hlt
      rw [List.drop_eq_getElem_cons hlt] at ho
      simp only [putR] at ho
      have hK1 := fun d' o' h => hK (i + 1, d', o') ⟨by dsimp only; omega, h⟩ (by dsimp only; omega)
      generalize l[i] = x at *
      refine nK ?_
      refine s_draw mixed ?_
      refine Run.pure (dd := some 15) rfl rfl (op_move rfl (Opd.tmp _ _ rfl)) ?_
      refine Run.pure (dd := some 16) rfl rfl (op_not rfl (Opd.tmp _ _ rfl)) ?_
      refine Run.pure (dd := some 17) rfl rfl (op_move rfl (Opd.tmp _ _ rfl)) ?_
      refine Run.loadG (dd := some 18) rfl rfl rfl tG (op_loadw_flat rfl (Opd.tmp _ _ rfl) tH rfl) ?_
      refine Run.pureG (dd := some 19) rfl rfl rfl tG (op_move rfl (Opd.tmp _ _ rfl)) ?_
      refine Run.pureG (dd := some 20) rfl rfl rfl tG (op_move rfl (Opd.tmp _ _ rfl)) ?_
      refine Run.pureG (dd := some 21) rfl rfl rfl tG (op_idx_fz _ rfl (Opd.topt _ _ _ rfl tO) (Opd.topt _ _ _ rfl tO) tF) ?_
      refine Run.pureG (dd := some 22) rfl rfl rfl tG (op_loadw_fz rfl (Opd.topt _ _ _ rfl tO) rfl) ?_
      refine Run.pureG (dd := some 23) rfl rfl rfl tG (op_call_pure (fun _ => before_c _ _) rfl (Opd.func _) (Opds.cons _ _ _ _ (Opd.topt _ _ _ rfl tO) (Opds.cons _ _ _ _ (Opd.topt _ _ _ rfl tO) Opds.nil))) ?_
      refine Run.pure (dd := some 24) rfl rfl (op_pick_and rfl (Opd.tmp _ _ rfl) (Opd.topt _ _ _ rfl tO)) ?_
      refine Run.nil (FinD.mk (by kernel_rfl) ?_)
      refine nK ?_
      refine n_cond _ rfl (fun hb => ?_) (fun hb => ?_)
      · have hd : d = false ∧ befB e x = true := by simpa using hb
        obtain ⟨rfl, hx⟩ := hd
        simp only [hx, Bool.not_false, Bool.and_self, if_true, Bool.or_true] at ho
        refine nK ?_
        refine s_reg rfl ?_
        refine Run.pure (dd := some 25) rfl rfl (op_move rfl (Opd.tmp _ _ rfl)) ?_
        refine Run.load (dd := some 26) rfl rfl (op_loadw_flat rfl (Opd.tmp _ _ rfl) tH rfl) ?_
        refine Run.pure (dd := some 27) rfl rfl (op_buildSlice_fz rfl (RowsF.cons _ _ _ _ _ _ (Opd.tmp _ _ rfl) tC (by rfl) (RowsF.nil _)) rfl rfl) ?_
        refine Run.eff (dd := some 28) rfl rfl (op_append rfl (Opd.tmp _ _ rfl) (by first | exact Opd.tmp _ _ rfl | exact Opd.nil _ _ (Opd.tmp _ _ rfl)) rfl (by first | rfl | simp) rfl rfl tB tB) ?_
        refine Run.pure (dd := some 5) rfl rfl (op_assign rfl (Opd.tmp _ _ rfl)) ?_
        refine Run.nil (FinR.mk ?_)
        refine nK ?_
        refine s_reg rfl ?_
        refine Run.pure (dd := some 6) rfl rfl (op_assign rfl (Opd.const _)) ?_
        refine Run.nil (FinR.mk ?_)
        refine nK ?_
        refine s_reg rfl ?_
        refine Run.pure (dd := some 29) rfl rfl (op_move rfl (Opd.tmp _ _ rfl)) ?_
        refine Run.pure (dd := some 30) rfl rfl (op_move rfl (Opd.tmp _ _ rfl)) ?_
        refine Run.pure (dd := some 31) rfl rfl (op_move rfl (Opd.tmp _ _ rfl)) ?_
        refine Run.pure (dd := some 32) rfl rfl (op_idx_fz _ rfl (Opd.tmp _ _ rfl) (Opd.tmp _ _ rfl) tF) ?_
        refine Run.pure (dd := some 33) rfl rfl (op_loadw_fz rfl (Opd.tmp _ _ rfl) rfl) ?_
        refine Run.pure (dd := some 34) rfl rfl (op_buildSlice_fz rfl (RowsF.cons _ _ _ _ _ _ (Opd.tmp _ _ rfl) tC (by rfl) (RowsF.nil _)) rfl rfl) ?_
        refine Run.eff (dd := some 35) rfl rfl (op_append rfl (Opd.tmp _ _ rfl) (by first | exact Opd.tmp _ _ rfl | exact Opd.nil _ _ (Opd.tmp _ _ rfl)) rfl (by first | rfl | simp) rfl rfl tB tB) ?_
        refine Run.pure (dd := some 5) rfl rfl (op_assign rfl (Opd.tmp _ _ rfl)) ?_
        refine Run.nil (FinR.mk ?_)
        refine nK ?_
        refine s_reg rfl ?_
        refine Run.pure (dd := some 13) rfl rfl (op_move rfl (Opd.tmp _ _ rfl)) ?_
        refine Run.pure (dd := some 14) rfl rfl (op_add rfl (Opd.tmp _ _ rfl) (Opd.const _) tI) ?_
        refine Run.pure (dd := some 7) rfl rfl (op_assign rfl (Opd.tmp _ _ rfl)) ?_
        refine Run.nil (FinR.mk ?_)
        refine nK ?_
        refine Next.weakS [3, 5] [] (by rfl) (by first | exact keeps0 hC _ | exact keepsN hC _ rfl) (by repeat (first | exact trivial | refine ⟨⟨_, rfl, .inl ⟨rfl, rfl⟩⟩, ?_⟩ | refine ⟨⟨_, rfl, .inl ⟨slEq rfl tN, rfl⟩⟩, ?_⟩ | refine ⟨⟨_, rfl, .inl ⟨ivEq tX, rfl⟩⟩, ?_⟩)) (by repeat (first | exact trivial | refine ⟨ent_same rfl rfl rfl tL, ?_⟩ | refine ⟨ent_same rfl rfl (rfEq rfl tU) tL, ?_⟩ | refine ⟨ent_same rfl rfl (flEq rfl (by first | (simp; done) | (simp; omega) | (simp [encE, encN, encB]; done) | simp [maxC, minC])) trivial, ?_⟩)) rfl ((hK1 true (out ++ [e] ++ [x]) (by rw [← ho]; simp)))
      · have hd : (!d && befB e x) = false := hb
        rw [hd] at ho
        simp only [Bool.false_eq_true, if_false, List.nil_append, Bool.or_false] at ho
        refine nK ?_
        refine s_reg rfl ?_
        refine Run.pure (dd := some 29) rfl rfl (op_move rfl (Opd.tmp _ _ rfl)) ?_
        refine Run.pure (dd := some 30) rfl rfl (op_move rfl (Opd.tmp _ _ rfl)) ?_
        refine Run.pure (dd := some 31) rfl rfl (op_move rfl (Opd.tmp _ _ rfl)) ?_
        refine Run.pure (dd := some 32) rfl rfl (op_idx_fz _ rfl (Opd.tmp _ _ rfl) (Opd.tmp _ _ rfl) tF) ?_
        refine Run.pure (dd := some 33) rfl rfl (op_loadw_fz rfl (Opd.tmp _ _ rfl) rfl) ?_
        refine Run.pure (dd := some 34) rfl rfl (op_buildSlice_fz rfl (RowsF.cons _ _ _ _ _ _ (Opd.tmp _ _ rfl) tC (by rfl) (RowsF.nil _)) rfl rfl) ?_
        refine Run.eff (dd := some 35) rfl rfl (op_append rfl (Opd.tmp _ _ rfl) (by first | exact Opd.tmp _ _ rfl | exact Opd.nil _ _ (Opd.tmp _ _ rfl)) rfl (by first | rfl | simp) rfl rfl tB tB) ?_
        refine Run.pure (dd := some 5) rfl rfl (op_assign rfl (Opd.tmp _ _ rfl)) ?_
        refine Run.nil (FinR.mk ?_)
        refine nK ?_
        refine s_reg rfl ?_
        refine Run.pure (dd := some 13) rfl rfl (op_move rfl (Opd.tmp _ _ rfl)) ?_
        refine Run.pure (dd := some 14) rfl rfl (op_add rfl (Opd.tmp _ _ rfl) (Opd.const _) tI) ?_
        refine Run.pure (dd := some 7) rfl rfl (op_assign rfl (Opd.tmp _ _ rfl)) ?_
        refine Run.nil (FinR.mk ?_)
        refine nK ?_
        refine Next.weakS [3, 5] [] (by rfl) (by first | exact keeps0 hC _ | exact keepsN hC _ rfl) (by repeat (first | exact trivial | refine ⟨⟨_, rfl, .inl ⟨rfl, rfl⟩⟩, ?_⟩ | refine ⟨⟨_, rfl, .inl ⟨slEq rfl tN, rfl⟩⟩, ?_⟩ | refine ⟨⟨_, rfl, .inl ⟨ivEq tX, rfl⟩⟩, ?_⟩)) (by repeat (first | exact trivial | refine ⟨ent_same rfl rfl rfl tL, ?_⟩ | refine ⟨ent_same rfl rfl (rfEq rfl tU) tL, ?_⟩ | refine ⟨ent_same rfl rfl (flEq rfl (by first | (simp; done) | (simp; omega) | (simp [encE, encN, encB]; done) | simp [maxC, minC])) trivial, ?_⟩)) rfl ((hK1 d (out ++ [x]) (by rw [← ho]; simp)))
    · have hie : i = l.length := by simp at hb; omega
      rw [hie, List.drop_length] at ho
      simp only [putR] at ho
      refine nK ?_
      refine s_reg rfl ?_
      refine Run.pure (dd := some 36) rfl rfl (op_move rfl (Opd.tmp _ _ rfl)) ?_
      refine Run.pure (dd := some 37) rfl rfl (op_not rfl (Opd.tmp _ _ rfl)) ?_
      refine Run.nil (FinR.mk ?_)
      refine nK ?_
      refine n_cond _ rfl (fun hb => ?_) (fun hb => ?_)
      · have hd : d = false := by simpa using hb
        subst hd
        simp only [Bool.false_eq_true, if_false] at ho
        rw [← ho]
        refine nK ?_
        refine s_reg rfl ?_
        refine Run.pure (dd := some 38) rfl rfl (op_move rfl (Opd.tmp _ _ rfl)) ?_
        refine Run.load (dd := some 39) rfl rfl (op_loadw_flat rfl (Opd.tmp _ _ rfl) tH rfl) ?_
        refine Run.pure (dd := some 40) rfl rfl (op_buildSlice_fz rfl (RowsF.cons _ _ _ _ _ _ (Opd.tmp _ _ rfl) tC (by rfl) (RowsF.nil _)) rfl rfl) ?_
        refine Run.eff (dd := some 41) rfl rfl (op_append rfl (Opd.tmp _ _ rfl) (by first | exact Opd.tmp _ _ rfl | exact Opd.nil _ _ (Opd.tmp _ _ rfl)) rfl (by first | rfl | simp) rfl rfl tB tB) ?_
        refine Run.pure (dd := some 5) rfl rfl (op_assign rfl (Opd.tmp _ _ rfl)) ?_
        refine Run.nil (FinR.mk ?_)
        refine nK ?_
        refine s_reg rfl ?_
        refine Run.pure (dd := some 42) rfl rfl (op_move rfl (Opd.tmp _ _ rfl)) ?_
        refine Run.pure (dd := some 4) rfl rfl (op_assign rfl (Opd.tmp _ _ rfl)) ?_
        refine Run.nil (FinR.mk ?_)
        refine nK ?_
        refine Next.weakS [5] [] (by rfl) (keeps0 hC _) (G' := [(4, .sl 0 3 0 (out ++ [e]).length)]) (H' := [(0, OE (out ++ [e]))]) (by repeat (first | exact trivial | refine ⟨⟨_, rfl, .inl ⟨rfl, rfl⟩⟩, ?_⟩ | refine ⟨⟨_, rfl, .inl ⟨slEq rfl tN, rfl⟩⟩, ?_⟩ | refine ⟨⟨_, rfl, .inl ⟨ivEq tX, rfl⟩⟩, ?_⟩)) (by repeat (first | exact trivial | refine ⟨ent_same rfl rfl rfl tL, ?_⟩ | refine ⟨ent_same rfl rfl (rfEq rfl tU) tL, ?_⟩ | refine ⟨ent_same rfl rfl (flEq rfl (by first | (simp; done) | (simp; omega) | (simp [encE, encN, encB]; done) | simp [maxC, minC])) trivial, ?_⟩)) rfl ?_
        (first | exact s_o1 hC rfl tV | exact s_o2 hC rfl tV tV | exact s_o3 hC rfl tV tV tV | exact s_o4 hC rfl tV tV tV tV | exact s_out0 hC rfl | exact s_outO hC rfl rfl rfl)
      · have hd : d = true := by simpa using hb
        subst hd
        simp only [if_true, List.append_nil] at ho
        rw [← ho]
        refine nK ?_
        refine s_reg rfl ?_
        refine Run.pure (dd := some 42) rfl rfl (op_move rfl (Opd.tmp _ _ rfl)) ?_
        refine Run.pure (dd := some 4) rfl rfl (op_assign rfl (Opd.tmp _ _ rfl)) ?_
        refine Run.nil (FinR.mk ?_)
        refine nK ?_
        (first | exact s_o1 hC rfl tV | exact s_o2 hC rfl tV tV | exact s_o3 hC rfl tV tV tV | exact s_o4 hC rfl tV tV tV tV | exact s_out0 hC rfl | exact s_outO hC rfl rfl rfl)
theorem memEs (l : List Edg) : ∀ r ∈ l.map encE, memlesss r = true := fun r hr => by
  obtain ⟨e, _, rfl⟩ := List.mem_map.1 hr; rfl
theorem rof_c (r n : Int) (l : List Edg) (hr : inr .i64 r) (hn : inr .i64 n) (hl : okEs l) (hle : l.length ≤ 1999999) : Pure Try.prog 33 [If .i64 r, If .i64 n, VE l] (.tup [.agg (encG (ofF r n l).1), If .i64 (ofF r n l).2]) := by
  have hok : okG ⟨r, n, ofR l⟩ := by rw [ofR_eq]; exact ofL_ok hr hn hl
  have hlen0 := ofR_len l
  have hofF : ofF r n l = if checkI ⟨r, n, ofR l⟩ ≠ 0 then (zeroG, checkI ⟨r, n, ofR l⟩) else (⟨r, n, ofR l⟩, 0) := by unfold ofF; rw [ofR_eq]
  rw [hofF]
  refine Meets.intro Try.func33 rfl (Nat.le_of_ble_eq_true rfl) fun C hC => ?_
  simp only [List.map, argEnv, Nat.reduceAdd]
  refine nK ?_
  refine s_reg rfl ?_
  refine Run.eff (dd := some 6) rfl rfl (op_alloc rfl rfl rfl rfl) ?_
  refine Run.pure (dd := some 7) rfl rfl (op_assign rfl (Opd.const _)) ?_
  refine Run.nil (FinR.mk ?_)
  refine nK ?_
  refine s_reg rfl ?_
  refine Run.pure (dd := some 12) rfl rfl (op_move rfl (Opd.tmp _ _ rfl)) ?_
  refine Run.pure (dd := some 13) rfl rfl (op_move rfl (Opd.tmp _ _ rfl)) ?_
  refine Run.pure (dd := some 14) rfl rfl (op_build rfl rfl rfl (FillF.cons _ _ _ _ _ _ _ _ _ _ (by rfl) (Opd.tmp _ _ rfl) tC (by rfl) tR (FillF.cons _ _ _ _ _ _ _ _ _ _ (by rfl) (Opd.tmp _ _ rfl) tC (by rfl) tR (FillF.nil _)))) ?_
  refine Run.eff (dd := some 8) rfl rfl (op_alloc rfl rfl rfl rfl) ?_
  refine Run.eff (dd := none) rfl rfl (op_store_flat rfl (Opd.tmp _ _ rfl) (Opd.tmp _ _ rfl) tC rfl rfl (by first | rfl | assumption) tS) ?_
  refine Run.nil (FinR.mk ?_)
  refine nK ?_
  refine s_reg rfl ?_
  refine Run.pure (dd := some 9) rfl rfl (op_assign rfl (Opd.const _)) ?_
  refine Run.nil (FinR.mk ?_)
  refine nK ?_
  refine Next.toRefs 1 rfl rfl ?_
  refine Next.adoptCell 1 0 2 3 rfl rfl rfl rfl ?_
  refine n_loop (ι := Nat) (fun i => ([(2, .fz (VE l)), (6, .ptr 0 3 0 0), (8, .ptr 1 3 0 0), (9, IV .i64 i)], [(0, OG zeroG), (1, some (.refs 3 [[IV .i64 r, IV .i64 n, .sl 2 3 0 (ofR (l.take i)).length]])), (2, OE (ofR (l.take i)))], 3)) (fun i => i ≤ l.length) (fun i => l.length - i) 0 (Nat.zero_le _) ?_ ?_
  · refine Next.weak [0, 1, 2] [] (by rfl) (keeps0 hC _) (by repeat (first | exact trivial | refine ⟨⟨_, rfl, .inl ⟨rfl, rfl⟩⟩, ?_⟩ | refine ⟨⟨_, rfl, .inl ⟨slEq rfl tN, rfl⟩⟩, ?_⟩ | refine ⟨⟨_, rfl, .inl ⟨ivEq tX, rfl⟩⟩, ?_⟩)) (by exact ⟨⟨rfl, rfl, .fflat _ _ _ rfl tW⟩, ⟨ent_same rfl rfl rfl tL, ⟨ent_same rfl rfl rfl tL, trivial⟩⟩⟩) (fun _ h => by simp at h) rel_intro
  · intro i hi K hK
    have hla := ofR_len (l.take i)
    have htl : (l.take i).length ≤ l.length := List.length_take_le' _ _
    refine nK ?_
    refine s_reg rfl ?_
    refine Run.pure (dd := some 15) rfl rfl (op_move rfl (Opd.tmp _ _ rfl)) ?_
    refine Run.pure (dd := some 16) rfl rfl (op_move rfl (Opd.tmp _ _ rfl)) ?_
    refine Run.pure (dd := some 17) rfl rfl (op_len_fz rfl (by first | exact Opd.tmp _ _ rfl | exact Opd.nil _ _ (Opd.tmp _ _ rfl)) (by first | exact List.length_map _ | rfl)) ?_
    refine Run.pure (dd := some 18) rfl rfl (op_lss rfl (Opd.tmp _ _ rfl) (Opd.tmp _ _ rfl)) ?_
    refine Run.nil (FinR.mk ?_)
    refine nK ?_
    refine n_cond _ rfl (fun hb => ?_) (fun hb => ?_)
    · have hlt : i < l.length := by simp at hb; omega
      have hr1 := row_at' encE l i hlt
      have hst := ofR_succ l i hlt
      have hla2 := ofR_len (l.take (i + 1))
      have htl2 : (l.take (i + 1)).length ≤ l.length := List.length_take_le' _ _
      have hK1 := hK (i + 1) (by omega) (by omega)
      rw [hst] at hK1 hla2
      generalize ofR (l.take i) = acc at *
      generalize l[i] = e at *
      have hf := find_c ⟨r, n, acc⟩ e.f e.t (by dsimp only; omega)
      refine nK ?_
      refine s_draw mixed ?_
      refine Run.load (dd := some 21) rfl rfl (op_loadn_refs rfl (Opd.tmp _ _ rfl) tH tR tR) ?_
      refine Run.pure (dd := some 22) rfl rfl (op_move rfl (Opd.tmp _ _ rfl)) ?_
      refine Run.pure (dd := some 23) rfl rfl (op_move rfl (Opd.tmp _ _ rfl)) ?_
      refine Run.pure (dd := some 24) rfl rfl (op_idx_fz _ rfl (Opd.tmp _ _ rfl) (Opd.tmp _ _ rfl) tF) ?_
      refine Run.pure (dd := some 25) rfl rfl (op_fld_fz (by decide) rfl (Opd.tmp _ _ rfl) tR) ?_
      refine Run.pure (dd := some 26) rfl rfl (op_load1_fz rfl (Opd.tmp _ _ rfl) rfl) ?_
      refine Run.pure (dd := some 27) rfl rfl (op_move rfl (Opd.tmp _ _ rfl)) ?_
      refine Run.pure (dd := some 28) rfl rfl (op_move rfl (Opd.tmp _ _ rfl)) ?_
      refine Run.pure (dd := some 29) rfl rfl (op_idx_fz _ rfl (Opd.tmp _ _ rfl) (Opd.tmp _ _ rfl) tF) ?_
      refine Run.pure (dd := some 30) rfl rfl (op_fld_fz (by decide) rfl (Opd.tmp _ _ rfl) tR) ?_
      refine Run.pure (dd := some 31) rfl rfl (op_load1_fz rfl (Opd.tmp _ _ rfl) rfl) ?_
      refine Run.load (dd := some 32) rfl rfl (op_call_lend [2] (fun _ => hf) rfl (Opd.func _) (Opds.cons _ _ _ _ (Opd.tmp _ _ rfl) (Opds.cons _ _ _ _ (Opd.tmp _ _ rfl) (Opds.cons _ _ _ _ (Opd.tmp _ _ rfl) Opds.nil))) (by exact .cons _ _ _ _ tW (.cons _ _ _ _ tW (.cons _ _ _ _ tW .nil))) rfl rfl) ?_
      refine Run.pure (dd := some 10) rfl rfl (op_assign rfl (Opd.tmp _ _ rfl)) ?_
      refine Run.nil (FinD.mk (by kernel_rfl) ?_)
      refine nK ?_
      refine s_reg rfl ?_
      refine Run.pure (dd := some 33) rfl rfl (op_move rfl (Opd.tmp _ _ rfl)) ?_
      refine Run.pure (dd := some 34) rfl rfl (op_lss rfl (Opd.tmp _ _ rfl) (Opd.const _)) ?_
      refine Run.nil (FinR.mk ?_)
      refine nK ?_
      rcases fndAt_rng e.f e.t acc 0 with h0 | ⟨j, hj, h0⟩
      · have h0' : fndI acc e.f e.t = -1 := h0
        have hs : ofStep acc e = putR e false acc := by
          unfold ofStep
          split
          · rw [if_pos (by omega)]
          · rfl
        rw [hs] at hK1 hla2
        have hpf := put_f acc e (by omega)
        have h0'' : fndI (Gr.mk r n acc).es e.f e.t = -1 := h0
        rw [h0'']
        refine nK ?_
        refine n_cond _ rfl (fun hb => ?_) (fun hb => ?_)
        · refine nK ?_
          refine s_draw mixed ?_
          refine Run.pure (dd := some 35) rfl rfl (op_fld_ptr (by decide) rfl (Opd.tmp _ _ rfl)) ?_
          refine Run.load (dd := some 36) rfl rfl (op_load1_refs rfl (Opd.tmp _ _ rfl) tH rfl) ?_
          refine Run.pure (dd := some 37) rfl rfl (op_move rfl (Opd.tmp _ _ rfl)) ?_
          refine Run.pure (dd := some 38) rfl rfl (op_move rfl (Opd.tmp _ _ rfl)) ?_
          refine Run.pure (dd := some 39) rfl rfl (op_idx_fz _ rfl (Opd.tmp _ _ rfl) (Opd.tmp _ _ rfl) tF) ?_
          refine Run.pure (dd := some 40) rfl rfl (op_loadw_fz rfl (Opd.tmp _ _ rfl) rfl) ?_
          refine Run.effW (dd := some 41) rfl rfl (op_call_lendF [2] (fun _ => hpf) rfl (Opd.func _) (Opds.cons _ _ _ _ (Opd.tmp _ _ rfl) (Opds.cons _ _ _ _ (Opd.tmp _ _ rfl) Opds.nil)) (by exact .cons _ _ _ _ tW (.cons _ _ _ _ tW .nil)) rfl (memEs _)) tE ?_
          refine Run.pure (dd := some 42) rfl rfl (op_fld_ptr (by decide) rfl (Opd.tmp _ _ rfl)) ?_
          refine Run.effW (dd := none) rfl rfl (op_store_refs rfl (Opd.tmp _ _ rfl) (Opd.tmp _ _ rfl) tP rfl rfl rfl tS) tE ?_
          refine Run.nil (FinD.mk (by kernel_rfl) ?_)
          refine nK ?_
          refine s_reg rfl ?_
          refine Run.pure (dd := some 19) rfl rfl (op_move rfl (Opd.tmp _ _ rfl)) ?_
          refine Run.pure (dd := some 20) rfl rfl (op_add rfl (Opd.tmp _ _ rfl) (Opd.const _) tI) ?_
          refine Run.pure (dd := some 9) rfl rfl (op_assign rfl (Opd.tmp _ _ rfl)) ?_
          refine Run.nil (FinR.mk ?_)
          refine nK ?_
          refine Next.weak [0, 1, 3] [] (by rfl) (keeps0 hC _) (by repeat (first | exact trivial | refine ⟨⟨_, rfl, .inl ⟨rfl, rfl⟩⟩, ?_⟩ | refine ⟨⟨_, rfl, .inl ⟨slEq rfl tN, rfl⟩⟩, ?_⟩ | refine ⟨⟨_, rfl, .inl ⟨ivEq tX, rfl⟩⟩, ?_⟩)) (by exact ⟨ent_same rfl rfl rfl tL, ⟨ent_same rfl rfl rfl tL, ⟨ent_same rfl rfl rfl tL, trivial⟩⟩⟩) (fun _ h => by simp at h) hK1
        · simp at hb
      · have h0' : fndI acc e.f e.t = (j : Int) := by show fndAt e.f e.t 0 acc = _; omega
        have h0'' : fndI (Gr.mk r n acc).es e.f e.t = (j : Int) := h0'
        have hs : ofStep acc e = if e.c < acc[j].c then acc.set j ⟨acc[j].f, acc[j].t, e.c⟩ else acc := by
          unfold ofStep
          have hpos : ¬ ((j : Int) < 0) := by omega
          rw [h0']
          simp only [Int.toNat_natCast, List.getElem?_eq_getElem hj, hpos, if_false]
        rw [hs] at hK1 hla2
        have hrj := row_at' encE acc j hj
        rw [h0'']
        refine nK ?_
        refine n_cond _ rfl (fun hb => ?_) (fun hb => ?_)
        · simp at hb; omega
        · refine nK ?_
          refine s_draw mixed ?_
          refine Run.pure (dd := some 43) rfl rfl (op_move rfl (Opd.tmp _ _ rfl)) ?_
          refine Run.pure (dd := some 44) rfl rfl (op_move rfl (Opd.tmp _ _ rfl)) ?_
          refine Run.pure (dd := some 45) rfl rfl (op_idx_fz _ rfl (Opd.tmp _ _ rfl) (Opd.tmp _ _ rfl) tF) ?_
          refine Run.pure (dd := some 46) rfl rfl (op_fld_fz (by decide) rfl (Opd.tmp _ _ rfl) tR) ?_
          refine Run.pure (dd := some 47) rfl rfl (op_load1_fz rfl (Opd.tmp _ _ rfl) rfl) ?_
          refine Run.pure (dd := some 48) rfl rfl (op_fld_ptr (by decide) rfl (Opd.tmp _ _ rfl)) ?_
          refine Run.load (dd := some 49) rfl rfl (op_load1_refs rfl (Opd.tmp _ _ rfl) tH rfl) ?_
          refine Run.pure (dd := some 50) rfl rfl (op_move rfl (Opd.tmp _ _ rfl)) ?_
          refine Run.pure (dd := some 51) rfl rfl (op_idx_sl0 j rfl (Opd.tmp _ _ rfl) (Opd.tmp _ _ rfl) (by intro _; refine ⟨rfl, ?_⟩; omega)) ?_
          refine Run.pure (dd := some 52) rfl rfl (op_fld_ptr (by decide) rfl (Opd.tmp _ _ rfl)) ?_
          refine Run.load (dd := some 53) rfl rfl (op_load1_flat rfl (Opd.tmp _ _ rfl) tH rfl) ?_
          refine Run.pure (dd := some 54) rfl rfl (op_lss rfl (Opd.tmp _ _ rfl) (Opd.tmp _ _ rfl)) ?_
          refine Run.nil (FinD.mk (by kernel_rfl) ?_)
          refine nK ?_
          refine n_cond _ rfl (fun hb => ?_) (fun hb => ?_)
          · rw [if_pos (by simpa using hb)] at hK1
            have hset : (acc.map encE).set j [If .i64 acc[j].f, If .i64 acc[j].t, If .i64 e.c] = (acc.set j ⟨acc[j].f, acc[j].t, e.c⟩).map encE := by rw [List.map_set]; rfl
            rw [show OE (acc.set j ⟨acc[j].f, acc[j].t, e.c⟩) = some (.flat 3 ((acc.map encE).set j [If .i64 acc[j].f, If .i64 acc[j].t, If .i64 e.c])) by rw [hset], List.length_set] at hK1
            refine nK ?_
            refine s_draw mixed ?_
            refine Run.pure (dd := some 55) rfl rfl (op_fld_ptr (by decide) rfl (Opd.tmp _ _ rfl)) ?_
            refine Run.load (dd := some 56) rfl rfl (op_load1_refs rfl (Opd.tmp _ _ rfl) tH rfl) ?_
            refine Run.pure (dd := some 57) rfl rfl (op_move rfl (Opd.tmp _ _ rfl)) ?_
            refine Run.pure (dd := some 58) rfl rfl (op_move rfl (Opd.tmp _ _ rfl)) ?_
            refine Run.pure (dd := some 59) rfl rfl (op_move rfl (Opd.tmp _ _ rfl)) ?_
            refine Run.pure (dd := some 60) rfl rfl (op_idx_fz _ rfl (Opd.tmp _ _ rfl) (Opd.tmp _ _ rfl) tF) ?_
            refine Run.pure (dd := some 61) rfl rfl (op_fld_fz (by decide) rfl (Opd.tmp _ _ rfl) tR) ?_
            refine Run.pure (dd := some 62) rfl rfl (op_load1_fz rfl (Opd.tmp _ _ rfl) rfl) ?_
            refine Run.pure (dd := some 63) rfl rfl (op_idx_sl0 j rfl (Opd.tmp _ _ rfl) (Opd.tmp _ _ rfl) (by intro _; refine ⟨rfl, ?_⟩; omega)) ?_
            refine Run.pure (dd := some 64) rfl rfl (op_fld_ptr (by decide) rfl (Opd.tmp _ _ rfl)) ?_
            refine Run.effW (dd := none) rfl rfl (op_store_flat rfl (Opd.tmp _ _ rfl) (Opd.tmp _ _ rfl) tC rfl rfl (by first | rfl | assumption) tS) tE ?_
            refine Run.nil (FinD.mk (by kernel_rfl) ?_)
            refine nK ?_
            refine s_reg rfl ?_
            refine Run.pure (dd := some 19) rfl rfl (op_move rfl (Opd.tmp _ _ rfl)) ?_
            refine Run.pure (dd := some 20) rfl rfl (op_add rfl (Opd.tmp _ _ rfl) (Opd.const _) tI) ?_
            refine Run.pure (dd := some 9) rfl rfl (op_assign rfl (Opd.tmp _ _ rfl)) ?_
            refine Run.nil (FinR.mk ?_)
            refine nK ?_
            refine Next.weak [0, 1, 2] [] (by rfl) (keeps0 hC _) (by repeat (first | exact trivial | refine ⟨⟨_, rfl, .inl ⟨rfl, rfl⟩⟩, ?_⟩ | refine ⟨⟨_, rfl, .inl ⟨slEq rfl tN, rfl⟩⟩, ?_⟩ | refine ⟨⟨_, rfl, .inl ⟨ivEq tX, rfl⟩⟩, ?_⟩)) (by exact ⟨ent_same rfl rfl rfl tL, ⟨ent_same rfl rfl rfl tL, ⟨ent_same rfl rfl rfl tL, trivial⟩⟩⟩) (fun _ h => by simp at h) hK1
          · rw [if_neg (by simpa using hb)] at hK1
            refine nK ?_
            refine s_reg rfl ?_
            refine Run.pure (dd := some 19) rfl rfl (op_move rfl (Opd.tmp _ _ rfl)) ?_
            refine Run.pure (dd := some 20) rfl rfl (op_add rfl (Opd.tmp _ _ rfl) (Opd.const _) tI) ?_
            refine Run.pure (dd := some 9) rfl rfl (op_assign rfl (Opd.tmp _ _ rfl)) ?_
            refine Run.nil (FinR.mk ?_)
            refine nK ?_
            refine Next.weak [0, 1, 2] [] (by rfl) (keeps0 hC _) (by repeat (first | exact trivial | refine ⟨⟨_, rfl, .inl ⟨rfl, rfl⟩⟩, ?_⟩ | refine ⟨⟨_, rfl, .inl ⟨slEq rfl tN, rfl⟩⟩, ?_⟩ | refine ⟨⟨_, rfl, .inl ⟨ivEq tX, rfl⟩⟩, ?_⟩)) (by exact ⟨ent_same rfl rfl rfl tL, ⟨ent_same rfl rfl rfl tL, ⟨ent_same rfl rfl rfl tL, trivial⟩⟩⟩) (fun _ h => by simp at h) hK1
    · have hie : i = l.length := by simp at hb; omega
      rw [take_len_eq' hie]
      refine Next.weak [0, 1] [2] (by rfl) (keeps0 hC _) (G' := [(6, .ptr 0 3 0 0), (8, .ptr 1 3 0 0)]) (H' := [(0, OG zeroG), (1, OG ⟨r, n, ofR l⟩)]) (by repeat (first | exact trivial | refine ⟨⟨_, rfl, .inl ⟨rfl, rfl⟩⟩, ?_⟩ | refine ⟨⟨_, rfl, .inl ⟨slEq rfl tN, rfl⟩⟩, ?_⟩ | refine ⟨⟨_, rfl, .inl ⟨ivEq tX, rfl⟩⟩, ?_⟩)) (by exact ⟨ent_same rfl rfl rfl tL, ⟨⟨rfl, rfl, .flat _ _ _ rfl tW⟩, trivial⟩⟩) (fun id h => by obtain rfl : id = 2 := (by simpa using h); exact ⟨_, rfl⟩) ?_
      refine nK ?_
      refine s_reg rfl ?_
      refine Run.load (dd := some 65) rfl rfl (op_loadw_flat rfl (Opd.tmp _ _ rfl) tH rfl) ?_
      refine Run.pure (dd := some 66) rfl rfl (op_call_pure (fun _ => rcheck_c _ (by assumption)) rfl (Opd.func _) (Opds.cons _ _ _ _ (Opd.tmp _ _ rfl) Opds.nil)) ?_
      refine Run.pure (dd := some 11) rfl rfl (op_assign rfl (Opd.tmp _ _ rfl)) ?_
      refine Run.nil (FinR.mk ?_)
      refine nK ?_
      refine s_reg rfl ?_
      refine Run.pure (dd := some 67) rfl rfl (op_move rfl (Opd.tmp _ _ rfl)) ?_
      refine Run.pure (dd := some 68) rfl rfl (op_neq rfl (Opd.tmp _ _ rfl) (Opd.const _)) ?_
      refine Run.nil (FinR.mk ?_)
      refine nK ?_
      refine n_cond _ rfl (fun hb => ?_) (fun hb => ?_)
      · rw [if_pos (by simpa using hb)]
        refine nK ?_
        refine s_reg rfl ?_
        refine Run.pure (dd := some 69) rfl rfl (op_build rfl rfl rfl (FillF.nil _)) ?_
        refine Run.pure (dd := some 70) rfl rfl (op_move rfl (Opd.tmp _ _ rfl)) ?_
        refine Run.eff (dd := none) rfl rfl (op_store_flat rfl (Opd.tmp _ _ rfl) (Opd.tmp _ _ rfl) tC rfl rfl (by first | rfl | assumption) tS) ?_
        refine Run.pure (dd := some 7) rfl rfl (op_assign rfl (Opd.tmp _ _ rfl)) ?_
        refine Run.nil (FinR.mk ?_)
        refine nK ?_
        refine Next.weakS [6] [] (by rfl) (keeps0 hC _) (G' := [(6, .ptr 0 3 0 0), (7, IV .i64 (checkI ⟨r, n, ofR l⟩))]) (H' := [(0, OG zeroG)]) (by repeat (first | exact trivial | refine ⟨⟨_, rfl, .inl ⟨rfl, rfl⟩⟩, ?_⟩ | refine ⟨⟨_, rfl, .inl ⟨slEq rfl tN, rfl⟩⟩, ?_⟩ | refine ⟨⟨_, rfl, .inl ⟨ivEq tX, rfl⟩⟩, ?_⟩)) (by exact ⟨⟨rfl, rfl, .fflat _ _ _ rfl tW⟩, trivial⟩) rfl ?_
        (first | exact s_o1 hC rfl tV | exact s_o2 hC rfl tV tV | exact s_o3 hC rfl tV tV tV | exact s_o4 hC rfl tV tV tV tV | exact s_out0 hC rfl | exact s_outO hC rfl rfl rfl)
      · rw [if_neg (by simpa using hb)]
        refine nK ?_
        refine s_reg rfl ?_
        refine Run.load (dd := some 71) rfl rfl (op_loadw_flat rfl (Opd.tmp _ _ rfl) tH rfl) ?_
        refine Run.eff (dd := none) rfl rfl (op_store_flat rfl (Opd.tmp _ _ rfl) (Opd.tmp _ _ rfl) tC rfl rfl (by first | rfl | assumption) tS) ?_
        refine Run.pure (dd := some 7) rfl rfl (op_assign rfl (Opd.const _)) ?_
        refine Run.nil (FinR.mk ?_)
        refine nK ?_
        (first | exact s_o1 hC rfl tV | exact s_o2 hC rfl tV tV | exact s_o3 hC rfl tV tV tV | exact s_o4 hC rfl tV tV tV tV | exact s_out0 hC rfl | exact s_outO hC rfl rfl rfl)
end Go.Proofs.Ytdhkioocjgpocaa
namespace Go.RT
open Go
set_option linter.all false
section
variable {P : Program} {C : Cx} {N : Nat} {G : Env} {H : Hp} {nx : Nat} {Q : Exit → Act → World → Prop} {K : Act → World → Prop}
end
open Go
section
variable {P : Program} {C : Cx} {N : Nat} {G : Env} {H : Hp} {nx : Nat} {Q : Exit → Act → World → Prop} {K : Act → World → Prop}
end
end Go.RT
/- The engine, part 36: four results; the greatest of six numbers. -/
namespace Go.RT
open Go
set_option linter.all false
section
variable {P : Program} {C : Cx} {N : Nat} {G : Env} {H : Hp} {nx : Nat}
theorem rep_tup4 {w : World} {S : Nat → Prop} {m : Ids} {v1 v2 v3 v4 : Value} {f1 f2 f3 f4 : FV} (h1 : Rep w S m v1 (.fz f1)) (h2 : Rep w S m v2 (.fz f2)) (h3 : Rep w S m v3 (.fz f3)) (h4 : Rep w S m v4 (.fz f4)) : Rep w S m (.tuple #[v1, v2, v3, v4]) (.fz (.tup [f1, f2, f3, f4])) := by
  cases h1 with | fz _ _ h1 => cases h2 with | fz _ _ h2 => cases h3 with | fz _ _ h3 => cases h4 with | fz _ _ h4 =>
  refine .fz _ _ (.tup _ _ rfl fun i c f hc hf => ?_)
  match i with
  | 0 => simp at hc hf; subst hc; subst hf; exact h1
  | 1 => simp at hc hf; subst hc; subst hf; exact h2
  | 2 => simp at hc hf; subst hc; subst hf; exact h3
  | 3 => simp at hc hf; subst hc; subst hf; exact h4
  | i + 4 => simp at hf
theorem s_o4 {fn : Func} {f1 f2 f3 f4 : FV} {rv1 rv2 rv3 rv4 : ResultVar} (hC : C.n0 = 0) (hres : fn.results = #[rv1, rv2, rv3, rv4]) (h : RV P G H rv1 f1) (h' : RV P G H rv2 f2) (h'' : RV P G H rv3 f3) (h''' : RV P G H rv4 f4) : Next C N G H nx (Out P fn C (.fz (.tup [f1, f2, f3, f4])) [] 0 .ret) :=
  s_ofin hC fun S m a w hm hsl => by
    obtain ⟨v1, h2, h1⟩ := h.run hm hsl
    obtain ⟨v2, h4, h3⟩ := h'.run hm hsl
    obtain ⟨v3, h6, h5⟩ := h''.run hm hsl
    obtain ⟨v4, h8, h7⟩ := h'''.run hm hsl
    refine ⟨.tuple #[v1, v2, v3, v4], ?_, (rep_tup4 (m := m) (.fz _ _ h2) (.fz _ _ h4) (.fz _ _ h6) (.fz _ _ h8)).frz⟩
    rcases h1 with ⟨r, rfl, e1⟩ | ⟨r, t, ad, rfl, e1, e2⟩ <;> rcases h3 with ⟨r', rfl, e3⟩ | ⟨r', t', ad', rfl, e3, e4⟩ <;> rcases h5 with ⟨r'', rfl, e5⟩ | ⟨r'', t'', ad'', rfl, e5, e6⟩ <;> rcases h7 with ⟨r3, rfl, e7⟩ | ⟨r3, t3, ad3, rfl, e7, e8⟩ <;> simp [results, hres, asAddr, *]
end
section
variable {P : Program} {o : Oper} {g : Bool} {G : Env} {x1 x2 x3 x4 x5 x6 : Operand} {k : IntKind} {a b c d e f : Int}
end
end Go.RT
/- Advertisements and what the functions on them compute. No program in sight. -/
namespace Go.Pl
open Go Go.RT
set_option linter.all false
structure Hdr where
  ty : Int
  id : Int
  ln : Int
  rt : Int
  sq : Int
  ag : Int
  sm : Int
  deriving DecidableEq
structure Lnk where
  k : Int
  id : Int
  d : Int
  c : Int
  deriving DecidableEq
structure Lsa where
  h : Hdr
  bo : Bool
  bd : Bool
  ls : List Lnk
  att : List Int
  co : Int
  se : Bool
  fw : Int
  tg : Int
  deriving DecidableEq
structure KeyA where
  ty : Int
  id : Int
  ln : Int
  rt : Int
  deriving DecidableEq
structure NetV where
  id : Int
  rt : Int
  ln : Int
  deriving DecidableEq
structure AGr where
  g : Gr
  rs : List Int
  ns : List NetV
  deriving DecidableEq
def encH (h : Hdr) : List FV := [If .i64 h.ty, If .u32 h.id, If .i64 h.ln, If .u32 h.rt, If .i64 h.sq, If .i64 h.ag, If .i64 h.sm]
def encL (x : Lnk) : List FV := [If .i64 x.k, If .u32 x.id, If .u32 x.d, If .i64 x.c]
def encU (x : Int) : List FV := [If .u32 x]
def encK (x : KeyA) : List FV := [If .i64 x.ty, If .u32 x.id, If .i64 x.ln, If .u32 x.rt]
def encV (x : NetV) : List FV := [If .u32 x.id, If .u32 x.rt, If .i64 x.ln]
abbrev VL (l : List Lnk) : FV := .vals 4 (l.map encL)
abbrev VU (l : List Int) : FV := .vals 1 (l.map encU)
abbrev VV (l : List NetV) : FV := .vals 3 (l.map encV)
def encA (l : Lsa) : List FV := [If .i64 l.h.ty, If .u32 l.h.id, If .i64 l.h.ln, If .u32 l.h.rt, If .i64 l.h.sq, If .i64 l.h.ag, If .i64 l.h.sm, Bf l.bo, Bf l.bd, VL l.ls, VU l.att, If .i64 l.co, Bf l.se, If .u32 l.fw, If .i64 l.tg]
abbrev VA (l : List Lsa) : FV := .vals 15 (l.map encA)
def encR (a : AGr) : List FV := [If .i64 a.g.r, If .i64 a.g.n, VE a.g.es, VU a.rs, VV a.ns]
def okH (h : Hdr) : Prop := inr .i64 h.ty ∧ inr .u32 h.id ∧ inr .i64 h.ln ∧ inr .u32 h.rt ∧ inr .i64 h.sq ∧ inr .i64 h.ag ∧ inr .i64 h.sm
def okK (x : Lnk) : Prop := inr .i64 x.k ∧ inr .u32 x.id ∧ inr .u32 x.d ∧ inr .i64 x.c
def okU (x : Int) : Prop := inr .u32 x
def okA (l : Lsa) : Prop := okH l.h ∧ (∀ x ∈ l.ls, okK x) ∧ (∀ x ∈ l.att, okU x) ∧ inr .i64 l.co ∧ inr .u32 l.fw ∧ inr .i64 l.tg
theorem ifT {α : Type} {b : Bool} {x y : α} (h : b = true) : (if b = true then x else y) = x := if_pos h
theorem ifF {α : Type} {b : Bool} {x y : α} (h : b = false) : (if b = true then x else y) = y := if_neg (by rw [h]; decide)
/-- the functions of the reference -/
def inB (n lo hi : Int) : Bool := decide (lo ≤ n) && decide (n ≤ hi)
def bitA (id : Int) (i : Nat) : Bool := decide (id.toNat / 2 ^ (31 - i) % 2 = 1)
def fitsB (id n : Int) : Bool := !(decide (n < 0) || decide (32 < n)) && (List.range 32).all fun i => decide ((i : Int) < n) || !bitA id i
def headI (h : Hdr) : Int :=
  if (!inB h.ty 1 5) = true then 15 else
  if (decide (h.rt = 0) || !inB h.sq 1 2147483647 || !inB h.ag 0 3600 || !inB h.sm 0 65535) = true then 5 else
  if (if (decide (h.ty = 1) || decide (h.ty = 4)) = true then decide (h.ln ≠ 0) else !inB h.ln 0 32) = true then 5 else
  if (decide (h.ty = 1) && decide (h.id ≠ h.rt)) = true then 14 else
  if ((decide (h.ty = 3) || decide (h.ty = 5)) && !fitsB h.id h.ln) = true then 1 else
  if ((decide (h.ty = 2) || decide (h.ty = 4)) && decide (h.id = 0)) = true then 1 else 0
def lnkI (a b : Lnk) : Int := if a.k ≠ b.k then cmpI a.k b.k else if a.id ≠ b.id then cmpI a.id b.id else cmpI a.d b.d
def keyI (a b : KeyA) : Int := if a.ty ≠ b.ty then cmpI a.ty b.ty else if a.id ≠ b.id then cmpI a.id b.id else if a.ln ≠ b.ln then cmpI a.ln b.ln else cmpI a.rt b.rt
def keyA (h : Hdr) : KeyA := ⟨h.ty, h.id, h.ln, h.rt⟩
/-- the error of a link by itself -/
def linkE (r : Int) (x : Lnk) : Int :=
  if (!inB x.k 1 3) = true then 15 else
  if (!inB x.c 1 65535) = true then 5 else
  if (decide (x.k = 1) && (decide (x.id = 0) || decide (x.id = r))) = true then 1 else
  if (decide (x.k = 3) && (decide (32 < x.d) || !fitsB x.id x.d)) = true then 1 else 0
/-- the first error from place i on -/
def linksGo (r : Int) : Option Lnk → List Lnk → Int
  | _, [] => 0
  | p, x :: l => if linkE r x ≠ 0 then linkE r x else if (match p with | none => false | some q => decide (0 ≤ lnkI q x)) = true then 16 else linksGo r (some x) l
def linksI (l : Lsa) : Int := if 64 < l.ls.length then 4 else linksGo l.h.rt none l.ls
def attGo : Option Int → List Int → Bool
  | _, [] => true
  | p, x :: l => if (decide (x = 0) || (match p with | none => false | some q => decide (x ≤ q))) = true then false else attGo (some x) l
def attI (l : Lsa) : Int := if 64 < l.att.length then 4 else if attGo none l.att = false then 16 else if l.att.contains l.h.rt then 0 else 14
def unusedB (l : Lsa) : Bool :=
  if (decide (l.h.ty ≠ 1) && (l.bo || l.bd || decide (0 < (l.ls.length : Int)))) = true then false else
  if (decide (l.h.ty ≠ 2) && decide (0 < (l.att.length : Int))) = true then false else
  if (decide (l.h.ty < 3) && decide (l.co ≠ 0)) = true then false else
  (decide (l.h.ty = 5) || (!l.se && decide (l.fw = 0) && decide (l.tg = 0)))
def chkA (l : Lsa) : Int :=
  if headI l.h ≠ 0 then headI l.h else
  if (!unusedB l) = true then 1 else
  if l.h.ty = 1 then linksI l else
  if l.h.ty = 2 then attI l else
  if (!inB l.co 0 16777216 || !inB l.tg 0 4294967295) = true then 5 else 0
open Go.RT
def prevG {α : Type} (l : List α) (i : Nat) : Option α := if i = 0 then none else l[i - 1]?
theorem prevG_succ {α : Type} {l : List α} {i : Nat} (h : i < l.length) : prevG l (i + 1) = some l[i] := by simp [prevG, h]
def badL : Option Lnk → Lnk → Bool
  | none, _ => false
  | some q, x => decide (0 ≤ lnkI q x)
def badU : Option Int → Int → Bool
  | none, _ => false
  | some q, x => decide (x ≤ q)
theorem links_step {r : Int} {l : List Lnk} {i : Nat} (h : i < l.length) : linksGo r (prevG l i) (l.drop i) = if linkE r l[i] ≠ 0 then linkE r l[i] else if badL (prevG l i) l[i] = true then 16 else linksGo r (prevG l (i + 1)) (l.drop (i + 1)) := by
  rw [List.drop_eq_getElem_cons h, prevG_succ h]
  conv => lhs; unfold linksGo
  cases hp : prevG l i <;> rfl
theorem att_step {l : List Int} {i : Nat} (h : i < l.length) : attGo (prevG l i) (l.drop i) = if (decide (l[i] = 0) || badU (prevG l i) l[i]) = true then false else attGo (prevG l (i + 1)) (l.drop (i + 1)) := by
  rw [List.drop_eq_getElem_cons h, prevG_succ h]
  conv => lhs; unfold attGo
  cases hp : prevG l i <;> rfl
end Go.Pl
namespace Go.Proofs.Ytdhkioocjgpocaa
open Go Go.RT Go.Proofs Go.Pl
set_option linter.all false
set_option maxRecDepth 20000
theorem within_c (n lo hi : Int) : Pure Try.prog 68 [If .i64 n, If .i64 lo, If .i64 hi] (Bf (inB n lo hi)) := by
  unfold inB
  refine Meets.intro Try.func68 rfl (Nat.le_of_ble_eq_true rfl) fun C hC => ?_
  simp only [List.map, argEnv, Nat.reduceAdd]
  refine nK ?_
  refine s_reg rfl ?_
  refine Run.pure (dd := some 6) rfl rfl (op_assign rfl (Opd.const _)) ?_
  refine Run.nil (FinR.mk ?_)
  refine nK ?_
  refine s_reg rfl ?_
  refine Run.pure (dd := some 7) rfl rfl (op_move rfl (Opd.tmp _ _ rfl)) ?_
  refine Run.pure (dd := some 8) rfl rfl (op_move rfl (Opd.tmp _ _ rfl)) ?_
  refine Run.pure (dd := some 9) rfl rfl (op_geq rfl (Opd.tmp _ _ rfl) (Opd.tmp _ _ rfl)) ?_
  refine Run.pure (dd := some 10) rfl rfl (op_move rfl (Opd.tmp _ _ rfl)) ?_
  refine Run.pureG (dd := some 11) rfl rfl rfl tG (op_move rfl (Opd.tmp _ _ rfl)) ?_
  refine Run.pureG (dd := some 12) rfl rfl rfl tG (op_move rfl (Opd.tmp _ _ rfl)) ?_
  refine Run.pureG (dd := some 13) rfl rfl rfl tG (op_leq rfl (Opd.topt _ _ _ rfl tO) (Opd.topt _ _ _ rfl tO)) ?_
  refine Run.pure (dd := some 14) rfl rfl (op_pick_and rfl (Opd.tmp _ _ rfl) (Opd.topt _ _ _ rfl tO)) ?_
  refine Run.pure (dd := some 6) rfl rfl (op_assign rfl (Opd.tmp _ _ rfl)) ?_
  refine Run.nil (FinR.mk ?_)
  refine nK ?_
  (first | exact s_o1 hC rfl tV | exact s_o2 hC rfl tV tV | exact s_o3 hC rfl tV tV tV | exact s_o4 hC rfl tV tV tV tV | exact s_out0 hC rfl | exact s_outO hC rfl rfl rfl)
theorem numbers_c (a b : Int) : Pure Try.prog 75 [If .i64 a, If .i64 b] (If .i64 (cmpI a b)) := by
  unfold cmpI
  refine Meets.intro Try.func75 rfl (Nat.le_of_ble_eq_true rfl) fun C hC => ?_
  simp only [List.map, argEnv, Nat.reduceAdd]
  refine nK ?_
  refine s_reg rfl ?_
  refine Run.pure (dd := some 4) rfl rfl (op_assign rfl (Opd.const _)) ?_
  refine Run.nil (FinR.mk ?_)
  refine nK ?_
  refine s_reg rfl ?_
  refine Run.pure (dd := some 5) rfl rfl (op_move rfl (Opd.tmp _ _ rfl)) ?_
  refine Run.pure (dd := some 6) rfl rfl (op_move rfl (Opd.tmp _ _ rfl)) ?_
  refine Run.pure (dd := some 7) rfl rfl (op_lss rfl (Opd.tmp _ _ rfl) (Opd.tmp _ _ rfl)) ?_
  refine Run.nil (FinR.mk ?_)
  refine nK ?_
  refine n_cond _ rfl (fun hb => ?_) (fun hb => ?_)
  · rw [if_pos (by simpa using hb)]
    refine nK ?_
    refine s_reg rfl ?_
    refine Run.pure (dd := some 4) rfl rfl (op_assign rfl (Opd.const _)) ?_
    refine Run.nil (FinR.mk ?_)
    refine nK ?_
    (first | exact s_o1 hC rfl tV | exact s_o2 hC rfl tV tV | exact s_o3 hC rfl tV tV tV | exact s_o4 hC rfl tV tV tV tV | exact s_out0 hC rfl | exact s_outO hC rfl rfl rfl)
  · rw [if_neg (by simpa using hb)]
    refine nK ?_
    refine s_reg rfl ?_
    refine Run.pure (dd := some 8) rfl rfl (op_move rfl (Opd.tmp _ _ rfl)) ?_
    refine Run.pure (dd := some 9) rfl rfl (op_move rfl (Opd.tmp _ _ rfl)) ?_
    refine Run.pure (dd := some 10) rfl rfl (op_gtr rfl (Opd.tmp _ _ rfl) (Opd.tmp _ _ rfl)) ?_
    refine Run.nil (FinR.mk ?_)
    refine nK ?_
    refine n_cond _ rfl (fun hb => ?_) (fun hb => ?_)
    · rw [if_pos (by simpa using hb)]
      refine nK ?_
      refine s_reg rfl ?_
      refine Run.pure (dd := some 4) rfl rfl (op_assign rfl (Opd.const _)) ?_
      refine Run.nil (FinR.mk ?_)
      refine nK ?_
      (first | exact s_o1 hC rfl tV | exact s_o2 hC rfl tV tV | exact s_o3 hC rfl tV tV tV | exact s_o4 hC rfl tV tV tV tV | exact s_out0 hC rfl | exact s_outO hC rfl rfl rfl)
    · rw [if_neg (by simpa using hb)]
      refine nK ?_
      refine s_reg rfl ?_
      refine Run.pure (dd := some 4) rfl rfl (op_assign rfl (Opd.const _)) ?_
      refine Run.nil (FinR.mk ?_)
      refine nK ?_
      (first | exact s_o1 hC rfl tV | exact s_o2 hC rfl tV tV | exact s_o3 hC rfl tV tV tV | exact s_o4 hC rfl tV tV tV tV | exact s_out0 hC rfl | exact s_outO hC rfl rfl rfl)
theorem words_c (a b : Int) : Pure Try.prog 76 [If .u32 a, If .u32 b] (If .i64 (cmpI a b)) := by
  unfold cmpI
  refine Meets.intro Try.func76 rfl (Nat.le_of_ble_eq_true rfl) fun C hC => ?_
  simp only [List.map, argEnv, Nat.reduceAdd]
  refine nK ?_
  refine s_reg rfl ?_
  refine Run.pure (dd := some 4) rfl rfl (op_assign rfl (Opd.const _)) ?_
  refine Run.nil (FinR.mk ?_)
  refine nK ?_
  refine s_reg rfl ?_
  refine Run.pure (dd := some 5) rfl rfl (op_move rfl (Opd.tmp _ _ rfl)) ?_
  refine Run.pure (dd := some 6) rfl rfl (op_move rfl (Opd.tmp _ _ rfl)) ?_
  refine Run.pure (dd := some 7) rfl rfl (op_lss rfl (Opd.tmp _ _ rfl) (Opd.tmp _ _ rfl)) ?_
  refine Run.nil (FinR.mk ?_)
  refine nK ?_
  refine n_cond _ rfl (fun hb => ?_) (fun hb => ?_)
  · rw [if_pos (by simpa using hb)]
    refine nK ?_
    refine s_reg rfl ?_
    refine Run.pure (dd := some 4) rfl rfl (op_assign rfl (Opd.const _)) ?_
    refine Run.nil (FinR.mk ?_)
    refine nK ?_
    (first | exact s_o1 hC rfl tV | exact s_o2 hC rfl tV tV | exact s_o3 hC rfl tV tV tV | exact s_o4 hC rfl tV tV tV tV | exact s_out0 hC rfl | exact s_outO hC rfl rfl rfl)
  · rw [if_neg (by simpa using hb)]
    refine nK ?_
    refine s_reg rfl ?_
    refine Run.pure (dd := some 8) rfl rfl (op_move rfl (Opd.tmp _ _ rfl)) ?_
    refine Run.pure (dd := some 9) rfl rfl (op_move rfl (Opd.tmp _ _ rfl)) ?_
    refine Run.pure (dd := some 10) rfl rfl (op_gtr rfl (Opd.tmp _ _ rfl) (Opd.tmp _ _ rfl)) ?_
    refine Run.nil (FinR.mk ?_)
    refine nK ?_
    refine n_cond _ rfl (fun hb => ?_) (fun hb => ?_)
    · rw [if_pos (by simpa using hb)]
      refine nK ?_
      refine s_reg rfl ?_
      refine Run.pure (dd := some 4) rfl rfl (op_assign rfl (Opd.const _)) ?_
      refine Run.nil (FinR.mk ?_)
      refine nK ?_
      (first | exact s_o1 hC rfl tV | exact s_o2 hC rfl tV tV | exact s_o3 hC rfl tV tV tV | exact s_o4 hC rfl tV tV tV tV | exact s_out0 hC rfl | exact s_outO hC rfl rfl rfl)
    · rw [if_neg (by simpa using hb)]
      refine nK ?_
      refine s_reg rfl ?_
      refine Run.pure (dd := some 4) rfl rfl (op_assign rfl (Opd.const _)) ?_
      refine Run.nil (FinR.mk ?_)
      refine nK ?_
      (first | exact s_o1 hC rfl tV | exact s_o2 hC rfl tV tV | exact s_o3 hC rfl tV tV tV | exact s_o4 hC rfl tV tV tV tV | exact s_out0 hC rfl | exact s_outO hC rfl rfl rfl)
theorem key_c (h : Hdr) : Pure Try.prog 52 [.agg (encH h)] (.agg (encK (keyA h))) := by
  refine Meets.intro Try.func52 rfl (Nat.le_of_ble_eq_true rfl) fun C hC => ?_
  simp only [List.map, argEnv, Nat.reduceAdd]
  refine nK ?_
  refine s_reg rfl ?_
  refine Run.eff (dd := some 1) rfl rfl (op_box_flat rfl (Opd.tmp _ _ rfl) tC rfl) ?_
  refine Run.eff (dd := some 2) rfl rfl (op_alloc rfl rfl rfl rfl) ?_
  refine Run.nil (FinR.mk ?_)
  refine nK ?_
  refine s_reg rfl ?_
  refine Run.pure (dd := some 3) rfl rfl (op_fld_ptr (by decide) rfl (Opd.tmp _ _ rfl)) ?_
  refine Run.load (dd := some 4) rfl rfl (op_load1_flat rfl (Opd.tmp _ _ rfl) tH rfl) ?_
  refine Run.pure (dd := some 5) rfl rfl (op_fld_ptr (by decide) rfl (Opd.tmp _ _ rfl)) ?_
  refine Run.load (dd := some 6) rfl rfl (op_load1_flat rfl (Opd.tmp _ _ rfl) tH rfl) ?_
  refine Run.pure (dd := some 7) rfl rfl (op_fld_ptr (by decide) rfl (Opd.tmp _ _ rfl)) ?_
  refine Run.load (dd := some 8) rfl rfl (op_load1_flat rfl (Opd.tmp _ _ rfl) tH rfl) ?_
  refine Run.pure (dd := some 9) rfl rfl (op_fld_ptr (by decide) rfl (Opd.tmp _ _ rfl)) ?_
  refine Run.load (dd := some 10) rfl rfl (op_load1_flat rfl (Opd.tmp _ _ rfl) tH rfl) ?_
  refine Run.pure (dd := some 11) rfl rfl (op_build rfl rfl rfl (FillF.cons _ _ _ _ _ _ _ _ _ _ (by rfl) (Opd.tmp _ _ rfl) tC (by rfl) tR (FillF.cons _ _ _ _ _ _ _ _ _ _ (by rfl) (Opd.tmp _ _ rfl) tC (by rfl) tR (FillF.cons _ _ _ _ _ _ _ _ _ _ (by rfl) (Opd.tmp _ _ rfl) tC (by rfl) tR (FillF.cons _ _ _ _ _ _ _ _ _ _ (by rfl) (Opd.tmp _ _ rfl) tC (by rfl) tR (FillF.nil _)))))) ?_
  refine Run.eff (dd := none) rfl rfl (op_store_flat rfl (Opd.tmp _ _ rfl) (Opd.tmp _ _ rfl) tC rfl rfl (by first | rfl | assumption) tS) ?_
  refine Run.nil (FinR.mk ?_)
  refine nK ?_
  (first | exact s_o1 hC rfl tV | exact s_o2 hC rfl tV tV | exact s_o3 hC rfl tV tV tV | exact s_o4 hC rfl tV tV tV tV | exact s_out0 hC rfl | exact s_outO hC rfl rfl rfl)
theorem keyL_c (h : Hdr) : Pure Try.prog 46 [.agg (encH h)] (.agg (encK (keyA h))) := by
  refine Meets.intro Try.func46 rfl (Nat.le_of_ble_eq_true rfl) fun C hC => ?_
  simp only [List.map, argEnv, Nat.reduceAdd]
  refine nK ?_
  refine s_reg rfl ?_
  refine Run.eff (dd := some 1) rfl rfl (op_box_flat rfl (Opd.tmp _ _ rfl) tC rfl) ?_
  refine Run.eff (dd := some 2) rfl rfl (op_alloc rfl rfl rfl rfl) ?_
  refine Run.nil (FinR.mk ?_)
  refine nK ?_
  refine s_reg rfl ?_
  refine Run.pure (dd := some 3) rfl rfl (op_fld_ptr (by decide) rfl (Opd.tmp _ _ rfl)) ?_
  refine Run.load (dd := some 4) rfl rfl (op_load1_flat rfl (Opd.tmp _ _ rfl) tH rfl) ?_
  refine Run.pure (dd := some 5) rfl rfl (op_fld_ptr (by decide) rfl (Opd.tmp _ _ rfl)) ?_
  refine Run.load (dd := some 6) rfl rfl (op_load1_flat rfl (Opd.tmp _ _ rfl) tH rfl) ?_
  refine Run.pure (dd := some 7) rfl rfl (op_fld_ptr (by decide) rfl (Opd.tmp _ _ rfl)) ?_
  refine Run.load (dd := some 8) rfl rfl (op_load1_flat rfl (Opd.tmp _ _ rfl) tH rfl) ?_
  refine Run.pure (dd := some 9) rfl rfl (op_fld_ptr (by decide) rfl (Opd.tmp _ _ rfl)) ?_
  refine Run.load (dd := some 10) rfl rfl (op_load1_flat rfl (Opd.tmp _ _ rfl) tH rfl) ?_
  refine Run.pure (dd := some 11) rfl rfl (op_build rfl rfl rfl (FillF.cons _ _ _ _ _ _ _ _ _ _ (by rfl) (Opd.tmp _ _ rfl) tC (by rfl) tR (FillF.cons _ _ _ _ _ _ _ _ _ _ (by rfl) (Opd.tmp _ _ rfl) tC (by rfl) tR (FillF.cons _ _ _ _ _ _ _ _ _ _ (by rfl) (Opd.tmp _ _ rfl) tC (by rfl) tR (FillF.cons _ _ _ _ _ _ _ _ _ _ (by rfl) (Opd.tmp _ _ rfl) tC (by rfl) tR (FillF.nil _)))))) ?_
  refine Run.eff (dd := none) rfl rfl (op_store_flat rfl (Opd.tmp _ _ rfl) (Opd.tmp _ _ rfl) tC rfl rfl (by first | rfl | assumption) tS) ?_
  refine Run.nil (FinR.mk ?_)
  refine nK ?_
  (first | exact s_o1 hC rfl tV | exact s_o2 hC rfl tV tV | exact s_o3 hC rfl tV tV tV | exact s_o4 hC rfl tV tV tV tV | exact s_out0 hC rfl | exact s_outO hC rfl rfl rfl)
theorem lnk_c (a b : Lnk) : Pure Try.prog 83 [.agg (encL a), .agg (encL b)] (If .i64 (lnkI a b)) := by
  unfold lnkI
  refine Meets.intro Try.func83 rfl (Nat.le_of_ble_eq_true rfl) fun C hC => ?_
  simp only [List.map, argEnv, Nat.reduceAdd]
  refine nK ?_
  refine s_reg rfl ?_
  refine Run.eff (dd := some 2) rfl rfl (op_box_flat rfl (Opd.tmp _ _ rfl) tC rfl) ?_
  refine Run.eff (dd := some 3) rfl rfl (op_box_flat rfl (Opd.tmp _ _ rfl) tC rfl) ?_
  refine Run.pure (dd := some 4) rfl rfl (op_assign rfl (Opd.const _)) ?_
  refine Run.nil (FinR.mk ?_)
  refine nK ?_
  refine s_reg rfl ?_
  refine Run.pure (dd := some 5) rfl rfl (op_fld_ptr (by decide) rfl (Opd.tmp _ _ rfl)) ?_
  refine Run.load (dd := some 6) rfl rfl (op_load1_flat rfl (Opd.tmp _ _ rfl) tH rfl) ?_
  refine Run.pure (dd := some 7) rfl rfl (op_fld_ptr (by decide) rfl (Opd.tmp _ _ rfl)) ?_
  refine Run.load (dd := some 8) rfl rfl (op_load1_flat rfl (Opd.tmp _ _ rfl) tH rfl) ?_
  refine Run.pure (dd := some 9) rfl rfl (op_neq rfl (Opd.tmp _ _ rfl) (Opd.tmp _ _ rfl)) ?_
  refine Run.nil (FinR.mk ?_)
  refine nK ?_
  refine n_cond _ rfl (fun hb => ?_) (fun hb => ?_)
  · rw [if_pos (by simpa using hb)]
    refine nK ?_
    refine s_reg rfl ?_
    refine Run.pure (dd := some 10) rfl rfl (op_fld_ptr (by decide) rfl (Opd.tmp _ _ rfl)) ?_
    refine Run.load (dd := some 11) rfl rfl (op_load1_flat rfl (Opd.tmp _ _ rfl) tH rfl) ?_
    refine Run.pure (dd := some 12) rfl rfl (op_fld_ptr (by decide) rfl (Opd.tmp _ _ rfl)) ?_
    refine Run.load (dd := some 13) rfl rfl (op_load1_flat rfl (Opd.tmp _ _ rfl) tH rfl) ?_
    refine Run.pure (dd := some 14) rfl rfl (op_call_pure (fun _ => numbers_c _ _) rfl (Opd.func _) (Opds.cons _ _ _ _ (Opd.tmp _ _ rfl) (Opds.cons _ _ _ _ (Opd.tmp _ _ rfl) Opds.nil))) ?_
    refine Run.pure (dd := some 4) rfl rfl (op_assign rfl (Opd.tmp _ _ rfl)) ?_
    refine Run.nil (FinR.mk ?_)
    refine nK ?_
    (first | exact s_o1 hC rfl tV | exact s_o2 hC rfl tV tV | exact s_o3 hC rfl tV tV tV | exact s_o4 hC rfl tV tV tV tV | exact s_out0 hC rfl | exact s_outO hC rfl rfl rfl)
  · rw [if_neg (by simpa using hb)]
    refine nK ?_
    refine s_reg rfl ?_
    refine Run.pure (dd := some 15) rfl rfl (op_fld_ptr (by decide) rfl (Opd.tmp _ _ rfl)) ?_
    refine Run.load (dd := some 16) rfl rfl (op_load1_flat rfl (Opd.tmp _ _ rfl) tH rfl) ?_
    refine Run.pure (dd := some 17) rfl rfl (op_fld_ptr (by decide) rfl (Opd.tmp _ _ rfl)) ?_
    refine Run.load (dd := some 18) rfl rfl (op_load1_flat rfl (Opd.tmp _ _ rfl) tH rfl) ?_
    refine Run.pure (dd := some 19) rfl rfl (op_neq rfl (Opd.tmp _ _ rfl) (Opd.tmp _ _ rfl)) ?_
    refine Run.nil (FinR.mk ?_)
    refine nK ?_
    refine n_cond _ rfl (fun hb => ?_) (fun hb => ?_)
    · rw [if_pos (by simpa using hb)]
      refine nK ?_
      refine s_reg rfl ?_
      refine Run.pure (dd := some 20) rfl rfl (op_fld_ptr (by decide) rfl (Opd.tmp _ _ rfl)) ?_
      refine Run.load (dd := some 21) rfl rfl (op_load1_flat rfl (Opd.tmp _ _ rfl) tH rfl) ?_
      refine Run.pure (dd := some 22) rfl rfl (op_fld_ptr (by decide) rfl (Opd.tmp _ _ rfl)) ?_
      refine Run.load (dd := some 23) rfl rfl (op_load1_flat rfl (Opd.tmp _ _ rfl) tH rfl) ?_
      refine Run.pure (dd := some 24) rfl rfl (op_call_pure (fun _ => words_c _ _) rfl (Opd.func _) (Opds.cons _ _ _ _ (Opd.tmp _ _ rfl) (Opds.cons _ _ _ _ (Opd.tmp _ _ rfl) Opds.nil))) ?_
      refine Run.pure (dd := some 4) rfl rfl (op_assign rfl (Opd.tmp _ _ rfl)) ?_
      refine Run.nil (FinR.mk ?_)
      refine nK ?_
      (first | exact s_o1 hC rfl tV | exact s_o2 hC rfl tV tV | exact s_o3 hC rfl tV tV tV | exact s_o4 hC rfl tV tV tV tV | exact s_out0 hC rfl | exact s_outO hC rfl rfl rfl)
    · rw [if_neg (by simpa using hb)]
      refine nK ?_
      refine s_reg rfl ?_
      refine Run.pure (dd := some 25) rfl rfl (op_fld_ptr (by decide) rfl (Opd.tmp _ _ rfl)) ?_
      refine Run.load (dd := some 26) rfl rfl (op_load1_flat rfl (Opd.tmp _ _ rfl) tH rfl) ?_
      refine Run.pure (dd := some 27) rfl rfl (op_fld_ptr (by decide) rfl (Opd.tmp _ _ rfl)) ?_
      refine Run.load (dd := some 28) rfl rfl (op_load1_flat rfl (Opd.tmp _ _ rfl) tH rfl) ?_
      refine Run.pure (dd := some 29) rfl rfl (op_call_pure (fun _ => words_c _ _) rfl (Opd.func _) (Opds.cons _ _ _ _ (Opd.tmp _ _ rfl) (Opds.cons _ _ _ _ (Opd.tmp _ _ rfl) Opds.nil))) ?_
      refine Run.pure (dd := some 4) rfl rfl (op_assign rfl (Opd.tmp _ _ rfl)) ?_
      refine Run.nil (FinR.mk ?_)
      refine nK ?_
      (first | exact s_o1 hC rfl tV | exact s_o2 hC rfl tV tV | exact s_o3 hC rfl tV tV tV | exact s_o4 hC rfl tV tV tV tV | exact s_out0 hC rfl | exact s_outO hC rfl rfl rfl)
theorem ckeys_c (a b : KeyA) : Pure Try.prog 51 [.agg (encK a), .agg (encK b)] (If .i64 (keyI a b)) := by
  unfold keyI
  refine Meets.intro Try.func51 rfl (Nat.le_of_ble_eq_true rfl) fun C hC => ?_
  simp only [List.map, argEnv, Nat.reduceAdd]
  refine nK ?_
  refine s_reg rfl ?_
  refine Run.eff (dd := some 2) rfl rfl (op_box_flat rfl (Opd.tmp _ _ rfl) tC rfl) ?_
  refine Run.eff (dd := some 3) rfl rfl (op_box_flat rfl (Opd.tmp _ _ rfl) tC rfl) ?_
  refine Run.pure (dd := some 4) rfl rfl (op_assign rfl (Opd.const _)) ?_
  refine Run.nil (FinR.mk ?_)
  refine nK ?_
  refine s_reg rfl ?_
  refine Run.pure (dd := some 5) rfl rfl (op_fld_ptr (by decide) rfl (Opd.tmp _ _ rfl)) ?_
  refine Run.load (dd := some 6) rfl rfl (op_load1_flat rfl (Opd.tmp _ _ rfl) tH rfl) ?_
  refine Run.pure (dd := some 7) rfl rfl (op_fld_ptr (by decide) rfl (Opd.tmp _ _ rfl)) ?_
  refine Run.load (dd := some 8) rfl rfl (op_load1_flat rfl (Opd.tmp _ _ rfl) tH rfl) ?_
  refine Run.pure (dd := some 9) rfl rfl (op_neq rfl (Opd.tmp _ _ rfl) (Opd.tmp _ _ rfl)) ?_
  refine Run.nil (FinR.mk ?_)
  refine nK ?_
  refine n_cond _ rfl (fun hb => ?_) (fun hb => ?_)
  · rw [if_pos (by simpa using hb)]
    refine nK ?_
    refine s_reg rfl ?_
    refine Run.pure (dd := some 10) rfl rfl (op_fld_ptr (by decide) rfl (Opd.tmp _ _ rfl)) ?_
    refine Run.load (dd := some 11) rfl rfl (op_load1_flat rfl (Opd.tmp _ _ rfl) tH rfl) ?_
    refine Run.pure (dd := some 12) rfl rfl (op_fld_ptr (by decide) rfl (Opd.tmp _ _ rfl)) ?_
    refine Run.load (dd := some 13) rfl rfl (op_load1_flat rfl (Opd.tmp _ _ rfl) tH rfl) ?_
    refine Run.pure (dd := some 14) rfl rfl (op_call_pure (fun _ => numbers_c _ _) rfl (Opd.func _) (Opds.cons _ _ _ _ (Opd.tmp _ _ rfl) (Opds.cons _ _ _ _ (Opd.tmp _ _ rfl) Opds.nil))) ?_
    refine Run.pure (dd := some 4) rfl rfl (op_assign rfl (Opd.tmp _ _ rfl)) ?_
    refine Run.nil (FinR.mk ?_)
    refine nK ?_
    (first | exact s_o1 hC rfl tV | exact s_o2 hC rfl tV tV | exact s_o3 hC rfl tV tV tV | exact s_o4 hC rfl tV tV tV tV | exact s_out0 hC rfl | exact s_outO hC rfl rfl rfl)
  · rw [if_neg (by simpa using hb)]
    refine nK ?_
    refine s_reg rfl ?_
    refine Run.pure (dd := some 15) rfl rfl (op_fld_ptr (by decide) rfl (Opd.tmp _ _ rfl)) ?_
    refine Run.load (dd := some 16) rfl rfl (op_load1_flat rfl (Opd.tmp _ _ rfl) tH rfl) ?_
    refine Run.pure (dd := some 17) rfl rfl (op_fld_ptr (by decide) rfl (Opd.tmp _ _ rfl)) ?_
    refine Run.load (dd := some 18) rfl rfl (op_load1_flat rfl (Opd.tmp _ _ rfl) tH rfl) ?_
    refine Run.pure (dd := some 19) rfl rfl (op_neq rfl (Opd.tmp _ _ rfl) (Opd.tmp _ _ rfl)) ?_
    refine Run.nil (FinR.mk ?_)
    refine nK ?_
    refine n_cond _ rfl (fun hb => ?_) (fun hb => ?_)
    · rw [if_pos (by simpa using hb)]
      refine nK ?_
      refine s_reg rfl ?_
      refine Run.pure (dd := some 20) rfl rfl (op_fld_ptr (by decide) rfl (Opd.tmp _ _ rfl)) ?_
      refine Run.load (dd := some 21) rfl rfl (op_load1_flat rfl (Opd.tmp _ _ rfl) tH rfl) ?_
      refine Run.pure (dd := some 22) rfl rfl (op_fld_ptr (by decide) rfl (Opd.tmp _ _ rfl)) ?_
      refine Run.load (dd := some 23) rfl rfl (op_load1_flat rfl (Opd.tmp _ _ rfl) tH rfl) ?_
      refine Run.pure (dd := some 24) rfl rfl (op_call_pure (fun _ => words_c _ _) rfl (Opd.func _) (Opds.cons _ _ _ _ (Opd.tmp _ _ rfl) (Opds.cons _ _ _ _ (Opd.tmp _ _ rfl) Opds.nil))) ?_
      refine Run.pure (dd := some 4) rfl rfl (op_assign rfl (Opd.tmp _ _ rfl)) ?_
      refine Run.nil (FinR.mk ?_)
      refine nK ?_
      (first | exact s_o1 hC rfl tV | exact s_o2 hC rfl tV tV | exact s_o3 hC rfl tV tV tV | exact s_o4 hC rfl tV tV tV tV | exact s_out0 hC rfl | exact s_outO hC rfl rfl rfl)
    · rw [if_neg (by simpa using hb)]
      refine nK ?_
      refine s_reg rfl ?_
      refine Run.pure (dd := some 25) rfl rfl (op_fld_ptr (by decide) rfl (Opd.tmp _ _ rfl)) ?_
      refine Run.load (dd := some 26) rfl rfl (op_load1_flat rfl (Opd.tmp _ _ rfl) tH rfl) ?_
      refine Run.pure (dd := some 27) rfl rfl (op_fld_ptr (by decide) rfl (Opd.tmp _ _ rfl)) ?_
      refine Run.load (dd := some 28) rfl rfl (op_load1_flat rfl (Opd.tmp _ _ rfl) tH rfl) ?_
      refine Run.pure (dd := some 29) rfl rfl (op_neq rfl (Opd.tmp _ _ rfl) (Opd.tmp _ _ rfl)) ?_
      refine Run.nil (FinR.mk ?_)
      refine nK ?_
      refine n_cond _ rfl (fun hb => ?_) (fun hb => ?_)
      · rw [if_pos (by simpa using hb)]
        refine nK ?_
        refine s_reg rfl ?_
        refine Run.pure (dd := some 30) rfl rfl (op_fld_ptr (by decide) rfl (Opd.tmp _ _ rfl)) ?_
        refine Run.load (dd := some 31) rfl rfl (op_load1_flat rfl (Opd.tmp _ _ rfl) tH rfl) ?_
        refine Run.pure (dd := some 32) rfl rfl (op_fld_ptr (by decide) rfl (Opd.tmp _ _ rfl)) ?_
        refine Run.load (dd := some 33) rfl rfl (op_load1_flat rfl (Opd.tmp _ _ rfl) tH rfl) ?_
        refine Run.pure (dd := some 34) rfl rfl (op_call_pure (fun _ => numbers_c _ _) rfl (Opd.func _) (Opds.cons _ _ _ _ (Opd.tmp _ _ rfl) (Opds.cons _ _ _ _ (Opd.tmp _ _ rfl) Opds.nil))) ?_
        refine Run.pure (dd := some 4) rfl rfl (op_assign rfl (Opd.tmp _ _ rfl)) ?_
        refine Run.nil (FinR.mk ?_)
        refine nK ?_
        (first | exact s_o1 hC rfl tV | exact s_o2 hC rfl tV tV | exact s_o3 hC rfl tV tV tV | exact s_o4 hC rfl tV tV tV tV | exact s_out0 hC rfl | exact s_outO hC rfl rfl rfl)
      · rw [if_neg (by simpa using hb)]
        refine nK ?_
        refine s_reg rfl ?_
        refine Run.pure (dd := some 35) rfl rfl (op_fld_ptr (by decide) rfl (Opd.tmp _ _ rfl)) ?_
        refine Run.load (dd := some 36) rfl rfl (op_load1_flat rfl (Opd.tmp _ _ rfl) tH rfl) ?_
        refine Run.pure (dd := some 37) rfl rfl (op_fld_ptr (by decide) rfl (Opd.tmp _ _ rfl)) ?_
        refine Run.load (dd := some 38) rfl rfl (op_load1_flat rfl (Opd.tmp _ _ rfl) tH rfl) ?_
        refine Run.pure (dd := some 39) rfl rfl (op_call_pure (fun _ => words_c _ _) rfl (Opd.func _) (Opds.cons _ _ _ _ (Opd.tmp _ _ rfl) (Opds.cons _ _ _ _ (Opd.tmp _ _ rfl) Opds.nil))) ?_
        refine Run.pure (dd := some 4) rfl rfl (op_assign rfl (Opd.tmp _ _ rfl)) ?_
        refine Run.nil (FinR.mk ?_)
        refine nK ?_
        (first | exact s_o1 hC rfl tV | exact s_o2 hC rfl tV tV | exact s_o3 hC rfl tV tV tV | exact s_o4 hC rfl tV tV tV tV | exact s_out0 hC rfl | exact s_outO hC rfl rfl rfl)
open Go Go.RT Go.Proofs Go.Pl
set_option maxRecDepth 20000
theorem fits_c (id n : Int) (hid : inr .u32 id) : Pure Try.prog 82 [If .u32 id, If .i64 n] (Bf (fitsB id n)) := by
  obtain ⟨x, rfl⟩ : ∃ x : Nat, id = (x : Int) := ⟨id.toNat, by simp only [inr] at hid; omega⟩
  have hx : x < 2 ^ 32 := by simp only [inr] at hid; omega
  refine Meets.intro Try.func82 rfl (Nat.le_of_ble_eq_true rfl) fun C hC => ?_
  simp only [List.map, argEnv, Nat.reduceAdd]
  refine nK ?_
  refine s_reg rfl ?_
  refine Run.pure (dd := some 4) rfl rfl (op_assign rfl (Opd.const _)) ?_
  refine Run.nil (FinR.mk ?_)
  refine nK ?_
  refine s_reg rfl ?_
  refine Run.pure (dd := some 6) rfl rfl (op_move rfl (Opd.tmp _ _ rfl)) ?_
  refine Run.pure (dd := some 7) rfl rfl (op_lss rfl (Opd.tmp _ _ rfl) (Opd.const _)) ?_
  refine Run.pure (dd := some 8) rfl rfl (op_move rfl (Opd.tmp _ _ rfl)) ?_
  refine Run.pureG (dd := some 9) rfl rfl rfl tG (op_move rfl (Opd.tmp _ _ rfl)) ?_
  refine Run.pureG (dd := some 10) rfl rfl rfl tG (op_gtr rfl (Opd.topt _ _ _ rfl tO) (Opd.const _)) ?_
  refine Run.pure (dd := some 11) rfl rfl (op_pick_or rfl (Opd.tmp _ _ rfl) (Opd.topt _ _ _ rfl tO)) ?_
  refine Run.nil (FinR.mk ?_)
  refine nK ?_
  refine n_cond _ rfl (fun hb => ?_) (fun hb => ?_)
  · have e : fitsB (x : Int) n = false := by unfold fitsB; rw [hb]; rfl
    rw [e]
    refine nK ?_
    refine s_reg rfl ?_
    refine Run.pure (dd := some 4) rfl rfl (op_assign rfl (Opd.const _)) ?_
    refine Run.nil (FinR.mk ?_)
    refine nK ?_
    (first | exact s_o1 hC rfl tV | exact s_o2 hC rfl tV tV | exact s_o3 hC rfl tV tV tV | exact s_o4 hC rfl tV tV tV tV | exact s_out0 hC rfl | exact s_outO hC rfl rfl rfl)
  · have hn : 0 ≤ n ∧ n ≤ 32 := by simp at hb; omega
    obtain ⟨m, rfl⟩ : ∃ m : Nat, n = (m : Int) := ⟨n.toNat, by omega⟩
    have hm : m ≤ 32 := by omega
    refine nK ?_
    refine s_reg rfl ?_
    refine Run.pure (dd := some 12) rfl rfl (op_move rfl (Opd.tmp _ _ rfl)) ?_
    refine Run.pure (dd := some 5) rfl rfl (op_assign rfl (Opd.tmp _ _ rfl)) ?_
    refine Run.nil (FinR.mk ?_)
    refine nK ?_
    refine n_loop (ι := Nat) (fun i => ([(0, IV .u32 x), (5, IV .i64 i)], [], 0)) (fun i => m ≤ i ∧ i ≤ 32 ∧ ∀ j : Nat, m ≤ j → j < i → bitA x j = false) (fun i => 32 - i) m ⟨Nat.le_refl _, hm, fun j h1 h2 => absurd h1 (by omega)⟩ ?_ ?_
    · refine Next.weak [] [] (by rfl) (keeps0 hC _) (by repeat (first | exact trivial | refine ⟨⟨_, rfl, .inl ⟨rfl, rfl⟩⟩, ?_⟩)) (by repeat (first | exact trivial | refine ⟨ent_same rfl rfl rfl tL, ?_⟩ | refine ⟨ent_same rfl rfl (rfEq rfl tU) tL, ?_⟩ | refine ⟨ent_same rfl rfl (flEq rfl (by first | (simp; done) | (simp; omega) | (simp [encA, encH, encL, encU, encK, encV]; done) | simp [maxC, minC])) trivial, ?_⟩)) (fun _ h => by simp at h) rel_intro
    · intro i ⟨h1, h2, h3⟩ K hK
      have hd : x / 2 ^ (31 - i) ≤ x := Nat.div_le_self _ _
      have hmm : x / 2 ^ (31 - i) % 2 < 2 := Nat.mod_lt _ (by omega)
      refine nK ?_
      refine s_reg rfl ?_
      refine Run.pure (dd := some 13) rfl rfl (op_move rfl (Opd.tmp _ _ rfl)) ?_
      refine Run.pure (dd := some 14) rfl rfl (op_lss rfl (Opd.tmp _ _ rfl) (Opd.const _)) ?_
      refine Run.nil (FinR.mk ?_)
      refine nK ?_
      refine n_cond _ rfl (fun hb => ?_) (fun hb => ?_)
      · have hi : i < 32 := by simp at hb; omega
        refine nK ?_
        refine s_reg rfl ?_
        refine Run.pure (dd := some 17) rfl rfl (op_move rfl (Opd.tmp _ _ rfl)) ?_
        refine Run.pure (dd := some 18) rfl rfl (op_move rfl (Opd.tmp _ _ rfl)) ?_
        refine Run.pure (dd := some 19) rfl rfl (op_sub rfl (Opd.const _) (Opd.tmp _ _ rfl) tI) ?_
        refine Run.pure (dd := some 20) rfl rfl (op_conv rfl (Opd.tmp _ _ rfl) tI) ?_
        refine Run.pure (dd := some 21) rfl rfl (op_shrN (31 - i) rfl (Opd.tmp _ _ rfl) (Opd.tmp _ _ rfl) (by intro _; simp only [IntKind.bits]; omega)) ?_
        refine Run.pure (dd := some 22) rfl rfl (op_and1 rfl (Opd.tmp _ _ rfl) (Opd.const _) (by intro _; simp only [IntKind.bits]; omega) (by simp [IntKind.bits])) ?_
        refine Run.pure (dd := some 23) rfl rfl (op_eql rfl (Opd.tmp _ _ rfl) (Opd.const _)) ?_
        refine Run.nil (FinR.mk ?_)
        refine nK ?_
        refine n_cond _ rfl (fun hb => ?_) (fun hb => ?_)
        · have e : fitsB (x : Int) m = false := by
            unfold fitsB
            rw [Bool.and_eq_false_iff]
            refine .inr (List.all_eq_false.2 ⟨i, by simpa using hi, ?_⟩)
            have : bitA x i = true := by unfold bitA; rw [decide_eq_true_eq] at hb ⊢; rw [Int.toNat_natCast]; omega
            simp [this]; omega
          rw [e]
          refine nK ?_
          refine s_reg rfl ?_
          refine Run.pure (dd := some 4) rfl rfl (op_assign rfl (Opd.const _)) ?_
          refine Run.nil (FinR.mk ?_)
          refine nK ?_
          (first | exact s_o1 hC rfl tV | exact s_o2 hC rfl tV tV | exact s_o3 hC rfl tV tV tV | exact s_o4 hC rfl tV tV tV tV | exact s_out0 hC rfl | exact s_outO hC rfl rfl rfl)
        · have hbit : bitA x i = false := by unfold bitA; rw [decide_eq_false_iff_not] at hb ⊢; rw [Int.toNat_natCast]; omega
          refine nK ?_
          refine s_reg rfl ?_
          refine Run.pure (dd := some 15) rfl rfl (op_move rfl (Opd.tmp _ _ rfl)) ?_
          refine Run.pure (dd := some 16) rfl rfl (op_add rfl (Opd.tmp _ _ rfl) (Opd.const _) tI) ?_
          refine Run.pure (dd := some 5) rfl rfl (op_assign rfl (Opd.tmp _ _ rfl)) ?_
          refine Run.nil (FinR.mk ?_)
          refine nK ?_
          refine Next.weak [] [] (by rfl) (keeps0 hC _) (by repeat (first | exact trivial | refine ⟨⟨_, rfl, .inl ⟨rfl, rfl⟩⟩, ?_⟩)) (by repeat (first | exact trivial | refine ⟨ent_same rfl rfl rfl tL, ?_⟩ | refine ⟨ent_same rfl rfl (rfEq rfl tU) tL, ?_⟩ | refine ⟨ent_same rfl rfl (flEq rfl (by first | (simp; done) | (simp; omega) | (simp [encA, encH, encL, encU, encK, encV]; done) | simp [maxC, minC])) trivial, ?_⟩)) (fun _ h => by simp at h) (hK (i + 1) ⟨by omega, by omega, fun j h4 h5 => by
            by_cases h6 : j = i
            · rw [h6]; exact hbit
            · exact h3 j h4 (by omega)⟩ (by omega))
      · have hi : i = 32 := by simp at hb; omega
        have e : fitsB (x : Int) m = true := by
          unfold fitsB
          rw [Bool.and_eq_true_iff]
          refine ⟨by simp; omega, List.all_eq_true.2 fun j hj => ?_⟩
          by_cases h6 : m ≤ j
          · rw [h3 j h6 (by simp at hj; omega)]; simp
          · have : (j : Int) < m := by omega
            simp [this]
        rw [e]
        refine nK ?_
        refine s_reg rfl ?_
        refine Run.pure (dd := some 4) rfl rfl (op_assign rfl (Opd.const _)) ?_
        refine Run.nil (FinR.mk ?_)
        refine nK ?_
        (first | exact s_o1 hC rfl tV | exact s_o2 hC rfl tV tV | exact s_o3 hC rfl tV tV tV | exact s_o4 hC rfl tV tV tV tV | exact s_out0 hC rfl | exact s_outO hC rfl rfl rfl)
theorem head_c (h : Hdr) (ho : okH h) : Pure Try.prog 64 [.agg (encH h)] (If .i64 (headI h)) := by
  obtain ⟨o1, o2, o3, o4, o5, o6, o7⟩ := ho
  unfold headI
  refine Meets.intro Try.func64 rfl (Nat.le_of_ble_eq_true rfl) fun C hC => ?_
  simp only [List.map, argEnv, Nat.reduceAdd]
  refine nK ?_
  refine s_reg rfl ?_
  refine Run.eff (dd := some 1) rfl rfl (op_box_flat rfl (Opd.tmp _ _ rfl) tC rfl) ?_
  refine Run.pure (dd := some 2) rfl rfl (op_assign rfl (Opd.const _)) ?_
  refine Run.nil (FinR.mk ?_)
  refine nK ?_
  refine s_reg rfl ?_
  refine Run.pure (dd := some 3) rfl rfl (op_fld_ptr (by decide) rfl (Opd.tmp _ _ rfl)) ?_
  refine Run.load (dd := some 4) rfl rfl (op_load1_flat rfl (Opd.tmp _ _ rfl) tH rfl) ?_
  refine Run.pure (dd := some 5) rfl rfl (op_call_pure (fun _ => within_c _ _ _) rfl (Opd.func _) (Opds.cons _ _ _ _ (Opd.tmp _ _ rfl) (Opds.cons _ _ _ _ (Opd.const _) (Opds.cons _ _ _ _ (Opd.const _) Opds.nil)))) ?_
  refine Run.pure (dd := some 6) rfl rfl (op_not rfl (Opd.tmp _ _ rfl)) ?_
  refine Run.nil (FinR.mk ?_)
  refine nK ?_
  refine n_cond _ rfl (fun hb => ?_) (fun hb => ?_)
  · rw [ifT hb]
    refine nK ?_
    refine s_reg rfl ?_
    refine Run.pure (dd := some 2) rfl rfl (op_assign rfl (Opd.const _)) ?_
    refine Run.nil (FinR.mk ?_)
    refine nK ?_
    (first | exact s_o1 hC rfl tV | exact s_o2 hC rfl tV tV | exact s_o3 hC rfl tV tV tV | exact s_o4 hC rfl tV tV tV tV | exact s_out0 hC rfl | exact s_outO hC rfl rfl rfl)
  · rw [ifF hb]
    refine nK ?_
    refine s_reg rfl ?_
    refine Run.pure (dd := some 7) rfl rfl (op_fld_ptr (by decide) rfl (Opd.tmp _ _ rfl)) ?_
    refine Run.load (dd := some 8) rfl rfl (op_load1_flat rfl (Opd.tmp _ _ rfl) tH rfl) ?_
    refine Run.pure (dd := some 9) rfl rfl (op_eql rfl (Opd.tmp _ _ rfl) (Opd.const _)) ?_
    refine Run.pure (dd := some 10) rfl rfl (op_move rfl (Opd.tmp _ _ rfl)) ?_
    refine Run.pureG (dd := some 11) rfl rfl rfl tG (op_fld_ptr (by decide) rfl (Opd.tmp _ _ rfl)) ?_
    refine Run.loadG (dd := some 12) rfl rfl rfl tG (op_load1_flat rfl (Opd.topt _ _ _ rfl tO) tH rfl) ?_
    refine Run.pureG (dd := some 13) rfl rfl rfl tG (op_call_pure (fun _ => within_c _ _ _) rfl (Opd.func _) (Opds.cons _ _ _ _ (Opd.topt _ _ _ rfl tO) (Opds.cons _ _ _ _ (Opd.const _) (Opds.cons _ _ _ _ (Opd.const _) Opds.nil)))) ?_
    refine Run.pureG (dd := some 14) rfl rfl rfl tG (op_not rfl (Opd.topt _ _ _ rfl tO)) ?_
    refine Run.pure (dd := some 15) rfl rfl (op_pick_or rfl (Opd.tmp _ _ rfl) (Opd.topt _ _ _ rfl tO)) ?_
    refine Run.pure (dd := some 16) rfl rfl (op_move rfl (Opd.tmp _ _ rfl)) ?_
    refine Run.pureG (dd := some 17) rfl rfl rfl tG (op_fld_ptr (by decide) rfl (Opd.tmp _ _ rfl)) ?_
    refine Run.loadG (dd := some 18) rfl rfl rfl tG (op_load1_flat rfl (Opd.topt _ _ _ rfl tO) tH rfl) ?_
    refine Run.pureG (dd := some 19) rfl rfl rfl tG (op_call_pure (fun _ => within_c _ _ _) rfl (Opd.func _) (Opds.cons _ _ _ _ (Opd.topt _ _ _ rfl tO) (Opds.cons _ _ _ _ (Opd.const _) (Opds.cons _ _ _ _ (Opd.const _) Opds.nil)))) ?_
    refine Run.pureG (dd := some 20) rfl rfl rfl tG (op_not rfl (Opd.topt _ _ _ rfl tO)) ?_
    refine Run.pure (dd := some 21) rfl rfl (op_pick_or rfl (Opd.tmp _ _ rfl) (Opd.topt _ _ _ rfl tO)) ?_
    refine Run.pure (dd := some 22) rfl rfl (op_move rfl (Opd.tmp _ _ rfl)) ?_
    refine Run.pureG (dd := some 23) rfl rfl rfl tG (op_fld_ptr (by decide) rfl (Opd.tmp _ _ rfl)) ?_
    refine Run.loadG (dd := some 24) rfl rfl rfl tG (op_load1_flat rfl (Opd.topt _ _ _ rfl tO) tH rfl) ?_
    refine Run.pureG (dd := some 25) rfl rfl rfl tG (op_call_pure (fun _ => within_c _ _ _) rfl (Opd.func _) (Opds.cons _ _ _ _ (Opd.topt _ _ _ rfl tO) (Opds.cons _ _ _ _ (Opd.const _) (Opds.cons _ _ _ _ (Opd.const _) Opds.nil)))) ?_
    refine Run.pureG (dd := some 26) rfl rfl rfl tG (op_not rfl (Opd.topt _ _ _ rfl tO)) ?_
    refine Run.pure (dd := some 27) rfl rfl (op_pick_or rfl (Opd.tmp _ _ rfl) (Opd.topt _ _ _ rfl tO)) ?_
    refine Run.nil (FinR.mk ?_)
    refine nK ?_
    refine n_cond _ rfl (fun hb => ?_) (fun hb => ?_)
    · rw [ifT hb]
      refine nK ?_
      refine s_reg rfl ?_
      refine Run.pure (dd := some 2) rfl rfl (op_assign rfl (Opd.const _)) ?_
      refine Run.nil (FinR.mk ?_)
      refine nK ?_
      (first | exact s_o1 hC rfl tV | exact s_o2 hC rfl tV tV | exact s_o3 hC rfl tV tV tV | exact s_o4 hC rfl tV tV tV tV | exact s_out0 hC rfl | exact s_outO hC rfl rfl rfl)
    · rw [ifF hb]
      refine nK ?_
      refine s_reg rfl ?_
      refine Run.pure (dd := some 28) rfl rfl (op_fld_ptr (by decide) rfl (Opd.tmp _ _ rfl)) ?_
      refine Run.load (dd := some 29) rfl rfl (op_load1_flat rfl (Opd.tmp _ _ rfl) tH rfl) ?_
      refine Run.pure (dd := some 30) rfl rfl (op_eql rfl (Opd.tmp _ _ rfl) (Opd.const _)) ?_
      refine Run.pure (dd := some 31) rfl rfl (op_move rfl (Opd.tmp _ _ rfl)) ?_
      refine Run.pureG (dd := some 32) rfl rfl rfl tG (op_fld_ptr (by decide) rfl (Opd.tmp _ _ rfl)) ?_
      refine Run.loadG (dd := some 33) rfl rfl rfl tG (op_load1_flat rfl (Opd.topt _ _ _ rfl tO) tH rfl) ?_
      refine Run.pureG (dd := some 34) rfl rfl rfl tG (op_eql rfl (Opd.topt _ _ _ rfl tO) (Opd.const _)) ?_
      refine Run.pure (dd := some 35) rfl rfl (op_pick_or rfl (Opd.tmp _ _ rfl) (Opd.topt _ _ _ rfl tO)) ?_
      refine Run.nil (FinR.mk ?_)
      refine nK ?_
      refine n_cond _ rfl (fun hb => ?_) (fun hb => ?_)
      · rw [ifT hb]
        refine nK ?_
        refine s_reg rfl ?_
        refine Run.pure (dd := some 36) rfl rfl (op_fld_ptr (by decide) rfl (Opd.tmp _ _ rfl)) ?_
        refine Run.load (dd := some 37) rfl rfl (op_load1_flat rfl (Opd.tmp _ _ rfl) tH rfl) ?_
        refine Run.pure (dd := some 38) rfl rfl (op_neq rfl (Opd.tmp _ _ rfl) (Opd.const _)) ?_
        refine Run.nil (FinR.mk ?_)
        refine nK ?_
        refine n_cond _ rfl (fun hb => ?_) (fun hb => ?_)
        · rw [ifT hb]
          refine nK ?_
          refine s_reg rfl ?_
          refine Run.pure (dd := some 2) rfl rfl (op_assign rfl (Opd.const _)) ?_
          refine Run.nil (FinR.mk ?_)
          refine nK ?_
          (first | exact s_o1 hC rfl tV | exact s_o2 hC rfl tV tV | exact s_o3 hC rfl tV tV tV | exact s_o4 hC rfl tV tV tV tV | exact s_out0 hC rfl | exact s_outO hC rfl rfl rfl)
        · rw [ifF hb]
          refine nK ?_
          refine s_reg rfl ?_
          refine Run.pure (dd := some 43) rfl rfl (op_fld_ptr (by decide) rfl (Opd.tmp _ _ rfl)) ?_
          refine Run.load (dd := some 44) rfl rfl (op_load1_flat rfl (Opd.tmp _ _ rfl) tH rfl) ?_
          refine Run.pure (dd := some 45) rfl rfl (op_eql rfl (Opd.tmp _ _ rfl) (Opd.const _)) ?_
          refine Run.pure (dd := some 46) rfl rfl (op_move rfl (Opd.tmp _ _ rfl)) ?_
          refine Run.pureG (dd := some 47) rfl rfl rfl tG (op_fld_ptr (by decide) rfl (Opd.tmp _ _ rfl)) ?_
          refine Run.loadG (dd := some 48) rfl rfl rfl tG (op_load1_flat rfl (Opd.topt _ _ _ rfl tO) tH rfl) ?_
          refine Run.pureG (dd := some 49) rfl rfl rfl tG (op_fld_ptr (by decide) rfl (Opd.tmp _ _ rfl)) ?_
          refine Run.loadG (dd := some 50) rfl rfl rfl tG (op_load1_flat rfl (Opd.topt _ _ _ rfl tO) tH rfl) ?_
          refine Run.pureG (dd := some 51) rfl rfl rfl tG (op_neq rfl (Opd.topt _ _ _ rfl tO) (Opd.topt _ _ _ rfl tO)) ?_
          refine Run.pure (dd := some 52) rfl rfl (op_pick_and rfl (Opd.tmp _ _ rfl) (Opd.topt _ _ _ rfl tO)) ?_
          refine Run.nil (FinR.mk ?_)
          refine nK ?_
          refine n_cond _ rfl (fun hb => ?_) (fun hb => ?_)
          · rw [ifT hb]
            refine nK ?_
            refine s_reg rfl ?_
            refine Run.pure (dd := some 2) rfl rfl (op_assign rfl (Opd.const _)) ?_
            refine Run.nil (FinR.mk ?_)
            refine nK ?_
            (first | exact s_o1 hC rfl tV | exact s_o2 hC rfl tV tV | exact s_o3 hC rfl tV tV tV | exact s_o4 hC rfl tV tV tV tV | exact s_out0 hC rfl | exact s_outO hC rfl rfl rfl)
          · rw [ifF hb]
            refine nK ?_
            refine s_reg rfl ?_
            refine Run.pure (dd := some 53) rfl rfl (op_fld_ptr (by decide) rfl (Opd.tmp _ _ rfl)) ?_
            refine Run.load (dd := some 54) rfl rfl (op_load1_flat rfl (Opd.tmp _ _ rfl) tH rfl) ?_
            refine Run.pure (dd := some 55) rfl rfl (op_eql rfl (Opd.tmp _ _ rfl) (Opd.const _)) ?_
            refine Run.pure (dd := some 56) rfl rfl (op_move rfl (Opd.tmp _ _ rfl)) ?_
            refine Run.pureG (dd := some 57) rfl rfl rfl tG (op_fld_ptr (by decide) rfl (Opd.tmp _ _ rfl)) ?_
            refine Run.loadG (dd := some 58) rfl rfl rfl tG (op_load1_flat rfl (Opd.topt _ _ _ rfl tO) tH rfl) ?_
            refine Run.pureG (dd := some 59) rfl rfl rfl tG (op_eql rfl (Opd.topt _ _ _ rfl tO) (Opd.const _)) ?_
            refine Run.pure (dd := some 60) rfl rfl (op_pick_or rfl (Opd.tmp _ _ rfl) (Opd.topt _ _ _ rfl tO)) ?_
            refine Run.pure (dd := some 61) rfl rfl (op_move rfl (Opd.tmp _ _ rfl)) ?_
            refine Run.pureG (dd := some 62) rfl rfl rfl tG (op_fld_ptr (by decide) rfl (Opd.tmp _ _ rfl)) ?_
            refine Run.loadG (dd := some 63) rfl rfl rfl tG (op_load1_flat rfl (Opd.topt _ _ _ rfl tO) tH rfl) ?_
            refine Run.pureG (dd := some 64) rfl rfl rfl tG (op_fld_ptr (by decide) rfl (Opd.tmp _ _ rfl)) ?_
            refine Run.loadG (dd := some 65) rfl rfl rfl tG (op_load1_flat rfl (Opd.topt _ _ _ rfl tO) tH rfl) ?_
            refine Run.pureG (dd := some 66) rfl rfl rfl tG (op_call_pure (fun _ => fits_c _ _ (by assumption)) rfl (Opd.func _) (Opds.cons _ _ _ _ (Opd.topt _ _ _ rfl tO) (Opds.cons _ _ _ _ (Opd.topt _ _ _ rfl tO) Opds.nil))) ?_
            refine Run.pureG (dd := some 67) rfl rfl rfl tG (op_not rfl (Opd.topt _ _ _ rfl tO)) ?_
            refine Run.pure (dd := some 68) rfl rfl (op_pick_and rfl (Opd.tmp _ _ rfl) (Opd.topt _ _ _ rfl tO)) ?_
            refine Run.nil (FinR.mk ?_)
            refine nK ?_
            refine n_cond _ rfl (fun hb => ?_) (fun hb => ?_)
            · rw [ifT hb]
              refine nK ?_
              refine s_reg rfl ?_
              refine Run.pure (dd := some 2) rfl rfl (op_assign rfl (Opd.const _)) ?_
              refine Run.nil (FinR.mk ?_)
              refine nK ?_
              (first | exact s_o1 hC rfl tV | exact s_o2 hC rfl tV tV | exact s_o3 hC rfl tV tV tV | exact s_o4 hC rfl tV tV tV tV | exact s_out0 hC rfl | exact s_outO hC rfl rfl rfl)
            · rw [ifF hb]
              refine nK ?_
              refine s_reg rfl ?_
              refine Run.pure (dd := some 69) rfl rfl (op_fld_ptr (by decide) rfl (Opd.tmp _ _ rfl)) ?_
              refine Run.load (dd := some 70) rfl rfl (op_load1_flat rfl (Opd.tmp _ _ rfl) tH rfl) ?_
              refine Run.pure (dd := some 71) rfl rfl (op_eql rfl (Opd.tmp _ _ rfl) (Opd.const _)) ?_
              refine Run.pure (dd := some 72) rfl rfl (op_move rfl (Opd.tmp _ _ rfl)) ?_
              refine Run.pureG (dd := some 73) rfl rfl rfl tG (op_fld_ptr (by decide) rfl (Opd.tmp _ _ rfl)) ?_
              refine Run.loadG (dd := some 74) rfl rfl rfl tG (op_load1_flat rfl (Opd.topt _ _ _ rfl tO) tH rfl) ?_
              refine Run.pureG (dd := some 75) rfl rfl rfl tG (op_eql rfl (Opd.topt _ _ _ rfl tO) (Opd.const _)) ?_
              refine Run.pure (dd := some 76) rfl rfl (op_pick_or rfl (Opd.tmp _ _ rfl) (Opd.topt _ _ _ rfl tO)) ?_
              refine Run.pure (dd := some 77) rfl rfl (op_move rfl (Opd.tmp _ _ rfl)) ?_
              refine Run.pureG (dd := some 78) rfl rfl rfl tG (op_fld_ptr (by decide) rfl (Opd.tmp _ _ rfl)) ?_
              refine Run.loadG (dd := some 79) rfl rfl rfl tG (op_load1_flat rfl (Opd.topt _ _ _ rfl tO) tH rfl) ?_
              refine Run.pureG (dd := some 80) rfl rfl rfl tG (op_eql rfl (Opd.topt _ _ _ rfl tO) (Opd.const _)) ?_
              refine Run.pure (dd := some 81) rfl rfl (op_pick_and rfl (Opd.tmp _ _ rfl) (Opd.topt _ _ _ rfl tO)) ?_
              refine Run.nil (FinR.mk ?_)
              refine nK ?_
              refine n_cond _ rfl (fun hb => ?_) (fun hb => ?_)
              · rw [ifT hb]
                refine nK ?_
                refine s_reg rfl ?_
                refine Run.pure (dd := some 2) rfl rfl (op_assign rfl (Opd.const _)) ?_
                refine Run.nil (FinR.mk ?_)
                refine nK ?_
                (first | exact s_o1 hC rfl tV | exact s_o2 hC rfl tV tV | exact s_o3 hC rfl tV tV tV | exact s_o4 hC rfl tV tV tV tV | exact s_out0 hC rfl | exact s_outO hC rfl rfl rfl)
              · rw [ifF hb]
                refine nK ?_
                refine s_reg rfl ?_
                refine Run.pure (dd := some 2) rfl rfl (op_assign rfl (Opd.const _)) ?_
                refine Run.nil (FinR.mk ?_)
                refine nK ?_
                (first | exact s_o1 hC rfl tV | exact s_o2 hC rfl tV tV | exact s_o3 hC rfl tV tV tV | exact s_o4 hC rfl tV tV tV tV | exact s_out0 hC rfl | exact s_outO hC rfl rfl rfl)
      · rw [ifF hb]
        refine nK ?_
        refine s_reg rfl ?_
        refine Run.pure (dd := some 39) rfl rfl (op_fld_ptr (by decide) rfl (Opd.tmp _ _ rfl)) ?_
        refine Run.load (dd := some 40) rfl rfl (op_load1_flat rfl (Opd.tmp _ _ rfl) tH rfl) ?_
        refine Run.pure (dd := some 41) rfl rfl (op_call_pure (fun _ => within_c _ _ _) rfl (Opd.func _) (Opds.cons _ _ _ _ (Opd.tmp _ _ rfl) (Opds.cons _ _ _ _ (Opd.const _) (Opds.cons _ _ _ _ (Opd.const _) Opds.nil)))) ?_
        refine Run.pure (dd := some 42) rfl rfl (op_not rfl (Opd.tmp _ _ rfl)) ?_
        refine Run.nil (FinR.mk ?_)
        refine nK ?_
        refine n_cond _ rfl (fun hb => ?_) (fun hb => ?_)
        · rw [ifT hb]
          refine nK ?_
          refine s_reg rfl ?_
          refine Run.pure (dd := some 2) rfl rfl (op_assign rfl (Opd.const _)) ?_
          refine Run.nil (FinR.mk ?_)
          refine nK ?_
          (first | exact s_o1 hC rfl tV | exact s_o2 hC rfl tV tV | exact s_o3 hC rfl tV tV tV | exact s_o4 hC rfl tV tV tV tV | exact s_out0 hC rfl | exact s_outO hC rfl rfl rfl)
        · rw [ifF hb]
          refine nK ?_
          refine s_reg rfl ?_
          refine Run.pure (dd := some 43) rfl rfl (op_fld_ptr (by decide) rfl (Opd.tmp _ _ rfl)) ?_
          refine Run.load (dd := some 44) rfl rfl (op_load1_flat rfl (Opd.tmp _ _ rfl) tH rfl) ?_
          refine Run.pure (dd := some 45) rfl rfl (op_eql rfl (Opd.tmp _ _ rfl) (Opd.const _)) ?_
          refine Run.pure (dd := some 46) rfl rfl (op_move rfl (Opd.tmp _ _ rfl)) ?_
          refine Run.pureG (dd := some 47) rfl rfl rfl tG (op_fld_ptr (by decide) rfl (Opd.tmp _ _ rfl)) ?_
          refine Run.loadG (dd := some 48) rfl rfl rfl tG (op_load1_flat rfl (Opd.topt _ _ _ rfl tO) tH rfl) ?_
          refine Run.pureG (dd := some 49) rfl rfl rfl tG (op_fld_ptr (by decide) rfl (Opd.tmp _ _ rfl)) ?_
          refine Run.loadG (dd := some 50) rfl rfl rfl tG (op_load1_flat rfl (Opd.topt _ _ _ rfl tO) tH rfl) ?_
          refine Run.pureG (dd := some 51) rfl rfl rfl tG (op_neq rfl (Opd.topt _ _ _ rfl tO) (Opd.topt _ _ _ rfl tO)) ?_
          refine Run.pure (dd := some 52) rfl rfl (op_pick_and rfl (Opd.tmp _ _ rfl) (Opd.topt _ _ _ rfl tO)) ?_
          refine Run.nil (FinR.mk ?_)
          refine nK ?_
          refine n_cond _ rfl (fun hb => ?_) (fun hb => ?_)
          · rw [ifT hb]
            refine nK ?_
            refine s_reg rfl ?_
            refine Run.pure (dd := some 2) rfl rfl (op_assign rfl (Opd.const _)) ?_
            refine Run.nil (FinR.mk ?_)
            refine nK ?_
            (first | exact s_o1 hC rfl tV | exact s_o2 hC rfl tV tV | exact s_o3 hC rfl tV tV tV | exact s_o4 hC rfl tV tV tV tV | exact s_out0 hC rfl | exact s_outO hC rfl rfl rfl)
          · rw [ifF hb]
            refine nK ?_
            refine s_reg rfl ?_
            refine Run.pure (dd := some 53) rfl rfl (op_fld_ptr (by decide) rfl (Opd.tmp _ _ rfl)) ?_
            refine Run.load (dd := some 54) rfl rfl (op_load1_flat rfl (Opd.tmp _ _ rfl) tH rfl) ?_
            refine Run.pure (dd := some 55) rfl rfl (op_eql rfl (Opd.tmp _ _ rfl) (Opd.const _)) ?_
            refine Run.pure (dd := some 56) rfl rfl (op_move rfl (Opd.tmp _ _ rfl)) ?_
            refine Run.pureG (dd := some 57) rfl rfl rfl tG (op_fld_ptr (by decide) rfl (Opd.tmp _ _ rfl)) ?_
            refine Run.loadG (dd := some 58) rfl rfl rfl tG (op_load1_flat rfl (Opd.topt _ _ _ rfl tO) tH rfl) ?_
            refine Run.pureG (dd := some 59) rfl rfl rfl tG (op_eql rfl (Opd.topt _ _ _ rfl tO) (Opd.const _)) ?_
            refine Run.pure (dd := some 60) rfl rfl (op_pick_or rfl (Opd.tmp _ _ rfl) (Opd.topt _ _ _ rfl tO)) ?_
            refine Run.pure (dd := some 61) rfl rfl (op_move rfl (Opd.tmp _ _ rfl)) ?_
            refine Run.pureG (dd := some 62) rfl rfl rfl tG (op_fld_ptr (by decide) rfl (Opd.tmp _ _ rfl)) ?_
            refine Run.loadG (dd := some 63) rfl rfl rfl tG (op_load1_flat rfl (Opd.topt _ _ _ rfl tO) tH rfl) ?_
            refine Run.pureG (dd := some 64) rfl rfl rfl tG (op_fld_ptr (by decide) rfl (Opd.tmp _ _ rfl)) ?_
            refine Run.loadG (dd := some 65) rfl rfl rfl tG (op_load1_flat rfl (Opd.topt _ _ _ rfl tO) tH rfl) ?_
            refine Run.pureG (dd := some 66) rfl rfl rfl tG (op_call_pure (fun _ => fits_c _ _ (by assumption)) rfl (Opd.func _) (Opds.cons _ _ _ _ (Opd.topt _ _ _ rfl tO) (Opds.cons _ _ _ _ (Opd.topt _ _ _ rfl tO) Opds.nil))) ?_
            refine Run.pureG (dd := some 67) rfl rfl rfl tG (op_not rfl (Opd.topt _ _ _ rfl tO)) ?_
            refine Run.pure (dd := some 68) rfl rfl (op_pick_and rfl (Opd.tmp _ _ rfl) (Opd.topt _ _ _ rfl tO)) ?_
            refine Run.nil (FinR.mk ?_)
            refine nK ?_
            refine n_cond _ rfl (fun hb => ?_) (fun hb => ?_)
            · rw [ifT hb]
              refine nK ?_
              refine s_reg rfl ?_
              refine Run.pure (dd := some 2) rfl rfl (op_assign rfl (Opd.const _)) ?_
              refine Run.nil (FinR.mk ?_)
              refine nK ?_
              (first | exact s_o1 hC rfl tV | exact s_o2 hC rfl tV tV | exact s_o3 hC rfl tV tV tV | exact s_o4 hC rfl tV tV tV tV | exact s_out0 hC rfl | exact s_outO hC rfl rfl rfl)
            · rw [ifF hb]
              refine nK ?_
              refine s_reg rfl ?_
              refine Run.pure (dd := some 69) rfl rfl (op_fld_ptr (by decide) rfl (Opd.tmp _ _ rfl)) ?_
              refine Run.load (dd := some 70) rfl rfl (op_load1_flat rfl (Opd.tmp _ _ rfl) tH rfl) ?_
              refine Run.pure (dd := some 71) rfl rfl (op_eql rfl (Opd.tmp _ _ rfl) (Opd.const _)) ?_
              refine Run.pure (dd := some 72) rfl rfl (op_move rfl (Opd.tmp _ _ rfl)) ?_
              refine Run.pureG (dd := some 73) rfl rfl rfl tG (op_fld_ptr (by decide) rfl (Opd.tmp _ _ rfl)) ?_
              refine Run.loadG (dd := some 74) rfl rfl rfl tG (op_load1_flat rfl (Opd.topt _ _ _ rfl tO) tH rfl) ?_
              refine Run.pureG (dd := some 75) rfl rfl rfl tG (op_eql rfl (Opd.topt _ _ _ rfl tO) (Opd.const _)) ?_
              refine Run.pure (dd := some 76) rfl rfl (op_pick_or rfl (Opd.tmp _ _ rfl) (Opd.topt _ _ _ rfl tO)) ?_
              refine Run.pure (dd := some 77) rfl rfl (op_move rfl (Opd.tmp _ _ rfl)) ?_
              refine Run.pureG (dd := some 78) rfl rfl rfl tG (op_fld_ptr (by decide) rfl (Opd.tmp _ _ rfl)) ?_
              refine Run.loadG (dd := some 79) rfl rfl rfl tG (op_load1_flat rfl (Opd.topt _ _ _ rfl tO) tH rfl) ?_
              refine Run.pureG (dd := some 80) rfl rfl rfl tG (op_eql rfl (Opd.topt _ _ _ rfl tO) (Opd.const _)) ?_
              refine Run.pure (dd := some 81) rfl rfl (op_pick_and rfl (Opd.tmp _ _ rfl) (Opd.topt _ _ _ rfl tO)) ?_
              refine Run.nil (FinR.mk ?_)
              refine nK ?_
              refine n_cond _ rfl (fun hb => ?_) (fun hb => ?_)
              · rw [ifT hb]
                refine nK ?_
                refine s_reg rfl ?_
                refine Run.pure (dd := some 2) rfl rfl (op_assign rfl (Opd.const _)) ?_
                refine Run.nil (FinR.mk ?_)
                refine nK ?_
                (first | exact s_o1 hC rfl tV | exact s_o2 hC rfl tV tV | exact s_o3 hC rfl tV tV tV | exact s_o4 hC rfl tV tV tV tV | exact s_out0 hC rfl | exact s_outO hC rfl rfl rfl)
              · rw [ifF hb]
                refine nK ?_
                refine s_reg rfl ?_
                refine Run.pure (dd := some 2) rfl rfl (op_assign rfl (Opd.const _)) ?_
                refine Run.nil (FinR.mk ?_)
                refine nK ?_
                (first | exact s_o1 hC rfl tV | exact s_o2 hC rfl tV tV | exact s_o3 hC rfl tV tV tV | exact s_o4 hC rfl tV tV tV tV | exact s_out0 hC rfl | exact s_outO hC rfl rfl rfl)
abbrev OA (l : Lsa) : Option Ob := some (.flat 15 [encA l])
theorem unused_c (l : Lsa) (ho : okA l) : Pure Try.prog 65 [.agg (encA l)] (Bf (unusedB l)) := by
  unfold unusedB
  refine Meets.intro Try.func65 rfl (Nat.le_of_ble_eq_true rfl) fun C hC => ?_
  simp only [List.map, argEnv, Nat.reduceAdd]
  refine nK ?_
  refine s_reg rfl ?_
  refine Run.eff (dd := some 1) rfl rfl (op_box_flat rfl (Opd.tmp _ _ rfl) tC rfl) ?_
  refine Run.pure (dd := some 2) rfl rfl (op_assign rfl (Opd.const _)) ?_
  refine Run.nil (FinR.mk ?_)
  refine nK ?_
  refine s_reg rfl ?_
  refine Run.pure (dd := some 4) rfl rfl (op_fld_ptr (by decide) rfl (Opd.tmp _ _ rfl)) ?_
  refine Run.pure (dd := some 5) rfl rfl (op_fld_ptr (by decide) rfl (Opd.tmp _ _ rfl)) ?_
  refine Run.load (dd := some 6) rfl rfl (op_load1_flat rfl (Opd.tmp _ _ rfl) tH rfl) ?_
  refine Run.pure (dd := some 3) rfl rfl (op_assign rfl (Opd.tmp _ _ rfl)) ?_
  refine Run.nil (FinR.mk ?_)
  refine nK ?_
  refine s_reg rfl ?_
  refine Run.pure (dd := some 7) rfl rfl (op_move rfl (Opd.tmp _ _ rfl)) ?_
  refine Run.pure (dd := some 8) rfl rfl (op_neq rfl (Opd.tmp _ _ rfl) (Opd.const _)) ?_
  refine Run.pure (dd := some 9) rfl rfl (op_move rfl (Opd.tmp _ _ rfl)) ?_
  refine Run.pureG (dd := some 10) rfl rfl rfl tG (op_fld_ptr (by decide) rfl (Opd.tmp _ _ rfl)) ?_
  refine Run.loadG (dd := some 11) rfl rfl rfl tG (op_load1_flat rfl (Opd.topt _ _ _ rfl tO) tH rfl) ?_
  refine Run.pureG (dd := some 12) rfl rfl rfl tG (op_move rfl (Opd.topt _ _ _ rfl tO)) ?_
  refine Run.pureG (dd := some 13) rfl rfl rfl tG (op_fld_ptr (by decide) rfl (Opd.tmp _ _ rfl)) ?_
  refine Run.loadG (dd := some 14) rfl rfl rfl tG (op_load1_flat rfl (Opd.topt _ _ _ rfl tO) tH rfl) ?_
  refine Run.pureG (dd := some 15) rfl rfl rfl tG (op_pick_or rfl (Opd.topt _ _ _ rfl tO) (Opd.topt _ _ _ rfl tO)) ?_
  refine Run.pureG (dd := some 16) rfl rfl rfl tG (op_move rfl (Opd.topt _ _ _ rfl tO)) ?_
  refine Run.pureG (dd := some 17) rfl rfl rfl tG (op_fld_ptr (by decide) rfl (Opd.tmp _ _ rfl)) ?_
  refine Run.loadG (dd := some 18) rfl rfl rfl tG (op_load1_flat rfl (Opd.topt _ _ _ rfl tO) tH rfl) ?_
  refine Run.pureG (dd := some 19) rfl rfl rfl tG (op_len_fz rfl (by first | exact Opd.topt _ _ _ rfl tO | exact Opd.nil _ _ (Opd.topt _ _ _ rfl tO)) (by first | exact List.length_map _ | rfl)) ?_
  refine Run.pureG (dd := some 20) rfl rfl rfl tG (op_gtr rfl (Opd.topt _ _ _ rfl tO) (Opd.const _)) ?_
  refine Run.pureG (dd := some 21) rfl rfl rfl tG (op_pick_or rfl (Opd.topt _ _ _ rfl tO) (Opd.topt _ _ _ rfl tO)) ?_
  refine Run.pure (dd := some 22) rfl rfl (op_pick_and rfl (Opd.tmp _ _ rfl) (Opd.topt _ _ _ rfl tO)) ?_
  refine Run.nil (FinR.mk ?_)
  refine nK ?_
  refine n_cond _ rfl (fun hb => ?_) (fun hb => ?_)
  · rw [ifT hb]
    refine nK ?_
    refine s_reg rfl ?_
    refine Run.pure (dd := some 2) rfl rfl (op_assign rfl (Opd.const _)) ?_
    refine Run.nil (FinR.mk ?_)
    refine nK ?_
    (first | exact s_o1 hC rfl tV | exact s_o2 hC rfl tV tV | exact s_o3 hC rfl tV tV tV | exact s_o4 hC rfl tV tV tV tV | exact s_out0 hC rfl | exact s_outO hC rfl rfl rfl)
  · rw [ifF hb]
    refine nK ?_
    refine s_reg rfl ?_
    refine Run.pure (dd := some 23) rfl rfl (op_move rfl (Opd.tmp _ _ rfl)) ?_
    refine Run.pure (dd := some 24) rfl rfl (op_neq rfl (Opd.tmp _ _ rfl) (Opd.const _)) ?_
    refine Run.pure (dd := some 25) rfl rfl (op_move rfl (Opd.tmp _ _ rfl)) ?_
    refine Run.pureG (dd := some 26) rfl rfl rfl tG (op_fld_ptr (by decide) rfl (Opd.tmp _ _ rfl)) ?_
    refine Run.loadG (dd := some 27) rfl rfl rfl tG (op_load1_flat rfl (Opd.topt _ _ _ rfl tO) tH rfl) ?_
    refine Run.pureG (dd := some 28) rfl rfl rfl tG (op_len_fz rfl (by first | exact Opd.topt _ _ _ rfl tO | exact Opd.nil _ _ (Opd.topt _ _ _ rfl tO)) (by first | exact List.length_map _ | rfl)) ?_
    refine Run.pureG (dd := some 29) rfl rfl rfl tG (op_gtr rfl (Opd.topt _ _ _ rfl tO) (Opd.const _)) ?_
    refine Run.pure (dd := some 30) rfl rfl (op_pick_and rfl (Opd.tmp _ _ rfl) (Opd.topt _ _ _ rfl tO)) ?_
    refine Run.nil (FinR.mk ?_)
    refine nK ?_
    refine n_cond _ rfl (fun hb => ?_) (fun hb => ?_)
    · rw [ifT hb]
      refine nK ?_
      refine s_reg rfl ?_
      refine Run.pure (dd := some 2) rfl rfl (op_assign rfl (Opd.const _)) ?_
      refine Run.nil (FinR.mk ?_)
      refine nK ?_
      (first | exact s_o1 hC rfl tV | exact s_o2 hC rfl tV tV | exact s_o3 hC rfl tV tV tV | exact s_o4 hC rfl tV tV tV tV | exact s_out0 hC rfl | exact s_outO hC rfl rfl rfl)
    · rw [ifF hb]
      refine nK ?_
      refine s_reg rfl ?_
      refine Run.pure (dd := some 31) rfl rfl (op_move rfl (Opd.tmp _ _ rfl)) ?_
      refine Run.pure (dd := some 32) rfl rfl (op_lss rfl (Opd.tmp _ _ rfl) (Opd.const _)) ?_
      refine Run.pure (dd := some 33) rfl rfl (op_move rfl (Opd.tmp _ _ rfl)) ?_
      refine Run.pureG (dd := some 34) rfl rfl rfl tG (op_fld_ptr (by decide) rfl (Opd.tmp _ _ rfl)) ?_
      refine Run.loadG (dd := some 35) rfl rfl rfl tG (op_load1_flat rfl (Opd.topt _ _ _ rfl tO) tH rfl) ?_
      refine Run.pureG (dd := some 36) rfl rfl rfl tG (op_neq rfl (Opd.topt _ _ _ rfl tO) (Opd.const _)) ?_
      refine Run.pure (dd := some 37) rfl rfl (op_pick_and rfl (Opd.tmp _ _ rfl) (Opd.topt _ _ _ rfl tO)) ?_
      refine Run.nil (FinR.mk ?_)
      refine nK ?_
      refine n_cond _ rfl (fun hb => ?_) (fun hb => ?_)
      · rw [ifT hb]
        refine nK ?_
        refine s_reg rfl ?_
        refine Run.pure (dd := some 2) rfl rfl (op_assign rfl (Opd.const _)) ?_
        refine Run.nil (FinR.mk ?_)
        refine nK ?_
        (first | exact s_o1 hC rfl tV | exact s_o2 hC rfl tV tV | exact s_o3 hC rfl tV tV tV | exact s_o4 hC rfl tV tV tV tV | exact s_out0 hC rfl | exact s_outO hC rfl rfl rfl)
      · rw [ifF hb]
        refine nK ?_
        refine s_reg rfl ?_
        refine Run.pure (dd := some 38) rfl rfl (op_move rfl (Opd.tmp _ _ rfl)) ?_
        refine Run.pure (dd := some 39) rfl rfl (op_eql rfl (Opd.tmp _ _ rfl) (Opd.const _)) ?_
        refine Run.pure (dd := some 40) rfl rfl (op_move rfl (Opd.tmp _ _ rfl)) ?_
        refine Run.pureG (dd := some 41) rfl rfl rfl tG (op_fld_ptr (by decide) rfl (Opd.tmp _ _ rfl)) ?_
        refine Run.loadG (dd := some 42) rfl rfl rfl tG (op_load1_flat rfl (Opd.topt _ _ _ rfl tO) tH rfl) ?_
        refine Run.pureG (dd := some 43) rfl rfl rfl tG (op_not rfl (Opd.topt _ _ _ rfl tO)) ?_
        refine Run.pureG (dd := some 44) rfl rfl rfl tG (op_move rfl (Opd.topt _ _ _ rfl tO)) ?_
        refine Run.pureG (dd := some 45) rfl rfl rfl tG (op_fld_ptr (by decide) rfl (Opd.tmp _ _ rfl)) ?_
        refine Run.loadG (dd := some 46) rfl rfl rfl tG (op_load1_flat rfl (Opd.topt _ _ _ rfl tO) tH rfl) ?_
        refine Run.pureG (dd := some 47) rfl rfl rfl tG (op_eql rfl (Opd.topt _ _ _ rfl tO) (Opd.const _)) ?_
        refine Run.pureG (dd := some 48) rfl rfl rfl tG (op_pick_and rfl (Opd.topt _ _ _ rfl tO) (Opd.topt _ _ _ rfl tO)) ?_
        refine Run.pureG (dd := some 49) rfl rfl rfl tG (op_move rfl (Opd.topt _ _ _ rfl tO)) ?_
        refine Run.pureG (dd := some 50) rfl rfl rfl tG (op_fld_ptr (by decide) rfl (Opd.tmp _ _ rfl)) ?_
        refine Run.loadG (dd := some 51) rfl rfl rfl tG (op_load1_flat rfl (Opd.topt _ _ _ rfl tO) tH rfl) ?_
        refine Run.pureG (dd := some 52) rfl rfl rfl tG (op_eql rfl (Opd.topt _ _ _ rfl tO) (Opd.const _)) ?_
        refine Run.pureG (dd := some 53) rfl rfl rfl tG (op_pick_and rfl (Opd.topt _ _ _ rfl tO) (Opd.topt _ _ _ rfl tO)) ?_
        refine Run.pure (dd := some 54) rfl rfl (op_pick_or rfl (Opd.tmp _ _ rfl) (Opd.topt _ _ _ rfl tO)) ?_
        refine Run.pure (dd := some 2) rfl rfl (op_assign rfl (Opd.tmp _ _ rfl)) ?_
        refine Run.nil (FinR.mk ?_)
        refine nK ?_
        (first | exact s_o1 hC rfl tV | exact s_o2 hC rfl tV tV | exact s_o3 hC rfl tV tV tV | exact s_o4 hC rfl tV tV tV tV | exact s_out0 hC rfl | exact s_outO hC rfl rfl rfl)
theorem links_c (l : Lsa) (ho : okA l) : Pure Try.prog 66 [.agg (encA l)] (If .i64 (linksI l)) := by
  obtain ⟨oh, ol, ou, _⟩ := ho
  unfold linksI
  refine Meets.intro Try.func66 rfl (Nat.le_of_ble_eq_true rfl) fun C hC => ?_
  simp only [List.map, argEnv, Nat.reduceAdd]
  refine nK ?_
  refine s_reg rfl ?_
  refine Run.eff (dd := some 1) rfl rfl (op_box_flat rfl (Opd.tmp _ _ rfl) tC rfl) ?_
  refine Run.pure (dd := some 2) rfl rfl (op_assign rfl (Opd.const _)) ?_
  refine Run.nil (FinR.mk ?_)
  refine nK ?_
  refine s_reg rfl ?_
  refine Run.pure (dd := some 5) rfl rfl (op_fld_ptr (by decide) rfl (Opd.tmp _ _ rfl)) ?_
  refine Run.load (dd := some 6) rfl rfl (op_load1_flat rfl (Opd.tmp _ _ rfl) tH rfl) ?_
  refine Run.pure (dd := some 7) rfl rfl (op_len_fz rfl (by first | exact Opd.tmp _ _ rfl | exact Opd.nil _ _ (Opd.tmp _ _ rfl)) (by first | exact List.length_map _ | rfl)) ?_
  refine Run.pure (dd := some 8) rfl rfl (op_gtr rfl (Opd.tmp _ _ rfl) (Opd.const _)) ?_
  refine Run.nil (FinR.mk ?_)
  refine nK ?_
  refine n_cond _ rfl (fun hb => ?_) (fun hb => ?_)
  · rw [if_pos (by simp at hb; omega)]
    refine nK ?_
    refine s_reg rfl ?_
    refine Run.pure (dd := some 2) rfl rfl (op_assign rfl (Opd.const _)) ?_
    refine Run.nil (FinR.mk ?_)
    refine nK ?_
    (first | exact s_o1 hC rfl tV | exact s_o2 hC rfl tV tV | exact s_o3 hC rfl tV tV tV | exact s_o4 hC rfl tV tV tV tV | exact s_out0 hC rfl | exact s_outO hC rfl rfl rfl)
  · have hlen : l.ls.length ≤ 64 := by simp at hb; omega
    rw [if_neg (by omega)]
    refine nK ?_
    refine s_reg rfl ?_
    refine Run.pure (dd := some 3) rfl rfl (op_assign rfl (Opd.const _)) ?_
    refine Run.nil (FinR.mk ?_)
    refine nK ?_
    refine n_loop (ι := Nat) (fun i => ([(1, .ptr 0 15 0 0), (3, IV .i64 i)], [(0, OA l)], 1)) (fun i => i ≤ l.ls.length ∧ linksGo l.h.rt (prevG l.ls i) (l.ls.drop i) = linksGo l.h.rt none l.ls) (fun i => l.ls.length - i) 0 ⟨Nat.zero_le _, rfl⟩ ?_ ?_
    · refine Next.weakS [1] [] (by rfl) (by first | exact keeps0 hC _ | exact keepsN hC _ rfl) (by repeat (first | exact trivial | refine ⟨⟨_, rfl, .inl ⟨rfl, rfl⟩⟩, ?_⟩ | refine ⟨⟨_, rfl, .inl ⟨slEq rfl tN, rfl⟩⟩, ?_⟩ | refine ⟨⟨_, rfl, .inl ⟨ivEq tX, rfl⟩⟩, ?_⟩)) (by repeat (first | exact trivial | refine ⟨ent_same rfl rfl rfl tL, ?_⟩ | refine ⟨ent_same rfl rfl (rfEq rfl tU) tL, ?_⟩ | refine ⟨ent_same rfl rfl (flEq rfl (by first | (simp; done) | (simp; omega) | (simp [encA, encH, encL, encU, encK, encV]; done) | simp [maxC, minC])) trivial, ?_⟩)) rfl (rel_intro)
    · intro i ⟨hi, ho⟩ K hK
      refine nK ?_
      refine s_reg rfl ?_
      refine Run.pure (dd := some 9) rfl rfl (op_move rfl (Opd.tmp _ _ rfl)) ?_
      refine Run.pure (dd := some 10) rfl rfl (op_fld_ptr (by decide) rfl (Opd.tmp _ _ rfl)) ?_
      refine Run.load (dd := some 11) rfl rfl (op_load1_flat rfl (Opd.tmp _ _ rfl) tH rfl) ?_
      refine Run.pure (dd := some 12) rfl rfl (op_len_fz rfl (by first | exact Opd.tmp _ _ rfl | exact Opd.nil _ _ (Opd.tmp _ _ rfl)) (by first | exact List.length_map _ | rfl)) ?_
      refine Run.pure (dd := some 13) rfl rfl (op_lss rfl (Opd.tmp _ _ rfl) (Opd.tmp _ _ rfl)) ?_
      refine Run.nil (FinR.mk ?_)
      refine nK ?_
      refine n_cond _ rfl (fun hb => ?_) (fun hb => ?_)
      · have hlt : i < l.ls.length := by simp at hb; omega
        have hr1 := row_at' encL l.ls i hlt
        rw [links_step hlt] at ho
        have hK1 := fun h => hK (i + 1) ⟨by omega, h⟩ (by omega)
        obtain ⟨k1, k2, k3, k4⟩ := ol l.ls[i] (List.getElem_mem hlt)
        have k3' : 0 ≤ l.ls[i].d ∧ l.ls[i].d ≤ 4294967295 := by simpa only [inr] using k3
        have hE : linkE l.h.rt l.ls[i] = linkE l.h.rt l.ls[i] := rfl
        conv at hE => rhs; unfold linkE
        refine nK ?_
        refine s_reg rfl ?_
        refine Run.pure (dd := some 16) rfl rfl (op_fld_ptr (by decide) rfl (Opd.tmp _ _ rfl)) ?_
        refine Run.load (dd := some 17) rfl rfl (op_load1_flat rfl (Opd.tmp _ _ rfl) tH rfl) ?_
        refine Run.pure (dd := some 18) rfl rfl (op_move rfl (Opd.tmp _ _ rfl)) ?_
        refine Run.pure (dd := some 19) rfl rfl (op_idx_fz _ rfl (Opd.tmp _ _ rfl) (Opd.tmp _ _ rfl) tF) ?_
        refine Run.pure (dd := some 20) rfl rfl (op_loadw_fz rfl (Opd.tmp _ _ rfl) rfl) ?_
        refine Run.eff (dd := some 4) rfl rfl (op_alloc rfl rfl rfl rfl) ?_
        refine Run.eff (dd := none) rfl rfl (op_store_flat rfl (Opd.tmp _ _ rfl) (Opd.tmp _ _ rfl) tC rfl rfl (by first | rfl | assumption) tS) ?_
        refine Run.nil (FinR.mk ?_)
        refine nK ?_
        refine s_reg rfl ?_
        refine Run.pure (dd := some 21) rfl rfl (op_fld_ptr (by decide) rfl (Opd.tmp _ _ rfl)) ?_
        refine Run.load (dd := some 22) rfl rfl (op_load1_flat rfl (Opd.tmp _ _ rfl) tH rfl) ?_
        refine Run.pure (dd := some 23) rfl rfl (op_call_pure (fun _ => within_c _ _ _) rfl (Opd.func _) (Opds.cons _ _ _ _ (Opd.tmp _ _ rfl) (Opds.cons _ _ _ _ (Opd.const _) (Opds.cons _ _ _ _ (Opd.const _) Opds.nil)))) ?_
        refine Run.pure (dd := some 24) rfl rfl (op_not rfl (Opd.tmp _ _ rfl)) ?_
        refine Run.nil (FinR.mk ?_)
        refine nK ?_
        refine n_cond _ rfl (fun hb => ?_) (fun hb => ?_)
        · rw [ifT hb] at hE
          rw [hE, if_pos (by decide)] at ho
          rw [← ho]
          refine nK ?_
          refine s_reg rfl ?_
          refine Run.pure (dd := some 2) rfl rfl (op_assign rfl (Opd.const _)) ?_
          refine Run.nil (FinR.mk ?_)
          refine nK ?_
          (first | exact s_o1 hC rfl tV | exact s_o2 hC rfl tV tV | exact s_o3 hC rfl tV tV tV | exact s_o4 hC rfl tV tV tV tV | exact s_out0 hC rfl | exact s_outO hC rfl rfl rfl)
        · rw [ifF hb] at hE
          refine nK ?_
          refine s_reg rfl ?_
          refine Run.pure (dd := some 25) rfl rfl (op_fld_ptr (by decide) rfl (Opd.tmp _ _ rfl)) ?_
          refine Run.load (dd := some 26) rfl rfl (op_load1_flat rfl (Opd.tmp _ _ rfl) tH rfl) ?_
          refine Run.pure (dd := some 27) rfl rfl (op_call_pure (fun _ => within_c _ _ _) rfl (Opd.func _) (Opds.cons _ _ _ _ (Opd.tmp _ _ rfl) (Opds.cons _ _ _ _ (Opd.const _) (Opds.cons _ _ _ _ (Opd.const _) Opds.nil)))) ?_
          refine Run.pure (dd := some 28) rfl rfl (op_not rfl (Opd.tmp _ _ rfl)) ?_
          refine Run.nil (FinR.mk ?_)
          refine nK ?_
          refine n_cond _ rfl (fun hb => ?_) (fun hb => ?_)
          · rw [ifT hb] at hE
            rw [hE, if_pos (by decide)] at ho
            rw [← ho]
            refine nK ?_
            refine s_reg rfl ?_
            refine Run.pure (dd := some 2) rfl rfl (op_assign rfl (Opd.const _)) ?_
            refine Run.nil (FinR.mk ?_)
            refine nK ?_
            (first | exact s_o1 hC rfl tV | exact s_o2 hC rfl tV tV | exact s_o3 hC rfl tV tV tV | exact s_o4 hC rfl tV tV tV tV | exact s_out0 hC rfl | exact s_outO hC rfl rfl rfl)
          · rw [ifF hb] at hE
            refine nK ?_
            refine s_reg rfl ?_
            refine Run.pure (dd := some 29) rfl rfl (op_fld_ptr (by decide) rfl (Opd.tmp _ _ rfl)) ?_
            refine Run.load (dd := some 30) rfl rfl (op_load1_flat rfl (Opd.tmp _ _ rfl) tH rfl) ?_
            refine Run.pure (dd := some 31) rfl rfl (op_eql rfl (Opd.tmp _ _ rfl) (Opd.const _)) ?_
            refine Run.pure (dd := some 32) rfl rfl (op_move rfl (Opd.tmp _ _ rfl)) ?_
            refine Run.pureG (dd := some 33) rfl rfl rfl tG (op_fld_ptr (by decide) rfl (Opd.tmp _ _ rfl)) ?_
            refine Run.loadG (dd := some 34) rfl rfl rfl tG (op_load1_flat rfl (Opd.topt _ _ _ rfl tO) tH rfl) ?_
            refine Run.pureG (dd := some 35) rfl rfl rfl tG (op_eql rfl (Opd.topt _ _ _ rfl tO) (Opd.const _)) ?_
            refine Run.pureG (dd := some 36) rfl rfl rfl tG (op_move rfl (Opd.topt _ _ _ rfl tO)) ?_
            refine Run.pureG (dd := some 37) rfl rfl rfl tG (op_fld_ptr (by decide) rfl (Opd.tmp _ _ rfl)) ?_
            refine Run.loadG (dd := some 38) rfl rfl rfl tG (op_load1_flat rfl (Opd.topt _ _ _ rfl tO) tH rfl) ?_
            refine Run.pureG (dd := some 39) rfl rfl rfl tG (op_fld_ptr (by decide) rfl (Opd.tmp _ _ rfl)) ?_
            refine Run.pureG (dd := some 40) rfl rfl rfl tG (op_fld_ptr (by decide) rfl (Opd.topt _ _ _ rfl tO)) ?_
            refine Run.loadG (dd := some 41) rfl rfl rfl tG (op_load1_flat rfl (Opd.topt _ _ _ rfl tO) tH rfl) ?_
            refine Run.pureG (dd := some 42) rfl rfl rfl tG (op_eql rfl (Opd.topt _ _ _ rfl tO) (Opd.topt _ _ _ rfl tO)) ?_
            refine Run.pureG (dd := some 43) rfl rfl rfl tG (op_pick_or rfl (Opd.topt _ _ _ rfl tO) (Opd.topt _ _ _ rfl tO)) ?_
            refine Run.pure (dd := some 44) rfl rfl (op_pick_and rfl (Opd.tmp _ _ rfl) (Opd.topt _ _ _ rfl tO)) ?_
            refine Run.nil (FinR.mk ?_)
            refine nK ?_
            refine n_cond _ rfl (fun hb => ?_) (fun hb => ?_)
            · rw [ifT hb] at hE
              rw [hE, if_pos (by decide)] at ho
              rw [← ho]
              refine nK ?_
              refine s_reg rfl ?_
              refine Run.pure (dd := some 2) rfl rfl (op_assign rfl (Opd.const _)) ?_
              refine Run.nil (FinR.mk ?_)
              refine nK ?_
              (first | exact s_o1 hC rfl tV | exact s_o2 hC rfl tV tV | exact s_o3 hC rfl tV tV tV | exact s_o4 hC rfl tV tV tV tV | exact s_out0 hC rfl | exact s_outO hC rfl rfl rfl)
            · rw [ifF hb] at hE
              refine nK ?_
              refine s_reg rfl ?_
              refine Run.pure (dd := some 45) rfl rfl (op_fld_ptr (by decide) rfl (Opd.tmp _ _ rfl)) ?_
              refine Run.load (dd := some 46) rfl rfl (op_load1_flat rfl (Opd.tmp _ _ rfl) tH rfl) ?_
              refine Run.pure (dd := some 47) rfl rfl (op_eql rfl (Opd.tmp _ _ rfl) (Opd.const _)) ?_
              refine Run.pure (dd := some 48) rfl rfl (op_move rfl (Opd.tmp _ _ rfl)) ?_
              refine Run.pureG (dd := some 49) rfl rfl rfl tG (op_fld_ptr (by decide) rfl (Opd.tmp _ _ rfl)) ?_
              refine Run.loadG (dd := some 50) rfl rfl rfl tG (op_load1_flat rfl (Opd.topt _ _ _ rfl tO) tH rfl) ?_
              refine Run.pureG (dd := some 51) rfl rfl rfl tG (op_gtr rfl (Opd.topt _ _ _ rfl tO) (Opd.const _)) ?_
              refine Run.pureG (dd := some 52) rfl rfl rfl tG (op_move rfl (Opd.topt _ _ _ rfl tO)) ?_
              refine Run.pureG (dd := some 53) rfl rfl rfl tG (op_fld_ptr (by decide) rfl (Opd.tmp _ _ rfl)) ?_
              refine Run.loadG (dd := some 54) rfl rfl rfl tG (op_load1_flat rfl (Opd.topt _ _ _ rfl tO) tH rfl) ?_
              refine Run.pureG (dd := some 55) rfl rfl rfl tG (op_fld_ptr (by decide) rfl (Opd.tmp _ _ rfl)) ?_
              refine Run.loadG (dd := some 56) rfl rfl rfl tG (op_load1_flat rfl (Opd.topt _ _ _ rfl tO) tH rfl) ?_
              refine Run.pureG (dd := some 57) rfl rfl rfl tG (op_conv rfl (Opd.topt _ _ _ rfl tO) tI) ?_
              refine Run.pureG (dd := some 58) rfl rfl rfl tG (op_call_pure (fun _ => fits_c _ _ (by assumption)) rfl (Opd.func _) (Opds.cons _ _ _ _ (Opd.topt _ _ _ rfl tO) (Opds.cons _ _ _ _ (Opd.topt _ _ _ rfl tO) Opds.nil))) ?_
              refine Run.pureG (dd := some 59) rfl rfl rfl tG (op_not rfl (Opd.topt _ _ _ rfl tO)) ?_
              refine Run.pureG (dd := some 60) rfl rfl rfl tG (op_pick_or rfl (Opd.topt _ _ _ rfl tO) (Opd.topt _ _ _ rfl tO)) ?_
              refine Run.pure (dd := some 61) rfl rfl (op_pick_and rfl (Opd.tmp _ _ rfl) (Opd.topt _ _ _ rfl tO)) ?_
              refine Run.nil (FinR.mk ?_)
              refine nK ?_
              refine n_cond _ rfl (fun hb => ?_) (fun hb => ?_)
              · rw [ifT hb] at hE
                rw [hE, if_pos (by decide)] at ho
                rw [← ho]
                refine nK ?_
                refine s_reg rfl ?_
                refine Run.pure (dd := some 2) rfl rfl (op_assign rfl (Opd.const _)) ?_
                refine Run.nil (FinR.mk ?_)
                refine nK ?_
                (first | exact s_o1 hC rfl tV | exact s_o2 hC rfl tV tV | exact s_o3 hC rfl tV tV tV | exact s_o4 hC rfl tV tV tV tV | exact s_out0 hC rfl | exact s_outO hC rfl rfl rfl)
              · rw [ifF hb] at hE
                rw [if_neg (by rw [hE]; decide)] at ho
                have hp : ∃ q, (0 < i → prevG l.ls i = some q ∧ (l.ls.map encL)[i - 1]? = some (encL q)) := by
                  by_cases h0 : 0 < i
                  · exact ⟨l.ls[i - 1], fun _ => ⟨by simp [prevG]; omega, row_at' encL l.ls (i - 1) (by omega)⟩⟩
                  · exact ⟨⟨0, 0, 0, 0⟩, fun h => absurd h h0⟩
                obtain ⟨q, hq⟩ := hp
                refine nK ?_
                refine s_draw mixed ?_
                refine Run.pure (dd := some 62) rfl rfl (op_move rfl (Opd.tmp _ _ rfl)) ?_
                refine Run.pure (dd := some 63) rfl rfl (op_gtr rfl (Opd.tmp _ _ rfl) (Opd.const _)) ?_
                refine Run.pure (dd := some 64) rfl rfl (op_move rfl (Opd.tmp _ _ rfl)) ?_
                refine Run.pureG (dd := some 65) rfl rfl rfl tG (op_fld_ptr (by decide) rfl (Opd.tmp _ _ rfl)) ?_
                refine Run.loadG (dd := some 66) rfl rfl rfl tG (op_load1_flat rfl (Opd.topt _ _ _ rfl tO) tH rfl) ?_
                refine Run.pureG (dd := some 67) rfl rfl rfl tG (op_move rfl (Opd.tmp _ _ rfl)) ?_
                refine Run.pureG (dd := some 68) rfl rfl rfl tG (op_sub rfl (Opd.topt _ _ _ rfl tO) (Opd.const _) tI) ?_
                refine Run.pureG (dd := some 69) rfl rfl rfl tG (op_idx_fz (i - 1) rfl (Opd.topt _ _ _ rfl tO) (Opd.topt _ _ _ rfl tO) (by intro hg; have h0 : 0 < i := (by simp at hg; omega); exact ⟨by omega, (hq h0).2⟩)) ?_
                refine Run.pureG (dd := some 70) rfl rfl rfl tG (op_loadw_fz rfl (Opd.topt _ _ _ rfl tO) rfl) ?_
                refine Run.loadG (dd := some 71) rfl rfl rfl tG (op_loadw_flat rfl (Opd.tmp _ _ rfl) tH rfl) ?_
                refine Run.pureG (dd := some 72) rfl rfl rfl tG (op_call_pure (fun _ => lnk_c _ _) rfl (Opd.func _) (Opds.cons _ _ _ _ (Opd.topt _ _ _ rfl tO) (Opds.cons _ _ _ _ (Opd.topt _ _ _ rfl tO) Opds.nil))) ?_
                refine Run.pureG (dd := some 73) rfl rfl rfl tG (op_geq rfl (Opd.topt _ _ _ rfl tO) (Opd.const _)) ?_
                refine Run.pure (dd := some 74) rfl rfl (op_pick_and rfl (Opd.tmp _ _ rfl) (Opd.topt _ _ _ rfl tO)) ?_
                refine Run.nil (FinD.mk (by kernel_rfl) ?_)
                refine nK ?_
                refine n_cond _ rfl (fun hb => ?_) (fun hb => ?_)
                · have h0 : 0 < i := by simp at hb; omega
                  rw [(hq h0).1, if_pos (by simp at hb; simpa [badL] using hb.2)] at ho
                  rw [← ho]
                  refine nK ?_
                  refine s_reg rfl ?_
                  refine Run.pure (dd := some 2) rfl rfl (op_assign rfl (Opd.const _)) ?_
                  refine Run.nil (FinR.mk ?_)
                  refine nK ?_
                  (first | exact s_o1 hC rfl tV | exact s_o2 hC rfl tV tV | exact s_o3 hC rfl tV tV tV | exact s_o4 hC rfl tV tV tV tV | exact s_out0 hC rfl | exact s_outO hC rfl rfl rfl)
                · have hc : ¬ badL (prevG l.ls i) l.ls[i] = true := by
                    by_cases h0 : 0 < i
                    · rw [(hq h0).1]; simp [h0, badL] at hb ⊢; exact hb
                    · have : i = 0 := by omega
                      subst this; simp [prevG, badL]
                  rw [if_neg hc] at ho
                  refine nK ?_
                  refine s_reg rfl ?_
                  refine Run.pure (dd := some 14) rfl rfl (op_move rfl (Opd.tmp _ _ rfl)) ?_
                  refine Run.pure (dd := some 15) rfl rfl (op_add rfl (Opd.tmp _ _ rfl) (Opd.const _) tI) ?_
                  refine Run.pure (dd := some 3) rfl rfl (op_assign rfl (Opd.tmp _ _ rfl)) ?_
                  refine Run.nil (FinR.mk ?_)
                  refine nK ?_
                  refine Next.weakS [1] [] (by rfl) (by first | exact keeps0 hC _ | exact keepsN hC _ rfl) (by repeat (first | exact trivial | refine ⟨⟨_, rfl, .inl ⟨rfl, rfl⟩⟩, ?_⟩ | refine ⟨⟨_, rfl, .inl ⟨slEq rfl tN, rfl⟩⟩, ?_⟩ | refine ⟨⟨_, rfl, .inl ⟨ivEq tX, rfl⟩⟩, ?_⟩)) (by repeat (first | exact trivial | refine ⟨ent_same rfl rfl rfl tL, ?_⟩ | refine ⟨ent_same rfl rfl (rfEq rfl tU) tL, ?_⟩ | refine ⟨ent_same rfl rfl (flEq rfl (by first | (simp; done) | (simp; omega) | (simp [encA, encH, encL, encU, encK, encV]; done) | simp [maxC, minC])) trivial, ?_⟩)) rfl ((hK1 ho))
      · have hie : i = l.ls.length := by simp at hb; omega
        rw [hie, List.drop_length] at ho
        rw [← ho]
        simp only [linksGo]
        refine nK ?_
        refine s_reg rfl ?_
        refine Run.pure (dd := some 2) rfl rfl (op_assign rfl (Opd.const _)) ?_
        refine Run.nil (FinR.mk ?_)
        refine nK ?_
        (first | exact s_o1 hC rfl tV | exact s_o2 hC rfl tV tV | exact s_o3 hC rfl tV tV tV | exact s_o4 hC rfl tV tV tV tV | exact s_out0 hC rfl | exact s_outO hC rfl rfl rfl)
theorem att_c (l : Lsa) (ho : okA l) : Pure Try.prog 67 [.agg (encA l)] (If .i64 (attI l)) := by
  obtain ⟨oh, ol, ou, _⟩ := ho
  unfold attI
  refine Meets.intro Try.func67 rfl (Nat.le_of_ble_eq_true rfl) fun C hC => ?_
  simp only [List.map, argEnv, Nat.reduceAdd]
  refine nK ?_
  refine s_reg rfl ?_
  refine Run.eff (dd := some 1) rfl rfl (op_box_flat rfl (Opd.tmp _ _ rfl) tC rfl) ?_
  refine Run.pure (dd := some 2) rfl rfl (op_assign rfl (Opd.const _)) ?_
  refine Run.nil (FinR.mk ?_)
  refine nK ?_
  refine s_reg rfl ?_
  refine Run.pure (dd := some 5) rfl rfl (op_fld_ptr (by decide) rfl (Opd.tmp _ _ rfl)) ?_
  refine Run.load (dd := some 6) rfl rfl (op_load1_flat rfl (Opd.tmp _ _ rfl) tH rfl) ?_
  refine Run.pure (dd := some 7) rfl rfl (op_len_fz rfl (by first | exact Opd.tmp _ _ rfl | exact Opd.nil _ _ (Opd.tmp _ _ rfl)) (by first | exact List.length_map _ | rfl)) ?_
  refine Run.pure (dd := some 8) rfl rfl (op_gtr rfl (Opd.tmp _ _ rfl) (Opd.const _)) ?_
  refine Run.nil (FinR.mk ?_)
  refine nK ?_
  refine n_cond _ rfl (fun hb => ?_) (fun hb => ?_)
  · rw [if_pos (by simp at hb; omega)]
    refine nK ?_
    refine s_reg rfl ?_
    refine Run.pure (dd := some 2) rfl rfl (op_assign rfl (Opd.const _)) ?_
    refine Run.nil (FinR.mk ?_)
    refine nK ?_
    (first | exact s_o1 hC rfl tV | exact s_o2 hC rfl tV tV | exact s_o3 hC rfl tV tV tV | exact s_o4 hC rfl tV tV tV tV | exact s_out0 hC rfl | exact s_outO hC rfl rfl rfl)
  · have hlen : l.att.length ≤ 64 := by simp at hb; omega
    rw [if_neg (by omega)]
    refine nK ?_
    refine s_reg rfl ?_
    refine Run.pure (dd := some 3) rfl rfl (op_assign rfl (Opd.const _)) ?_
    refine Run.nil (FinR.mk ?_)
    refine nK ?_
    refine s_reg rfl ?_
    refine Run.pure (dd := some 4) rfl rfl (op_assign rfl (Opd.const _)) ?_
    refine Run.nil (FinR.mk ?_)
    refine nK ?_
    refine n_loop (ι := Nat) (fun i => ([(1, .ptr 0 15 0 0), (3, BV ((l.att.take i).contains l.h.rt)), (4, IV .i64 i)], [(0, OA l)], 1)) (fun i => i ≤ l.att.length ∧ attGo (prevG l.att i) (l.att.drop i) = attGo none l.att) (fun i => l.att.length - i) 0 ⟨Nat.zero_le _, rfl⟩ ?_ ?_
    · refine Next.weakS [1] [] (by rfl) (by first | exact keeps0 hC _ | exact keepsN hC _ rfl) (by repeat (first | exact trivial | refine ⟨⟨_, rfl, .inl ⟨rfl, rfl⟩⟩, ?_⟩ | refine ⟨⟨_, rfl, .inl ⟨slEq rfl tN, rfl⟩⟩, ?_⟩ | refine ⟨⟨_, rfl, .inl ⟨ivEq tX, rfl⟩⟩, ?_⟩)) (by repeat (first | exact trivial | refine ⟨ent_same rfl rfl rfl tL, ?_⟩ | refine ⟨ent_same rfl rfl (rfEq rfl tU) tL, ?_⟩ | refine ⟨ent_same rfl rfl (flEq rfl (by first | (simp; done) | (simp; omega) | (simp [encA, encH, encL, encU, encK, encV]; done) | simp [maxC, minC])) trivial, ?_⟩)) rfl (rel_intro)
    · intro i ⟨hi, ho⟩ K hK
      refine nK ?_
      refine s_reg rfl ?_
      refine Run.pure (dd := some 9) rfl rfl (op_move rfl (Opd.tmp _ _ rfl)) ?_
      refine Run.pure (dd := some 10) rfl rfl (op_fld_ptr (by decide) rfl (Opd.tmp _ _ rfl)) ?_
      refine Run.load (dd := some 11) rfl rfl (op_load1_flat rfl (Opd.tmp _ _ rfl) tH rfl) ?_
      refine Run.pure (dd := some 12) rfl rfl (op_len_fz rfl (by first | exact Opd.tmp _ _ rfl | exact Opd.nil _ _ (Opd.tmp _ _ rfl)) (by first | exact List.length_map _ | rfl)) ?_
      refine Run.pure (dd := some 13) rfl rfl (op_lss rfl (Opd.tmp _ _ rfl) (Opd.tmp _ _ rfl)) ?_
      refine Run.nil (FinR.mk ?_)
      refine nK ?_
      refine n_cond _ rfl (fun hb => ?_) (fun hb => ?_)
      · have hlt : i < l.att.length := by simp at hb; omega
        have hr1 := row_at' encU l.att i hlt
        rw [att_step hlt] at ho
        have hK1 := fun h => hK (i + 1) ⟨by omega, h⟩ (by omega)
        have hp : ∃ q, (0 < i → prevG l.att i = some q ∧ (l.att.map encU)[i - 1]? = some (encU q)) := by
          by_cases h0 : 0 < i
          · exact ⟨l.att[i - 1], fun _ => ⟨by simp [prevG]; omega, row_at' encU l.att (i - 1) (by omega)⟩⟩
          · exact ⟨0, fun h => absurd h h0⟩
        obtain ⟨q, hq⟩ := hp
        refine nK ?_
        refine s_draw mixed ?_
        refine Run.pure (dd := some 16) rfl rfl (op_fld_ptr (by decide) rfl (Opd.tmp _ _ rfl)) ?_
        refine Run.load (dd := some 17) rfl rfl (op_load1_flat rfl (Opd.tmp _ _ rfl) tH rfl) ?_
        refine Run.pure (dd := some 18) rfl rfl (op_move rfl (Opd.tmp _ _ rfl)) ?_
        refine Run.pure (dd := some 19) rfl rfl (op_idx_fz _ rfl (Opd.tmp _ _ rfl) (Opd.tmp _ _ rfl) tF) ?_
        refine Run.pure (dd := some 20) rfl rfl (op_load1_fz rfl (Opd.tmp _ _ rfl) rfl) ?_
        refine Run.pure (dd := some 21) rfl rfl (op_eql rfl (Opd.tmp _ _ rfl) (Opd.const _)) ?_
        refine Run.pure (dd := some 22) rfl rfl (op_move rfl (Opd.tmp _ _ rfl)) ?_
        refine Run.pureG (dd := some 23) rfl rfl rfl tG (op_move rfl (Opd.tmp _ _ rfl)) ?_
        refine Run.pureG (dd := some 24) rfl rfl rfl tG (op_gtr rfl (Opd.topt _ _ _ rfl tO) (Opd.const _)) ?_
        refine Run.pureG (dd := some 25) rfl rfl rfl tG (op_move rfl (Opd.topt _ _ _ rfl tO)) ?_
        refine Run.pureG (dd := some 26) rfl rfl rfl tG (op_fld_ptr (by decide) rfl (Opd.tmp _ _ rfl)) ?_
        refine Run.loadG (dd := some 27) rfl rfl rfl tG (op_load1_flat rfl (Opd.topt _ _ _ rfl tO) tH rfl) ?_
        refine Run.pureG (dd := some 28) rfl rfl rfl tG (op_move rfl (Opd.tmp _ _ rfl)) ?_
        refine Run.pureG (dd := some 29) rfl rfl rfl tG (op_idx_fz _ rfl (Opd.topt _ _ _ rfl tO) (Opd.topt _ _ _ rfl tO) tF) ?_
        refine Run.pureG (dd := some 30) rfl rfl rfl tG (op_load1_fz rfl (Opd.topt _ _ _ rfl tO) rfl) ?_
        refine Run.pureG (dd := some 31) rfl rfl rfl tG (op_fld_ptr (by decide) rfl (Opd.tmp _ _ rfl)) ?_
        refine Run.loadG (dd := some 32) rfl rfl rfl tG (op_load1_flat rfl (Opd.topt _ _ _ rfl tO) tH rfl) ?_
        refine Run.pureG (dd := some 33) rfl rfl rfl tG (op_move rfl (Opd.tmp _ _ rfl)) ?_
        refine Run.pureG (dd := some 34) rfl rfl rfl tG (op_sub rfl (Opd.topt _ _ _ rfl tO) (Opd.const _) tI) ?_
        refine Run.pureG (dd := some 35) rfl rfl rfl tG (op_idx_fz (i - 1) rfl (Opd.topt _ _ _ rfl tO) (Opd.topt _ _ _ rfl tO) (by intro hg; have h0 : 0 < i := (by simp at hg; omega); exact ⟨by omega, (hq h0).2⟩)) ?_
        refine Run.pureG (dd := some 36) rfl rfl rfl tG (op_load1_fz rfl (Opd.topt _ _ _ rfl tO) rfl) ?_
        refine Run.pureG (dd := some 37) rfl rfl rfl tG (op_leq rfl (Opd.topt _ _ _ rfl tO) (Opd.topt _ _ _ rfl tO)) ?_
        refine Run.pureG (dd := some 38) rfl rfl rfl tG (op_pick_and rfl (Opd.topt _ _ _ rfl tO) (Opd.topt _ _ _ rfl tO)) ?_
        refine Run.pure (dd := some 39) rfl rfl (op_pick_or rfl (Opd.tmp _ _ rfl) (Opd.topt _ _ _ rfl tO)) ?_
        refine Run.nil (FinD.mk (by kernel_rfl) ?_)
        refine nK ?_
        refine n_cond _ rfl (fun hb => ?_) (fun hb => ?_)
        · have hbad : (decide (l.att[i] = 0) || badU (prevG l.att i) l.att[i]) = true := by
            by_cases h0 : 0 < i
            · rw [(hq h0).1]; simpa [h0, badU] using hb
            · have : i = 0 := by omega
              subst this; simpa [prevG, badU] using hb
          rw [if_pos hbad] at ho
          rw [if_pos ho.symm]
          refine nK ?_
          refine s_reg rfl ?_
          refine Run.pure (dd := some 2) rfl rfl (op_assign rfl (Opd.const _)) ?_
          refine Run.nil (FinR.mk ?_)
          refine nK ?_
          (first | exact s_o1 hC rfl tV | exact s_o2 hC rfl tV tV | exact s_o3 hC rfl tV tV tV | exact s_o4 hC rfl tV tV tV tV | exact s_out0 hC rfl | exact s_outO hC rfl rfl rfl)
        · have hbad : (decide (l.att[i] = 0) || badU (prevG l.att i) l.att[i]) = false := by
            by_cases h0 : 0 < i
            · rw [(hq h0).1]; simpa [h0, badU] using hb
            · have : i = 0 := by omega
              subst this; simpa [prevG, badU] using hb
          rw [if_neg (by rw [hbad]; decide)] at ho
          have hK2 := hK1 ho
          have htk : (l.att.take (i + 1)).contains l.h.rt = ((l.att.take i).contains l.h.rt || decide (l.att[i] = l.h.rt)) := by
            rw [List.take_succ_eq_append_getElem hlt, Bool.eq_iff_iff]; simp only [List.contains_eq_mem, List.mem_append, List.mem_singleton, decide_eq_true_eq, Bool.or_eq_true]; exact or_congr Iff.rfl eq_comm
          rw [htk] at hK2
          refine nK ?_
          refine s_draw mixed ?_
          refine Run.pure (dd := some 40) rfl rfl (op_fld_ptr (by decide) rfl (Opd.tmp _ _ rfl)) ?_
          refine Run.load (dd := some 41) rfl rfl (op_load1_flat rfl (Opd.tmp _ _ rfl) tH rfl) ?_
          refine Run.pure (dd := some 42) rfl rfl (op_move rfl (Opd.tmp _ _ rfl)) ?_
          refine Run.pure (dd := some 43) rfl rfl (op_idx_fz _ rfl (Opd.tmp _ _ rfl) (Opd.tmp _ _ rfl) tF) ?_
          refine Run.pure (dd := some 44) rfl rfl (op_load1_fz rfl (Opd.tmp _ _ rfl) rfl) ?_
          refine Run.pure (dd := some 45) rfl rfl (op_fld_ptr (by decide) rfl (Opd.tmp _ _ rfl)) ?_
          refine Run.pure (dd := some 46) rfl rfl (op_fld_ptr (by decide) rfl (Opd.tmp _ _ rfl)) ?_
          refine Run.load (dd := some 47) rfl rfl (op_load1_flat rfl (Opd.tmp _ _ rfl) tH rfl) ?_
          refine Run.pure (dd := some 48) rfl rfl (op_eql rfl (Opd.tmp _ _ rfl) (Opd.tmp _ _ rfl)) ?_
          refine Run.nil (FinD.mk (by kernel_rfl) ?_)
          refine nK ?_
          refine n_cond _ rfl (fun hb => ?_) (fun hb => ?_)
          · rw [hb, Bool.or_true] at hK2
            refine nK ?_
            refine s_reg rfl ?_
            refine Run.pure (dd := some 3) rfl rfl (op_assign rfl (Opd.const _)) ?_
            refine Run.nil (FinR.mk ?_)
            refine nK ?_
            refine s_reg rfl ?_
            refine Run.pure (dd := some 14) rfl rfl (op_move rfl (Opd.tmp _ _ rfl)) ?_
            refine Run.pure (dd := some 15) rfl rfl (op_add rfl (Opd.tmp _ _ rfl) (Opd.const _) tI) ?_
            refine Run.pure (dd := some 4) rfl rfl (op_assign rfl (Opd.tmp _ _ rfl)) ?_
            refine Run.nil (FinR.mk ?_)
            refine nK ?_
            refine Next.weakS [1] [] (by rfl) (by first | exact keeps0 hC _ | exact keepsN hC _ rfl) (by repeat (first | exact trivial | refine ⟨⟨_, rfl, .inl ⟨rfl, rfl⟩⟩, ?_⟩ | refine ⟨⟨_, rfl, .inl ⟨slEq rfl tN, rfl⟩⟩, ?_⟩ | refine ⟨⟨_, rfl, .inl ⟨ivEq tX, rfl⟩⟩, ?_⟩)) (by repeat (first | exact trivial | refine ⟨ent_same rfl rfl rfl tL, ?_⟩ | refine ⟨ent_same rfl rfl (rfEq rfl tU) tL, ?_⟩ | refine ⟨ent_same rfl rfl (flEq rfl (by first | (simp; done) | (simp; omega) | (simp [encA, encH, encL, encU, encK, encV]; done) | simp [maxC, minC])) trivial, ?_⟩)) rfl (hK2)
          · rw [hb, Bool.or_false] at hK2
            refine nK ?_
            refine s_reg rfl ?_
            refine Run.pure (dd := some 14) rfl rfl (op_move rfl (Opd.tmp _ _ rfl)) ?_
            refine Run.pure (dd := some 15) rfl rfl (op_add rfl (Opd.tmp _ _ rfl) (Opd.const _) tI) ?_
            refine Run.pure (dd := some 4) rfl rfl (op_assign rfl (Opd.tmp _ _ rfl)) ?_
            refine Run.nil (FinR.mk ?_)
            refine nK ?_
            refine Next.weakS [1] [] (by rfl) (by first | exact keeps0 hC _ | exact keepsN hC _ rfl) (by repeat (first | exact trivial | refine ⟨⟨_, rfl, .inl ⟨rfl, rfl⟩⟩, ?_⟩ | refine ⟨⟨_, rfl, .inl ⟨slEq rfl tN, rfl⟩⟩, ?_⟩ | refine ⟨⟨_, rfl, .inl ⟨ivEq tX, rfl⟩⟩, ?_⟩)) (by repeat (first | exact trivial | refine ⟨ent_same rfl rfl rfl tL, ?_⟩ | refine ⟨ent_same rfl rfl (rfEq rfl tU) tL, ?_⟩ | refine ⟨ent_same rfl rfl (flEq rfl (by first | (simp; done) | (simp; omega) | (simp [encA, encH, encL, encU, encK, encV]; done) | simp [maxC, minC])) trivial, ?_⟩)) rfl (hK2)
      · have hie : i = l.att.length := by simp at hb; omega
        rw [hie, List.drop_length] at ho
        rw [hie, List.take_length]
        have ho' : attGo none l.att = true := by rw [← ho]; rfl
        rw [if_neg (by simp [ho'])]
        refine nK ?_
        refine s_reg rfl ?_
        refine Run.pure (dd := some 49) rfl rfl (op_move rfl (Opd.tmp _ _ rfl)) ?_
        refine Run.pure (dd := some 50) rfl rfl (op_not rfl (Opd.tmp _ _ rfl)) ?_
        refine Run.nil (FinR.mk ?_)
        refine nK ?_
        refine n_cond _ rfl (fun hb => ?_) (fun hb => ?_)
        · rw [if_neg (by simpa using hb)]
          refine nK ?_
          refine s_reg rfl ?_
          refine Run.pure (dd := some 2) rfl rfl (op_assign rfl (Opd.const _)) ?_
          refine Run.nil (FinR.mk ?_)
          refine nK ?_
          (first | exact s_o1 hC rfl tV | exact s_o2 hC rfl tV tV | exact s_o3 hC rfl tV tV tV | exact s_o4 hC rfl tV tV tV tV | exact s_out0 hC rfl | exact s_outO hC rfl rfl rfl)
        · rw [if_pos (by simpa using hb)]
          refine nK ?_
          refine s_reg rfl ?_
          refine Run.pure (dd := some 2) rfl rfl (op_assign rfl (Opd.const _)) ?_
          refine Run.nil (FinR.mk ?_)
          refine nK ?_
          (first | exact s_o1 hC rfl tV | exact s_o2 hC rfl tV tV | exact s_o3 hC rfl tV tV tV | exact s_o4 hC rfl tV tV tV tV | exact s_out0 hC rfl | exact s_outO hC rfl rfl rfl)
theorem chkA_c (l : Lsa) (ho : okA l) : Pure Try.prog 39 [.agg (encA l)] (If .i64 (chkA l)) := by
  have ho1 := ho.1
  unfold chkA
  refine Meets.intro Try.func39 rfl (Nat.le_of_ble_eq_true rfl) fun C hC => ?_
  simp only [List.map, argEnv, Nat.reduceAdd]
  refine nK ?_
  refine s_reg rfl ?_
  refine Run.eff (dd := some 1) rfl rfl (op_box_flat rfl (Opd.tmp _ _ rfl) tC rfl) ?_
  refine Run.pure (dd := some 2) rfl rfl (op_assign rfl (Opd.const _)) ?_
  refine Run.nil (FinR.mk ?_)
  refine nK ?_
  refine s_reg rfl ?_
  refine Run.pure (dd := some 4) rfl rfl (op_fld_ptr (by decide) rfl (Opd.tmp _ _ rfl)) ?_
  refine Run.load (dd := some 5) rfl rfl (op_loadn_flat rfl (Opd.tmp _ _ rfl) tH tR tR) ?_
  refine Run.pure (dd := some 6) rfl rfl (op_call_pure (fun _ => head_c _ (by assumption)) rfl (Opd.func _) (Opds.cons _ _ _ _ (Opd.tmp _ _ rfl) Opds.nil)) ?_
  refine Run.pure (dd := some 3) rfl rfl (op_assign rfl (Opd.tmp _ _ rfl)) ?_
  refine Run.nil (FinR.mk ?_)
  refine nK ?_
  refine s_reg rfl ?_
  refine Run.pure (dd := some 7) rfl rfl (op_move rfl (Opd.tmp _ _ rfl)) ?_
  refine Run.pure (dd := some 8) rfl rfl (op_neq rfl (Opd.tmp _ _ rfl) (Opd.const _)) ?_
  refine Run.nil (FinR.mk ?_)
  refine nK ?_
  refine n_cond _ rfl (fun hb => ?_) (fun hb => ?_)
  · rw [if_pos (by simpa using hb)]
    refine nK ?_
    refine s_reg rfl ?_
    refine Run.pure (dd := some 9) rfl rfl (op_move rfl (Opd.tmp _ _ rfl)) ?_
    refine Run.pure (dd := some 2) rfl rfl (op_assign rfl (Opd.tmp _ _ rfl)) ?_
    refine Run.nil (FinR.mk ?_)
    refine nK ?_
    (first | exact s_o1 hC rfl tV | exact s_o2 hC rfl tV tV | exact s_o3 hC rfl tV tV tV | exact s_o4 hC rfl tV tV tV tV | exact s_out0 hC rfl | exact s_outO hC rfl rfl rfl)
  · rw [if_neg (by simpa using hb)]
    refine nK ?_
    refine s_reg rfl ?_
    refine Run.load (dd := some 10) rfl rfl (op_loadw_flat rfl (Opd.tmp _ _ rfl) tH rfl) ?_
    refine Run.pure (dd := some 11) rfl rfl (op_call_pure (fun _ => unused_c _ (by assumption)) rfl (Opd.func _) (Opds.cons _ _ _ _ (Opd.tmp _ _ rfl) Opds.nil)) ?_
    refine Run.pure (dd := some 12) rfl rfl (op_not rfl (Opd.tmp _ _ rfl)) ?_
    refine Run.nil (FinR.mk ?_)
    refine nK ?_
    refine n_cond _ rfl (fun hb => ?_) (fun hb => ?_)
    · rw [ifT hb]
      refine nK ?_
      refine s_reg rfl ?_
      refine Run.pure (dd := some 2) rfl rfl (op_assign rfl (Opd.const _)) ?_
      refine Run.nil (FinR.mk ?_)
      refine nK ?_
      (first | exact s_o1 hC rfl tV | exact s_o2 hC rfl tV tV | exact s_o3 hC rfl tV tV tV | exact s_o4 hC rfl tV tV tV tV | exact s_out0 hC rfl | exact s_outO hC rfl rfl rfl)
    · rw [ifF hb]
      refine nK ?_
      refine s_reg rfl ?_
      refine Run.pure (dd := some 13) rfl rfl (op_fld_ptr (by decide) rfl (Opd.tmp _ _ rfl)) ?_
      refine Run.pure (dd := some 14) rfl rfl (op_fld_ptr (by decide) rfl (Opd.tmp _ _ rfl)) ?_
      refine Run.load (dd := some 15) rfl rfl (op_load1_flat rfl (Opd.tmp _ _ rfl) tH rfl) ?_
      refine Run.nil (FinR.mk ?_)
      refine nK ?_
      refine s_reg rfl ?_
      refine Run.pure (dd := some 17) rfl rfl (op_eql rfl (Opd.tmp _ _ rfl) (Opd.const _)) ?_
      refine Run.pure (dd := some 16) rfl rfl (op_assign rfl (Opd.tmp _ _ rfl)) ?_
      refine Run.nil (FinR.mk ?_)
      refine nK ?_
      refine n_cond _ rfl (fun hb => ?_) (fun hb => ?_)
      · rw [if_pos (by simpa using hb)]
        refine nK ?_
        refine s_reg rfl ?_
        refine Run.load (dd := some 18) rfl rfl (op_loadw_flat rfl (Opd.tmp _ _ rfl) tH rfl) ?_
        refine Run.pure (dd := some 19) rfl rfl (op_call_pure (fun _ => links_c _ (by assumption)) rfl (Opd.func _) (Opds.cons _ _ _ _ (Opd.tmp _ _ rfl) Opds.nil)) ?_
        refine Run.pure (dd := some 2) rfl rfl (op_assign rfl (Opd.tmp _ _ rfl)) ?_
        refine Run.nil (FinR.mk ?_)
        refine nK ?_
        (first | exact s_o1 hC rfl tV | exact s_o2 hC rfl tV tV | exact s_o3 hC rfl tV tV tV | exact s_o4 hC rfl tV tV tV tV | exact s_out0 hC rfl | exact s_outO hC rfl rfl rfl)
      · rw [if_neg (by simpa using hb)]
        refine nK ?_
        refine s_reg rfl ?_
        refine Run.pure (dd := some 21) rfl rfl (op_eql rfl (Opd.tmp _ _ rfl) (Opd.const _)) ?_
        refine Run.pure (dd := some 20) rfl rfl (op_assign rfl (Opd.tmp _ _ rfl)) ?_
        refine Run.nil (FinR.mk ?_)
        refine nK ?_
        refine n_cond _ rfl (fun hb => ?_) (fun hb => ?_)
        · rw [if_pos (by simpa using hb)]
          refine nK ?_
          refine s_reg rfl ?_
          refine Run.load (dd := some 22) rfl rfl (op_loadw_flat rfl (Opd.tmp _ _ rfl) tH rfl) ?_
          refine Run.pure (dd := some 23) rfl rfl (op_call_pure (fun _ => att_c _ (by assumption)) rfl (Opd.func _) (Opds.cons _ _ _ _ (Opd.tmp _ _ rfl) Opds.nil)) ?_
          refine Run.pure (dd := some 2) rfl rfl (op_assign rfl (Opd.tmp _ _ rfl)) ?_
          refine Run.nil (FinR.mk ?_)
          refine nK ?_
          (first | exact s_o1 hC rfl tV | exact s_o2 hC rfl tV tV | exact s_o3 hC rfl tV tV tV | exact s_o4 hC rfl tV tV tV tV | exact s_out0 hC rfl | exact s_outO hC rfl rfl rfl)
        · rw [if_neg (by simpa using hb)]
          refine nK ?_
          refine s_reg rfl ?_
          refine Run.pure (dd := some 24) rfl rfl (op_fld_ptr (by decide) rfl (Opd.tmp _ _ rfl)) ?_
          refine Run.load (dd := some 25) rfl rfl (op_load1_flat rfl (Opd.tmp _ _ rfl) tH rfl) ?_
          refine Run.pure (dd := some 26) rfl rfl (op_call_pure (fun _ => within_c _ _ _) rfl (Opd.func _) (Opds.cons _ _ _ _ (Opd.tmp _ _ rfl) (Opds.cons _ _ _ _ (Opd.const _) (Opds.cons _ _ _ _ (Opd.const _) Opds.nil)))) ?_
          refine Run.pure (dd := some 27) rfl rfl (op_not rfl (Opd.tmp _ _ rfl)) ?_
          refine Run.pure (dd := some 28) rfl rfl (op_move rfl (Opd.tmp _ _ rfl)) ?_
          refine Run.pureG (dd := some 29) rfl rfl rfl tG (op_fld_ptr (by decide) rfl (Opd.tmp _ _ rfl)) ?_
          refine Run.loadG (dd := some 30) rfl rfl rfl tG (op_load1_flat rfl (Opd.topt _ _ _ rfl tO) tH rfl) ?_
          refine Run.pureG (dd := some 31) rfl rfl rfl tG (op_call_pure (fun _ => within_c _ _ _) rfl (Opd.func _) (Opds.cons _ _ _ _ (Opd.topt _ _ _ rfl tO) (Opds.cons _ _ _ _ (Opd.const _) (Opds.cons _ _ _ _ (Opd.const _) Opds.nil)))) ?_
          refine Run.pureG (dd := some 32) rfl rfl rfl tG (op_not rfl (Opd.topt _ _ _ rfl tO)) ?_
          refine Run.pure (dd := some 33) rfl rfl (op_pick_or rfl (Opd.tmp _ _ rfl) (Opd.topt _ _ _ rfl tO)) ?_
          refine Run.nil (FinR.mk ?_)
          refine nK ?_
          refine n_cond _ rfl (fun hb => ?_) (fun hb => ?_)
          · rw [ifT hb]
            refine nK ?_
            refine s_reg rfl ?_
            refine Run.pure (dd := some 2) rfl rfl (op_assign rfl (Opd.const _)) ?_
            refine Run.nil (FinR.mk ?_)
            refine nK ?_
            (first | exact s_o1 hC rfl tV | exact s_o2 hC rfl tV tV | exact s_o3 hC rfl tV tV tV | exact s_o4 hC rfl tV tV tV tV | exact s_out0 hC rfl | exact s_outO hC rfl rfl rfl)
          · rw [ifF hb]
            refine nK ?_
            refine s_reg rfl ?_
            refine Run.pure (dd := some 2) rfl rfl (op_assign rfl (Opd.const _)) ?_
            refine Run.nil (FinR.mk ?_)
            refine nK ?_
            (first | exact s_o1 hC rfl tV | exact s_o2 hC rfl tV tV | exact s_o3 hC rfl tV tV tV | exact s_o4 hC rfl tV tV tV tV | exact s_out0 hC rfl | exact s_outO hC rfl rfl rfl)
end Go.Proofs.Ytdhkioocjgpocaa
/- Encodings of advertisements and their sums. No program in sight. -/
namespace Go.Pl
open Go Go.RT
set_option linter.all false
def encY (x : Int) : List FV := [If .u8 x]
abbrev VY (l : List Int) : FV := .vals 1 (l.map encY)
abbrev OY (l : List Int) : Option Ob := some (.flat 1 (l.map encY))
abbrev w64 (a : Int) : Int := IntKind.u64.wrap a
theorem w64_ok (a : Int) : inr .u64 (w64 a) := by
  simp only [w64, IntKind.wrap, IntKind.bits, IntKind.signed, inr]
  simp
  omega
theorem w8_ok (a : Int) : inr .u8 (IntKind.u8.wrap a) := by
  simp only [IntKind.wrap, IntKind.bits, IntKind.signed, inr]
  simp
  omega
def byteAt (x : Int) (i : Nat) : Int := IntKind.u8.wrap ((x.toNat / 2 ^ (8 * i) : Nat) : Int)
def putB : Nat → Int → List Int
  | 0, _ => []
  | n + 1, x => byteAt x n :: putB n x
theorem putB_len (x : Int) : ∀ n, (putB n x).length = n
  | 0 => rfl
  | n + 1 => by simp [putB, putB_len x n]
theorem putB_ok (x : Int) : ∀ n, ∀ y ∈ putB n x, inr .u8 y
  | 0, y, h => by simp [putB] at h
  | n + 1, y, h => by
    rcases List.mem_cons.1 h with rfl | h
    · exact w8_ok _
    · exact putB_ok x n y h
def flagI (a b : Bool) : Int := (if a then 1 else 0) + (if b then 2 else 0)
theorem flagI_ok (a b : Bool) : inr .u64 (flagI a b) := by cases a <;> cases b <;> simp [flagI, inr]
def hdrB (h : Hdr) : List Int := putB 2 (w64 h.ag) ++ putB 1 (w64 h.ty) ++ putB 1 (w64 h.ln) ++ putB 4 (w64 h.id) ++ putB 4 (w64 h.rt) ++ putB 4 (w64 h.sq) ++ putB 2 (w64 h.sm)
def linkB (x : Lnk) : List Int := putB 1 (w64 x.k) ++ putB 4 (w64 x.id) ++ putB 4 (w64 x.d) ++ putB 2 (w64 x.c)
def bodyB (l : Lsa) : List Int :=
  if l.h.ty = 1 then putB 1 (flagI l.bo l.bd) ++ putB 1 (w64 (l.ls.length : Int)) ++ l.ls.flatMap linkB else
  if l.h.ty = 2 then putB 1 (w64 (l.att.length : Int)) ++ l.att.flatMap (fun x => putB 4 (w64 x)) else
  if l.h.ty = 3 ∨ l.h.ty = 4 then putB 4 (w64 l.co) else
  if l.h.ty = 5 then putB 1 (flagI l.se false) ++ putB 4 (w64 l.co) ++ putB 4 (w64 l.fw) ++ putB 4 (w64 l.tg) else []
theorem linkB_len (x : Lnk) : (linkB x).length = 11 := by simp [linkB, putB_len]
theorem hdrB_len (h : Hdr) : (hdrB h).length = 18 := by simp [hdrB, putB_len]
theorem flat_len {α : Type} (f : α → List Int) (k : Nat) (h : ∀ x, (f x).length = k) : ∀ l : List α, (l.flatMap f).length = l.length * k
  | [] => by simp
  | x :: l => by simp [flat_len f k h l, h x, Nat.add_mul]; omega
theorem flat_take {α : Type} (f : α → List Int) {l : List α} {i : Nat} (h : i < l.length) : (l.take (i + 1)).flatMap f = (l.take i).flatMap f ++ f l[i] := by
  rw [List.take_succ_eq_append_getElem h, List.flatMap_append]; simp
theorem bodyB_len {l : Lsa} (h1 : l.ls.length ≤ 64) (h2 : l.att.length ≤ 64) : (bodyB l).length ≤ 1000 := by
  unfold bodyB
  split
  · simp only [List.length_append, putB_len, flat_len linkB 11 linkB_len]; omega
  · split
    · simp only [List.length_append, putB_len, flat_len (fun x => putB 4 (w64 x)) 4 (fun x => putB_len _ 4)]; omega
    · split
      · simp [putB_len]
      · split
        · simp [putB_len]
        · simp
def zeroH : Hdr := ⟨0, 0, 0, 0, 0, 0, 0⟩
def zeroA : Lsa := ⟨zeroH, false, false, [], [], 0, false, 0, 0⟩
def okY (l : List Int) : Prop := ∀ y ∈ l, inr .u8 y
theorem okY.app {a b : List Int} (ha : okY a) (hb : okY b) : okY (a ++ b) := fun y h => (List.mem_append.1 h).elim (ha y) (hb y)
theorem okY_flat {α : Type} (f : α → List Int) (h : ∀ x, okY (f x)) (l : List α) : okY (l.flatMap f) := fun y hy => by
  obtain ⟨x, hx, h2⟩ := List.mem_flatMap.1 hy; exact h x y h2
theorem putB_y (n : Nat) (x : Int) : okY (putB n x) := putB_ok x n
theorem hdrB_ok (h : Hdr) : okY (hdrB h) := by
  unfold hdrB
  repeat' apply okY.app
  all_goals exact putB_y _ _
theorem linkB_ok (x : Lnk) : okY (linkB x) := by
  unfold linkB
  repeat' apply okY.app
  all_goals exact putB_y _ _
theorem bodyB_ok (l : Lsa) : okY (bodyB l) := by
  unfold bodyB
  split
  · exact ((putB_y _ _).app (putB_y _ _)).app (okY_flat _ linkB_ok _)
  · split
    · exact (putB_y _ _).app (okY_flat _ (fun x => putB_y _ _) _)
    · split
      · exact putB_y _ _
      · split
        · exact (((putB_y _ _).app (putB_y _ _)).app (putB_y _ _)).app (putB_y _ _)
        · intro y h; simp at h
def bytesB (l : Lsa) : List Int := hdrB l.h ++ putB 2 (w64 ((bodyB l).length : Int)) ++ bodyB l
theorem bytesB_ok (l : Lsa) : okY (bytesB l) := ((hdrB_ok _).app (putB_y _ _)).app (bodyB_ok _)
theorem bytesB_len (l : Lsa) : (bytesB l).length = 20 + (bodyB l).length := by simp [bytesB, hdrB_len, putB_len]; omega
/-- the two sums -/
def sumsG (n : Nat) : Nat → List Int → Int × Int → Int × Int
  | _, [], p => p
  | i, b :: l, p => sumsG n (i + 1) l ((p.1 + b) % 255, (p.2 + ((n : Int) - i) % 255 * b) % 255)
def sumsP (b : List Int) : Int × Int := sumsG b.length 0 b (0, 0)
theorem sums_step {n i : Nat} {l : List Int} {p : Int × Int} (h : i < l.length) : sumsG n i (l.drop i) p = sumsG n (i + 1) (l.drop (i + 1)) ((p.1 + l[i]) % 255, (p.2 + ((n : Int) - i) % 255 * l[i]) % 255) := by
  rw [List.drop_eq_getElem_cons h]; rfl
/-- the test of one value of the first byte -/
def fletQ (s t w : Int) (x : Int) : Bool := decide ((t + w * x + (w + 254) % 255 * (255 - (s + x) % 255)) % 255 = 0)
def fletV (s x : Int) : Int := x * 256 + (255 - (s + x) % 255)
/-- the first value from x on that passes -/
def fletG (s t w : Int) : Nat → Int → Int × Bool
  | 0, _ => (0, false)
  | k + 1, x => if fletQ s t w x = true then (fletV s x, true) else fletG s t w k (x + 1)
theorem fletG_succ (s t w : Int) (k : Nat) (x : Int) : fletG s t w (k + 1) x = if fletQ s t w x = true then (fletV s x, true) else fletG s t w k (x + 1) := rfl
def fletP (b : List Int) (at_ : Nat) : Int × Bool := fletG (sumsP ((b.set at_ 0).set (at_ + 1) 0)).1 (sumsP ((b.set at_ 0).set (at_ + 1) 0)).2 (((b.length : Int) - at_) % 255) 255 1
def sumA (l : Lsa) : Int := (fletP ((bytesB l).drop 2) 14).1
def sealB (l : Lsa) : Bool := decide (l.h.sm = sumA l)
theorem fletG_ok {s t w : Int} (hs : 0 ≤ s ∧ s < 255) : ∀ (k : Nat) (x : Int), 0 ≤ x → x + k ≤ 256 → inr .i64 (fletG s t w k x).1
  | 0, x, h1, h2 => by simp [fletG, inr]
  | k + 1, x, h1, h2 => by
    simp only [fletG]
    split
    · simp only [fletV, inr]; omega
    · exact fletG_ok hs k (x + 1) (by omega) (by omega)
theorem sumsG_ok {n : Nat} : ∀ (l : List Int) (i : Nat) (p : Int × Int), (0 ≤ p.1 ∧ p.1 < 255) ∧ (0 ≤ p.2 ∧ p.2 < 255) → (0 ≤ (sumsG n i l p).1 ∧ (sumsG n i l p).1 < 255) ∧ (0 ≤ (sumsG n i l p).2 ∧ (sumsG n i l p).2 < 255)
  | [], i, p, h => h
  | b :: l, i, p, h => by
    simp only [sumsG]
    refine sumsG_ok l (i + 1) _ ⟨⟨Int.emod_nonneg _ (by decide), Int.emod_lt_of_pos _ (by decide)⟩, ⟨Int.emod_nonneg _ (by decide), Int.emod_lt_of_pos _ (by decide)⟩⟩
theorem sumsP_ok (b : List Int) : (0 ≤ (sumsP b).1 ∧ (sumsP b).1 < 255) ∧ (0 ≤ (sumsP b).2 ∧ (sumsP b).2 < 255) := sumsG_ok _ _ _ ⟨⟨by decide, by decide⟩, by decide, by decide⟩
theorem sumA_ok (l : Lsa) : inr .i64 (sumA l) := fletG_ok (sumsP_ok _).1 255 1 (by decide) (by decide)
open Go.RT
theorem linksI_len {l : Lsa} (h : linksI l = 0) : l.ls.length ≤ 64 := by
  unfold linksI at h
  by_cases h1 : 64 < l.ls.length
  · rw [if_pos h1] at h; cases h
  · omega
theorem attI_len {l : Lsa} (h : attI l = 0) : l.att.length ≤ 64 := by
  unfold attI at h
  by_cases h1 : 64 < l.att.length
  · rw [if_pos h1] at h; cases h
  · omega
theorem unused_ls {l : Lsa} (h : unusedB l = true) (h1 : l.h.ty ≠ 1) : l.ls.length = 0 := by
  unfold unusedB at h
  by_cases c : (decide (l.h.ty ≠ 1) && (l.bo || l.bd || decide (0 < (l.ls.length : Int)))) = true
  · rw [if_pos c] at h; cases h
  · simp [h1] at c; simp [c.2]
theorem unused_att {l : Lsa} (h : unusedB l = true) (h1 : l.h.ty ≠ 2) : l.att.length = 0 := by
  unfold unusedB at h
  split at h
  · cases h
  · by_cases c : (decide (l.h.ty ≠ 2) && decide (0 < (l.att.length : Int))) = true
    · rw [if_pos c] at h; cases h
    · simp [h1] at c; simp [c]
theorem chkA_parts {l : Lsa} (h : chkA l = 0) : headI l.h = 0 ∧ unusedB l = true ∧ (l.h.ty = 1 → linksI l = 0) ∧ (l.h.ty = 2 → attI l = 0) := by
  unfold chkA at h
  by_cases h1 : headI l.h ≠ 0
  · rw [if_pos h1] at h; exact absurd h h1
  · rw [if_neg h1] at h
    by_cases h2 : (!unusedB l) = true
    · rw [if_pos h2] at h; cases h
    · rw [if_neg h2] at h
      refine ⟨by simpa using h1, by simpa using h2, fun h3 => ?_, fun h3 => ?_⟩
      · rw [if_pos h3] at h; exact h
      · rw [if_neg (by omega), if_pos h3] at h; exact h
theorem chkA_len {l : Lsa} (h : chkA l = 0) : l.ls.length ≤ 64 ∧ l.att.length ≤ 64 := by
  obtain ⟨h1, h2, h3, h4⟩ := chkA_parts h
  refine ⟨?_, ?_⟩
  · by_cases c : l.h.ty = 1
    · exact linksI_len (h3 c)
    · rw [unused_ls h2 c]; omega
  · by_cases c : l.h.ty = 2
    · exact attI_len (h4 c)
    · rw [unused_att h2 c]; omega
def sealF (l : Lsa) : Lsa × Int := if chkA l ≠ 0 then (zeroA, chkA l) else ({ l with h := { l.h with sm := sumA l } }, 0)
def badR : Option Lsa → Lsa → Bool
  | none, _ => false
  | some q, x => decide (0 ≤ keyI (keyA q.h) (keyA x.h))
def rowsGo : Option Lsa → List Lsa → Int
  | _, [] => 0
  | p, x :: l => if chkA x ≠ 0 then chkA x else if sealB x = false then 13 else if badR p x = true then 16 else rowsGo (some x) l
def dbI (db : List Lsa) : Int := if 2000 < db.length then 4 else rowsGo none db
theorem rows_step {l : List Lsa} {i : Nat} (h : i < l.length) : rowsGo (prevG l i) (l.drop i) = if chkA l[i] ≠ 0 then chkA l[i] else if sealB l[i] = false then 13 else if badR (prevG l i) l[i] = true then 16 else rowsGo (prevG l (i + 1)) (l.drop (i + 1)) := by
  rw [List.drop_eq_getElem_cons h, prevG_succ h]; rfl
end Go.Pl
namespace Go.Proofs.Ytdhkioocjgpocaa
open Go Go.RT Go.Proofs Go.Pl
set_option linter.all false
set_option maxRecDepth 20000
theorem flags_c (a b : Bool) : Pure Try.prog 102 [Bf a, Bf b] (If .u64 (flagI a b)) := by
  refine Meets.intro Try.func102 rfl (Nat.le_of_ble_eq_true rfl) fun C hC => ?_
  simp only [List.map, argEnv, Nat.reduceAdd]
  refine nK ?_
  refine s_reg rfl ?_
  refine Run.pure (dd := some 4) rfl rfl (op_assign rfl (Opd.const _)) ?_
  refine Run.nil (FinR.mk ?_)
  refine nK ?_
  refine s_reg rfl ?_
  refine Run.pure (dd := some 5) rfl rfl (op_assign rfl (Opd.const _)) ?_
  refine Run.nil (FinR.mk ?_)
  refine nK ?_
  refine s_reg rfl ?_
  refine Run.pure (dd := some 6) rfl rfl (op_move rfl (Opd.tmp _ _ rfl)) ?_
  refine Run.nil (FinR.mk ?_)
  refine nK ?_
  refine n_cond _ rfl (fun hb => ?_) (fun hb => ?_)
  · have ha : a = true := hb
    subst ha
    refine nK ?_
    refine s_reg rfl ?_
    refine Run.pure (dd := some 5) rfl rfl (op_assign rfl (Opd.const _)) ?_
    refine Run.nil (FinR.mk ?_)
    refine nK ?_
    refine s_reg rfl ?_
    refine Run.pure (dd := some 7) rfl rfl (op_move rfl (Opd.tmp _ _ rfl)) ?_
    refine Run.nil (FinR.mk ?_)
    refine nK ?_
    refine n_cond _ rfl (fun hb => ?_) (fun hb => ?_)
    · have hb' : b = true := hb
      subst hb'
      refine nK ?_
      refine s_reg rfl ?_
      refine Run.pure (dd := some 8) rfl rfl (op_move rfl (Opd.tmp _ _ rfl)) ?_
      refine Run.pure (dd := some 9) rfl rfl (op_add rfl (Opd.tmp _ _ rfl) (Opd.const _) tI) ?_
      refine Run.pure (dd := some 5) rfl rfl (op_assign rfl (Opd.tmp _ _ rfl)) ?_
      refine Run.nil (FinR.mk ?_)
      refine nK ?_
      refine s_reg rfl ?_
      refine Run.pure (dd := some 10) rfl rfl (op_move rfl (Opd.tmp _ _ rfl)) ?_
      refine Run.pure (dd := some 4) rfl rfl (op_assign rfl (Opd.tmp _ _ rfl)) ?_
      refine Run.nil (FinR.mk ?_)
      refine nK ?_
      (first | exact s_o1 hC rfl tV | exact s_o2 hC rfl tV tV | exact s_o3 hC rfl tV tV tV | exact s_o4 hC rfl tV tV tV tV | exact s_out0 hC rfl | exact s_outO hC rfl rfl rfl)
    · have hb' : b = false := hb
      subst hb'
      refine nK ?_
      refine s_reg rfl ?_
      refine Run.pure (dd := some 10) rfl rfl (op_move rfl (Opd.tmp _ _ rfl)) ?_
      refine Run.pure (dd := some 4) rfl rfl (op_assign rfl (Opd.tmp _ _ rfl)) ?_
      refine Run.nil (FinR.mk ?_)
      refine nK ?_
      (first | exact s_o1 hC rfl tV | exact s_o2 hC rfl tV tV | exact s_o3 hC rfl tV tV tV | exact s_o4 hC rfl tV tV tV tV | exact s_out0 hC rfl | exact s_outO hC rfl rfl rfl)
  · have ha : a = false := hb
    subst ha
    refine nK ?_
    refine s_reg rfl ?_
    refine Run.pure (dd := some 7) rfl rfl (op_move rfl (Opd.tmp _ _ rfl)) ?_
    refine Run.nil (FinR.mk ?_)
    refine nK ?_
    refine n_cond _ rfl (fun hb => ?_) (fun hb => ?_)
    · have hb' : b = true := hb
      subst hb'
      refine nK ?_
      refine s_reg rfl ?_
      refine Run.pure (dd := some 8) rfl rfl (op_move rfl (Opd.tmp _ _ rfl)) ?_
      refine Run.pure (dd := some 9) rfl rfl (op_add rfl (Opd.tmp _ _ rfl) (Opd.const _) tI) ?_
      refine Run.pure (dd := some 5) rfl rfl (op_assign rfl (Opd.tmp _ _ rfl)) ?_
      refine Run.nil (FinR.mk ?_)
      refine nK ?_
      refine s_reg rfl ?_
      refine Run.pure (dd := some 10) rfl rfl (op_move rfl (Opd.tmp _ _ rfl)) ?_
      refine Run.pure (dd := some 4) rfl rfl (op_assign rfl (Opd.tmp _ _ rfl)) ?_
      refine Run.nil (FinR.mk ?_)
      refine nK ?_
      (first | exact s_o1 hC rfl tV | exact s_o2 hC rfl tV tV | exact s_o3 hC rfl tV tV tV | exact s_o4 hC rfl tV tV tV tV | exact s_out0 hC rfl | exact s_outO hC rfl rfl rfl)
    · have hb' : b = false := hb
      subst hb'
      refine nK ?_
      refine s_reg rfl ?_
      refine Run.pure (dd := some 10) rfl rfl (op_move rfl (Opd.tmp _ _ rfl)) ?_
      refine Run.pure (dd := some 4) rfl rfl (op_assign rfl (Opd.tmp _ _ rfl)) ?_
      refine Run.nil (FinR.mk ?_)
      refine nK ?_
      (first | exact s_o1 hC rfl tV | exact s_o2 hC rfl tV tV | exact s_o3 hC rfl tV tV tV | exact s_o4 hC rfl tV tV tV tV | exact s_out0 hC rfl | exact s_outO hC rfl rfl rfl)
theorem put_c (b : List Int) (m n : Nat) (x : Int) (hb : b.length = m) (hn : n ≤ 4) (hm : m ≤ 4000000) (hx : inr .u64 x) : Meets Try.prog 87 [.sl 0 1 0 m, IV .i64 n, IV .u64 x] 1 [(0, OY b)] (.sl 1 1 0 (m + n)) [(1, OY (b ++ putB n x))] 2 := by
  obtain ⟨xx, rfl⟩ : ∃ xx : Nat, x = (xx : Int) := ⟨x.toNat, by simp only [inr] at hx; omega⟩
  refine Meets.intro Try.func87 rfl (Nat.le_of_ble_eq_true rfl) fun C hC => ?_
  simp only [List.map, argEnv, Nat.reduceAdd]
  refine nK ?_
  refine s_reg rfl ?_
  refine Run.pure (dd := some 6) rfl rfl (op_assign rfl (Opd.const _)) ?_
  refine Run.nil (FinR.mk ?_)
  refine nK ?_
  refine Next.retag 0 rfl rfl ?_
  subst hb
  have hlen := putB_len (xx : Int) n
  refine nK ?_
  refine s_reg rfl ?_
  refine Run.pure (dd := some 8) rfl rfl (op_move rfl (Opd.tmp _ _ rfl)) ?_
  refine Run.pure (dd := some 9) rfl rfl (op_sub rfl (Opd.tmp _ _ rfl) (Opd.const _) tI) ?_
  refine Run.pure (dd := some 7) rfl rfl (op_assign rfl (Opd.tmp _ _ rfl)) ?_
  refine Run.nil (FinR.mk ?_)
  refine nK ?_
  refine n_loop (ι := Nat × List Int) (fun p => ([(0, .sl 1 1 0 p.2.length), (2, IV .u64 (xx : Int)), (7, IV .i64 ((p.1 : Int) - 1))], [(1, OY p.2)], 2)) (fun p => p.1 ≤ n ∧ p.2 ++ putB p.1 xx = b ++ putB n xx) (fun p => p.1) (n, b) ⟨Nat.le_refl _, rfl⟩ ?_ ?_
  · refine Next.weakS [1, 0] [] (by rfl) (by first | exact keeps0 hC _ | exact keepsN hC _ rfl) (by repeat (first | exact trivial | refine ⟨⟨_, rfl, .inl ⟨rfl, rfl⟩⟩, ?_⟩ | refine ⟨⟨_, rfl, .inl ⟨slEq rfl tN, rfl⟩⟩, ?_⟩ | refine ⟨⟨_, rfl, .inl ⟨ivEq tX, rfl⟩⟩, ?_⟩)) (by repeat (first | exact trivial | refine ⟨ent_same rfl rfl rfl tL, ?_⟩ | refine ⟨ent_same rfl rfl (rfEq rfl tU) tL, ?_⟩ | refine ⟨ent_same rfl rfl (flEq rfl (by first | (simp; done) | (simp; omega) | (simp [encA, encH, encL, encU, encK, encV, encY]; done) | simp [maxC, minC])) trivial, ?_⟩)) rfl (rel_intro)
  · intro ⟨j, c⟩ ⟨hj, hc⟩ K hK
    dsimp only at hj hc ⊢
    have hcl : c.length + j = b.length + n := by have := congrArg List.length hc; simpa [putB_len] using this
    refine nK ?_
    refine s_reg rfl ?_
    refine Run.pure (dd := some 10) rfl rfl (op_move rfl (Opd.tmp _ _ rfl)) ?_
    refine Run.pure (dd := some 11) rfl rfl (op_geq rfl (Opd.tmp _ _ rfl) (Opd.const _)) ?_
    refine Run.nil (FinR.mk ?_)
    refine nK ?_
    refine n_cond _ rfl (fun hb => ?_) (fun hb => ?_)
    · obtain ⟨i, rfl⟩ : ∃ i, j = i + 1 := ⟨j - 1, by simp at hb; omega⟩
      have hK1 := hK (i, c ++ [byteAt xx i]) ⟨by omega, by rw [← hc]; simp [putB]⟩ (by dsimp only; omega)
      dsimp only at hK1
      have hel : (c ++ [byteAt xx i]).length = c.length + 1 := by simp
      rw [hel] at hK1
      have hby : IntKind.u8.wrap ((xx / 2 ^ (8 * i) : Nat) : Int) = byteAt xx i := rfl
      refine nK ?_
      refine s_reg rfl ?_
      refine Run.pure (dd := some 14) rfl rfl (op_move rfl (Opd.tmp _ _ rfl)) ?_
      refine Run.pure (dd := some 15) rfl rfl (op_move rfl (Opd.tmp _ _ rfl)) ?_
      refine Run.pure (dd := some 16) rfl rfl (op_move rfl (Opd.tmp _ _ rfl)) ?_
      refine Run.pure (dd := some 17) rfl rfl (op_mul rfl (Opd.const _) (Opd.tmp _ _ rfl) tI) ?_
      refine Run.pure (dd := some 18) rfl rfl (op_conv rfl (Opd.tmp _ _ rfl) tI) ?_
      refine Run.pure (dd := some 19) rfl rfl (op_shrN (8 * i) rfl (Opd.tmp _ _ rfl) (Opd.tmp _ _ rfl) (by intro _; simp only [IntKind.bits]; omega)) ?_
      refine Run.pure (dd := some 20) rfl rfl (castP (fun _ => congrArg (IV .u8) hby) (op_convw rfl (Opd.tmp _ _ rfl))) ?_
      refine Run.eff (dd := some 21) rfl rfl (op_buildSlice_own rfl (RowsF.cons _ _ _ _ _ _ (Opd.tmp _ _ rfl) tC (by rfl) (RowsF.nil _)) rfl rfl rfl) ?_
      refine Run.eff (dd := some 22) rfl rfl (op_append_own0 rfl (Opd.tmp _ _ rfl) (Opd.tmp _ _ rfl) rfl (by first | rfl | simp) rfl (by first | rfl | simp) rfl rfl tB tB) ?_
      refine Run.pure (dd := some 0) rfl rfl (op_assign rfl (Opd.tmp _ _ rfl)) ?_
      refine Run.nil (FinR.mk ?_)
      refine nK ?_
      refine s_reg rfl ?_
      refine Run.pure (dd := some 12) rfl rfl (op_move rfl (Opd.tmp _ _ rfl)) ?_
      refine Run.pure (dd := some 13) rfl rfl (op_sub rfl (Opd.tmp _ _ rfl) (Opd.const _) tI) ?_
      refine Run.pure (dd := some 7) rfl rfl (op_assign rfl (Opd.tmp _ _ rfl)) ?_
      refine Run.nil (FinR.mk ?_)
      refine nK ?_
      refine Next.weakS [1, 0] [] (by rfl) (by first | exact keeps0 hC _ | exact keepsN hC _ rfl) (by repeat (first | exact trivial | refine ⟨⟨_, rfl, .inl ⟨rfl, rfl⟩⟩, ?_⟩ | refine ⟨⟨_, rfl, .inl ⟨slEq rfl tN, rfl⟩⟩, ?_⟩ | refine ⟨⟨_, rfl, .inl ⟨ivEq tX, rfl⟩⟩, ?_⟩)) (by repeat (first | exact trivial | refine ⟨ent_same rfl rfl rfl tL, ?_⟩ | refine ⟨ent_same rfl rfl (rfEq rfl tU) tL, ?_⟩ | refine ⟨ent_same rfl rfl (flEq rfl (by first | (simp; done) | (simp; omega) | (simp [encA, encH, encL, encU, encK, encV, encY]; done) | simp [maxC, minC])) trivial, ?_⟩)) rfl (hK1)
    · have hj0 : j = 0 := by simp at hb; omega
      subst hj0
      simp only [putB, List.append_nil] at hc
      rw [← hc]
      have e : c.length = b.length + n := by omega
      refine nK ?_
      refine s_reg rfl ?_
      refine Run.pure (dd := some 23) rfl rfl (op_move rfl (Opd.tmp _ _ rfl)) ?_
      refine Run.pure (dd := some 6) rfl rfl (op_assign rfl (Opd.tmp _ _ rfl)) ?_
      refine Run.nil (FinR.mk ?_)
      refine nK ?_
      refine Next.weakS [1, 6] [] (by rfl) (keepsN hC _ rfl) (G' := [(6, .sl 1 1 0 (b.length + n))]) (H' := [(1, OY c)]) (by exact ⟨⟨_, rfl, .inl ⟨slEq rfl e, rfl⟩⟩, trivial⟩) (by repeat (first | exact trivial | refine ⟨ent_same rfl rfl rfl tL, ?_⟩ | refine ⟨ent_same rfl rfl (rfEq rfl tU) tL, ?_⟩ | refine ⟨ent_same rfl rfl (flEq rfl (by first | (simp; done) | (simp; omega) | (simp [encA, encH, encL, encU, encK, encV, encY]; done) | simp [maxC, minC])) trivial, ?_⟩)) rfl ?_
      exact n_out1 rfl (by rfl) rfl rfl
theorem put0_c (n : Nat) (x : Int) (hn : n ≤ 4) (hx : inr .u64 x) : Meets Try.prog 87 [.fz (.lit (.slice none 0 0)), IV .i64 n, IV .u64 x] 0 [] (.sl 0 1 0 n) [(0, OY (putB n x))] 1 := by
  obtain ⟨xx, rfl⟩ : ∃ xx : Nat, x = (xx : Int) := ⟨x.toNat, by simp only [inr] at hx; omega⟩
  refine Meets.intro Try.func87 rfl (Nat.le_of_ble_eq_true rfl) fun C hC => ?_
  simp only [List.map, argEnv, Nat.reduceAdd]
  refine nK ?_
  refine s_reg rfl ?_
  refine Run.pure (dd := some 6) rfl rfl (op_assign rfl (Opd.const _)) ?_
  refine Run.nil (FinR.mk ?_)
  refine nK ?_
  refine Next.adopt 0 1 rfl ?_
  have hlen := putB_len (xx : Int) n
  refine nK ?_
  refine s_reg rfl ?_
  refine Run.pure (dd := some 8) rfl rfl (op_move rfl (Opd.tmp _ _ rfl)) ?_
  refine Run.pure (dd := some 9) rfl rfl (op_sub rfl (Opd.tmp _ _ rfl) (Opd.const _) tI) ?_
  refine Run.pure (dd := some 7) rfl rfl (op_assign rfl (Opd.tmp _ _ rfl)) ?_
  refine Run.nil (FinR.mk ?_)
  refine nK ?_
  refine n_loop (ι := Nat × List Int) (fun p => ([(0, .sl 0 1 0 p.2.length), (2, IV .u64 (xx : Int)), (7, IV .i64 ((p.1 : Int) - 1))], [(0, OY p.2)], 1)) (fun p => p.1 ≤ n ∧ p.2 ++ putB p.1 xx = putB n xx) (fun p => p.1) (n, []) ⟨Nat.le_refl _, rfl⟩ ?_ ?_
  · refine Next.weakS [0] [] (by rfl) (by first | exact keeps0 hC _ | exact keepsN hC _ rfl) (by repeat (first | exact trivial | refine ⟨⟨_, rfl, .inl ⟨rfl, rfl⟩⟩, ?_⟩ | refine ⟨⟨_, rfl, .inl ⟨slEq rfl tN, rfl⟩⟩, ?_⟩ | refine ⟨⟨_, rfl, .inl ⟨ivEq tX, rfl⟩⟩, ?_⟩)) (by repeat (first | exact trivial | refine ⟨ent_same rfl rfl rfl tL, ?_⟩ | refine ⟨ent_same rfl rfl (rfEq rfl tU) tL, ?_⟩ | refine ⟨ent_same rfl rfl (flEq rfl (by first | (simp; done) | (simp; omega) | (simp [encA, encH, encL, encU, encK, encV, encY]; done) | simp [maxC, minC])) trivial, ?_⟩)) rfl (rel_intro)
  · intro ⟨j, c⟩ ⟨hj, hc⟩ K hK
    dsimp only at hj hc ⊢
    have hcl : c.length + j = n := by have := congrArg List.length hc; simpa [putB_len] using this
    refine nK ?_
    refine s_reg rfl ?_
    refine Run.pure (dd := some 10) rfl rfl (op_move rfl (Opd.tmp _ _ rfl)) ?_
    refine Run.pure (dd := some 11) rfl rfl (op_geq rfl (Opd.tmp _ _ rfl) (Opd.const _)) ?_
    refine Run.nil (FinR.mk ?_)
    refine nK ?_
    refine n_cond _ rfl (fun hb => ?_) (fun hb => ?_)
    · obtain ⟨i, rfl⟩ : ∃ i, j = i + 1 := ⟨j - 1, by simp at hb; omega⟩
      have hK1 := hK (i, c ++ [byteAt xx i]) ⟨by omega, by rw [← hc]; simp [putB]⟩ (by dsimp only; omega)
      dsimp only at hK1
      have hel : (c ++ [byteAt xx i]).length = c.length + 1 := by simp
      rw [hel] at hK1
      have hby : IntKind.u8.wrap ((xx / 2 ^ (8 * i) : Nat) : Int) = byteAt xx i := rfl
      refine nK ?_
      refine s_reg rfl ?_
      refine Run.pure (dd := some 14) rfl rfl (op_move rfl (Opd.tmp _ _ rfl)) ?_
      refine Run.pure (dd := some 15) rfl rfl (op_move rfl (Opd.tmp _ _ rfl)) ?_
      refine Run.pure (dd := some 16) rfl rfl (op_move rfl (Opd.tmp _ _ rfl)) ?_
      refine Run.pure (dd := some 17) rfl rfl (op_mul rfl (Opd.const _) (Opd.tmp _ _ rfl) tI) ?_
      refine Run.pure (dd := some 18) rfl rfl (op_conv rfl (Opd.tmp _ _ rfl) tI) ?_
      refine Run.pure (dd := some 19) rfl rfl (op_shrN (8 * i) rfl (Opd.tmp _ _ rfl) (Opd.tmp _ _ rfl) (by intro _; simp only [IntKind.bits]; omega)) ?_
      refine Run.pure (dd := some 20) rfl rfl (castP (fun _ => congrArg (IV .u8) hby) (op_convw rfl (Opd.tmp _ _ rfl))) ?_
      refine Run.eff (dd := some 21) rfl rfl (op_buildSlice_own rfl (RowsF.cons _ _ _ _ _ _ (Opd.tmp _ _ rfl) tC (by rfl) (RowsF.nil _)) rfl rfl rfl) ?_
      refine Run.eff (dd := some 22) rfl rfl (op_append_own0 rfl (Opd.tmp _ _ rfl) (Opd.tmp _ _ rfl) rfl (by first | rfl | simp) rfl (by first | rfl | simp) rfl rfl tB tB) ?_
      refine Run.pure (dd := some 0) rfl rfl (op_assign rfl (Opd.tmp _ _ rfl)) ?_
      refine Run.nil (FinR.mk ?_)
      refine nK ?_
      refine s_reg rfl ?_
      refine Run.pure (dd := some 12) rfl rfl (op_move rfl (Opd.tmp _ _ rfl)) ?_
      refine Run.pure (dd := some 13) rfl rfl (op_sub rfl (Opd.tmp _ _ rfl) (Opd.const _) tI) ?_
      refine Run.pure (dd := some 7) rfl rfl (op_assign rfl (Opd.tmp _ _ rfl)) ?_
      refine Run.nil (FinR.mk ?_)
      refine nK ?_
      refine Next.weakS [0] [] (by rfl) (by first | exact keeps0 hC _ | exact keepsN hC _ rfl) (by repeat (first | exact trivial | refine ⟨⟨_, rfl, .inl ⟨rfl, rfl⟩⟩, ?_⟩ | refine ⟨⟨_, rfl, .inl ⟨slEq rfl tN, rfl⟩⟩, ?_⟩ | refine ⟨⟨_, rfl, .inl ⟨ivEq tX, rfl⟩⟩, ?_⟩)) (by repeat (first | exact trivial | refine ⟨ent_same rfl rfl rfl tL, ?_⟩ | refine ⟨ent_same rfl rfl (rfEq rfl tU) tL, ?_⟩ | refine ⟨ent_same rfl rfl (flEq rfl (by first | (simp; done) | (simp; omega) | (simp [encA, encH, encL, encU, encK, encV, encY]; done) | simp [maxC, minC])) trivial, ?_⟩)) rfl (hK1)
    · have hj0 : j = 0 := by simp at hb; omega
      subst hj0
      simp only [putB, List.append_nil] at hc
      rw [← hc]
      have e : c.length = n := by omega
      refine nK ?_
      refine s_reg rfl ?_
      refine Run.pure (dd := some 23) rfl rfl (op_move rfl (Opd.tmp _ _ rfl)) ?_
      refine Run.pure (dd := some 6) rfl rfl (op_assign rfl (Opd.tmp _ _ rfl)) ?_
      refine Run.nil (FinR.mk ?_)
      refine nK ?_
      refine Next.weakS [6] [] (by rfl) (keeps0 hC _) (G' := [(6, .sl 0 1 0 n)]) (H' := [(0, OY c)]) (by exact ⟨⟨_, rfl, .inl ⟨slEq rfl e, rfl⟩⟩, trivial⟩) (by repeat (first | exact trivial | refine ⟨ent_same rfl rfl rfl tL, ?_⟩ | refine ⟨ent_same rfl rfl (rfEq rfl tU) tL, ?_⟩ | refine ⟨ent_same rfl rfl (flEq rfl (by first | (simp; done) | (simp; omega) | (simp [encA, encH, encL, encU, encK, encV, encY]; done) | simp [maxC, minC])) trivial, ?_⟩)) rfl ?_
      (first | exact s_o1 hC rfl tV | exact s_o2 hC rfl tV tV | exact s_o3 hC rfl tV tV tV | exact s_o4 hC rfl tV tV tV tV | exact s_out0 hC rfl | exact s_outO hC rfl rfl rfl)
theorem hdr_c (h : Hdr) (ho : okH h) : Meets Try.prog 88 ([.agg (encH h)].map PV.fz) 0 [] (.sl 0 1 0 18) [(0, OY (hdrB h))] 1 := by
  refine Meets.intro Try.func88 rfl (Nat.le_of_ble_eq_true rfl) fun C hC => ?_
  simp only [List.map, argEnv, Nat.reduceAdd]
  refine nK ?_
  refine s_reg rfl ?_
  refine Run.eff (dd := some 1) rfl rfl (op_box_flat rfl (Opd.tmp _ _ rfl) tC rfl) ?_
  refine Run.pure (dd := some 2) rfl rfl (op_assign rfl (Opd.const _)) ?_
  refine Run.nil (FinR.mk ?_)
  refine nK ?_
  refine s_reg rfl ?_
  refine Run.pure (dd := some 4) rfl rfl (op_fld_ptr (by decide) rfl (Opd.tmp _ _ rfl)) ?_
  refine Run.load (dd := some 5) rfl rfl (op_load1_flat rfl (Opd.tmp _ _ rfl) tH rfl) ?_
  refine Run.pure (dd := some 6) rfl rfl (op_convw rfl (Opd.tmp _ _ rfl)) ?_
  refine Run.eff (dd := some 7) rfl rfl (op_call (n := 0) (n' := 1) [] (fun _ => put0_c 2 _ (by omega) (w64_ok _)) rfl (Opd.func _) (Opds.cons _ _ _ _ (Opd.const _) (Opds.cons _ _ _ _ (Opd.const _) (Opds.cons _ _ _ _ (Opd.tmp _ _ rfl) Opds.nil))) rfl rfl (Lent.of rfl rfl (by repeat (first | exact trivial | refine ⟨⟨rfl, rfl, rfl, tL⟩, ?_⟩)) rfl) rfl rfl rfl rfl rfl) ?_
  refine Run.pure (dd := some 3) rfl rfl (op_assign rfl (Opd.tmp _ _ rfl)) ?_
  refine Run.nil (FinR.mk ?_)
  refine nK ?_
  refine nK ?_
  refine s_reg rfl ?_
  refine Run.pure (dd := some 8) rfl rfl (op_move rfl (Opd.tmp _ _ rfl)) ?_
  refine Run.pure (dd := some 9) rfl rfl (op_fld_ptr (by decide) rfl (Opd.tmp _ _ rfl)) ?_
  refine Run.load (dd := some 10) rfl rfl (op_load1_flat rfl (Opd.tmp _ _ rfl) tH rfl) ?_
  refine Run.pure (dd := some 11) rfl rfl (op_convw rfl (Opd.tmp _ _ rfl)) ?_
  refine Run.eff (dd := some 12) rfl rfl (op_call (n := 1) (n' := 2) [1] (fun _ => put_c (putB 2 (w64 h.ag)) 2 1 (w64 h.ty) (by simp [putB_len]) (by omega) (by omega) (w64_ok _)) rfl (Opd.func _) (Opds.cons _ _ _ _ (Opd.tmp _ _ rfl) (Opds.cons _ _ _ _ (Opd.const _) (Opds.cons _ _ _ _ (Opd.tmp _ _ rfl) Opds.nil))) rfl rfl (Lent.of rfl rfl (by repeat (first | exact trivial | refine ⟨⟨rfl, rfl, rfl, tL⟩, ?_⟩)) rfl) rfl rfl rfl rfl rfl) ?_
  refine Run.pure (dd := some 3) rfl rfl (op_assign rfl (Opd.tmp _ _ rfl)) ?_
  refine Run.nil (FinR.mk ?_)
  refine nK ?_
  refine s_reg rfl ?_
  refine Run.pure (dd := some 13) rfl rfl (op_move rfl (Opd.tmp _ _ rfl)) ?_
  refine Run.pure (dd := some 14) rfl rfl (op_fld_ptr (by decide) rfl (Opd.tmp _ _ rfl)) ?_
  refine Run.load (dd := some 15) rfl rfl (op_load1_flat rfl (Opd.tmp _ _ rfl) tH rfl) ?_
  refine Run.pure (dd := some 16) rfl rfl (op_convw rfl (Opd.tmp _ _ rfl)) ?_
  refine Run.eff (dd := some 17) rfl rfl (op_call (n := 1) (n' := 2) [2] (fun _ => put_c (putB 2 (w64 h.ag) ++ putB 1 (w64 h.ty)) 3 1 (w64 h.ln) (by simp [putB_len]) (by omega) (by omega) (w64_ok _)) rfl (Opd.func _) (Opds.cons _ _ _ _ (Opd.tmp _ _ rfl) (Opds.cons _ _ _ _ (Opd.const _) (Opds.cons _ _ _ _ (Opd.tmp _ _ rfl) Opds.nil))) rfl rfl (Lent.of rfl rfl (by repeat (first | exact trivial | refine ⟨⟨rfl, rfl, rfl, tL⟩, ?_⟩)) rfl) rfl rfl rfl rfl rfl) ?_
  refine Run.pure (dd := some 3) rfl rfl (op_assign rfl (Opd.tmp _ _ rfl)) ?_
  refine Run.nil (FinR.mk ?_)
  refine nK ?_
  refine s_reg rfl ?_
  refine Run.pure (dd := some 18) rfl rfl (op_move rfl (Opd.tmp _ _ rfl)) ?_
  refine Run.pure (dd := some 19) rfl rfl (op_fld_ptr (by decide) rfl (Opd.tmp _ _ rfl)) ?_
  refine Run.load (dd := some 20) rfl rfl (op_load1_flat rfl (Opd.tmp _ _ rfl) tH rfl) ?_
  refine Run.pure (dd := some 21) rfl rfl (op_convw rfl (Opd.tmp _ _ rfl)) ?_
  refine Run.eff (dd := some 22) rfl rfl (op_call (n := 1) (n' := 2) [3] (fun _ => put_c (putB 2 (w64 h.ag) ++ putB 1 (w64 h.ty) ++ putB 1 (w64 h.ln)) 4 4 (w64 h.id) (by simp [putB_len]) (by omega) (by omega) (w64_ok _)) rfl (Opd.func _) (Opds.cons _ _ _ _ (Opd.tmp _ _ rfl) (Opds.cons _ _ _ _ (Opd.const _) (Opds.cons _ _ _ _ (Opd.tmp _ _ rfl) Opds.nil))) rfl rfl (Lent.of rfl rfl (by repeat (first | exact trivial | refine ⟨⟨rfl, rfl, rfl, tL⟩, ?_⟩)) rfl) rfl rfl rfl rfl rfl) ?_
  refine Run.pure (dd := some 3) rfl rfl (op_assign rfl (Opd.tmp _ _ rfl)) ?_
  refine Run.nil (FinR.mk ?_)
  refine nK ?_
  refine s_reg rfl ?_
  refine Run.pure (dd := some 23) rfl rfl (op_move rfl (Opd.tmp _ _ rfl)) ?_
  refine Run.pure (dd := some 24) rfl rfl (op_fld_ptr (by decide) rfl (Opd.tmp _ _ rfl)) ?_
  refine Run.load (dd := some 25) rfl rfl (op_load1_flat rfl (Opd.tmp _ _ rfl) tH rfl) ?_
  refine Run.pure (dd := some 26) rfl rfl (op_convw rfl (Opd.tmp _ _ rfl)) ?_
  refine Run.eff (dd := some 27) rfl rfl (op_call (n := 1) (n' := 2) [4] (fun _ => put_c (putB 2 (w64 h.ag) ++ putB 1 (w64 h.ty) ++ putB 1 (w64 h.ln) ++ putB 4 (w64 h.id)) 8 4 (w64 h.rt) (by simp [putB_len]) (by omega) (by omega) (w64_ok _)) rfl (Opd.func _) (Opds.cons _ _ _ _ (Opd.tmp _ _ rfl) (Opds.cons _ _ _ _ (Opd.const _) (Opds.cons _ _ _ _ (Opd.tmp _ _ rfl) Opds.nil))) rfl rfl (Lent.of rfl rfl (by repeat (first | exact trivial | refine ⟨⟨rfl, rfl, rfl, tL⟩, ?_⟩)) rfl) rfl rfl rfl rfl rfl) ?_
  refine Run.pure (dd := some 3) rfl rfl (op_assign rfl (Opd.tmp _ _ rfl)) ?_
  refine Run.nil (FinR.mk ?_)
  refine nK ?_
  refine s_reg rfl ?_
  refine Run.pure (dd := some 28) rfl rfl (op_move rfl (Opd.tmp _ _ rfl)) ?_
  refine Run.pure (dd := some 29) rfl rfl (op_fld_ptr (by decide) rfl (Opd.tmp _ _ rfl)) ?_
  refine Run.load (dd := some 30) rfl rfl (op_load1_flat rfl (Opd.tmp _ _ rfl) tH rfl) ?_
  refine Run.pure (dd := some 31) rfl rfl (op_convw rfl (Opd.tmp _ _ rfl)) ?_
  refine Run.eff (dd := some 32) rfl rfl (op_call (n := 1) (n' := 2) [5] (fun _ => put_c (putB 2 (w64 h.ag) ++ putB 1 (w64 h.ty) ++ putB 1 (w64 h.ln) ++ putB 4 (w64 h.id) ++ putB 4 (w64 h.rt)) 12 4 (w64 h.sq) (by simp [putB_len]) (by omega) (by omega) (w64_ok _)) rfl (Opd.func _) (Opds.cons _ _ _ _ (Opd.tmp _ _ rfl) (Opds.cons _ _ _ _ (Opd.const _) (Opds.cons _ _ _ _ (Opd.tmp _ _ rfl) Opds.nil))) rfl rfl (Lent.of rfl rfl (by repeat (first | exact trivial | refine ⟨⟨rfl, rfl, rfl, tL⟩, ?_⟩)) rfl) rfl rfl rfl rfl rfl) ?_
  refine Run.pure (dd := some 3) rfl rfl (op_assign rfl (Opd.tmp _ _ rfl)) ?_
  refine Run.nil (FinR.mk ?_)
  refine nK ?_
  refine s_reg rfl ?_
  refine Run.pure (dd := some 33) rfl rfl (op_move rfl (Opd.tmp _ _ rfl)) ?_
  refine Run.pure (dd := some 34) rfl rfl (op_fld_ptr (by decide) rfl (Opd.tmp _ _ rfl)) ?_
  refine Run.load (dd := some 35) rfl rfl (op_load1_flat rfl (Opd.tmp _ _ rfl) tH rfl) ?_
  refine Run.pure (dd := some 36) rfl rfl (op_convw rfl (Opd.tmp _ _ rfl)) ?_
  refine Run.eff (dd := some 37) rfl rfl (op_call (n := 1) (n' := 2) [6] (fun _ => put_c (putB 2 (w64 h.ag) ++ putB 1 (w64 h.ty) ++ putB 1 (w64 h.ln) ++ putB 4 (w64 h.id) ++ putB 4 (w64 h.rt) ++ putB 4 (w64 h.sq)) 16 2 (w64 h.sm) (by simp [putB_len]) (by omega) (by omega) (w64_ok _)) rfl (Opd.func _) (Opds.cons _ _ _ _ (Opd.tmp _ _ rfl) (Opds.cons _ _ _ _ (Opd.const _) (Opds.cons _ _ _ _ (Opd.tmp _ _ rfl) Opds.nil))) rfl rfl (Lent.of rfl rfl (by repeat (first | exact trivial | refine ⟨⟨rfl, rfl, rfl, tL⟩, ?_⟩)) rfl) rfl rfl rfl rfl rfl) ?_
  refine Run.pure (dd := some 2) rfl rfl (op_assign rfl (Opd.tmp _ _ rfl)) ?_
  refine Run.nil (FinR.mk ?_)
  refine nK ?_
  refine Next.weakS [2] [] (by rfl) (keeps0 hC _) (G' := [(2, .sl 0 1 0 18)]) (H' := [(0, OY (hdrB h))]) (by repeat (first | exact trivial | refine ⟨⟨_, rfl, .inl ⟨rfl, rfl⟩⟩, ?_⟩ | refine ⟨⟨_, rfl, .inl ⟨slEq rfl tN, rfl⟩⟩, ?_⟩ | refine ⟨⟨_, rfl, .inl ⟨ivEq tX, rfl⟩⟩, ?_⟩)) (by repeat (first | exact trivial | refine ⟨ent_same rfl rfl rfl tL, ?_⟩ | refine ⟨ent_same rfl rfl (rfEq rfl tU) tL, ?_⟩ | refine ⟨ent_same rfl rfl (flEq rfl (by first | (simp; done) | (simp; omega) | (simp [encA, encH, encL, encU, encK, encV, encY]; done) | simp [maxC, minC])) trivial, ?_⟩)) rfl ?_
  (first | exact s_o1 hC rfl tV | exact s_o2 hC rfl tV tV | exact s_o3 hC rfl tV tV tV | exact s_o4 hC rfl tV tV tV tV | exact s_out0 hC rfl | exact s_outO hC rfl rfl rfl)
theorem body_c (l : Lsa) (ho : okA l) (hl1 : l.ls.length ≤ 64) (hl2 : l.att.length ≤ 64) : Meets Try.prog 86 ([.agg (encA l)].map PV.fz) 0 [] (.sl 0 1 0 (bodyB l).length) [(0, OY (bodyB l))] 1 := by
  have hbl := bodyB_len hl1 hl2
  refine Meets.intro Try.func86 rfl (Nat.le_of_ble_eq_true rfl) fun C hC => ?_
  simp only [List.map, argEnv, Nat.reduceAdd]
  refine nK ?_
  refine s_reg rfl ?_
  refine Run.eff (dd := some 1) rfl rfl (op_box_flat rfl (Opd.tmp _ _ rfl) tC rfl) ?_
  refine Run.pure (dd := some 2) rfl rfl (op_assign rfl (Opd.const _)) ?_
  refine Run.nil (FinR.mk ?_)
  refine nK ?_
  refine s_reg rfl ?_
  refine Run.eff (dd := some 6) rfl rfl (op_buildSlice_own rfl (RowsF.nil _) rfl rfl rfl) ?_
  refine Run.pure (dd := some 3) rfl rfl (op_assign rfl (Opd.tmp _ _ rfl)) ?_
  refine Run.nil (FinR.mk ?_)
  refine nK ?_
  refine s_reg rfl ?_
  refine Run.pure (dd := some 7) rfl rfl (op_fld_ptr (by decide) rfl (Opd.tmp _ _ rfl)) ?_
  refine Run.pure (dd := some 8) rfl rfl (op_fld_ptr (by decide) rfl (Opd.tmp _ _ rfl)) ?_
  refine Run.load (dd := some 9) rfl rfl (op_load1_flat rfl (Opd.tmp _ _ rfl) tH rfl) ?_
  refine Run.nil (FinR.mk ?_)
  refine nK ?_
  refine s_reg rfl ?_
  refine Run.pure (dd := some 11) rfl rfl (op_eql rfl (Opd.tmp _ _ rfl) (Opd.const _)) ?_
  refine Run.pure (dd := some 10) rfl rfl (op_assign rfl (Opd.tmp _ _ rfl)) ?_
  refine Run.nil (FinR.mk ?_)
  refine nK ?_
  refine n_cond _ rfl (fun hb => ?_) (fun hb => ?_)
  · have ht : l.h.ty = 1 := by simpa using hb
    have e : bodyB l = putB 1 (flagI l.bo l.bd) ++ putB 1 (w64 (l.ls.length : Int)) ++ l.ls.flatMap linkB := by unfold bodyB; rw [if_pos ht]
    refine nK ?_
    refine s_reg rfl ?_
    refine Run.pure (dd := some 12) rfl rfl (op_move rfl (Opd.tmp _ _ rfl)) ?_
    refine Run.pure (dd := some 13) rfl rfl (op_fld_ptr (by decide) rfl (Opd.tmp _ _ rfl)) ?_
    refine Run.load (dd := some 14) rfl rfl (op_load1_flat rfl (Opd.tmp _ _ rfl) tH rfl) ?_
    refine Run.pure (dd := some 15) rfl rfl (op_fld_ptr (by decide) rfl (Opd.tmp _ _ rfl)) ?_
    refine Run.load (dd := some 16) rfl rfl (op_load1_flat rfl (Opd.tmp _ _ rfl) tH rfl) ?_
    refine Run.pure (dd := some 17) rfl rfl (op_call_pure (fun _ => flags_c _ _) rfl (Opd.func _) (Opds.cons _ _ _ _ (Opd.tmp _ _ rfl) (Opds.cons _ _ _ _ (Opd.tmp _ _ rfl) Opds.nil))) ?_
    refine Run.eff (dd := some 18) rfl rfl (op_call (n := 1) (n' := 2) [1] (fun _ => put_c ([]) (0) 1 (flagI l.bo l.bd) rfl (by omega) (by first | omega | (simp only [List.length_append, putB_len]; omega)) (flagI_ok _ _)) rfl (Opd.func _) (Opds.cons _ _ _ _ (Opd.tmp _ _ rfl) (Opds.cons _ _ _ _ (Opd.const _) (Opds.cons _ _ _ _ (Opd.tmp _ _ rfl) Opds.nil))) rfl rfl (Lent.of rfl rfl (by repeat (first | exact trivial | refine ⟨⟨rfl, rfl, rfl, tL⟩, ?_⟩)) rfl) rfl rfl rfl rfl rfl) ?_
    refine Run.pure (dd := some 3) rfl rfl (op_assign rfl (Opd.tmp _ _ rfl)) ?_
    refine Run.nil (FinR.mk ?_)
    refine nK ?_
    refine s_reg rfl ?_
    refine Run.pure (dd := some 19) rfl rfl (op_move rfl (Opd.tmp _ _ rfl)) ?_
    refine Run.pure (dd := some 20) rfl rfl (op_fld_ptr (by decide) rfl (Opd.tmp _ _ rfl)) ?_
    refine Run.load (dd := some 21) rfl rfl (op_load1_flat rfl (Opd.tmp _ _ rfl) tH rfl) ?_
    refine Run.pure (dd := some 22) rfl rfl (op_len_fz rfl (by first | exact Opd.tmp _ _ rfl | exact Opd.nil _ _ (Opd.tmp _ _ rfl)) (by first | exact List.length_map _ | rfl)) ?_
    refine Run.pure (dd := some 23) rfl rfl (op_convw rfl (Opd.tmp _ _ rfl)) ?_
    refine Run.eff (dd := some 24) rfl rfl (op_call (n := 1) (n' := 2) [2] (fun _ => put_c (putB 1 (flagI l.bo l.bd)) (1) 1 (w64 (l.ls.length : Int)) (by simp [putB_len]) (by omega) (by first | omega | (simp only [List.length_append, putB_len]; omega)) (w64_ok _)) rfl (Opd.func _) (Opds.cons _ _ _ _ (Opd.tmp _ _ rfl) (Opds.cons _ _ _ _ (Opd.const _) (Opds.cons _ _ _ _ (Opd.tmp _ _ rfl) Opds.nil))) rfl rfl (Lent.of rfl rfl (by repeat (first | exact trivial | refine ⟨⟨rfl, rfl, rfl, tL⟩, ?_⟩)) rfl) rfl rfl rfl rfl rfl) ?_
    refine Run.pure (dd := some 3) rfl rfl (op_assign rfl (Opd.tmp _ _ rfl)) ?_
    refine Run.nil (FinR.mk ?_)
    refine nK ?_
    refine s_reg rfl ?_
    refine Run.pure (dd := some 4) rfl rfl (op_assign rfl (Opd.const _)) ?_
    refine Run.nil (FinR.mk ?_)
    refine nK ?_
    refine n_loop (ι := Nat × List Int) (fun p => ([(1, .ptr 0 15 0 0), (3, .sl 1 1 0 p.2.length), (4, IV .i64 p.1)], [(0, OA l), (1, OY p.2)], 2)) (fun p => p.1 ≤ l.ls.length ∧ p.2 = putB 1 (flagI l.bo l.bd) ++ putB 1 (w64 (l.ls.length : Int)) ++ (l.ls.take p.1).flatMap linkB) (fun p => l.ls.length - p.1) (0, putB 1 (flagI l.bo l.bd) ++ putB 1 (w64 (l.ls.length : Int))) ⟨Nat.zero_le _, by simp⟩ ?_ ?_
    · refine Next.weakS [1, 3] [] (by rfl) (by first | exact keeps0 hC _ | exact keepsN hC _ rfl) (by repeat (first | exact trivial | refine ⟨⟨_, rfl, .inl ⟨rfl, rfl⟩⟩, ?_⟩ | refine ⟨⟨_, rfl, .inl ⟨slEq rfl tN, rfl⟩⟩, ?_⟩ | refine ⟨⟨_, rfl, .inl ⟨ivEq tX, rfl⟩⟩, ?_⟩)) (by repeat (first | exact trivial | refine ⟨ent_same rfl rfl rfl tL, ?_⟩ | refine ⟨ent_same rfl rfl (rfEq rfl tU) tL, ?_⟩ | refine ⟨ent_same rfl rfl (flEq rfl (by first | (simp; done) | (simp; omega) | (simp [encA, encH, encL, encU, encK, encV, encY]; done) | simp [maxC, minC])) trivial, ?_⟩)) rfl (rel_intro)
    · intro ⟨i, c⟩ ⟨hi, hc⟩ K hK
      dsimp only at hi hc ⊢
      have hcl : c.length = 2 + i * 11 := by rw [hc]; simp only [List.length_append, putB_len, flat_len linkB 11 linkB_len, List.length_take]; rw [Nat.min_eq_left hi]
      refine nK ?_
      refine s_reg rfl ?_
      refine Run.pure (dd := some 25) rfl rfl (op_move rfl (Opd.tmp _ _ rfl)) ?_
      refine Run.pure (dd := some 26) rfl rfl (op_fld_ptr (by decide) rfl (Opd.tmp _ _ rfl)) ?_
      refine Run.load (dd := some 27) rfl rfl (op_load1_flat rfl (Opd.tmp _ _ rfl) tH rfl) ?_
      refine Run.pure (dd := some 28) rfl rfl (op_len_fz rfl (by first | exact Opd.tmp _ _ rfl | exact Opd.nil _ _ (Opd.tmp _ _ rfl)) (by first | exact List.length_map _ | rfl)) ?_
      refine Run.pure (dd := some 29) rfl rfl (op_lss rfl (Opd.tmp _ _ rfl) (Opd.tmp _ _ rfl)) ?_
      refine Run.nil (FinR.mk ?_)
      refine nK ?_
      refine n_cond _ rfl (fun hb => ?_) (fun hb => ?_)
      · have hlt : i < l.ls.length := by simp at hb; omega
        have hr1 := row_at' encL l.ls i hlt
        have hft := flat_take linkB hlt
        have hK1 := hK (i + 1, c ++ putB 1 (w64 l.ls[i].k) ++ putB 4 (w64 l.ls[i].id) ++ putB 4 (w64 l.ls[i].d) ++ putB 2 (w64 l.ls[i].c)) ⟨by dsimp only; omega, by dsimp only; rw [hft, hc]; simp [linkB]⟩ (by dsimp only; omega)
        dsimp only at hK1
        have hel : (c ++ putB 1 (w64 l.ls[i].k) ++ putB 4 (w64 l.ls[i].id) ++ putB 4 (w64 l.ls[i].d) ++ putB 2 (w64 l.ls[i].c)).length = c.length + 1 + 4 + 4 + 2 := by simp [putB_len]
        rw [hel] at hK1
        refine nK ?_
        refine s_reg rfl ?_
        refine Run.pure (dd := some 32) rfl rfl (op_move rfl (Opd.tmp _ _ rfl)) ?_
        refine Run.pure (dd := some 33) rfl rfl (op_fld_ptr (by decide) rfl (Opd.tmp _ _ rfl)) ?_
        refine Run.load (dd := some 34) rfl rfl (op_load1_flat rfl (Opd.tmp _ _ rfl) tH rfl) ?_
        refine Run.pure (dd := some 35) rfl rfl (op_move rfl (Opd.tmp _ _ rfl)) ?_
        refine Run.pure (dd := some 36) rfl rfl (op_idx_fz _ rfl (Opd.tmp _ _ rfl) (Opd.tmp _ _ rfl) tF) ?_
        refine Run.pure (dd := some 37) rfl rfl (op_fld_fz (by decide) rfl (Opd.tmp _ _ rfl) tR) ?_
        refine Run.pure (dd := some 38) rfl rfl (op_load1_fz rfl (Opd.tmp _ _ rfl) rfl) ?_
        refine Run.pure (dd := some 39) rfl rfl (op_convw rfl (Opd.tmp _ _ rfl)) ?_
        refine Run.eff (dd := some 40) rfl rfl (op_call (n := 1) (n' := 2) [1] (fun _ => put_c (c) (c.length) 1 (w64 l.ls[i].k) rfl (by omega) (by first | omega | (simp only [List.length_append, putB_len]; omega)) (w64_ok _)) rfl (Opd.func _) (Opds.cons _ _ _ _ (Opd.tmp _ _ rfl) (Opds.cons _ _ _ _ (Opd.const _) (Opds.cons _ _ _ _ (Opd.tmp _ _ rfl) Opds.nil))) rfl rfl (Lent.of rfl rfl (by repeat (first | exact trivial | refine ⟨⟨rfl, rfl, rfl, tL⟩, ?_⟩)) rfl) rfl rfl rfl rfl rfl) ?_
        refine Run.pure (dd := some 3) rfl rfl (op_assign rfl (Opd.tmp _ _ rfl)) ?_
        refine Run.nil (FinR.mk ?_)
        refine nK ?_
        refine s_reg rfl ?_
        refine Run.pure (dd := some 41) rfl rfl (op_move rfl (Opd.tmp _ _ rfl)) ?_
        refine Run.pure (dd := some 42) rfl rfl (op_fld_ptr (by decide) rfl (Opd.tmp _ _ rfl)) ?_
        refine Run.load (dd := some 43) rfl rfl (op_load1_flat rfl (Opd.tmp _ _ rfl) tH rfl) ?_
        refine Run.pure (dd := some 44) rfl rfl (op_move rfl (Opd.tmp _ _ rfl)) ?_
        refine Run.pure (dd := some 45) rfl rfl (op_idx_fz _ rfl (Opd.tmp _ _ rfl) (Opd.tmp _ _ rfl) tF) ?_
        refine Run.pure (dd := some 46) rfl rfl (op_fld_fz (by decide) rfl (Opd.tmp _ _ rfl) tR) ?_
        refine Run.pure (dd := some 47) rfl rfl (op_load1_fz rfl (Opd.tmp _ _ rfl) rfl) ?_
        refine Run.pure (dd := some 48) rfl rfl (op_convw rfl (Opd.tmp _ _ rfl)) ?_
        refine Run.eff (dd := some 49) rfl rfl (op_call (n := 1) (n' := 2) [2] (fun _ => put_c (c ++ putB 1 (w64 l.ls[i].k)) (c.length + 1) 4 (w64 l.ls[i].id) (by simp [putB_len]) (by omega) (by first | omega | (simp only [List.length_append, putB_len]; omega)) (w64_ok _)) rfl (Opd.func _) (Opds.cons _ _ _ _ (Opd.tmp _ _ rfl) (Opds.cons _ _ _ _ (Opd.const _) (Opds.cons _ _ _ _ (Opd.tmp _ _ rfl) Opds.nil))) rfl rfl (Lent.of rfl rfl (by repeat (first | exact trivial | refine ⟨⟨rfl, rfl, rfl, tL⟩, ?_⟩)) rfl) rfl rfl rfl rfl rfl) ?_
        refine Run.pure (dd := some 3) rfl rfl (op_assign rfl (Opd.tmp _ _ rfl)) ?_
        refine Run.nil (FinR.mk ?_)
        refine nK ?_
        refine s_reg rfl ?_
        refine Run.pure (dd := some 50) rfl rfl (op_move rfl (Opd.tmp _ _ rfl)) ?_
        refine Run.pure (dd := some 51) rfl rfl (op_fld_ptr (by decide) rfl (Opd.tmp _ _ rfl)) ?_
        refine Run.load (dd := some 52) rfl rfl (op_load1_flat rfl (Opd.tmp _ _ rfl) tH rfl) ?_
        refine Run.pure (dd := some 53) rfl rfl (op_move rfl (Opd.tmp _ _ rfl)) ?_
        refine Run.pure (dd := some 54) rfl rfl (op_idx_fz _ rfl (Opd.tmp _ _ rfl) (Opd.tmp _ _ rfl) tF) ?_
        refine Run.pure (dd := some 55) rfl rfl (op_fld_fz (by decide) rfl (Opd.tmp _ _ rfl) tR) ?_
        refine Run.pure (dd := some 56) rfl rfl (op_load1_fz rfl (Opd.tmp _ _ rfl) rfl) ?_
        refine Run.pure (dd := some 57) rfl rfl (op_convw rfl (Opd.tmp _ _ rfl)) ?_
        refine Run.eff (dd := some 58) rfl rfl (op_call (n := 1) (n' := 2) [3] (fun _ => put_c (c ++ putB 1 (w64 l.ls[i].k) ++ putB 4 (w64 l.ls[i].id)) (c.length + 1 + 4) 4 (w64 l.ls[i].d) (by simp [putB_len]) (by omega) (by first | omega | (simp only [List.length_append, putB_len]; omega)) (w64_ok _)) rfl (Opd.func _) (Opds.cons _ _ _ _ (Opd.tmp _ _ rfl) (Opds.cons _ _ _ _ (Opd.const _) (Opds.cons _ _ _ _ (Opd.tmp _ _ rfl) Opds.nil))) rfl rfl (Lent.of rfl rfl (by repeat (first | exact trivial | refine ⟨⟨rfl, rfl, rfl, tL⟩, ?_⟩)) rfl) rfl rfl rfl rfl rfl) ?_
        refine Run.pure (dd := some 3) rfl rfl (op_assign rfl (Opd.tmp _ _ rfl)) ?_
        refine Run.nil (FinR.mk ?_)
        refine nK ?_
        refine s_reg rfl ?_
        refine Run.pure (dd := some 59) rfl rfl (op_move rfl (Opd.tmp _ _ rfl)) ?_
        refine Run.pure (dd := some 60) rfl rfl (op_fld_ptr (by decide) rfl (Opd.tmp _ _ rfl)) ?_
        refine Run.load (dd := some 61) rfl rfl (op_load1_flat rfl (Opd.tmp _ _ rfl) tH rfl) ?_
        refine Run.pure (dd := some 62) rfl rfl (op_move rfl (Opd.tmp _ _ rfl)) ?_
        refine Run.pure (dd := some 63) rfl rfl (op_idx_fz _ rfl (Opd.tmp _ _ rfl) (Opd.tmp _ _ rfl) tF) ?_
        refine Run.pure (dd := some 64) rfl rfl (op_fld_fz (by decide) rfl (Opd.tmp _ _ rfl) tR) ?_
        refine Run.pure (dd := some 65) rfl rfl (op_load1_fz rfl (Opd.tmp _ _ rfl) rfl) ?_
        refine Run.pure (dd := some 66) rfl rfl (op_convw rfl (Opd.tmp _ _ rfl)) ?_
        refine Run.eff (dd := some 67) rfl rfl (op_call (n := 1) (n' := 2) [4] (fun _ => put_c (c ++ putB 1 (w64 l.ls[i].k) ++ putB 4 (w64 l.ls[i].id) ++ putB 4 (w64 l.ls[i].d)) (c.length + 1 + 4 + 4) 2 (w64 l.ls[i].c) (by simp [putB_len]) (by omega) (by first | omega | (simp only [List.length_append, putB_len]; omega)) (w64_ok _)) rfl (Opd.func _) (Opds.cons _ _ _ _ (Opd.tmp _ _ rfl) (Opds.cons _ _ _ _ (Opd.const _) (Opds.cons _ _ _ _ (Opd.tmp _ _ rfl) Opds.nil))) rfl rfl (Lent.of rfl rfl (by repeat (first | exact trivial | refine ⟨⟨rfl, rfl, rfl, tL⟩, ?_⟩)) rfl) rfl rfl rfl rfl rfl) ?_
        refine Run.pure (dd := some 3) rfl rfl (op_assign rfl (Opd.tmp _ _ rfl)) ?_
        refine Run.nil (FinR.mk ?_)
        refine nK ?_
        refine s_reg rfl ?_
        refine Run.pure (dd := some 30) rfl rfl (op_move rfl (Opd.tmp _ _ rfl)) ?_
        refine Run.pure (dd := some 31) rfl rfl (op_add rfl (Opd.tmp _ _ rfl) (Opd.const _) tI) ?_
        refine Run.pure (dd := some 4) rfl rfl (op_assign rfl (Opd.tmp _ _ rfl)) ?_
        refine Run.nil (FinR.mk ?_)
        refine nK ?_
        refine Next.weakS [1, 3] [] (by rfl) (by first | exact keeps0 hC _ | exact keepsN hC _ rfl) (by repeat (first | exact trivial | refine ⟨⟨_, rfl, .inl ⟨rfl, rfl⟩⟩, ?_⟩ | refine ⟨⟨_, rfl, .inl ⟨slEq rfl tN, rfl⟩⟩, ?_⟩ | refine ⟨⟨_, rfl, .inl ⟨ivEq tX, rfl⟩⟩, ?_⟩)) (by repeat (first | exact trivial | refine ⟨ent_same rfl rfl rfl tL, ?_⟩ | refine ⟨ent_same rfl rfl (rfEq rfl tU) tL, ?_⟩ | refine ⟨ent_same rfl rfl (flEq rfl (by first | (simp; done) | (simp; omega) | (simp [encA, encH, encL, encU, encK, encV, encY]; done) | simp [maxC, minC])) trivial, ?_⟩)) rfl (hK1)
      · have hie : i = l.ls.length := by simp at hb; omega
        rw [hie, List.take_length, ← e] at hc
        rw [← hc]
        refine nK ?_
        refine s_reg rfl ?_
        refine Run.pure (dd := some 121) rfl rfl (op_move rfl (Opd.tmp _ _ rfl)) ?_
        refine Run.pure (dd := some 2) rfl rfl (op_assign rfl (Opd.tmp _ _ rfl)) ?_
        refine Run.nil (FinR.mk ?_)
        refine nK ?_
        (first | exact s_o1 hC rfl tV | exact s_o2 hC rfl tV tV | exact s_o3 hC rfl tV tV tV | exact s_o4 hC rfl tV tV tV tV | exact s_out0 hC rfl | exact s_outO hC rfl rfl rfl)
  · have ht : ¬ l.h.ty = 1 := by simpa using hb
    refine nK ?_
    refine s_reg rfl ?_
    refine Run.pure (dd := some 69) rfl rfl (op_eql rfl (Opd.tmp _ _ rfl) (Opd.const _)) ?_
    refine Run.pure (dd := some 68) rfl rfl (op_assign rfl (Opd.tmp _ _ rfl)) ?_
    refine Run.nil (FinR.mk ?_)
    refine nK ?_
    refine n_cond _ rfl (fun hb => ?_) (fun hb => ?_)
    · have ht2 : l.h.ty = 2 := by simpa using hb
      have e : bodyB l = putB 1 (w64 (l.att.length : Int)) ++ l.att.flatMap (fun x => putB 4 (w64 x)) := by unfold bodyB; rw [if_neg ht, if_pos ht2]
      refine nK ?_
      refine s_reg rfl ?_
      refine Run.pure (dd := some 70) rfl rfl (op_move rfl (Opd.tmp _ _ rfl)) ?_
      refine Run.pure (dd := some 71) rfl rfl (op_fld_ptr (by decide) rfl (Opd.tmp _ _ rfl)) ?_
      refine Run.load (dd := some 72) rfl rfl (op_load1_flat rfl (Opd.tmp _ _ rfl) tH rfl) ?_
      refine Run.pure (dd := some 73) rfl rfl (op_len_fz rfl (by first | exact Opd.tmp _ _ rfl | exact Opd.nil _ _ (Opd.tmp _ _ rfl)) (by first | exact List.length_map _ | rfl)) ?_
      refine Run.pure (dd := some 74) rfl rfl (op_convw rfl (Opd.tmp _ _ rfl)) ?_
      refine Run.eff (dd := some 75) rfl rfl (op_call (n := 1) (n' := 2) [1] (fun _ => put_c ([]) (0) 1 (w64 (l.att.length : Int)) rfl (by omega) (by first | omega | (simp only [List.length_append, putB_len]; omega)) (w64_ok _)) rfl (Opd.func _) (Opds.cons _ _ _ _ (Opd.tmp _ _ rfl) (Opds.cons _ _ _ _ (Opd.const _) (Opds.cons _ _ _ _ (Opd.tmp _ _ rfl) Opds.nil))) rfl rfl (Lent.of rfl rfl (by repeat (first | exact trivial | refine ⟨⟨rfl, rfl, rfl, tL⟩, ?_⟩)) rfl) rfl rfl rfl rfl rfl) ?_
      refine Run.pure (dd := some 3) rfl rfl (op_assign rfl (Opd.tmp _ _ rfl)) ?_
      refine Run.nil (FinR.mk ?_)
      refine nK ?_
      refine s_reg rfl ?_
      refine Run.pure (dd := some 5) rfl rfl (op_assign rfl (Opd.const _)) ?_
      refine Run.nil (FinR.mk ?_)
      refine nK ?_
      refine n_loop (ι := Nat × List Int) (fun p => ([(1, .ptr 0 15 0 0), (3, .sl 1 1 0 p.2.length), (5, IV .i64 p.1)], [(0, OA l), (1, OY p.2)], 2)) (fun p => p.1 ≤ l.att.length ∧ p.2 = putB 1 (w64 (l.att.length : Int)) ++ (l.att.take p.1).flatMap (fun x => putB 4 (w64 x))) (fun p => l.att.length - p.1) (0, putB 1 (w64 (l.att.length : Int))) ⟨Nat.zero_le _, by simp⟩ ?_ ?_
      · refine Next.weakS [1, 3] [] (by rfl) (by first | exact keeps0 hC _ | exact keepsN hC _ rfl) (by repeat (first | exact trivial | refine ⟨⟨_, rfl, .inl ⟨rfl, rfl⟩⟩, ?_⟩ | refine ⟨⟨_, rfl, .inl ⟨slEq rfl tN, rfl⟩⟩, ?_⟩ | refine ⟨⟨_, rfl, .inl ⟨ivEq tX, rfl⟩⟩, ?_⟩)) (by repeat (first | exact trivial | refine ⟨ent_same rfl rfl rfl tL, ?_⟩ | refine ⟨ent_same rfl rfl (rfEq rfl tU) tL, ?_⟩ | refine ⟨ent_same rfl rfl (flEq rfl (by first | (simp; done) | (simp; omega) | (simp [encA, encH, encL, encU, encK, encV, encY]; done) | simp [maxC, minC])) trivial, ?_⟩)) rfl (rel_intro)
      · intro ⟨i, c⟩ ⟨hi, hc⟩ K hK
        dsimp only at hi hc ⊢
        have hcl : c.length = 1 + i * 4 := by rw [hc]; simp only [List.length_append, putB_len, flat_len (fun x => putB 4 (w64 x)) 4 (fun x => putB_len _ 4), List.length_take]; rw [Nat.min_eq_left hi]
        refine nK ?_
        refine s_reg rfl ?_
        refine Run.pure (dd := some 76) rfl rfl (op_move rfl (Opd.tmp _ _ rfl)) ?_
        refine Run.pure (dd := some 77) rfl rfl (op_fld_ptr (by decide) rfl (Opd.tmp _ _ rfl)) ?_
        refine Run.load (dd := some 78) rfl rfl (op_load1_flat rfl (Opd.tmp _ _ rfl) tH rfl) ?_
        refine Run.pure (dd := some 79) rfl rfl (op_len_fz rfl (by first | exact Opd.tmp _ _ rfl | exact Opd.nil _ _ (Opd.tmp _ _ rfl)) (by first | exact List.length_map _ | rfl)) ?_
        refine Run.pure (dd := some 80) rfl rfl (op_lss rfl (Opd.tmp _ _ rfl) (Opd.tmp _ _ rfl)) ?_
        refine Run.nil (FinR.mk ?_)
        refine nK ?_
        refine n_cond _ rfl (fun hb => ?_) (fun hb => ?_)
        · have hlt : i < l.att.length := by simp at hb; omega
          have hr1 := row_at' encU l.att i hlt
          have hft := flat_take (fun x => putB 4 (w64 x)) hlt
          have hK1 := hK (i + 1, c ++ putB 4 (w64 l.att[i])) ⟨by dsimp only; omega, by dsimp only; rw [hft, hc]; simp⟩ (by dsimp only; omega)
          dsimp only at hK1
          have hel : (c ++ putB 4 (w64 l.att[i])).length = c.length + 4 := by simp [putB_len]
          rw [hel] at hK1
          refine nK ?_
          refine s_reg rfl ?_
          refine Run.pure (dd := some 83) rfl rfl (op_move rfl (Opd.tmp _ _ rfl)) ?_
          refine Run.pure (dd := some 84) rfl rfl (op_fld_ptr (by decide) rfl (Opd.tmp _ _ rfl)) ?_
          refine Run.load (dd := some 85) rfl rfl (op_load1_flat rfl (Opd.tmp _ _ rfl) tH rfl) ?_
          refine Run.pure (dd := some 86) rfl rfl (op_move rfl (Opd.tmp _ _ rfl)) ?_
          refine Run.pure (dd := some 87) rfl rfl (op_idx_fz _ rfl (Opd.tmp _ _ rfl) (Opd.tmp _ _ rfl) tF) ?_
          refine Run.pure (dd := some 88) rfl rfl (op_load1_fz rfl (Opd.tmp _ _ rfl) rfl) ?_
          refine Run.pure (dd := some 89) rfl rfl (op_convw rfl (Opd.tmp _ _ rfl)) ?_
          refine Run.eff (dd := some 90) rfl rfl (op_call (n := 1) (n' := 2) [1] (fun _ => put_c (c) (c.length) 4 (w64 l.att[i]) rfl (by omega) (by first | omega | (simp only [List.length_append, putB_len]; omega)) (w64_ok _)) rfl (Opd.func _) (Opds.cons _ _ _ _ (Opd.tmp _ _ rfl) (Opds.cons _ _ _ _ (Opd.const _) (Opds.cons _ _ _ _ (Opd.tmp _ _ rfl) Opds.nil))) rfl rfl (Lent.of rfl rfl (by repeat (first | exact trivial | refine ⟨⟨rfl, rfl, rfl, tL⟩, ?_⟩)) rfl) rfl rfl rfl rfl rfl) ?_
          refine Run.pure (dd := some 3) rfl rfl (op_assign rfl (Opd.tmp _ _ rfl)) ?_
          refine Run.nil (FinR.mk ?_)
          refine nK ?_
          refine s_reg rfl ?_
          refine Run.pure (dd := some 81) rfl rfl (op_move rfl (Opd.tmp _ _ rfl)) ?_
          refine Run.pure (dd := some 82) rfl rfl (op_add rfl (Opd.tmp _ _ rfl) (Opd.const _) tI) ?_
          refine Run.pure (dd := some 5) rfl rfl (op_assign rfl (Opd.tmp _ _ rfl)) ?_
          refine Run.nil (FinR.mk ?_)
          refine nK ?_
          refine Next.weakS [1, 3] [] (by rfl) (by first | exact keeps0 hC _ | exact keepsN hC _ rfl) (by repeat (first | exact trivial | refine ⟨⟨_, rfl, .inl ⟨rfl, rfl⟩⟩, ?_⟩ | refine ⟨⟨_, rfl, .inl ⟨slEq rfl tN, rfl⟩⟩, ?_⟩ | refine ⟨⟨_, rfl, .inl ⟨ivEq tX, rfl⟩⟩, ?_⟩)) (by repeat (first | exact trivial | refine ⟨ent_same rfl rfl rfl tL, ?_⟩ | refine ⟨ent_same rfl rfl (rfEq rfl tU) tL, ?_⟩ | refine ⟨ent_same rfl rfl (flEq rfl (by first | (simp; done) | (simp; omega) | (simp [encA, encH, encL, encU, encK, encV, encY]; done) | simp [maxC, minC])) trivial, ?_⟩)) rfl (hK1)
        · have hie : i = l.att.length := by simp at hb; omega
          rw [hie, List.take_length, ← e] at hc
          rw [← hc]
          refine nK ?_
          refine s_reg rfl ?_
          refine Run.pure (dd := some 121) rfl rfl (op_move rfl (Opd.tmp _ _ rfl)) ?_
          refine Run.pure (dd := some 2) rfl rfl (op_assign rfl (Opd.tmp _ _ rfl)) ?_
          refine Run.nil (FinR.mk ?_)
          refine nK ?_
          (first | exact s_o1 hC rfl tV | exact s_o2 hC rfl tV tV | exact s_o3 hC rfl tV tV tV | exact s_o4 hC rfl tV tV tV tV | exact s_out0 hC rfl | exact s_outO hC rfl rfl rfl)
    · have ht2 : ¬ l.h.ty = 2 := by simpa using hb
      refine nK ?_
      refine s_reg rfl ?_
      refine Run.pure (dd := some 92) rfl rfl (op_eql rfl (Opd.tmp _ _ rfl) (Opd.const _)) ?_
      refine Run.pure (dd := some 91) rfl rfl (op_assign rfl (Opd.tmp _ _ rfl)) ?_
      refine Run.nil (FinR.mk ?_)
      refine nK ?_
      refine n_cond _ rfl (fun hb => ?_) (fun hb => ?_)
      · have ht3 : l.h.ty = 3 := by simpa using hb
        have e : bodyB l = putB 4 (w64 l.co) := by unfold bodyB; rw [if_neg ht, if_neg ht2, if_pos (by omega)]
        rw [e, putB_len]
        refine nK ?_
        refine n_cond _ rfl (fun hb => ?_) (fun hb => ?_)
        · refine nK ?_
          refine s_reg rfl ?_
          refine Run.pure (dd := some 94) rfl rfl (op_move rfl (Opd.tmp _ _ rfl)) ?_
          refine Run.pure (dd := some 95) rfl rfl (op_fld_ptr (by decide) rfl (Opd.tmp _ _ rfl)) ?_
          refine Run.load (dd := some 96) rfl rfl (op_load1_flat rfl (Opd.tmp _ _ rfl) tH rfl) ?_
          refine Run.pure (dd := some 97) rfl rfl (op_convw rfl (Opd.tmp _ _ rfl)) ?_
          refine Run.eff (dd := some 98) rfl rfl (op_call (n := 1) (n' := 2) [1] (fun _ => put_c ([]) (0) 4 (w64 l.co) rfl (by omega) (by first | omega | (simp only [List.length_append, putB_len]; omega)) (w64_ok _)) rfl (Opd.func _) (Opds.cons _ _ _ _ (Opd.tmp _ _ rfl) (Opds.cons _ _ _ _ (Opd.const _) (Opds.cons _ _ _ _ (Opd.tmp _ _ rfl) Opds.nil))) rfl rfl (Lent.of rfl rfl (by repeat (first | exact trivial | refine ⟨⟨rfl, rfl, rfl, tL⟩, ?_⟩)) rfl) rfl rfl rfl rfl rfl) ?_
          refine Run.pure (dd := some 3) rfl rfl (op_assign rfl (Opd.tmp _ _ rfl)) ?_
          refine Run.nil (FinR.mk ?_)
          refine nK ?_
          refine s_reg rfl ?_
          refine Run.pure (dd := some 121) rfl rfl (op_move rfl (Opd.tmp _ _ rfl)) ?_
          refine Run.pure (dd := some 2) rfl rfl (op_assign rfl (Opd.tmp _ _ rfl)) ?_
          refine Run.nil (FinR.mk ?_)
          refine nK ?_
          (first | exact s_o1 hC rfl tV | exact s_o2 hC rfl tV tV | exact s_o3 hC rfl tV tV tV | exact s_o4 hC rfl tV tV tV tV | exact s_out0 hC rfl | exact s_outO hC rfl rfl rfl)
        · exfalso; simp at hb; omega
      · have ht3 : ¬ l.h.ty = 3 := by simpa using hb
        refine nK ?_
        refine s_reg rfl ?_
        refine Run.pure (dd := some 93) rfl rfl (op_eql rfl (Opd.tmp _ _ rfl) (Opd.const _)) ?_
        refine Run.pure (dd := some 91) rfl rfl (op_assign rfl (Opd.tmp _ _ rfl)) ?_
        refine Run.nil (FinR.mk ?_)
        refine nK ?_
        refine n_cond _ rfl (fun hb => ?_) (fun hb => ?_)
        · have ht3 : l.h.ty = 4 := by simpa using hb
          have e : bodyB l = putB 4 (w64 l.co) := by unfold bodyB; rw [if_neg ht, if_neg ht2, if_pos (by omega)]
          rw [e, putB_len]
          refine nK ?_
          refine s_reg rfl ?_
          refine Run.pure (dd := some 94) rfl rfl (op_move rfl (Opd.tmp _ _ rfl)) ?_
          refine Run.pure (dd := some 95) rfl rfl (op_fld_ptr (by decide) rfl (Opd.tmp _ _ rfl)) ?_
          refine Run.load (dd := some 96) rfl rfl (op_load1_flat rfl (Opd.tmp _ _ rfl) tH rfl) ?_
          refine Run.pure (dd := some 97) rfl rfl (op_convw rfl (Opd.tmp _ _ rfl)) ?_
          refine Run.eff (dd := some 98) rfl rfl (op_call (n := 1) (n' := 2) [1] (fun _ => put_c ([]) (0) 4 (w64 l.co) rfl (by omega) (by first | omega | (simp only [List.length_append, putB_len]; omega)) (w64_ok _)) rfl (Opd.func _) (Opds.cons _ _ _ _ (Opd.tmp _ _ rfl) (Opds.cons _ _ _ _ (Opd.const _) (Opds.cons _ _ _ _ (Opd.tmp _ _ rfl) Opds.nil))) rfl rfl (Lent.of rfl rfl (by repeat (first | exact trivial | refine ⟨⟨rfl, rfl, rfl, tL⟩, ?_⟩)) rfl) rfl rfl rfl rfl rfl) ?_
          refine Run.pure (dd := some 3) rfl rfl (op_assign rfl (Opd.tmp _ _ rfl)) ?_
          refine Run.nil (FinR.mk ?_)
          refine nK ?_
          refine s_reg rfl ?_
          refine Run.pure (dd := some 121) rfl rfl (op_move rfl (Opd.tmp _ _ rfl)) ?_
          refine Run.pure (dd := some 2) rfl rfl (op_assign rfl (Opd.tmp _ _ rfl)) ?_
          refine Run.nil (FinR.mk ?_)
          refine nK ?_
          (first | exact s_o1 hC rfl tV | exact s_o2 hC rfl tV tV | exact s_o3 hC rfl tV tV tV | exact s_o4 hC rfl tV tV tV tV | exact s_out0 hC rfl | exact s_outO hC rfl rfl rfl)
        · have ht4 : ¬ l.h.ty = 4 := by simpa using hb
          refine nK ?_
          refine s_reg rfl ?_
          refine Run.pure (dd := some 100) rfl rfl (op_eql rfl (Opd.tmp _ _ rfl) (Opd.const _)) ?_
          refine Run.pure (dd := some 99) rfl rfl (op_assign rfl (Opd.tmp _ _ rfl)) ?_
          refine Run.nil (FinR.mk ?_)
          refine nK ?_
          refine n_cond _ rfl (fun hb => ?_) (fun hb => ?_)
          · have ht5 : l.h.ty = 5 := by simpa using hb
            have e : bodyB l = putB 1 (flagI l.se false) ++ putB 4 (w64 l.co) ++ putB 4 (w64 l.fw) ++ putB 4 (w64 l.tg) := by unfold bodyB; rw [if_neg ht, if_neg ht2, if_neg (by omega), if_pos ht5]
            have el : (bodyB l).length = 13 := by rw [e]; simp [putB_len]
            rw [el, e]
            refine nK ?_
            refine s_reg rfl ?_
            refine Run.pure (dd := some 101) rfl rfl (op_move rfl (Opd.tmp _ _ rfl)) ?_
            refine Run.pure (dd := some 102) rfl rfl (op_fld_ptr (by decide) rfl (Opd.tmp _ _ rfl)) ?_
            refine Run.load (dd := some 103) rfl rfl (op_load1_flat rfl (Opd.tmp _ _ rfl) tH rfl) ?_
            refine Run.pure (dd := some 104) rfl rfl (op_call_pure (fun _ => flags_c _ _) rfl (Opd.func _) (Opds.cons _ _ _ _ (Opd.tmp _ _ rfl) (Opds.cons _ _ _ _ (Opd.const _) Opds.nil))) ?_
            refine Run.eff (dd := some 105) rfl rfl (op_call (n := 1) (n' := 2) [1] (fun _ => put_c ([]) (0) 1 (flagI l.se false) rfl (by omega) (by first | omega | (simp only [List.length_append, putB_len]; omega)) (flagI_ok _ _)) rfl (Opd.func _) (Opds.cons _ _ _ _ (Opd.tmp _ _ rfl) (Opds.cons _ _ _ _ (Opd.const _) (Opds.cons _ _ _ _ (Opd.tmp _ _ rfl) Opds.nil))) rfl rfl (Lent.of rfl rfl (by repeat (first | exact trivial | refine ⟨⟨rfl, rfl, rfl, tL⟩, ?_⟩)) rfl) rfl rfl rfl rfl rfl) ?_
            refine Run.pure (dd := some 3) rfl rfl (op_assign rfl (Opd.tmp _ _ rfl)) ?_
            refine Run.nil (FinR.mk ?_)
            refine nK ?_
            refine s_reg rfl ?_
            refine Run.pure (dd := some 106) rfl rfl (op_move rfl (Opd.tmp _ _ rfl)) ?_
            refine Run.pure (dd := some 107) rfl rfl (op_fld_ptr (by decide) rfl (Opd.tmp _ _ rfl)) ?_
            refine Run.load (dd := some 108) rfl rfl (op_load1_flat rfl (Opd.tmp _ _ rfl) tH rfl) ?_
            refine Run.pure (dd := some 109) rfl rfl (op_convw rfl (Opd.tmp _ _ rfl)) ?_
            refine Run.eff (dd := some 110) rfl rfl (op_call (n := 1) (n' := 2) [2] (fun _ => put_c (putB 1 (flagI l.se false)) (1) 4 (w64 l.co) (by simp [putB_len]) (by omega) (by first | omega | (simp only [List.length_append, putB_len]; omega)) (w64_ok _)) rfl (Opd.func _) (Opds.cons _ _ _ _ (Opd.tmp _ _ rfl) (Opds.cons _ _ _ _ (Opd.const _) (Opds.cons _ _ _ _ (Opd.tmp _ _ rfl) Opds.nil))) rfl rfl (Lent.of rfl rfl (by repeat (first | exact trivial | refine ⟨⟨rfl, rfl, rfl, tL⟩, ?_⟩)) rfl) rfl rfl rfl rfl rfl) ?_
            refine Run.pure (dd := some 3) rfl rfl (op_assign rfl (Opd.tmp _ _ rfl)) ?_
            refine Run.nil (FinR.mk ?_)
            refine nK ?_
            refine s_reg rfl ?_
            refine Run.pure (dd := some 111) rfl rfl (op_move rfl (Opd.tmp _ _ rfl)) ?_
            refine Run.pure (dd := some 112) rfl rfl (op_fld_ptr (by decide) rfl (Opd.tmp _ _ rfl)) ?_
            refine Run.load (dd := some 113) rfl rfl (op_load1_flat rfl (Opd.tmp _ _ rfl) tH rfl) ?_
            refine Run.pure (dd := some 114) rfl rfl (op_convw rfl (Opd.tmp _ _ rfl)) ?_
            refine Run.eff (dd := some 115) rfl rfl (op_call (n := 1) (n' := 2) [3] (fun _ => put_c (putB 1 (flagI l.se false) ++ putB 4 (w64 l.co)) (5) 4 (w64 l.fw) (by simp [putB_len]) (by omega) (by first | omega | (simp only [List.length_append, putB_len]; omega)) (w64_ok _)) rfl (Opd.func _) (Opds.cons _ _ _ _ (Opd.tmp _ _ rfl) (Opds.cons _ _ _ _ (Opd.const _) (Opds.cons _ _ _ _ (Opd.tmp _ _ rfl) Opds.nil))) rfl rfl (Lent.of rfl rfl (by repeat (first | exact trivial | refine ⟨⟨rfl, rfl, rfl, tL⟩, ?_⟩)) rfl) rfl rfl rfl rfl rfl) ?_
            refine Run.pure (dd := some 3) rfl rfl (op_assign rfl (Opd.tmp _ _ rfl)) ?_
            refine Run.nil (FinR.mk ?_)
            refine nK ?_
            refine s_reg rfl ?_
            refine Run.pure (dd := some 116) rfl rfl (op_move rfl (Opd.tmp _ _ rfl)) ?_
            refine Run.pure (dd := some 117) rfl rfl (op_fld_ptr (by decide) rfl (Opd.tmp _ _ rfl)) ?_
            refine Run.load (dd := some 118) rfl rfl (op_load1_flat rfl (Opd.tmp _ _ rfl) tH rfl) ?_
            refine Run.pure (dd := some 119) rfl rfl (op_convw rfl (Opd.tmp _ _ rfl)) ?_
            refine Run.eff (dd := some 120) rfl rfl (op_call (n := 1) (n' := 2) [4] (fun _ => put_c (putB 1 (flagI l.se false) ++ putB 4 (w64 l.co) ++ putB 4 (w64 l.fw)) (9) 4 (w64 l.tg) (by simp [putB_len]) (by omega) (by first | omega | (simp only [List.length_append, putB_len]; omega)) (w64_ok _)) rfl (Opd.func _) (Opds.cons _ _ _ _ (Opd.tmp _ _ rfl) (Opds.cons _ _ _ _ (Opd.const _) (Opds.cons _ _ _ _ (Opd.tmp _ _ rfl) Opds.nil))) rfl rfl (Lent.of rfl rfl (by repeat (first | exact trivial | refine ⟨⟨rfl, rfl, rfl, tL⟩, ?_⟩)) rfl) rfl rfl rfl rfl rfl) ?_
            refine Run.pure (dd := some 3) rfl rfl (op_assign rfl (Opd.tmp _ _ rfl)) ?_
            refine Run.nil (FinR.mk ?_)
            refine nK ?_
            refine s_reg rfl ?_
            refine Run.pure (dd := some 121) rfl rfl (op_move rfl (Opd.tmp _ _ rfl)) ?_
            refine Run.pure (dd := some 2) rfl rfl (op_assign rfl (Opd.tmp _ _ rfl)) ?_
            refine Run.nil (FinR.mk ?_)
            refine nK ?_
            (first | exact s_o1 hC rfl tV | exact s_o2 hC rfl tV tV | exact s_o3 hC rfl tV tV tV | exact s_o4 hC rfl tV tV tV tV | exact s_out0 hC rfl | exact s_outO hC rfl rfl rfl)
          · have ht5 : ¬ l.h.ty = 5 := by simpa using hb
            have e : bodyB l = [] := by unfold bodyB; rw [if_neg ht, if_neg ht2, if_neg (by omega), if_neg ht5]
            rw [e]
            refine nK ?_
            refine s_reg rfl ?_
            refine Run.pure (dd := some 121) rfl rfl (op_move rfl (Opd.tmp _ _ rfl)) ?_
            refine Run.pure (dd := some 2) rfl rfl (op_assign rfl (Opd.tmp _ _ rfl)) ?_
            refine Run.nil (FinR.mk ?_)
            refine nK ?_
            (first | exact s_o1 hC rfl tV | exact s_o2 hC rfl tV tV | exact s_o3 hC rfl tV tV tV | exact s_o4 hC rfl tV tV tV tV | exact s_out0 hC rfl | exact s_outO hC rfl rfl rfl)
end Go.Proofs.Ytdhkioocjgpocaa
