/- A part of the proof: A28, RT38, A29, A30, LA. -/
import Derived.Test.YtdhkioocjgpocaaZE
set_option linter.all false
namespace Go.Proofs.Ytdhkioocjgpocaa
open Go Go.RT Go.Proofs Go.Pl
set_option linter.all false
set_option maxRecDepth 20000
set_option maxHeartbeats 4000000
theorem build_c (db : List Lsa) (hn : db.length ≤ 400) (ho : ∀ x ∈ db, okA x) (hl : ∀ x ∈ db, x.ls.length ≤ 64 ∧ x.att.length ≤ 64) : Pure Try.prog 10 [VA db] (.tup [.agg (encR (buildF db).1), If .i64 (buildF db).2]) := by
  haveI : KEnc Try.prog 42 Int ekU (inr .u32) := kenc_int (by kernel_rfl)
  unfold buildF
  have hc1 := counted_c db 1 (by omega)
  have hc2 := counted_c db 2 (by omega)
  have hR : (cntL 1 db).length ≤ 400 := Nat.le_trans (cnt_len 1 db) hn
  have hN : (cntL 2 db).length ≤ 400 := Nat.le_trans (cnt_len 2 db) hn
  have hro : ∀ x ∈ cntL 1 db, okA x := fun x hx => ho x (List.mem_filter.1 hx).1
  have hno : ∀ x ∈ cntL 2 db, okA x := fun x hx => ho x (List.mem_filter.1 hx).1
  have hrl : ∀ x ∈ cntL 1 db, x.ls.length ≤ 64 ∧ x.att.length ≤ 64 := fun x hx => hl x (List.mem_filter.1 hx).1
  have hnl : ∀ x ∈ cntL 2 db, x.ls.length ≤ 64 ∧ x.att.length ≤ 64 := fun x hx => hl x (List.mem_filter.1 hx).1
  generalize cntL 1 db = rs at *
  generalize cntL 2 db = ns at *
  clear ho hl
  refine Meets.intro Try.func10 rfl (Nat.le_of_ble_eq_true rfl) fun C hC => ?_
  simp only [List.map, argEnv, Nat.reduceAdd]
  refine nK ?_
  refine s_reg rfl ?_
  refine Run.eff (dd := some 2) rfl rfl (op_alloc rfl rfl rfl rfl) ?_
  refine Run.pure (dd := some 3) rfl rfl (op_assign rfl (Opd.const _)) ?_
  refine Run.nil (FinR.mk ?_)
  refine nK ?_
  refine s_reg rfl ?_
  refine Run.pure (dd := some 23) rfl rfl (op_move rfl (Opd.tmp _ _ rfl)) ?_
  refine Run.pure (dd := some 24) rfl rfl (op_call_pure (fun _ => hc1) rfl (Opd.func _) (Opds.cons _ _ _ _ (Opd.tmp _ _ rfl) (Opds.cons _ _ _ _ (Opd.const _) Opds.nil))) ?_
  refine Run.pure (dd := some 25) rfl rfl (op_move rfl (Opd.tmp _ _ rfl)) ?_
  refine Run.pure (dd := some 26) rfl rfl (op_call_pure (fun _ => hc2) rfl (Opd.func _) (Opds.cons _ _ _ _ (Opd.tmp _ _ rfl) (Opds.cons _ _ _ _ (Opd.const _) Opds.nil))) ?_
  refine Run.pure (dd := some 4) rfl rfl (op_assign rfl (Opd.tmp _ _ rfl)) ?_
  refine Run.pure (dd := some 5) rfl rfl (op_assign rfl (Opd.tmp _ _ rfl)) ?_
  refine Run.nil (FinR.mk ?_)
  refine nK ?_
  refine s_reg rfl ?_
  refine Run.eff (dd := some 6) rfl rfl (op_allocP rfl rfl rfl rfl rfl) ?_
  refine Run.nil (FinR.mk ?_)
  refine nK ?_
  refine s_reg rfl ?_
  refine Run.eff (dd := some 27) rfl rfl (op_makeMap rfl) ?_
  refine Run.pure (dd := some 28) rfl rfl (op_buildP rfl rfl rfl rfl (FillP.cons _ _ _ _ _ _ _ _ _ _ (by rfl) (Opd.tmp _ _ rfl) tP (by rfl) tR (FillP.nil _))) ?_
  refine Run.eff (dd := some 29) rfl rfl (op_box_refs rfl (Opd.tmp _ _ rfl) tP rfl) ?_
  refine Run.pure (dd := some 7) rfl rfl (op_assign rfl (Opd.tmp _ _ rfl)) ?_
  refine Run.nil (FinR.mk ?_)
  refine nK ?_
  refine s_reg rfl ?_
  refine Run.eff (dd := some 30) rfl rfl (op_makeMap rfl) ?_
  refine Run.pure (dd := some 8) rfl rfl (op_assign rfl (Opd.tmp _ _ rfl)) ?_
  refine Run.nil (FinR.mk ?_)
  refine nK ?_
  refine Next.adoptCell 1 0 3 1 rfl rfl rfl rfl ?_
  refine Next.adoptCell 1 0 4 3 rfl rfl rfl rfl ?_
  refine Next.adoptCell 3 0 1 3 rfl rfl rfl rfl ?_
  refine nK ?_
  refine s_reg rfl ?_
  refine Run.pure (dd := some 31) rfl rfl (op_move rfl (Opd.tmp _ _ rfl)) ?_
  refine Run.pure (dd := some 32) rfl rfl (op_len_fz rfl (by first | exact Opd.tmp _ _ rfl | exact Opd.nil _ _ (Opd.tmp _ _ rfl)) (by first | exact List.length_map _ | rfl)) ?_
  refine Run.pure (dd := some 33) rfl rfl (op_move rfl (Opd.const _)) ?_
  refine Run.nil (FinR.mk ?_)
  refine nK ?_
  refine n_loop (ι := Nat × List (Int × Int) × List (Int × List (Int × Bool))) (fun p => ([(2, .ptr 0 5 0 0), (4, .fz (VA rs)), (5, .fz (VA ns)), (6, .ptr 1 5 0 0), (7, .ptr 3 2 0 0), (8, .mp 4), (31, .fz (VA rs)), (32, IV .i64 rs.length), (33, IV .i64 p.1)], [(0, OR zeroR), (1, some (.refs 5 [[IV .i64 0, IV .i64 0, .fz (.lit (.slice none 0 0)), .sl 5 1 0 p.1, .sl 6 3 0 0]])), (2, OMap ekU evI p.2.1), (3, some (.refs 2 [[.mp 2, .sl 7 3 0 0]])), (4, OMap ekU FPts p.2.2), (5, some (.flat 1 (((rs.take p.1).map fun l => l.h.rt).map encU))), (6, some (.flat 3 [])), (7, some (.flat 3 []))], 8)) (fun p => p.1 ≤ rs.length ∧ mOk p.2.1 ∧ mOk p.2.2 ∧ (∀ q ∈ p.2.1, inr .i64 q.2) ∧ (∀ q ∈ p.2.2, mOk q.2) ∧ nodesGo p.1 (rs.drop p.1) p.2.1 = nodesGo 0 rs [] ∧ towGo (rs.drop p.1) p.2.2 = towGo rs []) (fun p => rs.length - p.1) (0, [], []) ⟨Nat.zero_le _, mOk_nil, mOk_nil, by simp, by simp, rfl, rfl⟩ ?_ ?_
  · refine Next.weak [0, 1, 2, 3, 4, 5, 6, 7] [] (by rfl) (keeps0 hC _) (by repeat (first | exact trivial | refine ⟨⟨_, rfl, .inl ⟨rfl, rfl⟩⟩, ?_⟩ | refine ⟨⟨_, rfl, .inl ⟨slEq rfl tN, rfl⟩⟩, ?_⟩ | refine ⟨⟨_, rfl, .inl ⟨ivEq tX, rfl⟩⟩, ?_⟩)) (by exact ⟨⟨rfl, rfl, .fflat _ _ _ rfl tW⟩, ⟨ent_same rfl rfl rfl tL, ⟨ent_same rfl rfl rfl tL, ⟨ent_same rfl rfl rfl tL, ⟨ent_same rfl rfl rfl tL, ⟨ent_same rfl rfl rfl tL, ⟨ent_same rfl rfl rfl tL, ⟨ent_same rfl rfl rfl tL, trivial⟩⟩⟩⟩⟩⟩⟩⟩) (fun _ h => by simp at h) (rel_intro)
  · intro ⟨i, nm, tm⟩ ⟨hi, hm1, hm2, hm3, hm4, hS1, hS2⟩ K hK
    dsimp only at hi hm1 hm2 hm3 hm4 hS1 hS2 ⊢
    refine nK ?_
    refine s_reg rfl ?_
    refine Run.pure (dd := some 34) rfl rfl (op_lss rfl (Opd.tmp _ _ rfl) (Opd.tmp _ _ rfl)) ?_
    refine Run.nil (FinR.mk ?_)
    refine nK ?_
    refine n_cond _ rfl (fun hb => ?_) (fun hb => ?_)
    · have hlt : i < rs.length := by simp at hb; omega
      have hr1 := row_at' encA rs i hlt
      have hol := hro rs[i] (List.getElem_mem hlt)
      have hll := hrl rs[i] (List.getElem_mem hlt)
      have hpt := points_c rs[i] hol (by omega)
      have hkr : inr .u32 rs[i].h.rt := hol.1.2.2.2.1
      rw [nodes_step hlt] at hS1
      rw [tow_step hlt] at hS2
      have hK1 := fun (a : ∀ q ∈ mput nm rs[i].h.rt (i : Int), inr .i64 q.2) (b : ∀ q ∈ mput tm rs[i].h.rt (ptsM rs[i].ls), mOk q.2) => hK (i + 1, mput nm rs[i].h.rt (i : Int), mput tm rs[i].h.rt (ptsM rs[i].ls)) ⟨by dsimp only; omega, hm1.put hkr _, hm2.put hkr _, a, b, hS1, hS2⟩ (by dsimp only; omega)
      dsimp only at hK1
      have e5 : ((rs.take (i + 1)).map fun l => l.h.rt).map encU = ((rs.take i).map fun l => l.h.rt).map encU ++ [encU rs[i].h.rt] := by rw [List.take_succ_eq_append_getElem hlt, List.map_append, List.map_append]; rfl
      rw [e5] at hK1
      refine nK ?_
      refine s_reg rfl ?_
      refine Run.pure (dd := some 35) rfl rfl (op_move rfl (Opd.tmp _ _ rfl)) ?_
      refine Run.pure (dd := some 36) rfl rfl (op_idx_fz _ rfl (Opd.tmp _ _ rfl) (Opd.tmp _ _ rfl) tF) ?_
      refine Run.pure (dd := some 37) rfl rfl (op_loadw_fz rfl (Opd.tmp _ _ rfl) rfl) ?_
      refine Run.eff (dd := some 10) rfl rfl (op_alloc rfl rfl rfl rfl) ?_
      refine Run.pure (dd := some 9) rfl rfl (op_assign rfl (Opd.tmp _ _ rfl)) ?_
      refine Run.eff (dd := none) rfl rfl (op_store_flat rfl (Opd.tmp _ _ rfl) (Opd.tmp _ _ rfl) tC rfl rfl (by first | rfl | assumption) tS) ?_
      refine Run.nil (FinR.mk ?_)
      refine nK ?_
      refine s_reg rfl ?_
      refine Run.pure (dd := some 38) rfl rfl (op_fld_ptr (by decide) rfl (Opd.tmp _ _ rfl)) ?_
      refine Run.load (dd := some 39) rfl rfl (op_load1_refs rfl (Opd.tmp _ _ rfl) tH rfl) ?_
      refine Run.pure (dd := some 40) rfl rfl (op_fld_ptr (by decide) rfl (Opd.tmp _ _ rfl)) ?_
      refine Run.pure (dd := some 41) rfl rfl (op_fld_ptr (by decide) rfl (Opd.tmp _ _ rfl)) ?_
      refine Run.load (dd := some 42) rfl rfl (op_load1_flat rfl (Opd.tmp _ _ rfl) tH rfl) ?_
      refine Run.pure (dd := some 43) rfl rfl (op_buildSlice_fz rfl (RowsF.cons _ _ _ _ _ _ (Opd.tmp _ _ rfl) tC (by rfl) (RowsF.nil _)) rfl rfl) ?_
      refine Run.eff (dd := some 44) rfl rfl (op_append rfl (Opd.tmp _ _ rfl) (Opd.tmp _ _ rfl) rfl (by simp; omega) rfl rfl tB tB) ?_
      refine Run.pure (dd := some 45) rfl rfl (op_fld_ptr (by decide) rfl (Opd.tmp _ _ rfl)) ?_
      refine Run.eff (dd := none) rfl rfl (op_store_refs rfl (Opd.tmp _ _ rfl) (Opd.tmp _ _ rfl) tP rfl rfl rfl tS) ?_
      refine Run.nil (FinR.mk ?_)
      refine nK ?_
      refine s_draw mixed ?_
      refine Run.pure (dd := some 46) rfl rfl (op_move rfl (Opd.tmp _ _ rfl)) ?_
      refine Run.pure (dd := some 47) rfl rfl (op_nilck_ptr rfl (Opd.tmp _ _ rfl)) ?_
      refine Run.pure (dd := some 48) rfl rfl (op_fld_ptr (by decide) rfl (Opd.tmp _ _ rfl)) ?_
      refine Run.load (dd := some 49) rfl rfl (op_load1_refs rfl (Opd.tmp _ _ rfl) tH rfl) ?_
      refine Run.pure (dd := some 50) rfl rfl (op_fld_ptr (by decide) rfl (Opd.tmp _ _ rfl)) ?_
      refine Run.pure (dd := some 51) rfl rfl (op_fld_ptr (by decide) rfl (Opd.tmp _ _ rfl)) ?_
      refine Run.load (dd := some 52) rfl rfl (op_load1_flat rfl (Opd.tmp _ _ rfl) tH rfl) ?_
      refine Run.pure (dd := some 53) rfl rfl (op_move rfl (Opd.tmp _ _ rfl)) ?_
      refine Run.effW (dd := none) rfl rfl (op_mapPut (κ := Int) (ν := Int) (ek := ekU) (ev := evI) (l := nm) (k := rs[i].h.rt) (v := (i : Int)) (.inl rfl) (Opd.tmp _ _ rfl) (Opd.tmp _ _ rfl) (Opd.tmp _ _ rfl) rfl hm1.1 hm1.2 hkr) tE ?_
      refine Run.nil (FinD.mk (by kernel_rfl) ?_)
      refine nK ?_
      refine s_draw mixed ?_
      refine Run.pure (dd := some 54) rfl rfl (op_move rfl (Opd.tmp _ _ rfl)) ?_
      refine Run.pure (dd := some 55) rfl rfl (op_fld_ptr (by decide) rfl (Opd.tmp _ _ rfl)) ?_
      refine Run.pure (dd := some 56) rfl rfl (op_fld_ptr (by decide) rfl (Opd.tmp _ _ rfl)) ?_
      refine Run.load (dd := some 57) rfl rfl (op_load1_flat rfl (Opd.tmp _ _ rfl) tH rfl) ?_
      refine Run.load (dd := some 58) rfl rfl (op_loadw_flat rfl (Opd.tmp _ _ rfl) tH rfl) ?_
      refine Run.pure (dd := some 59) rfl rfl (op_call_pure (fun _ => hpt) rfl (Opd.func _) (Opds.cons _ _ _ _ (Opd.tmp _ _ rfl) Opds.nil)) ?_
      refine Run.effW (dd := none) rfl rfl (op_mapPut (κ := Int) (ν := List (Int × Bool)) (ek := ekU) (ev := FPts) (l := tm) (k := rs[i].h.rt) (v := ptsM rs[i].ls) (.inl rfl) (Opd.tmp _ _ rfl) (Opd.tmp _ _ rfl) (Opd.tmp _ _ rfl) rfl hm2.1 hm2.2 hkr) tE ?_
      refine Run.nil (FinD.mk (by kernel_rfl) ?_)
      refine nK ?_
      refine s_reg rfl ?_
      refine Run.pure (dd := some 60) rfl rfl (op_add rfl (Opd.tmp _ _ rfl) (Opd.const _) tI) ?_
      refine Run.pure (dd := some 33) rfl rfl (op_move rfl (Opd.tmp _ _ rfl)) ?_
      refine Run.nil (FinR.mk ?_)
      refine nK ?_
      refine Next.weak [0, 1, 2, 3, 4, 9, 6, 7] [] (by rfl) (keeps0 hC _) (by repeat (first | exact trivial | refine ⟨⟨_, rfl, .inl ⟨rfl, rfl⟩⟩, ?_⟩ | refine ⟨⟨_, rfl, .inl ⟨slEq rfl tN, rfl⟩⟩, ?_⟩ | refine ⟨⟨_, rfl, .inl ⟨ivEq tX, rfl⟩⟩, ?_⟩)) (by exact ⟨ent_same rfl rfl rfl tL, ⟨ent_same rfl rfl rfl tL, ⟨ent_same rfl rfl rfl tL, ⟨ent_same rfl rfl rfl tL, ⟨ent_same rfl rfl rfl tL, ⟨ent_same rfl rfl rfl tL, ⟨ent_same rfl rfl rfl tL, ⟨ent_same rfl rfl rfl tL, trivial⟩⟩⟩⟩⟩⟩⟩⟩) (fun _ h => by simp at h) (hK1 ?_ ?_)
      · intro q hq
        rcases mput_vals _ _ _ _ hq with e | e
        · rw [e]; simp only [inr]; omega
        · exact hm3 q e
      · intro q hq
        rcases mput_vals _ _ _ _ hq with e | e
        · rw [e]; exact pts_ok _ _ hol.2.1 mOk_nil
        · exact hm4 q e
    · have hie : i = rs.length := by simp at hb; omega
      subst hie
      rw [List.drop_length] at hS1 hS2
      have hS1' : nm = nodesGo 0 rs [] := hS1
      have hS2' : tm = towGo rs [] := hS2
      rw [List.take_length]
      unfold buildG edgesG
      rw [← hS1', ← hS2']
      clear hK hS1 hS2 hS1' hS2'
      refine nK ?_
      refine s_reg rfl ?_
      refine Run.pure (dd := some 61) rfl rfl (op_move rfl (Opd.tmp _ _ rfl)) ?_
      refine Run.pure (dd := some 62) rfl rfl (op_len_fz rfl (by first | exact Opd.tmp _ _ rfl | exact Opd.nil _ _ (Opd.tmp _ _ rfl)) (by first | exact List.length_map _ | rfl)) ?_
      refine Run.pure (dd := some 63) rfl rfl (op_move rfl (Opd.const _)) ?_
      refine Run.nil (FinR.mk ?_)
      refine nK ?_
      refine n_loop (ι := Nat) (fun j => ([(2, .ptr 0 5 0 0), (4, .fz (VA rs)), (5, .fz (VA ns)), (6, .ptr 1 5 0 0), (7, .ptr 3 2 0 0), (8, .mp 4), (61, .fz (VA ns)), (62, IV .i64 ns.length), (63, IV .i64 j)], [(0, OR zeroR), (1, some (.refs 5 [[IV .i64 0, IV .i64 0, .fz (.lit (.slice none 0 0)), .sl 5 1 0 rs.length, .sl 6 3 0 j]])), (2, OMap ekU evI nm), (3, some (.refs 2 [[.mp 2, .sl 7 3 0 0]])), (4, OMap ekU FPts tm), (5, some (.flat 1 ((rs.map fun l => l.h.rt).map encU))), (6, some (.flat 3 (((ns.take j).map netOf).map encV))), (7, some (.flat 3 []))], 8)) (fun j => j ≤ ns.length) (fun j => ns.length - j) 0 (Nat.zero_le _) ?_ ?_
      · refine Next.weak [0, 1, 2, 3, 4, 5, 6, 7] [] (by rfl) (keeps0 hC _) (by repeat (first | exact trivial | refine ⟨⟨_, rfl, .inl ⟨rfl, rfl⟩⟩, ?_⟩ | refine ⟨⟨_, rfl, .inl ⟨slEq rfl tN, rfl⟩⟩, ?_⟩ | refine ⟨⟨_, rfl, .inl ⟨ivEq tX, rfl⟩⟩, ?_⟩)) (by exact ⟨ent_same rfl rfl rfl tL, ⟨ent_same rfl rfl rfl tL, ⟨ent_same rfl rfl rfl tL, ⟨ent_same rfl rfl rfl tL, ⟨ent_same rfl rfl rfl tL, ⟨ent_same rfl rfl rfl tL, ⟨ent_same rfl rfl rfl tL, ⟨ent_same rfl rfl rfl tL, trivial⟩⟩⟩⟩⟩⟩⟩⟩) (fun _ h => by simp at h) (rel_intro)
      · intro j hj K hK
        refine nK ?_
        refine s_reg rfl ?_
        refine Run.pure (dd := some 64) rfl rfl (op_lss rfl (Opd.tmp _ _ rfl) (Opd.tmp _ _ rfl)) ?_
        refine Run.nil (FinR.mk ?_)
        refine nK ?_
        refine n_cond _ rfl (fun hb => ?_) (fun hb => ?_)
        · have hlt : j < ns.length := by simp at hb; omega
          have hr1 := row_at' encA ns j hlt
          have hK1 := hK (j + 1) (by omega) (by omega)
          dsimp only at hK1
          have e5 : ((ns.take (j + 1)).map netOf).map encV = ((ns.take j).map netOf).map encV ++ [encV (netOf ns[j])] := by rw [List.take_succ_eq_append_getElem hlt, List.map_append, List.map_append]; rfl
          rw [e5] at hK1
          refine nK ?_
          refine s_reg rfl ?_
          refine Run.pure (dd := some 65) rfl rfl (op_idx_fz _ rfl (Opd.tmp _ _ rfl) (Opd.tmp _ _ rfl) tF) ?_
          refine Run.pure (dd := some 66) rfl rfl (op_loadw_fz rfl (Opd.tmp _ _ rfl) rfl) ?_
          refine Run.eff (dd := some 12) rfl rfl (op_alloc rfl rfl rfl rfl) ?_
          refine Run.eff (dd := none) rfl rfl (op_store_flat rfl (Opd.tmp _ _ rfl) (Opd.tmp _ _ rfl) tC rfl rfl (by first | rfl | assumption) tS) ?_
          refine Run.nil (FinR.mk ?_)
          refine nK ?_
          refine s_reg rfl ?_
          refine Run.pure (dd := some 67) rfl rfl (op_fld_ptr (by decide) rfl (Opd.tmp _ _ rfl)) ?_
          refine Run.load (dd := some 68) rfl rfl (op_load1_refs rfl (Opd.tmp _ _ rfl) tH rfl) ?_
          refine Run.pure (dd := some 69) rfl rfl (op_fld_ptr (by decide) rfl (Opd.tmp _ _ rfl)) ?_
          refine Run.pure (dd := some 70) rfl rfl (op_fld_ptr (by decide) rfl (Opd.tmp _ _ rfl)) ?_
          refine Run.load (dd := some 71) rfl rfl (op_load1_flat rfl (Opd.tmp _ _ rfl) tH rfl) ?_
          refine Run.pure (dd := some 72) rfl rfl (op_fld_ptr (by decide) rfl (Opd.tmp _ _ rfl)) ?_
          refine Run.pure (dd := some 73) rfl rfl (op_fld_ptr (by decide) rfl (Opd.tmp _ _ rfl)) ?_
          refine Run.load (dd := some 74) rfl rfl (op_load1_flat rfl (Opd.tmp _ _ rfl) tH rfl) ?_
          refine Run.pure (dd := some 75) rfl rfl (op_fld_ptr (by decide) rfl (Opd.tmp _ _ rfl)) ?_
          refine Run.pure (dd := some 76) rfl rfl (op_fld_ptr (by decide) rfl (Opd.tmp _ _ rfl)) ?_
          refine Run.load (dd := some 77) rfl rfl (op_load1_flat rfl (Opd.tmp _ _ rfl) tH rfl) ?_
          refine Run.pure (dd := some 78) rfl rfl (op_build rfl rfl rfl (FillF.cons _ _ _ _ _ _ _ _ _ _ (by rfl) (Opd.tmp _ _ rfl) tC (by rfl) tR (FillF.cons _ _ _ _ _ _ _ _ _ _ (by rfl) (Opd.tmp _ _ rfl) tC (by rfl) tR (FillF.cons _ _ _ _ _ _ _ _ _ _ (by rfl) (Opd.tmp _ _ rfl) tC (by rfl) tR (FillF.nil _))))) ?_
          refine Run.pure (dd := some 79) rfl rfl (op_buildSlice_fz rfl (RowsF.cons _ _ _ _ _ _ (Opd.tmp _ _ rfl) tC (by rfl) (RowsF.nil _)) rfl rfl) ?_
          refine Run.eff (dd := some 80) rfl rfl (op_append rfl (Opd.tmp _ _ rfl) (Opd.tmp _ _ rfl) rfl (by simp; omega) rfl rfl tB tB) ?_
          refine Run.pure (dd := some 81) rfl rfl (op_fld_ptr (by decide) rfl (Opd.tmp _ _ rfl)) ?_
          refine Run.eff (dd := none) rfl rfl (op_store_refs rfl (Opd.tmp _ _ rfl) (Opd.tmp _ _ rfl) tP rfl rfl rfl tS) ?_
          refine Run.nil (FinR.mk ?_)
          refine nK ?_
          refine s_reg rfl ?_
          refine Run.pure (dd := some 82) rfl rfl (op_add rfl (Opd.tmp _ _ rfl) (Opd.const _) tI) ?_
          refine Run.pure (dd := some 63) rfl rfl (op_move rfl (Opd.tmp _ _ rfl)) ?_
          refine Run.nil (FinR.mk ?_)
          refine nK ?_
          refine Next.weak [0, 1, 2, 3, 4, 5, 9, 7] [] (by rfl) (keeps0 hC _) (by repeat (first | exact trivial | refine ⟨⟨_, rfl, .inl ⟨rfl, rfl⟩⟩, ?_⟩ | refine ⟨⟨_, rfl, .inl ⟨slEq rfl tN, rfl⟩⟩, ?_⟩ | refine ⟨⟨_, rfl, .inl ⟨ivEq tX, rfl⟩⟩, ?_⟩)) (by exact ⟨ent_same rfl rfl rfl tL, ⟨ent_same rfl rfl rfl tL, ⟨ent_same rfl rfl rfl tL, ⟨ent_same rfl rfl rfl tL, ⟨ent_same rfl rfl rfl tL, ⟨ent_same rfl rfl rfl tL, ⟨ent_same rfl rfl rfl tL, ⟨ent_same rfl rfl rfl tL, trivial⟩⟩⟩⟩⟩⟩⟩⟩) (fun _ h => by simp at h) hK1
        · have hie : j = ns.length := by simp at hb; omega
          subst hie
          rw [List.take_length]
          clear hK
          have hEl : (rowE nm tm rs.length ns 0 rs).length ≤ rs.length * 51200 := rowE_len hN rs 0 (fun x hx => (hrl x hx).1)
          have hEl2 : rs.length * 51200 ≤ 400 * 51200 := Nat.mul_le_mul_right _ hR
          generalize hE : rowE nm tm rs.length ns 0 rs = E at *
          refine nK ?_
          refine s_reg rfl ?_
          refine Run.pure (dd := some 83) rfl rfl (op_move rfl (Opd.tmp _ _ rfl)) ?_
          refine Run.pure (dd := some 84) rfl rfl (op_len_fz rfl (by first | exact Opd.tmp _ _ rfl | exact Opd.nil _ _ (Opd.tmp _ _ rfl)) (by first | exact List.length_map _ | rfl)) ?_
          refine Run.pure (dd := some 85) rfl rfl (op_move rfl (Opd.const _)) ?_
          refine Run.nil (FinR.mk ?_)
          refine nK ?_
          refine n_loop (ι := Nat × List Edg) (fun p => ([(2, .ptr 0 5 0 0), (4, .fz (VA rs)), (5, .fz (VA ns)), (6, .ptr 1 5 0 0), (7, .ptr 3 2 0 0), (8, .mp 4), (83, .fz (VA rs)), (84, IV .i64 rs.length), (85, IV .i64 p.1)], [(0, OR zeroR), (1, some (.refs 5 [[IV .i64 0, IV .i64 0, .fz (.lit (.slice none 0 0)), .sl 5 1 0 rs.length, .sl 6 3 0 ns.length]])), (2, OMap ekU evI nm), (3, some (.refs 2 [[.mp 2, .sl 7 3 0 p.2.length]])), (4, OMap ekU FPts tm), (5, some (.flat 1 ((rs.map fun l => l.h.rt).map encU))), (6, some (.flat 3 ((ns.map netOf).map encV))), (7, OE p.2)], 8)) (fun p => p.1 ≤ rs.length ∧ p.2 ++ rowE nm tm rs.length ns p.1 (rs.drop p.1) = E) (fun p => rs.length - p.1) (0, []) ⟨Nat.zero_le _, hE⟩ ?_ ?_
          · refine Next.weak [0, 1, 2, 3, 4, 5, 6, 7] [] (by rfl) (keeps0 hC _) (by repeat (first | exact trivial | refine ⟨⟨_, rfl, .inl ⟨rfl, rfl⟩⟩, ?_⟩ | refine ⟨⟨_, rfl, .inl ⟨slEq rfl tN, rfl⟩⟩, ?_⟩ | refine ⟨⟨_, rfl, .inl ⟨ivEq tX, rfl⟩⟩, ?_⟩)) (by exact ⟨ent_same rfl rfl rfl tL, ⟨ent_same rfl rfl rfl tL, ⟨ent_same rfl rfl rfl tL, ⟨ent_same rfl rfl rfl tL, ⟨ent_same rfl rfl rfl tL, ⟨ent_same rfl rfl rfl tL, ⟨ent_same rfl rfl rfl tL, ⟨ent_same rfl rfl rfl tL, trivial⟩⟩⟩⟩⟩⟩⟩⟩) (fun _ h => by simp at h) (rel_intro)
          · intro ⟨i, es⟩ ⟨hi, hS⟩ K hK
            dsimp only at hi hS ⊢
            refine nK ?_
            refine s_reg rfl ?_
            refine Run.pure (dd := some 86) rfl rfl (op_lss rfl (Opd.tmp _ _ rfl) (Opd.tmp _ _ rfl)) ?_
            refine Run.nil (FinR.mk ?_)
            refine nK ?_
            refine n_cond _ rfl (fun hb => ?_) (fun hb => ?_)
            · have hlt : i < rs.length := by simp at hb; omega
              have hr1 := row_at' encA rs i hlt
              have hll := hrl rs[i] (List.getElem_mem hlt)
              have hol := hro rs[i] (List.getElem_mem hlt)
              rw [row_step hlt, ← List.append_assoc] at hS
              have hK1 := fun es' h => hK (i + 1, es') ⟨by dsimp only; omega, h⟩ (by dsimp only; omega)
              dsimp only at hK1
              generalize rs[i] = l at *
              have hkr : inr .u32 l.h.rt := hol.1.2.2.2.1
              generalize hM : es ++ l.ls.flatMap (lnkE nm tm rs.length ns i l.h.rt) = M at *
              have hMl : M.length ≤ 40000000 - 10 := by have := congrArg List.length hS; simp at this; omega
              refine nK ?_
              refine s_reg rfl ?_
              refine Run.pure (dd := some 87) rfl rfl (op_move rfl (Opd.tmp _ _ rfl)) ?_
              refine Run.pure (dd := some 88) rfl rfl (op_idx_fz _ rfl (Opd.tmp _ _ rfl) (Opd.tmp _ _ rfl) tF) ?_
              refine Run.pure (dd := some 89) rfl rfl (op_loadw_fz rfl (Opd.tmp _ _ rfl) rfl) ?_
              refine Run.eff (dd := some 14) rfl rfl (op_alloc rfl rfl rfl rfl) ?_
              refine Run.pure (dd := some 13) rfl rfl (op_assign rfl (Opd.tmp _ _ rfl)) ?_
              refine Run.eff (dd := none) rfl rfl (op_store_flat rfl (Opd.tmp _ _ rfl) (Opd.tmp _ _ rfl) tC rfl rfl (by first | rfl | assumption) tS) ?_
              refine Run.nil (FinR.mk ?_)
              refine nK ?_
              refine s_reg rfl ?_
              refine Run.pure (dd := some 90) rfl rfl (op_fld_ptr (by decide) rfl (Opd.tmp _ _ rfl)) ?_
              refine Run.load (dd := some 91) rfl rfl (op_load1_flat rfl (Opd.tmp _ _ rfl) tH rfl) ?_
              refine Run.pure (dd := some 92) rfl rfl (op_len_fz rfl (by first | exact Opd.tmp _ _ rfl | exact Opd.nil _ _ (Opd.tmp _ _ rfl)) (by first | exact List.length_map _ | rfl)) ?_
              refine Run.pure (dd := some 93) rfl rfl (op_move rfl (Opd.const _)) ?_
              refine Run.nil (FinR.mk ?_)
              refine nK ?_
              refine n_loop (ι := Nat × List Edg) (fun p => ([(2, .ptr 0 5 0 0), (4, .fz (VA rs)), (5, .fz (VA ns)), (6, .ptr 1 5 0 0), (7, .ptr 3 2 0 0), (8, .mp 4), (83, .fz (VA rs)), (84, IV .i64 rs.length), (85, IV .i64 i), (13, IV .i64 i), (14, .ptr 8 15 0 0), (91, .fz (VL l.ls)), (92, IV .i64 l.ls.length), (93, IV .i64 p.1)], [(0, OR zeroR), (1, some (.refs 5 [[IV .i64 0, IV .i64 0, .fz (.lit (.slice none 0 0)), .sl 5 1 0 rs.length, .sl 6 3 0 ns.length]])), (2, OMap ekU evI nm), (3, some (.refs 2 [[.mp 2, .sl 7 3 0 p.2.length]])), (4, OMap ekU FPts tm), (5, some (.flat 1 ((rs.map fun l => l.h.rt).map encU))), (6, some (.flat 3 ((ns.map netOf).map encV))), (7, OE p.2), (8, OA l)], 9)) (fun p => p.1 ≤ l.ls.length ∧ p.2 ++ (l.ls.drop p.1).flatMap (lnkE nm tm rs.length ns i l.h.rt) = M) (fun p => l.ls.length - p.1) (0, es) ⟨Nat.zero_le _, hM⟩ ?_ ?_
              · refine Next.weak [0, 1, 2, 3, 4, 5, 6, 7, 8] [] (by rfl) (keeps0 hC _) (by repeat (first | exact trivial | refine ⟨⟨_, rfl, .inl ⟨rfl, rfl⟩⟩, ?_⟩ | refine ⟨⟨_, rfl, .inl ⟨slEq rfl tN, rfl⟩⟩, ?_⟩ | refine ⟨⟨_, rfl, .inl ⟨ivEq tX, rfl⟩⟩, ?_⟩)) (by exact ⟨ent_same rfl rfl rfl tL, ⟨ent_same rfl rfl rfl tL, ⟨ent_same rfl rfl rfl tL, ⟨ent_same rfl rfl rfl tL, ⟨ent_same rfl rfl rfl tL, ⟨ent_same rfl rfl rfl tL, ⟨ent_same rfl rfl rfl tL, ⟨ent_same rfl rfl rfl tL, ⟨ent_same rfl rfl rfl tL, trivial⟩⟩⟩⟩⟩⟩⟩⟩⟩) (fun _ h => by simp at h) (rel_intro)
              · intro ⟨j, ec⟩ ⟨hj, hT⟩ K2 hK2
                dsimp only at hj hT ⊢
                refine nK ?_
                refine s_reg rfl ?_
                refine Run.pure (dd := some 94) rfl rfl (op_lss rfl (Opd.tmp _ _ rfl) (Opd.tmp _ _ rfl)) ?_
                refine Run.nil (FinR.mk ?_)
                refine nK ?_
                refine n_cond _ rfl (fun hb => ?_) (fun hb => ?_)
                · have hlt2 : j < l.ls.length := by simp at hb; omega
                  have hr2 := row_at' encL l.ls j hlt2
                  have hox := hol.2.1 l.ls[j] (List.getElem_mem hlt2)
                  rw [flatMap_step _ hlt2, ← List.append_assoc] at hT
                  have hK3 := fun es' h => hK2 (j + 1, es') ⟨by dsimp only; omega, h⟩ (by dsimp only; omega)
                  dsimp only at hK3
                  generalize l.ls[j] = x at *
                  have hkx : inr .u32 x.id := hox.2.1
                  have hpm : mOk ((mget tm x.id).getD []) := by
                    cases hg : mget tm x.id with
                    | none => exact mOk_nil
                    | some v => exact hm4 _ (mget_mem hg)
                  have hTl : (ec ++ lnkE nm tm rs.length ns i l.h.rt x).length ≤ 40000000 - 10 := by have := congrArg List.length hT; simp at this ⊢; omega
                  have hLE : lnkE nm tm rs.length ns i l.h.rt x = lnkE nm tm rs.length ns i l.h.rt x := rfl
                  conv at hLE => rhs; unfold lnkE
                  refine nK ?_
                  refine s_reg rfl ?_
                  refine Run.pure (dd := some 95) rfl rfl (op_idx_fz _ rfl (Opd.tmp _ _ rfl) (Opd.tmp _ _ rfl) tF) ?_
                  refine Run.pure (dd := some 96) rfl rfl (op_loadw_fz rfl (Opd.tmp _ _ rfl) rfl) ?_
                  refine Run.eff (dd := some 16) rfl rfl (op_alloc rfl rfl rfl rfl) ?_
                  refine Run.eff (dd := none) rfl rfl (op_store_flat rfl (Opd.tmp _ _ rfl) (Opd.tmp _ _ rfl) tC rfl rfl (by first | rfl | assumption) tS) ?_
                  refine Run.nil (FinR.mk ?_)
                  refine nK ?_
                  refine s_draw mixed ?_
                  refine Run.pure (dd := some 98) rfl rfl (op_move rfl (Opd.tmp _ _ rfl)) ?_
                  refine Run.pure (dd := some 99) rfl rfl (op_nilck_ptr rfl (Opd.tmp _ _ rfl)) ?_
                  refine Run.pure (dd := some 100) rfl rfl (op_fld_ptr (by decide) rfl (Opd.tmp _ _ rfl)) ?_
                  refine Run.load (dd := some 101) rfl rfl (op_load1_refs rfl (Opd.tmp _ _ rfl) tH rfl) ?_
                  refine Run.pure (dd := some 102) rfl rfl (op_fld_ptr (by decide) rfl (Opd.tmp _ _ rfl)) ?_
                  refine Run.load (dd := some 103) rfl rfl (op_load1_flat rfl (Opd.tmp _ _ rfl) tH rfl) ?_
                  refine Run.load (dd := some 104) rfl rfl (op_lookup2 (κ := Int) (ν := Int) (ek := ekU) (ev := evI) (l := nm) (k := x.id) 0 rfl (Opd.tmp _ _ rfl) (Opd.tmp _ _ rfl) rfl (by intro _; exact ⟨hm1.1, hm1.2, hkx⟩) (fun w S => .lit _)) ?_
                  refine Run.pure (dd := some 97) rfl rfl (op_move rfl (Opd.tmp _ _ rfl)) ?_
                  refine Run.pure (dd := some 105) rfl rfl (op_extract_fz rfl (Opd.tmp _ _ rfl) rfl) ?_
                  refine Run.pure (dd := some 106) rfl rfl (op_extract_fz rfl (Opd.tmp _ _ rfl) rfl) ?_
                  refine Run.pure (dd := some 17) rfl rfl (op_assign rfl (Opd.tmp _ _ rfl)) ?_
                  refine Run.pure (dd := some 18) rfl rfl (op_assign rfl (Opd.tmp _ _ rfl)) ?_
                  refine Run.nil (FinD.mk (by kernel_rfl) ?_)
                  refine nK ?_
                  refine s_reg rfl ?_
                  refine Run.pure (dd := some 108) rfl rfl (op_fld_ptr (by decide) rfl (Opd.tmp _ _ rfl)) ?_
                  refine Run.load (dd := some 109) rfl rfl (op_load1_flat rfl (Opd.tmp _ _ rfl) tH rfl) ?_
                  refine Run.pure (dd := some 110) rfl rfl (op_eql rfl (Opd.tmp _ _ rfl) (Opd.const _)) ?_
                  refine Run.pure (dd := some 111) rfl rfl (op_move rfl (Opd.tmp _ _ rfl)) ?_
                  refine Run.pureG (dd := some 112) rfl rfl rfl tG (op_move rfl (Opd.tmp _ _ rfl)) ?_
                  refine Run.pure (dd := some 113) rfl rfl (op_pick_and rfl (Opd.tmp _ _ rfl) (Opd.topt _ _ _ rfl tO)) ?_
                  refine Run.pure (dd := some 114) rfl rfl (op_move rfl (Opd.tmp _ _ rfl)) ?_
                  refine Run.pureG (dd := some 115) rfl rfl rfl tG (op_move rfl (Opd.tmp _ _ rfl)) ?_
                  refine Run.pureG (dd := some 116) rfl rfl rfl tG (op_fld_ptr (by decide) rfl (Opd.tmp _ _ rfl)) ?_
                  refine Run.loadG (dd := some 117) rfl rfl rfl tG (op_load1_flat rfl (Opd.topt _ _ _ rfl tO) tH rfl) ?_
                  refine Run.loadG (dd := some 118) rfl rfl rfl tG (op_lookup (κ := Int) (ν := List (Int × Bool)) (ek := ekU) (ev := FPts) (l := tm) (k := x.id) [] rfl (Opd.topt _ _ _ rfl tO) (Opd.topt _ _ _ rfl tO) rfl (by intro _; exact ⟨hm2.1, hm2.2, hkx⟩) (fun w S => .mapn)) ?_
                  refine Run.pureG (dd := some 119) rfl rfl rfl tG (op_fld_ptr (by decide) rfl (Opd.tmp _ _ rfl)) ?_
                  refine Run.pureG (dd := some 120) rfl rfl rfl tG (op_fld_ptr (by decide) rfl (Opd.topt _ _ _ rfl tO)) ?_
                  refine Run.loadG (dd := some 121) rfl rfl rfl tG (op_load1_flat rfl (Opd.topt _ _ _ rfl tO) tH rfl) ?_
                  refine Run.pureG (dd := some 122) rfl rfl rfl tG (op_lookupF (κ := Int) (ν := Bool) (ek := ekU) (ev := Bf) (l := (mget tm x.id).getD []) (k := l.h.rt) false rfl (Opd.topt _ _ _ rfl tO) (Opd.topt _ _ _ rfl tO) (by intro _; exact ⟨hpm.1, hpm.2, hkr⟩) (fun w S => .lit _)) ?_
                  refine Run.pure (dd := some 123) rfl rfl (op_pick_and rfl (Opd.tmp _ _ rfl) (Opd.topt _ _ _ rfl tO)) ?_
                  refine Run.pure (dd := some 107) rfl rfl (op_assign rfl (Opd.tmp _ _ rfl)) ?_
                  refine Run.nil (FinR.mk ?_)
                  refine nK ?_
                  refine n_cond _ rfl (fun hb => ?_) (fun hb => ?_)
                  · rw [ifT hb] at hLE
                    rw [hLE] at hT hTl
                    have hK4 := hK3 _ hT
                    have hel : (ec ++ ([⟨(i : Int), (mget nm x.id).getD 0, x.c⟩] : List Edg)).length = ec.length + 1 := by simp
                    rw [hel] at hK4
                    refine nK ?_
                    refine s_reg rfl ?_
                    refine Run.pure (dd := some 124) rfl rfl (op_move rfl (Opd.tmp _ _ rfl)) ?_
                    refine Run.pure (dd := some 125) rfl rfl (op_move rfl (Opd.tmp _ _ rfl)) ?_
                    refine Run.pure (dd := some 126) rfl rfl (op_move rfl (Opd.tmp _ _ rfl)) ?_
                    refine Run.pure (dd := some 127) rfl rfl (op_fld_ptr (by decide) rfl (Opd.tmp _ _ rfl)) ?_
                    refine Run.load (dd := some 128) rfl rfl (op_load1_flat rfl (Opd.tmp _ _ rfl) tH rfl) ?_
                    refine Run.pure (dd := some 129) rfl rfl (op_build rfl rfl rfl (FillF.cons _ _ _ _ _ _ _ _ _ _ (by rfl) (Opd.tmp _ _ rfl) tC (by rfl) tR (FillF.cons _ _ _ _ _ _ _ _ _ _ (by rfl) (Opd.tmp _ _ rfl) tC (by rfl) tR (FillF.cons _ _ _ _ _ _ _ _ _ _ (by rfl) (Opd.tmp _ _ rfl) tC (by rfl) tR (FillF.nil _))))) ?_
                    refine Run.pure (dd := some 130) rfl rfl (op_buildSlice_fz rfl (RowsF.cons _ _ _ _ _ _ (Opd.tmp _ _ rfl) tC (by rfl) (RowsF.nil _)) rfl rfl) ?_
                    refine Run.eff (dd := some 131) rfl rfl (op_call (n := 3) (n' := 4) [3, 2, 7] (fun _ => add_c nm ec ([⟨(i : Int), (mget nm x.id).getD 0, x.c⟩] : List Edg) (by simp; simp at hTl; omega)) rfl (Opd.func _) (Opds.cons _ _ _ _ (Opd.tmp _ _ rfl) (Opds.cons _ _ _ _ (Opd.tmp _ _ rfl) Opds.nil)) rfl rfl (Lent.of rfl rfl (by repeat (first | exact trivial | refine ⟨⟨rfl, rfl, rfl, tL⟩, ?_⟩)) rfl) rfl rfl rfl rfl rfl) ?_
                    refine Run.nil (FinR.mk ?_)
                    refine nK ?_
                    refine s_reg rfl ?_
                    refine Run.pure (dd := some 173) rfl rfl (op_add rfl (Opd.tmp _ _ rfl) (Opd.const _) tI) ?_
                    refine Run.pure (dd := some 93) rfl rfl (op_move rfl (Opd.tmp _ _ rfl)) ?_
                    refine Run.nil (FinR.mk ?_)
                    refine nK ?_
                    refine Next.weak [0, 1, 2, 3, 4, 5, 6, 10, 8] [] (by rfl) (keeps0 hC _) (by repeat (first | exact trivial | refine ⟨⟨_, rfl, .inl ⟨rfl, rfl⟩⟩, ?_⟩ | refine ⟨⟨_, rfl, .inl ⟨slEq rfl tN, rfl⟩⟩, ?_⟩ | refine ⟨⟨_, rfl, .inl ⟨ivEq tX, rfl⟩⟩, ?_⟩)) (by exact ⟨ent_same rfl rfl rfl tL, ⟨ent_same rfl rfl rfl tL, ⟨ent_same rfl rfl rfl tL, ⟨ent_same rfl rfl rfl tL, ⟨ent_same rfl rfl rfl tL, ⟨ent_same rfl rfl rfl tL, ⟨ent_same rfl rfl rfl tL, ⟨ent_same rfl rfl rfl tL, ⟨ent_same rfl rfl rfl tL, trivial⟩⟩⟩⟩⟩⟩⟩⟩⟩) (fun _ h => by simp at h) (hK4)
                  · rw [ifF hb] at hLE
                    refine nK ?_
                    refine s_reg rfl ?_
                    refine Run.pure (dd := some 133) rfl rfl (op_fld_ptr (by decide) rfl (Opd.tmp _ _ rfl)) ?_
                    refine Run.load (dd := some 134) rfl rfl (op_load1_flat rfl (Opd.tmp _ _ rfl) tH rfl) ?_
                    refine Run.pure (dd := some 135) rfl rfl (op_eql rfl (Opd.tmp _ _ rfl) (Opd.const _)) ?_
                    refine Run.pure (dd := some 132) rfl rfl (op_assign rfl (Opd.tmp _ _ rfl)) ?_
                    refine Run.nil (FinR.mk ?_)
                    refine nK ?_
                    refine n_cond _ rfl (fun hb => ?_) (fun hb => ?_)
                    · rw [ifT hb] at hLE
                      rw [hLE] at hT hTl
                      generalize hM2 : ec ++ netE rs.length i l.h.rt x 0 ns = M2 at *
                      refine nK ?_
                      refine s_reg rfl ?_
                      refine Run.pure (dd := some 136) rfl rfl (op_move rfl (Opd.tmp _ _ rfl)) ?_
                      refine Run.pure (dd := some 137) rfl rfl (op_len_fz rfl (by first | exact Opd.tmp _ _ rfl | exact Opd.nil _ _ (Opd.tmp _ _ rfl)) (by first | exact List.length_map _ | rfl)) ?_
                      refine Run.pure (dd := some 138) rfl rfl (op_move rfl (Opd.const _)) ?_
                      refine Run.nil (FinR.mk ?_)
                      refine nK ?_
                      refine n_loop (ι := Nat × List Edg) (fun p => ([(2, .ptr 0 5 0 0), (4, .fz (VA rs)), (5, .fz (VA ns)), (6, .ptr 1 5 0 0), (7, .ptr 3 2 0 0), (8, .mp 4), (83, .fz (VA rs)), (84, IV .i64 rs.length), (85, IV .i64 i), (13, IV .i64 i), (14, .ptr 8 15 0 0), (91, .fz (VL l.ls)), (92, IV .i64 l.ls.length), (93, IV .i64 j), (16, .ptr 9 4 0 0), (136, .fz (VA ns)), (137, IV .i64 ns.length), (138, IV .i64 p.1)], [(0, OR zeroR), (1, some (.refs 5 [[IV .i64 0, IV .i64 0, .fz (.lit (.slice none 0 0)), .sl 5 1 0 rs.length, .sl 6 3 0 ns.length]])), (2, OMap ekU evI nm), (3, some (.refs 2 [[.mp 2, .sl 7 3 0 p.2.length]])), (4, OMap ekU FPts tm), (5, some (.flat 1 ((rs.map fun l => l.h.rt).map encU))), (6, some (.flat 3 ((ns.map netOf).map encV))), (7, OE p.2), (8, OA l), (9, some (.flat 4 [encL x]))], 10)) (fun p => p.1 ≤ ns.length ∧ p.2 ++ netE rs.length i l.h.rt x p.1 (ns.drop p.1) = M2) (fun p => ns.length - p.1) (0, ec) ⟨Nat.zero_le _, hM2⟩ ?_ ?_
                      · refine Next.weak [0, 1, 2, 3, 4, 5, 6, 7, 8, 9] [] (by rfl) (keeps0 hC _) (by repeat (first | exact trivial | refine ⟨⟨_, rfl, .inl ⟨rfl, rfl⟩⟩, ?_⟩ | refine ⟨⟨_, rfl, .inl ⟨slEq rfl tN, rfl⟩⟩, ?_⟩ | refine ⟨⟨_, rfl, .inl ⟨ivEq tX, rfl⟩⟩, ?_⟩)) (by exact ⟨ent_same rfl rfl rfl tL, ⟨ent_same rfl rfl rfl tL, ⟨ent_same rfl rfl rfl tL, ⟨ent_same rfl rfl rfl tL, ⟨ent_same rfl rfl rfl tL, ⟨ent_same rfl rfl rfl tL, ⟨ent_same rfl rfl rfl tL, ⟨ent_same rfl rfl rfl tL, ⟨ent_same rfl rfl rfl tL, ⟨ent_same rfl rfl rfl tL, trivial⟩⟩⟩⟩⟩⟩⟩⟩⟩⟩) (fun _ h => by simp at h) (rel_intro)
                      · intro ⟨k, ed⟩ ⟨hk, hU⟩ K3 hK5
                        dsimp only at hk hU ⊢
                        refine nK ?_
                        refine s_reg rfl ?_
                        refine Run.pure (dd := some 139) rfl rfl (op_lss rfl (Opd.tmp _ _ rfl) (Opd.tmp _ _ rfl)) ?_
                        refine Run.nil (FinR.mk ?_)
                        refine nK ?_
                        refine n_cond _ rfl (fun hb => ?_) (fun hb => ?_)
                        · have hlt3 : k < ns.length := by simp at hb; omega
                          have hr3 := row_at' encA ns k hlt3
                          have hnk := hnl ns[k] (List.getElem_mem hlt3)
                          rw [net_step hlt3, ← List.append_assoc] at hU
                          have hK6 := fun es' h => hK5 (k + 1, es') ⟨by dsimp only; omega, h⟩ (by dsimp only; omega)
                          dsimp only at hK6
                          generalize ns[k] = nd at *
                          have hna : lenOk nd.att.length := by unfold lenOk; omega
                          refine nK ?_
                          refine s_reg rfl ?_
                          refine Run.pure (dd := some 140) rfl rfl (op_move rfl (Opd.tmp _ _ rfl)) ?_
                          refine Run.pure (dd := some 141) rfl rfl (op_idx_fz _ rfl (Opd.tmp _ _ rfl) (Opd.tmp _ _ rfl) tF) ?_
                          refine Run.pure (dd := some 142) rfl rfl (op_loadw_fz rfl (Opd.tmp _ _ rfl) rfl) ?_
                          refine Run.eff (dd := some 20) rfl rfl (op_alloc rfl rfl rfl rfl) ?_
                          refine Run.pure (dd := some 19) rfl rfl (op_assign rfl (Opd.tmp _ _ rfl)) ?_
                          refine Run.eff (dd := none) rfl rfl (op_store_flat rfl (Opd.tmp _ _ rfl) (Opd.tmp _ _ rfl) tC rfl rfl (by first | rfl | assumption) tS) ?_
                          refine Run.nil (FinR.mk ?_)
                          refine nK ?_
                          refine s_reg rfl ?_
                          refine Run.pure (dd := some 143) rfl rfl (op_move rfl (Opd.tmp _ _ rfl)) ?_
                          refine Run.pure (dd := some 144) rfl rfl (op_len_fz rfl (by first | exact Opd.tmp _ _ rfl | exact Opd.nil _ _ (Opd.tmp _ _ rfl)) (by first | exact List.length_map _ | rfl)) ?_
                          refine Run.pure (dd := some 145) rfl rfl (op_move rfl (Opd.tmp _ _ rfl)) ?_
                          refine Run.pure (dd := some 146) rfl rfl (op_add rfl (Opd.tmp _ _ rfl) (Opd.tmp _ _ rfl) tI) ?_
                          refine Run.pure (dd := some 21) rfl rfl (op_assign rfl (Opd.tmp _ _ rfl)) ?_
                          refine Run.nil (FinR.mk ?_)
                          refine nK ?_
                          refine s_reg rfl ?_
                          refine Run.pure (dd := some 147) rfl rfl (op_fld_ptr (by decide) rfl (Opd.tmp _ _ rfl)) ?_
                          refine Run.pure (dd := some 148) rfl rfl (op_fld_ptr (by decide) rfl (Opd.tmp _ _ rfl)) ?_
                          refine Run.load (dd := some 149) rfl rfl (op_load1_flat rfl (Opd.tmp _ _ rfl) tH rfl) ?_
                          refine Run.pure (dd := some 150) rfl rfl (op_fld_ptr (by decide) rfl (Opd.tmp _ _ rfl)) ?_
                          refine Run.load (dd := some 151) rfl rfl (op_load1_flat rfl (Opd.tmp _ _ rfl) tH rfl) ?_
                          refine Run.pure (dd := some 152) rfl rfl (op_eql rfl (Opd.tmp _ _ rfl) (Opd.tmp _ _ rfl)) ?_
                          refine Run.pure (dd := some 153) rfl rfl (op_move rfl (Opd.tmp _ _ rfl)) ?_
                          refine Run.pureG (dd := some 154) rfl rfl rfl tG (op_fld_ptr (by decide) rfl (Opd.tmp _ _ rfl)) ?_
                          refine Run.loadG (dd := some 155) rfl rfl rfl tG (op_load1_flat rfl (Opd.topt _ _ _ rfl tO) tH rfl) ?_
                          refine Run.pureG (dd := some 156) rfl rfl rfl tG (op_fld_ptr (by decide) rfl (Opd.tmp _ _ rfl)) ?_
                          refine Run.pureG (dd := some 157) rfl rfl rfl tG (op_fld_ptr (by decide) rfl (Opd.topt _ _ _ rfl tO)) ?_
                          refine Run.loadG (dd := some 158) rfl rfl rfl tG (op_load1_flat rfl (Opd.topt _ _ _ rfl tO) tH rfl) ?_
                          refine Run.pureG (dd := some 159) rfl rfl rfl tG (op_call_pure (fun _ => scont_c _ _ (by assumption)) rfl (Opd.func _) (Opds.cons _ _ _ _ (Opd.topt _ _ _ rfl tO) (Opds.cons _ _ _ _ (Opd.topt _ _ _ rfl tO) Opds.nil))) ?_
                          refine Run.pure (dd := some 160) rfl rfl (op_pick_and rfl (Opd.tmp _ _ rfl) (Opd.topt _ _ _ rfl tO)) ?_
                          refine Run.nil (FinR.mk ?_)
                          refine nK ?_
                          refine n_cond _ rfl (fun hb => ?_) (fun hb => ?_)
                          · rw [ifT hb] at hU
                            have hTl : (ed ++ ([⟨(i : Int), (rs.length : Int) + k, x.c⟩, ⟨(rs.length : Int) + k, (i : Int), 0⟩] : List Edg)).length ≤ 40000000 - 10 := by have := congrArg List.length hU; simp at this ⊢; omega
                            have hK7 := hK6 _ hU
                            have hel : (ed ++ ([⟨(i : Int), (rs.length : Int) + k, x.c⟩, ⟨(rs.length : Int) + k, (i : Int), 0⟩] : List Edg)).length = ed.length + 2 := by simp
                            rw [hel] at hK7
                            refine nK ?_
                            refine s_reg rfl ?_
                            refine Run.pure (dd := some 161) rfl rfl (op_move rfl (Opd.tmp _ _ rfl)) ?_
                            refine Run.pure (dd := some 162) rfl rfl (op_move rfl (Opd.tmp _ _ rfl)) ?_
                            refine Run.pure (dd := some 163) rfl rfl (op_move rfl (Opd.tmp _ _ rfl)) ?_
                            refine Run.pure (dd := some 164) rfl rfl (op_fld_ptr (by decide) rfl (Opd.tmp _ _ rfl)) ?_
                            refine Run.load (dd := some 165) rfl rfl (op_load1_flat rfl (Opd.tmp _ _ rfl) tH rfl) ?_
                            refine Run.pure (dd := some 166) rfl rfl (op_build rfl rfl rfl (FillF.cons _ _ _ _ _ _ _ _ _ _ (by rfl) (Opd.tmp _ _ rfl) tC (by rfl) tR (FillF.cons _ _ _ _ _ _ _ _ _ _ (by rfl) (Opd.tmp _ _ rfl) tC (by rfl) tR (FillF.cons _ _ _ _ _ _ _ _ _ _ (by rfl) (Opd.tmp _ _ rfl) tC (by rfl) tR (FillF.nil _))))) ?_
                            refine Run.pure (dd := some 167) rfl rfl (op_move rfl (Opd.tmp _ _ rfl)) ?_
                            refine Run.pure (dd := some 168) rfl rfl (op_move rfl (Opd.tmp _ _ rfl)) ?_
                            refine Run.pure (dd := some 169) rfl rfl (op_build rfl rfl rfl (FillF.cons _ _ _ _ _ _ _ _ _ _ (by rfl) (Opd.tmp _ _ rfl) tC (by rfl) tR (FillF.cons _ _ _ _ _ _ _ _ _ _ (by rfl) (Opd.tmp _ _ rfl) tC (by rfl) tR (FillF.nil _)))) ?_
                            refine Run.pure (dd := some 170) rfl rfl (op_buildSlice_fz rfl (RowsF.cons _ _ _ _ _ _ (Opd.tmp _ _ rfl) tC (by rfl) (RowsF.cons _ _ _ _ _ _ (Opd.tmp _ _ rfl) tC (by rfl) (RowsF.nil _))) rfl rfl) ?_
                            refine Run.eff (dd := some 171) rfl rfl (op_call (n := 3) (n' := 4) [3, 2, 7] (fun _ => add_c nm ed ([⟨(i : Int), (rs.length : Int) + k, x.c⟩, ⟨(rs.length : Int) + k, (i : Int), 0⟩] : List Edg) (by simp; simp at hTl; omega)) rfl (Opd.func _) (Opds.cons _ _ _ _ (Opd.tmp _ _ rfl) (Opds.cons _ _ _ _ (Opd.tmp _ _ rfl) Opds.nil)) rfl rfl (Lent.of rfl rfl (by repeat (first | exact trivial | refine ⟨⟨rfl, rfl, rfl, tL⟩, ?_⟩)) rfl) rfl rfl rfl rfl rfl) ?_
                            refine Run.nil (FinR.mk ?_)
                            refine nK ?_
                            refine s_reg rfl ?_
                            refine Run.pure (dd := some 172) rfl rfl (op_add rfl (Opd.tmp _ _ rfl) (Opd.const _) tI) ?_
                            refine Run.pure (dd := some 138) rfl rfl (op_move rfl (Opd.tmp _ _ rfl)) ?_
                            refine Run.nil (FinR.mk ?_)
                            refine nK ?_
                            refine Next.weak [0, 1, 2, 3, 4, 5, 6, 11, 8, 9] [] (by rfl) (keeps0 hC _) (by repeat (first | exact trivial | refine ⟨⟨_, rfl, .inl ⟨rfl, rfl⟩⟩, ?_⟩ | refine ⟨⟨_, rfl, .inl ⟨slEq rfl tN, rfl⟩⟩, ?_⟩ | refine ⟨⟨_, rfl, .inl ⟨ivEq tX, rfl⟩⟩, ?_⟩)) (by exact ⟨ent_same rfl rfl rfl tL, ⟨ent_same rfl rfl rfl tL, ⟨ent_same rfl rfl rfl tL, ⟨ent_same rfl rfl rfl tL, ⟨ent_same rfl rfl rfl tL, ⟨ent_same rfl rfl rfl tL, ⟨ent_same rfl rfl rfl tL, ⟨ent_same rfl rfl rfl tL, ⟨ent_same rfl rfl rfl tL, ⟨ent_same rfl rfl rfl tL, trivial⟩⟩⟩⟩⟩⟩⟩⟩⟩⟩) (fun _ h => by simp at h) (hK7)
                          · rw [ifF hb, List.append_nil] at hU
                            refine nK ?_
                            refine s_reg rfl ?_
                            refine Run.pure (dd := some 172) rfl rfl (op_add rfl (Opd.tmp _ _ rfl) (Opd.const _) tI) ?_
                            refine Run.pure (dd := some 138) rfl rfl (op_move rfl (Opd.tmp _ _ rfl)) ?_
                            refine Run.nil (FinR.mk ?_)
                            refine nK ?_
                            refine Next.weak [0, 1, 2, 3, 4, 5, 6, 7, 8, 9] [] (by rfl) (keeps0 hC _) (by repeat (first | exact trivial | refine ⟨⟨_, rfl, .inl ⟨rfl, rfl⟩⟩, ?_⟩ | refine ⟨⟨_, rfl, .inl ⟨slEq rfl tN, rfl⟩⟩, ?_⟩ | refine ⟨⟨_, rfl, .inl ⟨ivEq tX, rfl⟩⟩, ?_⟩)) (by exact ⟨ent_same rfl rfl rfl tL, ⟨ent_same rfl rfl rfl tL, ⟨ent_same rfl rfl rfl tL, ⟨ent_same rfl rfl rfl tL, ⟨ent_same rfl rfl rfl tL, ⟨ent_same rfl rfl rfl tL, ⟨ent_same rfl rfl rfl tL, ⟨ent_same rfl rfl rfl tL, ⟨ent_same rfl rfl rfl tL, ⟨ent_same rfl rfl rfl tL, trivial⟩⟩⟩⟩⟩⟩⟩⟩⟩⟩) (fun _ h => by simp at h) (hK6 _ hU)
                        · have hie3 : k = ns.length := by simp at hb; omega
                          rw [hie3, List.drop_length] at hU
                          simp only [netE, List.append_nil] at hU
                          subst hU
                          refine nK ?_
                          refine s_reg rfl ?_
                          refine Run.pure (dd := some 173) rfl rfl (op_add rfl (Opd.tmp _ _ rfl) (Opd.const _) tI) ?_
                          refine Run.pure (dd := some 93) rfl rfl (op_move rfl (Opd.tmp _ _ rfl)) ?_
                          refine Run.nil (FinR.mk ?_)
                          refine nK ?_
                          refine Next.weak [0, 1, 2, 3, 4, 5, 6, 7, 8] [] (by rfl) (keeps0 hC _) (by repeat (first | exact trivial | refine ⟨⟨_, rfl, .inl ⟨rfl, rfl⟩⟩, ?_⟩ | refine ⟨⟨_, rfl, .inl ⟨slEq rfl tN, rfl⟩⟩, ?_⟩ | refine ⟨⟨_, rfl, .inl ⟨ivEq tX, rfl⟩⟩, ?_⟩)) (by exact ⟨ent_same rfl rfl rfl tL, ⟨ent_same rfl rfl rfl tL, ⟨ent_same rfl rfl rfl tL, ⟨ent_same rfl rfl rfl tL, ⟨ent_same rfl rfl rfl tL, ⟨ent_same rfl rfl rfl tL, ⟨ent_same rfl rfl rfl tL, ⟨ent_same rfl rfl rfl tL, ⟨ent_same rfl rfl rfl tL, trivial⟩⟩⟩⟩⟩⟩⟩⟩⟩) (fun _ h => by simp at h) (hK3 _ hT)
                    · rw [ifF hb] at hLE
                      rw [hLE, List.append_nil] at hT
                      refine nK ?_
                      refine s_reg rfl ?_
                      refine Run.pure (dd := some 173) rfl rfl (op_add rfl (Opd.tmp _ _ rfl) (Opd.const _) tI) ?_
                      refine Run.pure (dd := some 93) rfl rfl (op_move rfl (Opd.tmp _ _ rfl)) ?_
                      refine Run.nil (FinR.mk ?_)
                      refine nK ?_
                      refine Next.weak [0, 1, 2, 3, 4, 5, 6, 7, 8] [] (by rfl) (keeps0 hC _) (by repeat (first | exact trivial | refine ⟨⟨_, rfl, .inl ⟨rfl, rfl⟩⟩, ?_⟩ | refine ⟨⟨_, rfl, .inl ⟨slEq rfl tN, rfl⟩⟩, ?_⟩ | refine ⟨⟨_, rfl, .inl ⟨ivEq tX, rfl⟩⟩, ?_⟩)) (by exact ⟨ent_same rfl rfl rfl tL, ⟨ent_same rfl rfl rfl tL, ⟨ent_same rfl rfl rfl tL, ⟨ent_same rfl rfl rfl tL, ⟨ent_same rfl rfl rfl tL, ⟨ent_same rfl rfl rfl tL, ⟨ent_same rfl rfl rfl tL, ⟨ent_same rfl rfl rfl tL, ⟨ent_same rfl rfl rfl tL, trivial⟩⟩⟩⟩⟩⟩⟩⟩⟩) (fun _ h => by simp at h) (hK3 _ hT)
                · have hie2 : j = l.ls.length := by simp at hb; omega
                  rw [hie2, List.drop_length] at hT
                  simp only [List.flatMap_nil, List.append_nil] at hT
                  subst hT
                  refine nK ?_
                  refine s_reg rfl ?_
                  refine Run.pure (dd := some 174) rfl rfl (op_add rfl (Opd.tmp _ _ rfl) (Opd.const _) tI) ?_
                  refine Run.pure (dd := some 85) rfl rfl (op_move rfl (Opd.tmp _ _ rfl)) ?_
                  refine Run.nil (FinR.mk ?_)
                  refine nK ?_
                  refine Next.weak [0, 1, 2, 3, 4, 5, 6, 7] [] (by rfl) (keeps0 hC _) (by repeat (first | exact trivial | refine ⟨⟨_, rfl, .inl ⟨rfl, rfl⟩⟩, ?_⟩ | refine ⟨⟨_, rfl, .inl ⟨slEq rfl tN, rfl⟩⟩, ?_⟩ | refine ⟨⟨_, rfl, .inl ⟨ivEq tX, rfl⟩⟩, ?_⟩)) (by exact ⟨ent_same rfl rfl rfl tL, ⟨ent_same rfl rfl rfl tL, ⟨ent_same rfl rfl rfl tL, ⟨ent_same rfl rfl rfl tL, ⟨ent_same rfl rfl rfl tL, ⟨ent_same rfl rfl rfl tL, ⟨ent_same rfl rfl rfl tL, ⟨ent_same rfl rfl rfl tL, trivial⟩⟩⟩⟩⟩⟩⟩⟩) (fun _ h => by simp at h) (hK1 _ hS)
            · have hie1 : i = rs.length := by simp at hb; omega
              rw [hie1, List.drop_length] at hS
              simp only [rowE, List.append_nil] at hS
              subst hS
              clear hK
              have hokE : okEs es := by rw [← hE]; exact rowE_ok hR hN hm3 rs 0 (by omega) hro
              have hof := of_c (rs.length : Int) (ns.length : Int) es (by simp only [inr]; omega) (by simp only [inr]; omega) hokE (by omega)
              refine nK ?_
              refine s_reg rfl ?_
              refine Run.pure (dd := some 22) rfl rfl (op_assign rfl (Opd.const _)) ?_
              refine Run.nil (FinR.mk ?_)
              refine nK ?_
              refine Next.weak [0, 1, 3, 5, 6] [2, 7] (by rfl) (keeps0 hC _) (G' := [(2, .ptr 0 5 0 0), (4, .fz (VA rs)), (5, .fz (VA ns)), (6, .ptr 1 5 0 0), (7, .ptr 2 2 0 0)]) (H' := [(0, OR zeroR), (1, some (.refs 5 [[IV .i64 0, IV .i64 0, .fz (.lit (.slice none 0 0)), .sl 3 1 0 rs.length, .sl 4 3 0 ns.length]])), (2, some (.flat 2 [[FMap ekU evI nm, VE es]])), (3, some (.flat 1 ((rs.map fun l => l.h.rt).map encU))), (4, some (.flat 3 ((ns.map netOf).map encV)))]) (by repeat (first | exact trivial | refine ⟨⟨_, rfl, .inl ⟨rfl, rfl⟩⟩, ?_⟩ | refine ⟨⟨_, rfl, .inl ⟨slEq rfl tN, rfl⟩⟩, ?_⟩ | refine ⟨⟨_, rfl, .inl ⟨ivEq tX, rfl⟩⟩, ?_⟩)) (by exact ⟨ent_same rfl rfl rfl tL, ⟨ent_same rfl rfl rfl tL, ⟨⟨rfl, rfl, .flat _ _ _ rfl (.cons _ _ _ _ (.cons _ _ _ _ (.mp _ _ _ rfl rfl) (.cons _ _ _ _ (.sl _ _ 0 _ _ _ rfl rfl (take0 rfl (by simp)) (by simp)) .nil)) .nil)⟩, ⟨ent_same rfl rfl rfl tL, ⟨ent_same rfl rfl rfl tL, trivial⟩⟩⟩⟩⟩) (fun id h => by
                have h' : id = 2 ∨ id = 7 := by simpa using h
                rcases h' with rfl | rfl <;> exact ⟨_, rfl⟩) ?_
              refine nK ?_
              refine s_reg rfl ?_
              refine Run.pure (dd := some 176) rfl rfl (op_move rfl (Opd.tmp _ _ rfl)) ?_
              refine Run.pure (dd := some 177) rfl rfl (op_len_fz rfl (by first | exact Opd.tmp _ _ rfl | exact Opd.nil _ _ (Opd.tmp _ _ rfl)) (by first | exact List.length_map _ | rfl)) ?_
              refine Run.pure (dd := some 178) rfl rfl (op_move rfl (Opd.tmp _ _ rfl)) ?_
              refine Run.pure (dd := some 179) rfl rfl (op_len_fz rfl (by first | exact Opd.tmp _ _ rfl | exact Opd.nil _ _ (Opd.tmp _ _ rfl)) (by first | exact List.length_map _ | rfl)) ?_
              refine Run.pure (dd := some 180) rfl rfl (op_move rfl (Opd.tmp _ _ rfl)) ?_
              refine Run.pure (dd := some 181) rfl rfl (op_nilck_ptr rfl (Opd.tmp _ _ rfl)) ?_
              refine Run.pure (dd := some 182) rfl rfl (op_fld_ptr (by decide) rfl (Opd.tmp _ _ rfl)) ?_
              refine Run.load (dd := some 183) rfl rfl (op_load1_flat rfl (Opd.tmp _ _ rfl) tH rfl) ?_
              refine Run.pure (dd := some 184) rfl rfl (op_call_pure (fun _ => hof) rfl (Opd.func _) (Opds.cons _ _ _ _ (Opd.tmp _ _ rfl) (Opds.cons _ _ _ _ (Opd.tmp _ _ rfl) (Opds.cons _ _ _ _ (Opd.tmp _ _ rfl) Opds.nil)))) ?_
              refine Run.pure (dd := some 175) rfl rfl (op_move rfl (Opd.tmp _ _ rfl)) ?_
              refine Run.pure (dd := some 185) rfl rfl (op_extract_fz rfl (Opd.tmp _ _ rfl) rfl) ?_
              refine Run.pure (dd := some 186) rfl rfl (op_extract_fz rfl (Opd.tmp _ _ rfl) rfl) ?_
              refine Run.pure (dd := some 187) rfl rfl (op_fld_ptr (by decide) rfl (Opd.tmp _ _ rfl)) ?_
              refine Run.eff (dd := none) rfl rfl (op_store_refs rfl (Opd.tmp _ _ rfl) (Opd.tmp _ _ rfl) tP rfl rfl rfl tS) ?_
              refine Run.pure (dd := some 22) rfl rfl (op_assign rfl (Opd.tmp _ _ rfl)) ?_
              refine Run.nil (FinR.mk ?_)
              refine nK ?_
              refine s_reg rfl ?_
              refine Run.pure (dd := some 188) rfl rfl (op_move rfl (Opd.tmp _ _ rfl)) ?_
              refine Run.pure (dd := some 189) rfl rfl (op_neq rfl (Opd.tmp _ _ rfl) (Opd.const _)) ?_
              refine Run.nil (FinR.mk ?_)
              refine nK ?_
              refine n_cond _ rfl (fun hb => ?_) (fun hb => ?_)
              · rw [if_pos (by simpa using hb)]
                refine nK ?_
                refine s_reg rfl ?_
                refine Run.pure (dd := some 190) rfl rfl (op_build rfl rfl rfl (FillF.nil _)) ?_
                refine Run.pure (dd := some 191) rfl rfl (op_move rfl (Opd.tmp _ _ rfl)) ?_
                refine Run.eff (dd := none) rfl rfl (op_store_flat rfl (Opd.tmp _ _ rfl) (Opd.tmp _ _ rfl) tC rfl rfl (by first | rfl | assumption) tS) ?_
                refine Run.pure (dd := some 3) rfl rfl (op_assign rfl (Opd.tmp _ _ rfl)) ?_
                refine Run.nil (FinR.mk ?_)
                refine nK ?_
                refine Next.weak [0] [] (by rfl) (keeps0 hC _) (G' := [(2, .ptr 0 5 0 0), (3, IV .i64 (ofF (rs.length : Int) (ns.length : Int) es).2)]) (H' := [(0, OR zeroR)]) (by repeat (first | exact trivial | refine ⟨⟨_, rfl, .inl ⟨rfl, rfl⟩⟩, ?_⟩ | refine ⟨⟨_, rfl, .inl ⟨slEq rfl tN, rfl⟩⟩, ?_⟩ | refine ⟨⟨_, rfl, .inl ⟨ivEq tX, rfl⟩⟩, ?_⟩)) (by exact ⟨⟨rfl, rfl, .fflat _ _ _ rfl tW⟩, trivial⟩) (fun _ h => by simp at h) ?_
                (first | exact s_o1 hC rfl tV | exact s_o2 hC rfl tV tV | exact s_o3 hC rfl tV tV tV | exact s_o4 hC rfl tV tV tV tV | exact s_out0 hC rfl | exact s_outO hC rfl rfl rfl)
              · rw [if_neg (by simpa using hb)]
                refine nK ?_
                refine Next.weak [0, 1] [3, 4] (by rfl) (keeps0 hC _) (G' := [(2, .ptr 0 5 0 0), (6, .ptr 1 5 0 0)]) (H' := [(0, OR zeroR), (1, OR ⟨(ofF (rs.length : Int) (ns.length : Int) es).1, rs.map fun l => l.h.rt, ns.map netOf⟩)]) (by repeat (first | exact trivial | refine ⟨⟨_, rfl, .inl ⟨rfl, rfl⟩⟩, ?_⟩ | refine ⟨⟨_, rfl, .inl ⟨slEq rfl tN, rfl⟩⟩, ?_⟩ | refine ⟨⟨_, rfl, .inl ⟨ivEq tX, rfl⟩⟩, ?_⟩)) (by exact ⟨ent_same rfl rfl rfl tL, ⟨⟨rfl, rfl, .flat _ _ _ rfl tW⟩, trivial⟩⟩) (fun id h => by
                  have h' : id = 3 ∨ id = 4 := by simpa using h
                  rcases h' with rfl | rfl <;> exact ⟨_, rfl⟩) ?_
                refine nK ?_
                refine s_reg rfl ?_
                refine Run.load (dd := some 192) rfl rfl (op_loadw_flat rfl (Opd.tmp _ _ rfl) tH rfl) ?_
                refine Run.eff (dd := none) rfl rfl (op_store_flat rfl (Opd.tmp _ _ rfl) (Opd.tmp _ _ rfl) tC rfl rfl (by first | rfl | assumption) tS) ?_
                refine Run.pure (dd := some 3) rfl rfl (op_assign rfl (Opd.const _)) ?_
                refine Run.nil (FinR.mk ?_)
                refine nK ?_
                (first | exact s_o1 hC rfl tV | exact s_o2 hC rfl tV tV | exact s_o3 hC rfl tV tV tV | exact s_o4 hC rfl tV tV tV tV | exact s_out0 hC rfl | exact s_outO hC rfl rfl rfl)
end Go.Proofs.Ytdhkioocjgpocaa
/- The engine, part 38: literals whose missing slices are read as empty ones. -/
namespace Go.RT
open Go
set_option linter.all false
variable {P : Program} {G : Env} {t : TypeId} {o : Oper} {g : Bool}
/-- the cells of a zero value; a nil slice may be read as an empty one -/
def zOk : List Value → List FV → Prop
  | [], [] => True
  | u :: us, f :: fs => (f = .lit u ∨ ∃ sz, u = .slice none 0 0 ∧ f = .vals sz []) ∧ zOk us fs
  | _, _ => False
theorem zOk.len : ∀ {us : List Value} {fs : List FV}, zOk us fs → us.length = fs.length
  | [], [], _ => rfl
  | _ :: _, _ :: _, h => by simp [zOk.len h.2]
theorem zOk.at : ∀ {us : List Value} {fs : List FV}, zOk us fs → ∀ (i : Nat) (f : FV), fs[i]? = some f → ∃ u, us[i]? = some u ∧ (f = .lit u ∨ ∃ sz, u = .slice none 0 0 ∧ f = .vals sz [])
  | [], [], _, i, f, h => by simp at h
  | u :: us, f' :: fs, h, i, f, hf => by
    cases i with
    | zero => simp at hf; subst hf; exact ⟨u, rfl, h.1⟩
    | succ i => simpa using zOk.at h.2 i f (by simpa using hf)
theorem zOk.rep {z : Value} {zs : List FV} (h : zOk z.cells.toList zs) (h1 : z.cells.toList.all (·.oneCell') = true) (w : World) (S : Nat → Prop) : ARep (FRep w S) z.cells zs := by
  refine ⟨by simpa using h.len, fun i p hp => ?_⟩
  obtain ⟨u, hu, hq⟩ := h.at i p hp
  rw [Array.getElem?_toList] at hu
  refine ⟨u, hu, List.all_eq_true.1 h1 u (Array.mem_toList_iff.2 (Array.mem_of_getElem? hu)), ?_⟩
  rcases hq with rfl | ⟨sz, rfl, rfl⟩
  · exact .lit _
  · exact .nil _ _ _
theorem op_buildZ {places : List (Nat × Nat)} {n by_ : Nat} {z : Value} {cs : List FV} {parts : List (Nat × Operand)} (zs : List FV) [hb : TyB P t places] [hn : TyN P t n by_ z] (ho : o.op = .build t parts.toArray) (h1 : z.cells.toList.all (·.oneCell') = true) (hz : zOk z.cells.toList zs) (hf : FillF places G g parts zs cs) : OpP P o g G (.fz (.agg cs)) :=
  .of fun S m a w hg ha => by
    obtain ⟨fs, e1, e2⟩ := hb.h
    obtain ⟨A, k1, k2, k3⟩ := hf.run hg ha (fun p hp => by simp only [ho, Op.operands, List.mem_toArray]; exact List.mem_map.2 ⟨p, by simpa using hp, rfl⟩) _ (hz.rep h1 w S)
    refine ⟨.agg A, ?_, .fz _ _ (.agg A cs k2 (fun i c f hc hf => ?_) (fun i c hc => ?_))⟩
    · have : (parts.toArray.map fun p => (p.1, a.eval p.2)).toList = parts.map fun p => (p.1, a.eval p.2) := by simp
      simp [execOp, ho, Instr.build, run_zero hn, run_underlying e1, e2, k1]
    · obtain ⟨u, hu, _, hr⟩ := k3 i f hf
      rw [hc] at hu; cases hu; exact hr
    · have hi : i < cs.length := by rw [← k2]; exact (Array.getElem?_eq_some_iff.1 hc).1
      obtain ⟨u, hu, hone, _⟩ := k3 i cs[i] (by simp [hi])
      rw [hc] at hu; cases hu; exact hone
end Go.RT
namespace Go.Proofs.Ytdhkioocjgpocaa
open Go Go.RT Go.Proofs Go.Pl
set_option linter.all false
set_option maxRecDepth 20000
theorem rawL_ok {a b c : Int} (ha : inr .u32 a) (hb : inr .u32 b) (hc : inr .i64 c) : okA (rawL a b c) := by
  refine ⟨⟨?_, ha, ?_, ha, ?_, ?_, ?_⟩, fun x hx => ?_, fun x hx => by simp [rawL] at hx, ?_, ?_, ?_⟩
  all_goals first | (simp [rawL, inr]; done) | skip
  have := List.mem_singleton.1 hx
  subst this
  exact ⟨by simp [inr], hb, by simp [inr], hc⟩
theorem tZk {α : Prop} (h : α := by repeat (first | exact trivial | refine And.intro (.inl rfl) ?_ | refine And.intro (.inr ⟨_, rfl, rfl⟩) ?_)) : α := h
theorem link_c (a b c s : Int) (ha : inr .u32 a) (hb0 : inr .u32 b) (hc : inr .i64 c) (h0 : chkA (rawL a b c) = 0) (hsm : sumA (rawL a b c) = s) : Pure Try.prog 24 [If .u32 a, If .u32 b, If .i64 c] (.agg (encA (lnkS a b c s))) := by
  have hs : Pure Try.prog 15 [.agg (encA (rawL a b c))] (.tup [.agg (encA (lnkS a b c s)), If .i64 0]) := by
    have h := seal_c (rawL a b c) (rawL_ok ha hb0 hc)
    have e : sealF (rawL a b c) = (lnkS a b c s, 0) := by unfold sealF; rw [if_neg (by simp [h0]), hsm]; rfl
    rw [e] at h
    exact h
  clear h0 hsm
  refine Meets.intro Try.func24 rfl (Nat.le_of_ble_eq_true rfl) fun C hC => ?_
  simp only [List.map, argEnv, Nat.reduceAdd]
  refine nK ?_
  refine s_reg rfl ?_
  refine Run.eff (dd := some 6) rfl rfl (op_alloc rfl rfl rfl rfl) ?_
  refine Run.nil (FinR.mk ?_)
  refine nK ?_
  refine s_reg rfl ?_
  refine Run.pure (dd := some 10) rfl rfl (op_move rfl (Opd.tmp _ _ rfl)) ?_
  refine Run.pure (dd := some 11) rfl rfl (op_move rfl (Opd.tmp _ _ rfl)) ?_
  refine Run.pure (dd := some 12) rfl rfl (op_build rfl rfl rfl (FillF.cons _ _ _ _ _ _ _ _ _ _ (by rfl) (Opd.const _) tC (by rfl) tR (FillF.cons _ _ _ _ _ _ _ _ _ _ (by rfl) (Opd.tmp _ _ rfl) tC (by rfl) tR (FillF.cons _ _ _ _ _ _ _ _ _ _ (by rfl) (Opd.tmp _ _ rfl) tC (by rfl) tR (FillF.cons _ _ _ _ _ _ _ _ _ _ (by rfl) (Opd.const _) tC (by rfl) tR (FillF.nil _)))))) ?_
  refine Run.pure (dd := some 13) rfl rfl (op_move rfl (Opd.tmp _ _ rfl)) ?_
  refine Run.pure (dd := some 14) rfl rfl (op_move rfl (Opd.tmp _ _ rfl)) ?_
  refine Run.pure (dd := some 15) rfl rfl (op_build rfl rfl rfl (FillF.cons _ _ _ _ _ _ _ _ _ _ (by rfl) (Opd.const _) tC (by rfl) tR (FillF.cons _ _ _ _ _ _ _ _ _ _ (by rfl) (Opd.tmp _ _ rfl) tC (by rfl) tR (FillF.cons _ _ _ _ _ _ _ _ _ _ (by rfl) (Opd.const _) tC (by rfl) tR (FillF.cons _ _ _ _ _ _ _ _ _ _ (by rfl) (Opd.tmp _ _ rfl) tC (by rfl) tR (FillF.nil _)))))) ?_
  refine Run.pure (dd := some 16) rfl rfl (op_buildSlice_fz rfl (RowsF.cons _ _ _ _ _ _ (Opd.tmp _ _ rfl) tC (by rfl) (RowsF.nil _)) rfl rfl) ?_
  refine Run.pure (dd := some 17) rfl rfl (op_buildZ (encA zeroA) rfl rfl tZk (FillF.cons _ _ _ _ _ _ _ _ _ _ (by rfl) (Opd.tmp _ _ rfl) tC (by rfl) tR (FillF.cons _ _ _ _ _ _ _ _ _ _ (by rfl) (Opd.tmp _ _ rfl) tC (by rfl) tR (FillF.nil _)))) ?_
  refine Run.pure (dd := some 18) rfl rfl (op_call_pure (fun _ => hs) rfl (Opd.func _) (Opds.cons _ _ _ _ (Opd.tmp _ _ rfl) Opds.nil)) ?_
  refine Run.pure (dd := some 9) rfl rfl (op_move rfl (Opd.tmp _ _ rfl)) ?_
  refine Run.pure (dd := some 19) rfl rfl (op_extract_fz rfl (Opd.tmp _ _ rfl) rfl) ?_
  refine Run.pure (dd := some 20) rfl rfl (op_extract_fz rfl (Opd.tmp _ _ rfl) rfl) ?_
  refine Run.eff (dd := some 7) rfl rfl (op_alloc rfl rfl rfl rfl) ?_
  refine Run.eff (dd := none) rfl rfl (op_store_flat rfl (Opd.tmp _ _ rfl) (Opd.tmp _ _ rfl) tC rfl rfl (by first | rfl | assumption) tS) ?_
  refine Run.pure (dd := some 8) rfl rfl (op_assign rfl (Opd.tmp _ _ rfl)) ?_
  refine Run.nil (FinR.mk ?_)
  refine nK ?_
  refine s_reg rfl ?_
  refine Run.load (dd := some 21) rfl rfl (op_loadw_flat rfl (Opd.tmp _ _ rfl) tH rfl) ?_
  refine Run.eff (dd := none) rfl rfl (op_store_flat rfl (Opd.tmp _ _ rfl) (Opd.tmp _ _ rfl) tC rfl rfl (by first | rfl | assumption) tS) ?_
  refine Run.nil (FinR.mk ?_)
  refine nK ?_
  (first | exact s_o1 hC rfl tV | exact s_o2 hC rfl tV tV | exact s_o3 hC rfl tV tV tV | exact s_o4 hC rfl tV tV tV tV | exact s_out0 hC rfl | exact s_outO hC rfl rfl rfl)
def exR : AGr := ⟨⟨2, 0, [⟨0, 1, 5⟩, ⟨1, 0, 7⟩]⟩, [1, 2], []⟩
theorem lnkS_ok {a b c s : Int} (ha : inr .u32 a) (hb : inr .u32 b) (hc : inr .i64 c) (hs : inr .i64 s) : okA (lnkS a b c s) := by
  refine ⟨⟨?_, ha, ?_, ha, ?_, ?_, hs⟩, fun x hx => ?_, fun x hx => by simp [lnkS] at hx, ?_, ?_, ?_⟩
  all_goals first | (simp [lnkS, inr]; done) | skip
  have := List.mem_singleton.1 hx
  subst this
  exact ⟨by simp [inr], hb, by simp [inr], hc⟩
theorem lives_c : Pure Try.prog 9 [] (Bf true) := by
  have l12 := link_c 1 2 5 _ (by decide) (by decide) (by decide) (by decide) rfl
  have l21 := link_c 2 1 7 _ (by decide) (by decide) (by decide) (by decide) rfl
  have l23 := link_c 2 3 7 _ (by decide) (by decide) (by decide) (by decide) rfl
  have o12 := sumA_ok (rawL 1 2 5)
  have o21 := sumA_ok (rawL 2 1 7)
  have o23 := sumA_ok (rawL 2 3 7)
  generalize sumA (rawL 1 2 5) = s12 at *
  generalize sumA (rawL 2 1 7) = s21 at *
  generalize sumA (rawL 2 3 7) = s23 at *
  have b1 := build_c (db1 s12 s21) (by simp [db1]) (fun x hx => by
    rcases List.mem_cons.1 hx with rfl | hx
    · exact lnkS_ok (by decide) (by decide) (by decide) o12
    · rw [List.mem_singleton.1 hx]; exact lnkS_ok (by decide) (by decide) (by decide) o21) (fun x hx => by
    rcases List.mem_cons.1 hx with rfl | hx
    · exact ⟨by simp [lnkS], by simp [lnkS]⟩
    · rw [List.mem_singleton.1 hx]; exact ⟨by simp [lnkS], by simp [lnkS]⟩)
  have b2 := build_c (db2 s12 s23) (by simp [db2]) (fun x hx => by
    rcases List.mem_cons.1 hx with rfl | hx
    · exact lnkS_ok (by decide) (by decide) (by decide) o12
    · rw [List.mem_singleton.1 hx]; exact lnkS_ok (by decide) (by decide) (by decide) o23) (fun x hx => by
    rcases List.mem_cons.1 hx with rfl | hx
    · exact ⟨by simp [lnkS], by simp [lnkS]⟩
    · rw [List.mem_singleton.1 hx]; exact ⟨by simp [lnkS], by simp [lnkS]⟩)
  rw [build1] at b1
  rw [build2] at b2
  have k1 : Pure Try.prog 16 [.agg (encR exR), If .u32 2] (If .i64 1) := aidx_c exR 2 (by decide)
  have k2 : Pure Try.prog 16 [.agg (encR exR), If .u32 3] (If .i64 (-1)) := aidx_c exR 3 (by decide)
  refine Meets.intro Try.func9 rfl (Nat.le_of_ble_eq_true rfl) fun C hC => ?_
  simp only [List.map, argEnv, Nat.reduceAdd]
  refine nK ?_
  refine s_reg rfl ?_
  refine Run.pure (dd := some 0) rfl rfl (op_assign rfl (Opd.const _)) ?_
  refine Run.nil (FinR.mk ?_)
  refine nK ?_
  refine s_reg rfl ?_
  refine Run.pure (dd := some 6) rfl rfl (op_call_pure (fun _ => l12) rfl (Opd.func _) (Opds.cons _ _ _ _ (Opd.const _) (Opds.cons _ _ _ _ (Opd.const _) (Opds.cons _ _ _ _ (Opd.const _) Opds.nil)))) ?_
  refine Run.pure (dd := some 7) rfl rfl (op_call_pure (fun _ => l21) rfl (Opd.func _) (Opds.cons _ _ _ _ (Opd.const _) (Opds.cons _ _ _ _ (Opd.const _) (Opds.cons _ _ _ _ (Opd.const _) Opds.nil)))) ?_
  refine Run.pure (dd := some 8) rfl rfl (op_buildSlice_fz rfl (RowsF.cons _ _ _ _ _ _ (Opd.tmp _ _ rfl) tC (by rfl) (RowsF.cons _ _ _ _ _ _ (Opd.tmp _ _ rfl) tC (by rfl) (RowsF.nil _))) rfl rfl) ?_
  refine Run.pure (dd := some 9) rfl rfl (op_call_pure (fun _ => b1) rfl (Opd.func _) (Opds.cons _ _ _ _ (Opd.tmp _ _ rfl) Opds.nil)) ?_
  refine Run.pure (dd := some 5) rfl rfl (op_move rfl (Opd.tmp _ _ rfl)) ?_
  refine Run.pure (dd := some 10) rfl rfl (op_extract_fz rfl (Opd.tmp _ _ rfl) rfl) ?_
  refine Run.pure (dd := some 11) rfl rfl (op_extract_fz rfl (Opd.tmp _ _ rfl) rfl) ?_
  refine Run.eff (dd := some 1) rfl rfl (op_alloc rfl rfl rfl rfl) ?_
  refine Run.eff (dd := none) rfl rfl (op_store_flat rfl (Opd.tmp _ _ rfl) (Opd.tmp _ _ rfl) tC rfl rfl (by first | rfl | assumption) tS) ?_
  refine Run.pure (dd := some 2) rfl rfl (op_assign rfl (Opd.tmp _ _ rfl)) ?_
  refine Run.nil (FinR.mk ?_)
  refine nK ?_
  refine s_reg rfl ?_
  refine Run.pure (dd := some 13) rfl rfl (op_call_pure (fun _ => l12) rfl (Opd.func _) (Opds.cons _ _ _ _ (Opd.const _) (Opds.cons _ _ _ _ (Opd.const _) (Opds.cons _ _ _ _ (Opd.const _) Opds.nil)))) ?_
  refine Run.pure (dd := some 14) rfl rfl (op_call_pure (fun _ => l23) rfl (Opd.func _) (Opds.cons _ _ _ _ (Opd.const _) (Opds.cons _ _ _ _ (Opd.const _) (Opds.cons _ _ _ _ (Opd.const _) Opds.nil)))) ?_
  refine Run.pure (dd := some 15) rfl rfl (op_buildSlice_fz rfl (RowsF.cons _ _ _ _ _ _ (Opd.tmp _ _ rfl) tC (by rfl) (RowsF.cons _ _ _ _ _ _ (Opd.tmp _ _ rfl) tC (by rfl) (RowsF.nil _))) rfl rfl) ?_
  refine Run.pure (dd := some 16) rfl rfl (op_call_pure (fun _ => b2) rfl (Opd.func _) (Opds.cons _ _ _ _ (Opd.tmp _ _ rfl) Opds.nil)) ?_
  refine Run.pure (dd := some 12) rfl rfl (op_move rfl (Opd.tmp _ _ rfl)) ?_
  refine Run.pure (dd := some 17) rfl rfl (op_extract_fz rfl (Opd.tmp _ _ rfl) rfl) ?_
  refine Run.pure (dd := some 18) rfl rfl (op_extract_fz rfl (Opd.tmp _ _ rfl) rfl) ?_
  refine Run.eff (dd := some 3) rfl rfl (op_alloc rfl rfl rfl rfl) ?_
  refine Run.eff (dd := none) rfl rfl (op_store_flat rfl (Opd.tmp _ _ rfl) (Opd.tmp _ _ rfl) tC rfl rfl (by first | rfl | assumption) tS) ?_
  refine Run.pure (dd := some 4) rfl rfl (op_assign rfl (Opd.tmp _ _ rfl)) ?_
  refine Run.nil (FinR.mk ?_)
  refine nK ?_
  refine nK ?_
  refine s_reg rfl ?_
  refine Run.pure (dd := some 19) rfl rfl (op_move rfl (Opd.tmp _ _ rfl)) ?_
  refine Run.pure (dd := some 20) rfl rfl (op_neq rfl (Opd.tmp _ _ rfl) (Opd.const _)) ?_
  refine Run.pure (dd := some 21) rfl rfl (op_move rfl (Opd.tmp _ _ rfl)) ?_
  refine Run.pureG (dd := some 22) rfl rfl rfl tG (op_move rfl (Opd.tmp _ _ rfl)) ?_
  refine Run.pureG (dd := some 23) rfl rfl rfl tG (op_neq rfl (Opd.topt _ _ _ rfl tO) (Opd.const _)) ?_
  refine Run.pure (dd := some 24) rfl rfl (op_pick_or rfl (Opd.tmp _ _ rfl) (Opd.topt _ _ _ rfl tO)) ?_
  refine Run.pure (dd := some 25) rfl rfl (op_move rfl (Opd.tmp _ _ rfl)) ?_
  refine Run.pureG (dd := some 26) rfl rfl rfl tG (op_fld_ptr (by decide) rfl (Opd.tmp _ _ rfl)) ?_
  refine Run.pureG (dd := some 27) rfl rfl rfl tG (op_fld_ptr (by decide) rfl (Opd.topt _ _ _ rfl tO)) ?_
  refine Run.loadG (dd := some 28) rfl rfl rfl tG (op_load1_flat rfl (Opd.topt _ _ _ rfl tO) tH rfl) ?_
  refine Run.pureG (dd := some 29) rfl rfl rfl tG (op_len_fz rfl (by first | exact Opd.topt _ _ _ rfl tO | exact Opd.nil _ _ (Opd.topt _ _ _ rfl tO)) (by first | exact List.length_map _ | rfl)) ?_
  refine Run.pureG (dd := some 30) rfl rfl rfl tG (op_neq rfl (Opd.topt _ _ _ rfl tO) (Opd.const _)) ?_
  refine Run.pure (dd := some 31) rfl rfl (op_pick_or rfl (Opd.tmp _ _ rfl) (Opd.topt _ _ _ rfl tO)) ?_
  refine Run.pure (dd := some 32) rfl rfl (op_move rfl (Opd.tmp _ _ rfl)) ?_
  refine Run.pureG (dd := some 33) rfl rfl rfl tG (op_fld_ptr (by decide) rfl (Opd.tmp _ _ rfl)) ?_
  refine Run.pureG (dd := some 34) rfl rfl rfl tG (op_fld_ptr (by decide) rfl (Opd.topt _ _ _ rfl tO)) ?_
  refine Run.loadG (dd := some 35) rfl rfl rfl tG (op_load1_flat rfl (Opd.topt _ _ _ rfl tO) tH rfl) ?_
  refine Run.pureG (dd := some 36) rfl rfl rfl tG (op_len_fz rfl (by first | exact Opd.topt _ _ _ rfl tO | exact Opd.nil _ _ (Opd.topt _ _ _ rfl tO)) (by first | exact List.length_map _ | rfl)) ?_
  refine Run.pureG (dd := some 37) rfl rfl rfl tG (op_neq rfl (Opd.topt _ _ _ rfl tO) (Opd.const _)) ?_
  refine Run.pure (dd := some 38) rfl rfl (op_pick_or rfl (Opd.tmp _ _ rfl) (Opd.topt _ _ _ rfl tO)) ?_
  refine Run.nil (FinR.mk ?_)
  refine nK ?_
  refine n_cond _ rfl (fun hb => ?_) (fun hb => ?_)
  · exfalso; simp at hb
  · refine nK ?_
    refine s_reg rfl ?_
    refine Run.pure (dd := some 39) rfl rfl (op_fld_ptr (by decide) rfl (Opd.tmp _ _ rfl)) ?_
    refine Run.pure (dd := some 40) rfl rfl (op_fld_ptr (by decide) rfl (Opd.tmp _ _ rfl)) ?_
    refine Run.load (dd := some 41) rfl rfl (op_load1_flat rfl (Opd.tmp _ _ rfl) tH rfl) ?_
    refine Run.pure (dd := some 42) rfl rfl (op_idx_fz 0 rfl (Opd.tmp _ _ rfl) (Opd.const _) (by intro _; exact ⟨rfl, rfl⟩)) ?_
    refine Run.pure (dd := some 43) rfl rfl (op_loadw_fz rfl (Opd.tmp _ _ rfl) rfl) ?_
    refine Run.pure (dd := some 44) rfl rfl (op_build rfl rfl rfl (FillF.cons _ _ _ _ _ _ _ _ _ _ (by rfl) (Opd.const _) tC (by rfl) tR (FillF.cons _ _ _ _ _ _ _ _ _ _ (by rfl) (Opd.const _) tC (by rfl) tR (FillF.cons _ _ _ _ _ _ _ _ _ _ (by rfl) (Opd.const _) tC (by rfl) tR (FillF.nil _))))) ?_
    refine Run.pure (dd := some 45) rfl rfl (op_eqS rfl (Opd.tmp _ _ rfl) (Opd.tmp _ _ rfl) (by kernel_rfl)) ?_
    refine Run.pure (dd := some 46) rfl rfl (op_move rfl (Opd.tmp _ _ rfl)) ?_
    refine Run.pureG (dd := some 47) rfl rfl rfl tG (op_fld_ptr (by decide) rfl (Opd.tmp _ _ rfl)) ?_
    refine Run.pureG (dd := some 48) rfl rfl rfl tG (op_fld_ptr (by decide) rfl (Opd.topt _ _ _ rfl tO)) ?_
    refine Run.loadG (dd := some 49) rfl rfl rfl tG (op_load1_flat rfl (Opd.topt _ _ _ rfl tO) tH rfl) ?_
    refine Run.pureG (dd := some 50) rfl rfl rfl tG (op_idx_fz 1 rfl (Opd.topt _ _ _ rfl tO) (Opd.const _) (by intro _; exact ⟨rfl, rfl⟩)) ?_
    refine Run.pureG (dd := some 51) rfl rfl rfl tG (op_loadw_fz rfl (Opd.topt _ _ _ rfl tO) rfl) ?_
    refine Run.pureG (dd := some 52) rfl rfl rfl tG (op_build rfl rfl rfl (FillF.cons _ _ _ _ _ _ _ _ _ _ (by rfl) (Opd.const _) tC (by rfl) tR (FillF.cons _ _ _ _ _ _ _ _ _ _ (by rfl) (Opd.const _) tC (by rfl) tR (FillF.cons _ _ _ _ _ _ _ _ _ _ (by rfl) (Opd.const _) tC (by rfl) tR (FillF.nil _))))) ?_
    refine Run.pureG (dd := some 53) rfl rfl rfl tG (op_eqS rfl (Opd.topt _ _ _ rfl tO) (Opd.topt _ _ _ rfl tO) (by kernel_rfl)) ?_
    refine Run.pure (dd := some 54) rfl rfl (op_pick_and rfl (Opd.tmp _ _ rfl) (Opd.topt _ _ _ rfl tO)) ?_
    refine Run.pure (dd := some 55) rfl rfl (op_move rfl (Opd.tmp _ _ rfl)) ?_
    refine Run.loadG (dd := some 56) rfl rfl rfl tG (op_loadw_flat rfl (Opd.tmp _ _ rfl) tH rfl) ?_
    refine Run.pureG (dd := some 57) rfl rfl rfl tG (op_call_pure (fun _ => k1) rfl (Opd.func _) (Opds.cons _ _ _ _ (Opd.topt _ _ _ rfl tO) (Opds.cons _ _ _ _ (Opd.const _) Opds.nil))) ?_
    refine Run.pureG (dd := some 58) rfl rfl rfl tG (op_eql rfl (Opd.topt _ _ _ rfl tO) (Opd.const _)) ?_
    refine Run.pure (dd := some 59) rfl rfl (op_pick_and rfl (Opd.tmp _ _ rfl) (Opd.topt _ _ _ rfl tO)) ?_
    refine Run.pure (dd := some 60) rfl rfl (op_move rfl (Opd.tmp _ _ rfl)) ?_
    refine Run.loadG (dd := some 61) rfl rfl rfl tG (op_loadw_flat rfl (Opd.tmp _ _ rfl) tH rfl) ?_
    refine Run.pureG (dd := some 62) rfl rfl rfl tG (op_call_pure (fun _ => k2) rfl (Opd.func _) (Opds.cons _ _ _ _ (Opd.topt _ _ _ rfl tO) (Opds.cons _ _ _ _ (Opd.const _) Opds.nil))) ?_
    refine Run.pureG (dd := some 63) rfl rfl rfl tG (op_eql rfl (Opd.topt _ _ _ rfl tO) (Opd.const _)) ?_
    refine Run.pure (dd := some 64) rfl rfl (op_pick_and rfl (Opd.tmp _ _ rfl) (Opd.topt _ _ _ rfl tO)) ?_
    refine Run.pure (dd := some 0) rfl rfl (op_assign rfl (Opd.tmp _ _ rfl)) ?_
    refine Run.nil (FinR.mk ?_)
    refine nK ?_
    refine s_oB hC rfl rfl ?_
    decide
open Go Go.RT Go.Proofs Go.Pl
set_option maxRecDepth 20000
theorem stubs_law (db : List Lsa) (r : Int) (ho : ∀ x ∈ db, okA x) : Pure Try.prog 7 [VA db, If .u32 r] (Bf true) := by
  refine Meets.intro Try.func7 rfl (Nat.le_of_ble_eq_true rfl) fun C hC => ?_
  simp only [List.map, argEnv, Nat.reduceAdd]
  refine nK ?_
  refine s_reg rfl ?_
  refine Run.pure (dd := some 4) rfl rfl (op_assign rfl (Opd.const _)) ?_
  refine Run.nil (FinR.mk ?_)
  refine nK ?_
  refine s_reg rfl ?_
  refine Run.pure (dd := some 5) rfl rfl (op_move rfl (Opd.tmp _ _ rfl)) ?_
  refine Run.pure (dd := some 6) rfl rfl (op_call_pure (fun _ => db_c _ (by assumption)) rfl (Opd.func _) (Opds.cons _ _ _ _ (Opd.tmp _ _ rfl) Opds.nil)) ?_
  refine Run.pure (dd := some 7) rfl rfl (op_neq rfl (Opd.tmp _ _ rfl) (Opd.const _)) ?_
  refine Run.nil (FinR.mk ?_)
  refine nK ?_
  refine n_cond _ rfl (fun hb => ?_) (fun hb => ?_)
  · refine nK ?_
    refine s_reg rfl ?_
    refine Run.pure (dd := some 8) rfl rfl (op_call_pure (fun _ => lives_c) rfl (Opd.func _) Opds.nil) ?_
    refine Run.pure (dd := some 4) rfl rfl (op_assign rfl (Opd.tmp _ _ rfl)) ?_
    refine Run.nil (FinR.mk ?_)
    refine nK ?_
    (first | exact s_o1 hC rfl tV | exact s_o2 hC rfl tV tV | exact s_o3 hC rfl tV tV tV | exact s_o4 hC rfl tV tV tV tV | exact s_out0 hC rfl | exact s_outO hC rfl rfl rfl)
  · have h0 : dbI db = 0 := by simpa using hb
    have hk := dbOk h0
    have hn : lenOk db.length := by have := hk.len; unfold lenOk; omega
    have hl : ∀ x ∈ db, x.ls.length ≤ 40000000 ∧ x.att.length ≤ 40000000 := fun x hx => by
      have := chkA_len (hk.chk x hx); omega
    have hlo : ((ownGo r db).getD zeroA).ls.length ≤ 64 := by
      cases hg : ownGo r db with
      | none => simp [zeroA]
      | some y =>
        rw [ownGo_eq] at hg
        exact (chkA_len (hk.chk y (List.mem_of_find?_eq_some hg))).1
    have k1 := stubs_a db r hn hl
    rw [stubs_eq hk] at k1
    have k2 := rstubs_c db r hn (by omega)
    have hsl := stubs_len ((ownGo r db).getD zeroA).ls
    have k3 := slinks_c (stubsL ((ownGo r db).getD zeroA).ls) (stubsL ((ownGo r db).getD zeroA).ls) (by unfold lenOk; omega) (by unfold lenOk; omega)
    refine nK ?_
    refine s_reg rfl ?_
    refine Run.pure (dd := some 9) rfl rfl (op_move rfl (Opd.tmp _ _ rfl)) ?_
    refine Run.pure (dd := some 10) rfl rfl (op_move rfl (Opd.tmp _ _ rfl)) ?_
    refine Run.pure (dd := some 11) rfl rfl (op_call_pure (fun _ => k1) rfl (Opd.func _) (Opds.cons _ _ _ _ (Opd.tmp _ _ rfl) (Opds.cons _ _ _ _ (Opd.tmp _ _ rfl) Opds.nil))) ?_
    refine Run.pure (dd := some 12) rfl rfl (op_move rfl (Opd.tmp _ _ rfl)) ?_
    refine Run.pure (dd := some 13) rfl rfl (op_move rfl (Opd.tmp _ _ rfl)) ?_
    refine Run.pure (dd := some 14) rfl rfl (op_call_pure (fun _ => k2) rfl (Opd.func _) (Opds.cons _ _ _ _ (Opd.tmp _ _ rfl) (Opds.cons _ _ _ _ (Opd.tmp _ _ rfl) Opds.nil))) ?_
    refine Run.pure (dd := some 15) rfl rfl (op_call_pure (fun _ => k3) rfl (Opd.func _) (Opds.cons _ _ _ _ (Opd.tmp _ _ rfl) (Opds.cons _ _ _ _ (Opd.tmp _ _ rfl) Opds.nil))) ?_
    refine Run.pure (dd := some 16) rfl rfl (op_move rfl (Opd.tmp _ _ rfl)) ?_
    refine Run.pureG (dd := some 17) rfl rfl rfl tG (op_call_pure (fun _ => lives_c) rfl (Opd.func _) Opds.nil) ?_
    refine Run.pure (dd := some 18) rfl rfl (op_pick_and rfl (Opd.tmp _ _ rfl) (Opd.topt _ _ _ rfl tO)) ?_
    refine Run.pure (dd := some 4) rfl rfl (op_assign rfl (Opd.tmp _ _ rfl)) ?_
    refine Run.nil (FinR.mk ?_)
    refine nK ?_
    refine s_oB hC rfl rfl ?_
    simp
end Go.Proofs.Ytdhkioocjgpocaa
/- How the arguments of the rows read. -/
namespace Go.Proofs.Ytdhkioocjgpocaa
open Go Go.RT Go.Proofs Go.Pl
set_option linter.all false
variable {H : Type} {enc : TypeId × Value → H} {W : World} {ok : DataW H → Prop} {B : Nat}
theorem rdc_n : RdC ok enc Try.prog W 3 (fun fs => ∃ n, inr .i64 n ∧ fs = [If .i64 n]) := rdc_int (P := Try.prog) (t := 3) inferInstance
theorem rdc_u : RdC ok enc Try.prog W 42 (fun fs => ∃ n, inr .u32 n ∧ fs = [If .u32 n]) := rdc_int (P := Try.prog) (t := 42) inferInstance
theorem rdc_a : RdC ok enc Try.prog W 46 (fun fs => ∃ n, inr .u32 n ∧ fs = [If .u32 n]) := rdc_int (P := Try.prog) (t := 46) inferInstance
theorem rdc_b : RdC ok enc Try.prog W 4 (fun fs => ∃ b, fs = [Bf b]) := rdc_bool (P := Try.prog) (t := 4) inferInstance
theorem rdc_us (dn : DnOk H ok B) : RdC ok enc Try.prog W 29 (fun fs => ∃ l : List Int, (∀ x ∈ l, okU x) ∧ l.length ≤ B ∧ fs = [VU l]) :=
  (rdc_slice (P := Try.prog) (t := 29) (e := 42) dn inferInstance inferInstance (by decide) rdc_u).imp fun fs h => by
    obtain ⟨rows, hr, hl, rfl⟩ := h
    obtain ⟨l, rfl, ho⟩ := rows_of (enc := encU) (ok := okU) (fun fs h => h) hr
    exact ⟨l, ho, by simpa using hl, rfl⟩
theorem rdc_hdr (dn : DnOk H ok B) : RdC ok enc Try.prog W 44 (fun fs => ∃ e : Hdr, okH e ∧ fs = encH e) :=
  (rdc_struct (P := Try.prog) (t := 44) dn Try.underlying44 (by kernel_rfl) (.cons _ _ _ _ rdc_n (.cons _ _ _ _ rdc_u (.cons _ _ _ _ rdc_n (.cons _ _ _ _ rdc_u (.cons _ _ _ _ rdc_n (.cons _ _ _ _ rdc_n (.cons _ _ _ _ rdc_n .nil)))))))).imp fun fs h => by
    obtain ⟨_, _, rfl, ⟨a, ha, rfl⟩, _, _, rfl, ⟨b, hb, rfl⟩, _, _, rfl, ⟨c, hc, rfl⟩, _, _, rfl, ⟨d, hd, rfl⟩, _, _, rfl, ⟨e, he, rfl⟩, _, _, rfl, ⟨f, hf, rfl⟩, _, _, rfl, ⟨g, hg, rfl⟩, rfl⟩ := h
    exact ⟨⟨a, b, c, d, e, f, g⟩, ⟨ha, hb, hc, hd, he, hf, hg⟩, rfl⟩
theorem rdc_lnk (dn : DnOk H ok B) : RdC ok enc Try.prog W 50 (fun fs => ∃ e : Lnk, okK e ∧ fs = encL e) :=
  (rdc_struct (P := Try.prog) (t := 50) dn Try.underlying50 (by kernel_rfl) (.cons _ _ _ _ rdc_n (.cons _ _ _ _ rdc_u (.cons _ _ _ _ rdc_u (.cons _ _ _ _ rdc_n .nil))))).imp fun fs h => by
    obtain ⟨_, _, rfl, ⟨a, ha, rfl⟩, _, _, rfl, ⟨b, hb, rfl⟩, _, _, rfl, ⟨c, hc, rfl⟩, _, _, rfl, ⟨d, hd, rfl⟩, rfl⟩ := h
    exact ⟨⟨a, b, c, d⟩, ⟨ha, hb, hc, hd⟩, rfl⟩
theorem rdc_lnks (dn : DnOk H ok B) : RdC ok enc Try.prog W 45 (fun fs => ∃ l : List Lnk, (∀ x ∈ l, okK x) ∧ l.length ≤ B ∧ fs = [VL l]) :=
  (rdc_slice (P := Try.prog) (t := 45) (e := 50) dn inferInstance inferInstance (by decide) (rdc_lnk dn)).imp fun fs h => by
    obtain ⟨rows, hr, hl, rfl⟩ := h
    obtain ⟨l, rfl, ho⟩ := rows_of (enc := encL) (ok := okK) (fun fs h => h) hr
    exact ⟨l, ho, by simpa using hl, rfl⟩
theorem rdc_lsa (dn : DnOk H ok B) : RdC ok enc Try.prog W 48 (fun fs => ∃ e : Lsa, okA e ∧ fs = encA e) :=
  (rdc_struct (P := Try.prog) (t := 48) dn Try.underlying48 (by kernel_rfl) (.cons _ _ _ _ (rdc_hdr dn) (.cons _ _ _ _ rdc_b (.cons _ _ _ _ rdc_b (.cons _ _ _ _ (rdc_lnks dn) (.cons _ _ _ _ (rdc_us dn) (.cons _ _ _ _ rdc_n (.cons _ _ _ _ rdc_b (.cons _ _ _ _ rdc_a (.cons _ _ _ _ rdc_n .nil)))))))))).imp fun fs h => by
    obtain ⟨_, _, rfl, ⟨h, hh, rfl⟩, _, _, rfl, ⟨b1, rfl⟩, _, _, rfl, ⟨b2, rfl⟩, _, _, rfl, ⟨l, hl, _, rfl⟩, _, _, rfl, ⟨u, hu, _, rfl⟩, _, _, rfl, ⟨c, hc, rfl⟩, _, _, rfl, ⟨s, rfl⟩, _, _, rfl, ⟨f, hf, rfl⟩, _, _, rfl, ⟨t, ht, rfl⟩, rfl⟩ := h
    exact ⟨⟨h, b1, b2, l, u, c, s, f, t⟩, ⟨hh, hl, hu, hc, hf, ht⟩, rfl⟩
theorem rdc_lsas (dn : DnOk H ok B) : RdC ok enc Try.prog W 22 (fun fs => ∃ l : List Lsa, (∀ x ∈ l, okA x) ∧ l.length ≤ B ∧ fs = [VA l]) :=
  (rdc_slice (P := Try.prog) (t := 22) (e := 48) dn inferInstance inferInstance (by decide) (rdc_lsa dn)).imp fun fs h => by
    obtain ⟨rows, hr, hl, rfl⟩ := h
    obtain ⟨l, rfl, ho⟩ := rows_of (enc := encA) (ok := okA) (fun fs h => h) hr
    exact ⟨l, ho, by simpa using hl, rfl⟩
end Go.Proofs.Ytdhkioocjgpocaa
