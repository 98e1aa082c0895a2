/- A part of the proof: A28, RT38, A29, AP9, A31, AP10, AP11, AP12, AP13, AP14, AP15, A32, LA. -/
import Derived.Test.YtdhkioocjgpocaaZE
set_option linter.all false
namespace Go.Proofs.Ytdhkioocjgpocaa
open Go Go.RT Go.Proofs Go.Pl
set_option linter.all false
set_option maxRecDepth 20000
set_option maxHeartbeats 4000000
theorem build_c (db : List Lsa) (hn : db.length ≤ 400) (ho : ∀ x ∈ db, okA x) (hl : ∀ x ∈ db, x.ls.length ≤ 64 ∧ x.att.length ≤ 64) : Pure Try.prog 10 [VA db] (.tup [.agg (encR (buildF db).1), If .i64 (buildF db).2]) := by
  haveI : KEnc Try.prog 42 Int ekU (inr .u32) := kenc_int (by kernel_rfl)
  unfold buildF
  have hc1 := counted_c db 1 (by omega)
  have hc2 := counted_c db 2 (by omega)
  have hR : (cntL 1 db).length ≤ 400 := Nat.le_trans (cnt_len 1 db) hn
  have hN : (cntL 2 db).length ≤ 400 := Nat.le_trans (cnt_len 2 db) hn
  have hro : ∀ x ∈ cntL 1 db, okA x := fun x hx => ho x (List.mem_filter.1 hx).1
  have hno : ∀ x ∈ cntL 2 db, okA x := fun x hx => ho x (List.mem_filter.1 hx).1
  have hrl : ∀ x ∈ cntL 1 db, x.ls.length ≤ 64 ∧ x.att.length ≤ 64 := fun x hx => hl x (List.mem_filter.1 hx).1
  have hnl : ∀ x ∈ cntL 2 db, x.ls.length ≤ 64 ∧ x.att.length ≤ 64 := fun x hx => hl x (List.mem_filter.1 hx).1
  generalize cntL 1 db = rs at *
  generalize cntL 2 db = ns at *
  clear ho hl
  refine Meets.intro Try.func10 rfl (Nat.le_of_ble_eq_true rfl) fun C hC => ?_
  simp only [List.map, argEnv, Nat.reduceAdd]
  refine nK ?_
  refine s_reg rfl ?_
  refine Run.eff (dd := some 2) rfl rfl (op_alloc rfl rfl rfl rfl) ?_
  refine Run.pure (dd := some 3) rfl rfl (op_assign rfl (Opd.const _)) ?_
  refine Run.nil (FinR.mk ?_)
  refine nK ?_
  refine s_reg rfl ?_
  refine Run.pure (dd := some 23) rfl rfl (op_move rfl (Opd.tmp _ _ rfl)) ?_
  refine Run.pure (dd := some 24) rfl rfl (op_call_pure (fun _ => hc1) rfl (Opd.func _) (Opds.cons _ _ _ _ (Opd.tmp _ _ rfl) (Opds.cons _ _ _ _ (Opd.const _) Opds.nil))) ?_
  refine Run.pure (dd := some 25) rfl rfl (op_move rfl (Opd.tmp _ _ rfl)) ?_
  refine Run.pure (dd := some 26) rfl rfl (op_call_pure (fun _ => hc2) rfl (Opd.func _) (Opds.cons _ _ _ _ (Opd.tmp _ _ rfl) (Opds.cons _ _ _ _ (Opd.const _) Opds.nil))) ?_
  refine Run.pure (dd := some 4) rfl rfl (op_assign rfl (Opd.tmp _ _ rfl)) ?_
  refine Run.pure (dd := some 5) rfl rfl (op_assign rfl (Opd.tmp _ _ rfl)) ?_
  refine Run.nil (FinR.mk ?_)
  refine nK ?_
  refine s_reg rfl ?_
  refine Run.eff (dd := some 6) rfl rfl (op_allocP rfl rfl rfl rfl rfl) ?_
  refine Run.nil (FinR.mk ?_)
  refine nK ?_
  refine s_reg rfl ?_
  refine Run.eff (dd := some 27) rfl rfl (op_makeMap rfl) ?_
  refine Run.pure (dd := some 28) rfl rfl (op_buildP rfl rfl rfl rfl (FillP.cons _ _ _ _ _ _ _ _ _ _ (by rfl) (Opd.tmp _ _ rfl) tP (by rfl) tR (FillP.nil _))) ?_
  refine Run.eff (dd := some 29) rfl rfl (op_box_refs rfl (Opd.tmp _ _ rfl) tP rfl) ?_
  refine Run.pure (dd := some 7) rfl rfl (op_assign rfl (Opd.tmp _ _ rfl)) ?_
  refine Run.nil (FinR.mk ?_)
  refine nK ?_
  refine s_reg rfl ?_
  refine Run.eff (dd := some 30) rfl rfl (op_makeMap rfl) ?_
  refine Run.pure (dd := some 8) rfl rfl (op_assign rfl (Opd.tmp _ _ rfl)) ?_
  refine Run.nil (FinR.mk ?_)
  refine nK ?_
  refine Next.adoptCell 1 0 3 1 rfl rfl rfl rfl ?_
  refine Next.adoptCell 1 0 4 3 rfl rfl rfl rfl ?_
  refine Next.adoptCell 3 0 1 3 rfl rfl rfl rfl ?_
  refine nK ?_
  refine s_reg rfl ?_
  refine Run.pure (dd := some 31) rfl rfl (op_move rfl (Opd.tmp _ _ rfl)) ?_
  refine Run.pure (dd := some 32) rfl rfl (op_len_fz rfl (by first | exact Opd.tmp _ _ rfl | exact Opd.nil _ _ (Opd.tmp _ _ rfl)) (by first | exact List.length_map _ | rfl)) ?_
  refine Run.pure (dd := some 33) rfl rfl (op_move rfl (Opd.const _)) ?_
  refine Run.nil (FinR.mk ?_)
  refine nK ?_
  refine n_loop (ι := Nat × List (Int × Int) × List (Int × List (Int × Bool))) (fun p => ([(2, .ptr 0 5 0 0), (4, .fz (VA rs)), (5, .fz (VA ns)), (6, .ptr 1 5 0 0), (7, .ptr 3 2 0 0), (8, .mp 4), (31, .fz (VA rs)), (32, IV .i64 rs.length), (33, IV .i64 p.1)], [(0, OR zeroR), (1, some (.refs 5 [[IV .i64 0, IV .i64 0, .fz (.lit (.slice none 0 0)), .sl 5 1 0 p.1, .sl 6 3 0 0]])), (2, OMap ekU evI p.2.1), (3, some (.refs 2 [[.mp 2, .sl 7 3 0 0]])), (4, OMap ekU FPts p.2.2), (5, some (.flat 1 (((rs.take p.1).map fun l => l.h.rt).map encU))), (6, some (.flat 3 [])), (7, some (.flat 3 []))], 8)) (fun p => p.1 ≤ rs.length ∧ mOk p.2.1 ∧ mOk p.2.2 ∧ (∀ q ∈ p.2.1, inr .i64 q.2) ∧ (∀ q ∈ p.2.2, mOk q.2) ∧ nodesGo p.1 (rs.drop p.1) p.2.1 = nodesGo 0 rs [] ∧ towGo (rs.drop p.1) p.2.2 = towGo rs []) (fun p => rs.length - p.1) (0, [], []) ⟨Nat.zero_le _, mOk_nil, mOk_nil, by simp, by simp, rfl, rfl⟩ ?_ ?_
  · refine Next.weak [0, 1, 2, 3, 4, 5, 6, 7] [] (by rfl) (keeps0 hC _) (by repeat (first | exact trivial | refine ⟨⟨_, rfl, .inl ⟨rfl, rfl⟩⟩, ?_⟩ | refine ⟨⟨_, rfl, .inl ⟨slEq rfl tN, rfl⟩⟩, ?_⟩ | refine ⟨⟨_, rfl, .inl ⟨ivEq tX, rfl⟩⟩, ?_⟩)) (by exact ⟨⟨rfl, rfl, .fflat _ _ _ rfl tW⟩, ⟨ent_same rfl rfl rfl tL, ⟨ent_same rfl rfl rfl tL, ⟨ent_same rfl rfl rfl tL, ⟨ent_same rfl rfl rfl tL, ⟨ent_same rfl rfl rfl tL, ⟨ent_same rfl rfl rfl tL, ⟨ent_same rfl rfl rfl tL, trivial⟩⟩⟩⟩⟩⟩⟩⟩) (fun _ h => by simp at h) (rel_intro)
  · intro ⟨i, nm, tm⟩ ⟨hi, hm1, hm2, hm3, hm4, hS1, hS2⟩ K hK
    dsimp only at hi hm1 hm2 hm3 hm4 hS1 hS2 ⊢
    refine nK ?_
    refine s_reg rfl ?_
    refine Run.pure (dd := some 34) rfl rfl (op_lss rfl (Opd.tmp _ _ rfl) (Opd.tmp _ _ rfl)) ?_
    refine Run.nil (FinR.mk ?_)
    refine nK ?_
    refine n_cond _ rfl (fun hb => ?_) (fun hb => ?_)
    · have hlt : i < rs.length := by simp at hb; omega
      have hr1 := row_at' encA rs i hlt
      have hol := hro rs[i] (List.getElem_mem hlt)
      have hll := hrl rs[i] (List.getElem_mem hlt)
      have hpt := points_c rs[i] hol (by omega)
      have hkr : inr .u32 rs[i].h.rt := hol.1.2.2.2.1
      rw [nodes_step hlt] at hS1
      rw [tow_step hlt] at hS2
      have hK1 := fun (a : ∀ q ∈ mput nm rs[i].h.rt (i : Int), inr .i64 q.2) (b : ∀ q ∈ mput tm rs[i].h.rt (ptsM rs[i].ls), mOk q.2) => hK (i + 1, mput nm rs[i].h.rt (i : Int), mput tm rs[i].h.rt (ptsM rs[i].ls)) ⟨by dsimp only; omega, hm1.put hkr _, hm2.put hkr _, a, b, hS1, hS2⟩ (by dsimp only; omega)
      dsimp only at hK1
      have e5 : ((rs.take (i + 1)).map fun l => l.h.rt).map encU = ((rs.take i).map fun l => l.h.rt).map encU ++ [encU rs[i].h.rt] := by rw [List.take_succ_eq_append_getElem hlt, List.map_append, List.map_append]; rfl
      rw [e5] at hK1
      refine nK ?_
      refine s_reg rfl ?_
      refine Run.pure (dd := some 35) rfl rfl (op_move rfl (Opd.tmp _ _ rfl)) ?_
      refine Run.pure (dd := some 36) rfl rfl (op_idx_fz _ rfl (Opd.tmp _ _ rfl) (Opd.tmp _ _ rfl) tF) ?_
      refine Run.pure (dd := some 37) rfl rfl (op_loadw_fz rfl (Opd.tmp _ _ rfl) rfl) ?_
      refine Run.eff (dd := some 10) rfl rfl (op_alloc rfl rfl rfl rfl) ?_
      refine Run.pure (dd := some 9) rfl rfl (op_assign rfl (Opd.tmp _ _ rfl)) ?_
      refine Run.eff (dd := none) rfl rfl (op_store_flat rfl (Opd.tmp _ _ rfl) (Opd.tmp _ _ rfl) tC rfl rfl (by first | rfl | assumption) tS) ?_
      refine Run.nil (FinR.mk ?_)
      refine nK ?_
      refine s_reg rfl ?_
      refine Run.pure (dd := some 38) rfl rfl (op_fld_ptr (by decide) rfl (Opd.tmp _ _ rfl)) ?_
      refine Run.load (dd := some 39) rfl rfl (op_load1_refs rfl (Opd.tmp _ _ rfl) tH rfl) ?_
      refine Run.pure (dd := some 40) rfl rfl (op_fld_ptr (by decide) rfl (Opd.tmp _ _ rfl)) ?_
      refine Run.pure (dd := some 41) rfl rfl (op_fld_ptr (by decide) rfl (Opd.tmp _ _ rfl)) ?_
      refine Run.load (dd := some 42) rfl rfl (op_load1_flat rfl (Opd.tmp _ _ rfl) tH rfl) ?_
      refine Run.pure (dd := some 43) rfl rfl (op_buildSlice_fz rfl (RowsF.cons _ _ _ _ _ _ (Opd.tmp _ _ rfl) tC (by rfl) (RowsF.nil _)) rfl rfl) ?_
      refine Run.eff (dd := some 44) rfl rfl (op_append rfl (Opd.tmp _ _ rfl) (Opd.tmp _ _ rfl) rfl (by simp; omega) rfl rfl tB tB) ?_
      refine Run.pure (dd := some 45) rfl rfl (op_fld_ptr (by decide) rfl (Opd.tmp _ _ rfl)) ?_
      refine Run.eff (dd := none) rfl rfl (op_store_refs rfl (Opd.tmp _ _ rfl) (Opd.tmp _ _ rfl) tP rfl rfl rfl tS) ?_
      refine Run.nil (FinR.mk ?_)
      refine nK ?_
      refine s_draw mixed ?_
      refine Run.pure (dd := some 46) rfl rfl (op_move rfl (Opd.tmp _ _ rfl)) ?_
      refine Run.pure (dd := some 47) rfl rfl (op_nilck_ptr rfl (Opd.tmp _ _ rfl)) ?_
      refine Run.pure (dd := some 48) rfl rfl (op_fld_ptr (by decide) rfl (Opd.tmp _ _ rfl)) ?_
      refine Run.load (dd := some 49) rfl rfl (op_load1_refs rfl (Opd.tmp _ _ rfl) tH rfl) ?_
      refine Run.pure (dd := some 50) rfl rfl (op_fld_ptr (by decide) rfl (Opd.tmp _ _ rfl)) ?_
      refine Run.pure (dd := some 51) rfl rfl (op_fld_ptr (by decide) rfl (Opd.tmp _ _ rfl)) ?_
      refine Run.load (dd := some 52) rfl rfl (op_load1_flat rfl (Opd.tmp _ _ rfl) tH rfl) ?_
      refine Run.pure (dd := some 53) rfl rfl (op_move rfl (Opd.tmp _ _ rfl)) ?_
      refine Run.effW (dd := none) rfl rfl (op_mapPut (κ := Int) (ν := Int) (ek := ekU) (ev := evI) (l := nm) (k := rs[i].h.rt) (v := (i : Int)) (.inl rfl) (Opd.tmp _ _ rfl) (Opd.tmp _ _ rfl) (Opd.tmp _ _ rfl) rfl hm1.1 hm1.2 hkr) tE ?_
      refine Run.nil (FinD.mk (by kernel_rfl) ?_)
      refine nK ?_
      refine s_draw mixed ?_
      refine Run.pure (dd := some 54) rfl rfl (op_move rfl (Opd.tmp _ _ rfl)) ?_
      refine Run.pure (dd := some 55) rfl rfl (op_fld_ptr (by decide) rfl (Opd.tmp _ _ rfl)) ?_
      refine Run.pure (dd := some 56) rfl rfl (op_fld_ptr (by decide) rfl (Opd.tmp _ _ rfl)) ?_
      refine Run.load (dd := some 57) rfl rfl (op_load1_flat rfl (Opd.tmp _ _ rfl) tH rfl) ?_
      refine Run.load (dd := some 58) rfl rfl (op_loadw_flat rfl (Opd.tmp _ _ rfl) tH rfl) ?_
      refine Run.pure (dd := some 59) rfl rfl (op_call_pure (fun _ => hpt) rfl (Opd.func _) (Opds.cons _ _ _ _ (Opd.tmp _ _ rfl) Opds.nil)) ?_
      refine Run.effW (dd := none) rfl rfl (op_mapPut (κ := Int) (ν := List (Int × Bool)) (ek := ekU) (ev := FPts) (l := tm) (k := rs[i].h.rt) (v := ptsM rs[i].ls) (.inl rfl) (Opd.tmp _ _ rfl) (Opd.tmp _ _ rfl) (Opd.tmp _ _ rfl) rfl hm2.1 hm2.2 hkr) tE ?_
      refine Run.nil (FinD.mk (by kernel_rfl) ?_)
      refine nK ?_
      refine s_reg rfl ?_
      refine Run.pure (dd := some 60) rfl rfl (op_add rfl (Opd.tmp _ _ rfl) (Opd.const _) tI) ?_
      refine Run.pure (dd := some 33) rfl rfl (op_move rfl (Opd.tmp _ _ rfl)) ?_
      refine Run.nil (FinR.mk ?_)
      refine nK ?_
      refine Next.weak [0, 1, 2, 3, 4, 9, 6, 7] [] (by rfl) (keeps0 hC _) (by repeat (first | exact trivial | refine ⟨⟨_, rfl, .inl ⟨rfl, rfl⟩⟩, ?_⟩ | refine ⟨⟨_, rfl, .inl ⟨slEq rfl tN, rfl⟩⟩, ?_⟩ | refine ⟨⟨_, rfl, .inl ⟨ivEq tX, rfl⟩⟩, ?_⟩)) (by exact ⟨ent_same rfl rfl rfl tL, ⟨ent_same rfl rfl rfl tL, ⟨ent_same rfl rfl rfl tL, ⟨ent_same rfl rfl rfl tL, ⟨ent_same rfl rfl rfl tL, ⟨ent_same rfl rfl rfl tL, ⟨ent_same rfl rfl rfl tL, ⟨ent_same rfl rfl rfl tL, trivial⟩⟩⟩⟩⟩⟩⟩⟩) (fun _ h => by simp at h) (hK1 ?_ ?_)
      · intro q hq
        rcases mput_vals _ _ _ _ hq with e | e
        · rw [e]; simp only [inr]; omega
        · exact hm3 q e
      · intro q hq
        rcases mput_vals _ _ _ _ hq with e | e
        · rw [e]; exact pts_ok _ _ hol.2.1 mOk_nil
        · exact hm4 q e
    · have hie : i = rs.length := by simp at hb; omega
      subst hie
      rw [List.drop_length] at hS1 hS2
      have hS1' : nm = nodesGo 0 rs [] := hS1
      have hS2' : tm = towGo rs [] := hS2
      rw [List.take_length]
      unfold buildG edgesG
      rw [← hS1', ← hS2']
      clear hK hS1 hS2 hS1' hS2'
      refine nK ?_
      refine s_reg rfl ?_
      refine Run.pure (dd := some 61) rfl rfl (op_move rfl (Opd.tmp _ _ rfl)) ?_
      refine Run.pure (dd := some 62) rfl rfl (op_len_fz rfl (by first | exact Opd.tmp _ _ rfl | exact Opd.nil _ _ (Opd.tmp _ _ rfl)) (by first | exact List.length_map _ | rfl)) ?_
      refine Run.pure (dd := some 63) rfl rfl (op_move rfl (Opd.const _)) ?_
      refine Run.nil (FinR.mk ?_)
      refine nK ?_
      refine n_loop (ι := Nat) (fun j => ([(2, .ptr 0 5 0 0), (4, .fz (VA rs)), (5, .fz (VA ns)), (6, .ptr 1 5 0 0), (7, .ptr 3 2 0 0), (8, .mp 4), (61, .fz (VA ns)), (62, IV .i64 ns.length), (63, IV .i64 j)], [(0, OR zeroR), (1, some (.refs 5 [[IV .i64 0, IV .i64 0, .fz (.lit (.slice none 0 0)), .sl 5 1 0 rs.length, .sl 6 3 0 j]])), (2, OMap ekU evI nm), (3, some (.refs 2 [[.mp 2, .sl 7 3 0 0]])), (4, OMap ekU FPts tm), (5, some (.flat 1 ((rs.map fun l => l.h.rt).map encU))), (6, some (.flat 3 (((ns.take j).map netOf).map encV))), (7, some (.flat 3 []))], 8)) (fun j => j ≤ ns.length) (fun j => ns.length - j) 0 (Nat.zero_le _) ?_ ?_
      · refine Next.weak [0, 1, 2, 3, 4, 5, 6, 7] [] (by rfl) (keeps0 hC _) (by repeat (first | exact trivial | refine ⟨⟨_, rfl, .inl ⟨rfl, rfl⟩⟩, ?_⟩ | refine ⟨⟨_, rfl, .inl ⟨slEq rfl tN, rfl⟩⟩, ?_⟩ | refine ⟨⟨_, rfl, .inl ⟨ivEq tX, rfl⟩⟩, ?_⟩)) (by exact ⟨ent_same rfl rfl rfl tL, ⟨ent_same rfl rfl rfl tL, ⟨ent_same rfl rfl rfl tL, ⟨ent_same rfl rfl rfl tL, ⟨ent_same rfl rfl rfl tL, ⟨ent_same rfl rfl rfl tL, ⟨ent_same rfl rfl rfl tL, ⟨ent_same rfl rfl rfl tL, trivial⟩⟩⟩⟩⟩⟩⟩⟩) (fun _ h => by simp at h) (rel_intro)
      · intro j hj K hK
        refine nK ?_
        refine s_reg rfl ?_
        refine Run.pure (dd := some 64) rfl rfl (op_lss rfl (Opd.tmp _ _ rfl) (Opd.tmp _ _ rfl)) ?_
        refine Run.nil (FinR.mk ?_)
        refine nK ?_
        refine n_cond _ rfl (fun hb => ?_) (fun hb => ?_)
        · have hlt : j < ns.length := by simp at hb; omega
          have hr1 := row_at' encA ns j hlt
          have hK1 := hK (j + 1) (by omega) (by omega)
          dsimp only at hK1
          have e5 : ((ns.take (j + 1)).map netOf).map encV = ((ns.take j).map netOf).map encV ++ [encV (netOf ns[j])] := by rw [List.take_succ_eq_append_getElem hlt, List.map_append, List.map_append]; rfl
          rw [e5] at hK1
          refine nK ?_
          refine s_reg rfl ?_
          refine Run.pure (dd := some 65) rfl rfl (op_idx_fz _ rfl (Opd.tmp _ _ rfl) (Opd.tmp _ _ rfl) tF) ?_
          refine Run.pure (dd := some 66) rfl rfl (op_loadw_fz rfl (Opd.tmp _ _ rfl) rfl) ?_
          refine Run.eff (dd := some 12) rfl rfl (op_alloc rfl rfl rfl rfl) ?_
          refine Run.eff (dd := none) rfl rfl (op_store_flat rfl (Opd.tmp _ _ rfl) (Opd.tmp _ _ rfl) tC rfl rfl (by first | rfl | assumption) tS) ?_
          refine Run.nil (FinR.mk ?_)
          refine nK ?_
          refine s_reg rfl ?_
          refine Run.pure (dd := some 67) rfl rfl (op_fld_ptr (by decide) rfl (Opd.tmp _ _ rfl)) ?_
          refine Run.load (dd := some 68) rfl rfl (op_load1_refs rfl (Opd.tmp _ _ rfl) tH rfl) ?_
          refine Run.pure (dd := some 69) rfl rfl (op_fld_ptr (by decide) rfl (Opd.tmp _ _ rfl)) ?_
          refine Run.pure (dd := some 70) rfl rfl (op_fld_ptr (by decide) rfl (Opd.tmp _ _ rfl)) ?_
          refine Run.load (dd := some 71) rfl rfl (op_load1_flat rfl (Opd.tmp _ _ rfl) tH rfl) ?_
          refine Run.pure (dd := some 72) rfl rfl (op_fld_ptr (by decide) rfl (Opd.tmp _ _ rfl)) ?_
          refine Run.pure (dd := some 73) rfl rfl (op_fld_ptr (by decide) rfl (Opd.tmp _ _ rfl)) ?_
          refine Run.load (dd := some 74) rfl rfl (op_load1_flat rfl (Opd.tmp _ _ rfl) tH rfl) ?_
          refine Run.pure (dd := some 75) rfl rfl (op_fld_ptr (by decide) rfl (Opd.tmp _ _ rfl)) ?_
          refine Run.pure (dd := some 76) rfl rfl (op_fld_ptr (by decide) rfl (Opd.tmp _ _ rfl)) ?_
          refine Run.load (dd := some 77) rfl rfl (op_load1_flat rfl (Opd.tmp _ _ rfl) tH rfl) ?_
          refine Run.pure (dd := some 78) rfl rfl (op_build rfl rfl rfl (FillF.cons _ _ _ _ _ _ _ _ _ _ (by rfl) (Opd.tmp _ _ rfl) tC (by rfl) tR (FillF.cons _ _ _ _ _ _ _ _ _ _ (by rfl) (Opd.tmp _ _ rfl) tC (by rfl) tR (FillF.cons _ _ _ _ _ _ _ _ _ _ (by rfl) (Opd.tmp _ _ rfl) tC (by rfl) tR (FillF.nil _))))) ?_
          refine Run.pure (dd := some 79) rfl rfl (op_buildSlice_fz rfl (RowsF.cons _ _ _ _ _ _ (Opd.tmp _ _ rfl) tC (by rfl) (RowsF.nil _)) rfl rfl) ?_
          refine Run.eff (dd := some 80) rfl rfl (op_append rfl (Opd.tmp _ _ rfl) (Opd.tmp _ _ rfl) rfl (by simp; omega) rfl rfl tB tB) ?_
          refine Run.pure (dd := some 81) rfl rfl (op_fld_ptr (by decide) rfl (Opd.tmp _ _ rfl)) ?_
          refine Run.eff (dd := none) rfl rfl (op_store_refs rfl (Opd.tmp _ _ rfl) (Opd.tmp _ _ rfl) tP rfl rfl rfl tS) ?_
          refine Run.nil (FinR.mk ?_)
          refine nK ?_
          refine s_reg rfl ?_
          refine Run.pure (dd := some 82) rfl rfl (op_add rfl (Opd.tmp _ _ rfl) (Opd.const _) tI) ?_
          refine Run.pure (dd := some 63) rfl rfl (op_move rfl (Opd.tmp _ _ rfl)) ?_
          refine Run.nil (FinR.mk ?_)
          refine nK ?_
          refine Next.weak [0, 1, 2, 3, 4, 5, 9, 7] [] (by rfl) (keeps0 hC _) (by repeat (first | exact trivial | refine ⟨⟨_, rfl, .inl ⟨rfl, rfl⟩⟩, ?_⟩ | refine ⟨⟨_, rfl, .inl ⟨slEq rfl tN, rfl⟩⟩, ?_⟩ | refine ⟨⟨_, rfl, .inl ⟨ivEq tX, rfl⟩⟩, ?_⟩)) (by exact ⟨ent_same rfl rfl rfl tL, ⟨ent_same rfl rfl rfl tL, ⟨ent_same rfl rfl rfl tL, ⟨ent_same rfl rfl rfl tL, ⟨ent_same rfl rfl rfl tL, ⟨ent_same rfl rfl rfl tL, ⟨ent_same rfl rfl rfl tL, ⟨ent_same rfl rfl rfl tL, trivial⟩⟩⟩⟩⟩⟩⟩⟩) (fun _ h => by simp at h) hK1
        · have hie : j = ns.length := by simp at hb; omega
          subst hie
          rw [List.take_length]
          clear hK
          have hEl : (rowE nm tm rs.length ns 0 rs).length ≤ rs.length * 51200 := rowE_len hN rs 0 (fun x hx => (hrl x hx).1)
          have hEl2 : rs.length * 51200 ≤ 400 * 51200 := Nat.mul_le_mul_right _ hR
          generalize hE : rowE nm tm rs.length ns 0 rs = E at *
          refine nK ?_
          refine s_reg rfl ?_
          refine Run.pure (dd := some 83) rfl rfl (op_move rfl (Opd.tmp _ _ rfl)) ?_
          refine Run.pure (dd := some 84) rfl rfl (op_len_fz rfl (by first | exact Opd.tmp _ _ rfl | exact Opd.nil _ _ (Opd.tmp _ _ rfl)) (by first | exact List.length_map _ | rfl)) ?_
          refine Run.pure (dd := some 85) rfl rfl (op_move rfl (Opd.const _)) ?_
          refine Run.nil (FinR.mk ?_)
          refine nK ?_
          refine n_loop (ι := Nat × List Edg) (fun p => ([(2, .ptr 0 5 0 0), (4, .fz (VA rs)), (5, .fz (VA ns)), (6, .ptr 1 5 0 0), (7, .ptr 3 2 0 0), (8, .mp 4), (83, .fz (VA rs)), (84, IV .i64 rs.length), (85, IV .i64 p.1)], [(0, OR zeroR), (1, some (.refs 5 [[IV .i64 0, IV .i64 0, .fz (.lit (.slice none 0 0)), .sl 5 1 0 rs.length, .sl 6 3 0 ns.length]])), (2, OMap ekU evI nm), (3, some (.refs 2 [[.mp 2, .sl 7 3 0 p.2.length]])), (4, OMap ekU FPts tm), (5, some (.flat 1 ((rs.map fun l => l.h.rt).map encU))), (6, some (.flat 3 ((ns.map netOf).map encV))), (7, OE p.2)], 8)) (fun p => p.1 ≤ rs.length ∧ p.2 ++ rowE nm tm rs.length ns p.1 (rs.drop p.1) = E) (fun p => rs.length - p.1) (0, []) ⟨Nat.zero_le _, hE⟩ ?_ ?_
          · refine Next.weak [0, 1, 2, 3, 4, 5, 6, 7] [] (by rfl) (keeps0 hC _) (by repeat (first | exact trivial | refine ⟨⟨_, rfl, .inl ⟨rfl, rfl⟩⟩, ?_⟩ | refine ⟨⟨_, rfl, .inl ⟨slEq rfl tN, rfl⟩⟩, ?_⟩ | refine ⟨⟨_, rfl, .inl ⟨ivEq tX, rfl⟩⟩, ?_⟩)) (by exact ⟨ent_same rfl rfl rfl tL, ⟨ent_same rfl rfl rfl tL, ⟨ent_same rfl rfl rfl tL, ⟨ent_same rfl rfl rfl tL, ⟨ent_same rfl rfl rfl tL, ⟨ent_same rfl rfl rfl tL, ⟨ent_same rfl rfl rfl tL, ⟨ent_same rfl rfl rfl tL, trivial⟩⟩⟩⟩⟩⟩⟩⟩) (fun _ h => by simp at h) (rel_intro)
          · intro ⟨i, es⟩ ⟨hi, hS⟩ K hK
            dsimp only at hi hS ⊢
            refine nK ?_
            refine s_reg rfl ?_
            refine Run.pure (dd := some 86) rfl rfl (op_lss rfl (Opd.tmp _ _ rfl) (Opd.tmp _ _ rfl)) ?_
            refine Run.nil (FinR.mk ?_)
            refine nK ?_
            refine n_cond _ rfl (fun hb => ?_) (fun hb => ?_)
            · have hlt : i < rs.length := by simp at hb; omega
              have hr1 := row_at' encA rs i hlt
              have hll := hrl rs[i] (List.getElem_mem hlt)
              have hol := hro rs[i] (List.getElem_mem hlt)
              rw [row_step hlt, ← List.append_assoc] at hS
              have hK1 := fun es' h => hK (i + 1, es') ⟨by dsimp only; omega, h⟩ (by dsimp only; omega)
              dsimp only at hK1
              generalize rs[i] = l at *
              have hkr : inr .u32 l.h.rt := hol.1.2.2.2.1
              generalize hM : es ++ l.ls.flatMap (lnkE nm tm rs.length ns i l.h.rt) = M at *
              have hMl : M.length ≤ 40000000 - 10 := by have := congrArg List.length hS; simp at this; omega
              refine nK ?_
              refine s_reg rfl ?_
              refine Run.pure (dd := some 87) rfl rfl (op_move rfl (Opd.tmp _ _ rfl)) ?_
              refine Run.pure (dd := some 88) rfl rfl (op_idx_fz _ rfl (Opd.tmp _ _ rfl) (Opd.tmp _ _ rfl) tF) ?_
              refine Run.pure (dd := some 89) rfl rfl (op_loadw_fz rfl (Opd.tmp _ _ rfl) rfl) ?_
              refine Run.eff (dd := some 14) rfl rfl (op_alloc rfl rfl rfl rfl) ?_
              refine Run.pure (dd := some 13) rfl rfl (op_assign rfl (Opd.tmp _ _ rfl)) ?_
              refine Run.eff (dd := none) rfl rfl (op_store_flat rfl (Opd.tmp _ _ rfl) (Opd.tmp _ _ rfl) tC rfl rfl (by first | rfl | assumption) tS) ?_
              refine Run.nil (FinR.mk ?_)
              refine nK ?_
              refine s_reg rfl ?_
              refine Run.pure (dd := some 90) rfl rfl (op_fld_ptr (by decide) rfl (Opd.tmp _ _ rfl)) ?_
              refine Run.load (dd := some 91) rfl rfl (op_load1_flat rfl (Opd.tmp _ _ rfl) tH rfl) ?_
              refine Run.pure (dd := some 92) rfl rfl (op_len_fz rfl (by first | exact Opd.tmp _ _ rfl | exact Opd.nil _ _ (Opd.tmp _ _ rfl)) (by first | exact List.length_map _ | rfl)) ?_
              refine Run.pure (dd := some 93) rfl rfl (op_move rfl (Opd.const _)) ?_
              refine Run.nil (FinR.mk ?_)
              refine nK ?_
              refine n_loop (ι := Nat × List Edg) (fun p => ([(2, .ptr 0 5 0 0), (4, .fz (VA rs)), (5, .fz (VA ns)), (6, .ptr 1 5 0 0), (7, .ptr 3 2 0 0), (8, .mp 4), (83, .fz (VA rs)), (84, IV .i64 rs.length), (85, IV .i64 i), (13, IV .i64 i), (14, .ptr 8 15 0 0), (91, .fz (VL l.ls)), (92, IV .i64 l.ls.length), (93, IV .i64 p.1)], [(0, OR zeroR), (1, some (.refs 5 [[IV .i64 0, IV .i64 0, .fz (.lit (.slice none 0 0)), .sl 5 1 0 rs.length, .sl 6 3 0 ns.length]])), (2, OMap ekU evI nm), (3, some (.refs 2 [[.mp 2, .sl 7 3 0 p.2.length]])), (4, OMap ekU FPts tm), (5, some (.flat 1 ((rs.map fun l => l.h.rt).map encU))), (6, some (.flat 3 ((ns.map netOf).map encV))), (7, OE p.2), (8, OA l)], 9)) (fun p => p.1 ≤ l.ls.length ∧ p.2 ++ (l.ls.drop p.1).flatMap (lnkE nm tm rs.length ns i l.h.rt) = M) (fun p => l.ls.length - p.1) (0, es) ⟨Nat.zero_le _, hM⟩ ?_ ?_
              · refine Next.weak [0, 1, 2, 3, 4, 5, 6, 7, 8] [] (by rfl) (keeps0 hC _) (by repeat (first | exact trivial | refine ⟨⟨_, rfl, .inl ⟨rfl, rfl⟩⟩, ?_⟩ | refine ⟨⟨_, rfl, .inl ⟨slEq rfl tN, rfl⟩⟩, ?_⟩ | refine ⟨⟨_, rfl, .inl ⟨ivEq tX, rfl⟩⟩, ?_⟩)) (by exact ⟨ent_same rfl rfl rfl tL, ⟨ent_same rfl rfl rfl tL, ⟨ent_same rfl rfl rfl tL, ⟨ent_same rfl rfl rfl tL, ⟨ent_same rfl rfl rfl tL, ⟨ent_same rfl rfl rfl tL, ⟨ent_same rfl rfl rfl tL, ⟨ent_same rfl rfl rfl tL, ⟨ent_same rfl rfl rfl tL, trivial⟩⟩⟩⟩⟩⟩⟩⟩⟩) (fun _ h => by simp at h) (rel_intro)
              · intro ⟨j, ec⟩ ⟨hj, hT⟩ K2 hK2
                dsimp only at hj hT ⊢
                refine nK ?_
                refine s_reg rfl ?_
                refine Run.pure (dd := some 94) rfl rfl (op_lss rfl (Opd.tmp _ _ rfl) (Opd.tmp _ _ rfl)) ?_
                refine Run.nil (FinR.mk ?_)
                refine nK ?_
                refine n_cond _ rfl (fun hb => ?_) (fun hb => ?_)
                · have hlt2 : j < l.ls.length := by simp at hb; omega
                  have hr2 := row_at' encL l.ls j hlt2
                  have hox := hol.2.1 l.ls[j] (List.getElem_mem hlt2)
                  rw [flatMap_step _ hlt2, ← List.append_assoc] at hT
                  have hK3 := fun es' h => hK2 (j + 1, es') ⟨by dsimp only; omega, h⟩ (by dsimp only; omega)
                  dsimp only at hK3
                  generalize l.ls[j] = x at *
                  have hkx : inr .u32 x.id := hox.2.1
                  have hpm : mOk ((mget tm x.id).getD []) := by
                    cases hg : mget tm x.id with
                    | none => exact mOk_nil
                    | some v => exact hm4 _ (mget_mem hg)
                  have hTl : (ec ++ lnkE nm tm rs.length ns i l.h.rt x).length ≤ 40000000 - 10 := by have := congrArg List.length hT; simp at this ⊢; omega
                  have hLE : lnkE nm tm rs.length ns i l.h.rt x = lnkE nm tm rs.length ns i l.h.rt x := rfl
                  conv at hLE => rhs; unfold lnkE
                  refine nK ?_
                  refine s_reg rfl ?_
                  refine Run.pure (dd := some 95) rfl rfl (op_idx_fz _ rfl (Opd.tmp _ _ rfl) (Opd.tmp _ _ rfl) tF) ?_
                  refine Run.pure (dd := some 96) rfl rfl (op_loadw_fz rfl (Opd.tmp _ _ rfl) rfl) ?_
                  refine Run.eff (dd := some 16) rfl rfl (op_alloc rfl rfl rfl rfl) ?_
                  refine Run.eff (dd := none) rfl rfl (op_store_flat rfl (Opd.tmp _ _ rfl) (Opd.tmp _ _ rfl) tC rfl rfl (by first | rfl | assumption) tS) ?_
                  refine Run.nil (FinR.mk ?_)
                  refine nK ?_
                  refine s_draw mixed ?_
                  refine Run.pure (dd := some 98) rfl rfl (op_move rfl (Opd.tmp _ _ rfl)) ?_
                  refine Run.pure (dd := some 99) rfl rfl (op_nilck_ptr rfl (Opd.tmp _ _ rfl)) ?_
                  refine Run.pure (dd := some 100) rfl rfl (op_fld_ptr (by decide) rfl (Opd.tmp _ _ rfl)) ?_
                  refine Run.load (dd := some 101) rfl rfl (op_load1_refs rfl (Opd.tmp _ _ rfl) tH rfl) ?_
                  refine Run.pure (dd := some 102) rfl rfl (op_fld_ptr (by decide) rfl (Opd.tmp _ _ rfl)) ?_
                  refine Run.load (dd := some 103) rfl rfl (op_load1_flat rfl (Opd.tmp _ _ rfl) tH rfl) ?_
                  refine Run.load (dd := some 104) rfl rfl (op_lookup2 (κ := Int) (ν := Int) (ek := ekU) (ev := evI) (l := nm) (k := x.id) 0 rfl (Opd.tmp _ _ rfl) (Opd.tmp _ _ rfl) rfl (by intro _; exact ⟨hm1.1, hm1.2, hkx⟩) (fun w S => .lit _)) ?_
                  refine Run.pure (dd := some 97) rfl rfl (op_move rfl (Opd.tmp _ _ rfl)) ?_
                  refine Run.pure (dd := some 105) rfl rfl (op_extract_fz rfl (Opd.tmp _ _ rfl) rfl) ?_
                  refine Run.pure (dd := some 106) rfl rfl (op_extract_fz rfl (Opd.tmp _ _ rfl) rfl) ?_
                  refine Run.pure (dd := some 17) rfl rfl (op_assign rfl (Opd.tmp _ _ rfl)) ?_
                  refine Run.pure (dd := some 18) rfl rfl (op_assign rfl (Opd.tmp _ _ rfl)) ?_
                  refine Run.nil (FinD.mk (by kernel_rfl) ?_)
                  refine nK ?_
                  refine s_reg rfl ?_
                  refine Run.pure (dd := some 108) rfl rfl (op_fld_ptr (by decide) rfl (Opd.tmp _ _ rfl)) ?_
                  refine Run.load (dd := some 109) rfl rfl (op_load1_flat rfl (Opd.tmp _ _ rfl) tH rfl) ?_
                  refine Run.pure (dd := some 110) rfl rfl (op_eql rfl (Opd.tmp _ _ rfl) (Opd.const _)) ?_
                  refine Run.pure (dd := some 111) rfl rfl (op_move rfl (Opd.tmp _ _ rfl)) ?_
                  refine Run.pureG (dd := some 112) rfl rfl rfl tG (op_move rfl (Opd.tmp _ _ rfl)) ?_
                  refine Run.pure (dd := some 113) rfl rfl (op_pick_and rfl (Opd.tmp _ _ rfl) (Opd.topt _ _ _ rfl tO)) ?_
                  refine Run.pure (dd := some 114) rfl rfl (op_move rfl (Opd.tmp _ _ rfl)) ?_
                  refine Run.pureG (dd := some 115) rfl rfl rfl tG (op_move rfl (Opd.tmp _ _ rfl)) ?_
                  refine Run.pureG (dd := some 116) rfl rfl rfl tG (op_fld_ptr (by decide) rfl (Opd.tmp _ _ rfl)) ?_
                  refine Run.loadG (dd := some 117) rfl rfl rfl tG (op_load1_flat rfl (Opd.topt _ _ _ rfl tO) tH rfl) ?_
                  refine Run.loadG (dd := some 118) rfl rfl rfl tG (op_lookup (κ := Int) (ν := List (Int × Bool)) (ek := ekU) (ev := FPts) (l := tm) (k := x.id) [] rfl (Opd.topt _ _ _ rfl tO) (Opd.topt _ _ _ rfl tO) rfl (by intro _; exact ⟨hm2.1, hm2.2, hkx⟩) (fun w S => .mapn)) ?_
                  refine Run.pureG (dd := some 119) rfl rfl rfl tG (op_fld_ptr (by decide) rfl (Opd.tmp _ _ rfl)) ?_
                  refine Run.pureG (dd := some 120) rfl rfl rfl tG (op_fld_ptr (by decide) rfl (Opd.topt _ _ _ rfl tO)) ?_
                  refine Run.loadG (dd := some 121) rfl rfl rfl tG (op_load1_flat rfl (Opd.topt _ _ _ rfl tO) tH rfl) ?_
                  refine Run.pureG (dd := some 122) rfl rfl rfl tG (op_lookupF (κ := Int) (ν := Bool) (ek := ekU) (ev := Bf) (l := (mget tm x.id).getD []) (k := l.h.rt) false rfl (Opd.topt _ _ _ rfl tO) (Opd.topt _ _ _ rfl tO) (by intro _; exact ⟨hpm.1, hpm.2, hkr⟩) (fun w S => .lit _)) ?_
                  refine Run.pure (dd := some 123) rfl rfl (op_pick_and rfl (Opd.tmp _ _ rfl) (Opd.topt _ _ _ rfl tO)) ?_
                  refine Run.pure (dd := some 107) rfl rfl (op_assign rfl (Opd.tmp _ _ rfl)) ?_
                  refine Run.nil (FinR.mk ?_)
                  refine nK ?_
                  refine n_cond _ rfl (fun hb => ?_) (fun hb => ?_)
                  · rw [ifT hb] at hLE
                    rw [hLE] at hT hTl
                    have hK4 := hK3 _ hT
                    have hel : (ec ++ ([⟨(i : Int), (mget nm x.id).getD 0, x.c⟩] : List Edg)).length = ec.length + 1 := by simp
                    rw [hel] at hK4
                    refine nK ?_
                    refine s_reg rfl ?_
                    refine Run.pure (dd := some 124) rfl rfl (op_move rfl (Opd.tmp _ _ rfl)) ?_
                    refine Run.pure (dd := some 125) rfl rfl (op_move rfl (Opd.tmp _ _ rfl)) ?_
                    refine Run.pure (dd := some 126) rfl rfl (op_move rfl (Opd.tmp _ _ rfl)) ?_
                    refine Run.pure (dd := some 127) rfl rfl (op_fld_ptr (by decide) rfl (Opd.tmp _ _ rfl)) ?_
                    refine Run.load (dd := some 128) rfl rfl (op_load1_flat rfl (Opd.tmp _ _ rfl) tH rfl) ?_
                    refine Run.pure (dd := some 129) rfl rfl (op_build rfl rfl rfl (FillF.cons _ _ _ _ _ _ _ _ _ _ (by rfl) (Opd.tmp _ _ rfl) tC (by rfl) tR (FillF.cons _ _ _ _ _ _ _ _ _ _ (by rfl) (Opd.tmp _ _ rfl) tC (by rfl) tR (FillF.cons _ _ _ _ _ _ _ _ _ _ (by rfl) (Opd.tmp _ _ rfl) tC (by rfl) tR (FillF.nil _))))) ?_
                    refine Run.pure (dd := some 130) rfl rfl (op_buildSlice_fz rfl (RowsF.cons _ _ _ _ _ _ (Opd.tmp _ _ rfl) tC (by rfl) (RowsF.nil _)) rfl rfl) ?_
                    refine Run.eff (dd := some 131) rfl rfl (op_call (n := 3) (n' := 4) [3, 2, 7] (fun _ => add_c nm ec ([⟨(i : Int), (mget nm x.id).getD 0, x.c⟩] : List Edg) (by simp; simp at hTl; omega)) rfl (Opd.func _) (Opds.cons _ _ _ _ (Opd.tmp _ _ rfl) (Opds.cons _ _ _ _ (Opd.tmp _ _ rfl) Opds.nil)) rfl rfl (Lent.of rfl rfl (by repeat (first | exact trivial | refine ⟨⟨rfl, rfl, rfl, tL⟩, ?_⟩)) rfl) rfl rfl rfl rfl rfl) ?_
                    refine Run.nil (FinR.mk ?_)
                    refine nK ?_
                    refine s_reg rfl ?_
                    refine Run.pure (dd := some 173) rfl rfl (op_add rfl (Opd.tmp _ _ rfl) (Opd.const _) tI) ?_
                    refine Run.pure (dd := some 93) rfl rfl (op_move rfl (Opd.tmp _ _ rfl)) ?_
                    refine Run.nil (FinR.mk ?_)
                    refine nK ?_
                    refine Next.weak [0, 1, 2, 3, 4, 5, 6, 10, 8] [] (by rfl) (keeps0 hC _) (by repeat (first | exact trivial | refine ⟨⟨_, rfl, .inl ⟨rfl, rfl⟩⟩, ?_⟩ | refine ⟨⟨_, rfl, .inl ⟨slEq rfl tN, rfl⟩⟩, ?_⟩ | refine ⟨⟨_, rfl, .inl ⟨ivEq tX, rfl⟩⟩, ?_⟩)) (by exact ⟨ent_same rfl rfl rfl tL, ⟨ent_same rfl rfl rfl tL, ⟨ent_same rfl rfl rfl tL, ⟨ent_same rfl rfl rfl tL, ⟨ent_same rfl rfl rfl tL, ⟨ent_same rfl rfl rfl tL, ⟨ent_same rfl rfl rfl tL, ⟨ent_same rfl rfl rfl tL, ⟨ent_same rfl rfl rfl tL, trivial⟩⟩⟩⟩⟩⟩⟩⟩⟩) (fun _ h => by simp at h) (hK4)
                  · rw [ifF hb] at hLE
                    refine nK ?_
                    refine s_reg rfl ?_
                    refine Run.pure (dd := some 133) rfl rfl (op_fld_ptr (by decide) rfl (Opd.tmp _ _ rfl)) ?_
                    refine Run.load (dd := some 134) rfl rfl (op_load1_flat rfl (Opd.tmp _ _ rfl) tH rfl) ?_
                    refine Run.pure (dd := some 135) rfl rfl (op_eql rfl (Opd.tmp _ _ rfl) (Opd.const _)) ?_
                    refine Run.pure (dd := some 132) rfl rfl (op_assign rfl (Opd.tmp _ _ rfl)) ?_
                    refine Run.nil (FinR.mk ?_)
                    refine nK ?_
                    refine n_cond _ rfl (fun hb => ?_) (fun hb => ?_)
                    · rw [ifT hb] at hLE
                      rw [hLE] at hT hTl
                      generalize hM2 : ec ++ netE rs.length i l.h.rt x 0 ns = M2 at *
                      refine nK ?_
                      refine s_reg rfl ?_
                      refine Run.pure (dd := some 136) rfl rfl (op_move rfl (Opd.tmp _ _ rfl)) ?_
                      refine Run.pure (dd := some 137) rfl rfl (op_len_fz rfl (by first | exact Opd.tmp _ _ rfl | exact Opd.nil _ _ (Opd.tmp _ _ rfl)) (by first | exact List.length_map _ | rfl)) ?_
                      refine Run.pure (dd := some 138) rfl rfl (op_move rfl (Opd.const _)) ?_
                      refine Run.nil (FinR.mk ?_)
                      refine nK ?_
                      refine n_loop (ι := Nat × List Edg) (fun p => ([(2, .ptr 0 5 0 0), (4, .fz (VA rs)), (5, .fz (VA ns)), (6, .ptr 1 5 0 0), (7, .ptr 3 2 0 0), (8, .mp 4), (83, .fz (VA rs)), (84, IV .i64 rs.length), (85, IV .i64 i), (13, IV .i64 i), (14, .ptr 8 15 0 0), (91, .fz (VL l.ls)), (92, IV .i64 l.ls.length), (93, IV .i64 j), (16, .ptr 9 4 0 0), (136, .fz (VA ns)), (137, IV .i64 ns.length), (138, IV .i64 p.1)], [(0, OR zeroR), (1, some (.refs 5 [[IV .i64 0, IV .i64 0, .fz (.lit (.slice none 0 0)), .sl 5 1 0 rs.length, .sl 6 3 0 ns.length]])), (2, OMap ekU evI nm), (3, some (.refs 2 [[.mp 2, .sl 7 3 0 p.2.length]])), (4, OMap ekU FPts tm), (5, some (.flat 1 ((rs.map fun l => l.h.rt).map encU))), (6, some (.flat 3 ((ns.map netOf).map encV))), (7, OE p.2), (8, OA l), (9, some (.flat 4 [encL x]))], 10)) (fun p => p.1 ≤ ns.length ∧ p.2 ++ netE rs.length i l.h.rt x p.1 (ns.drop p.1) = M2) (fun p => ns.length - p.1) (0, ec) ⟨Nat.zero_le _, hM2⟩ ?_ ?_
                      · refine Next.weak [0, 1, 2, 3, 4, 5, 6, 7, 8, 9] [] (by rfl) (keeps0 hC _) (by repeat (first | exact trivial | refine ⟨⟨_, rfl, .inl ⟨rfl, rfl⟩⟩, ?_⟩ | refine ⟨⟨_, rfl, .inl ⟨slEq rfl tN, rfl⟩⟩, ?_⟩ | refine ⟨⟨_, rfl, .inl ⟨ivEq tX, rfl⟩⟩, ?_⟩)) (by exact ⟨ent_same rfl rfl rfl tL, ⟨ent_same rfl rfl rfl tL, ⟨ent_same rfl rfl rfl tL, ⟨ent_same rfl rfl rfl tL, ⟨ent_same rfl rfl rfl tL, ⟨ent_same rfl rfl rfl tL, ⟨ent_same rfl rfl rfl tL, ⟨ent_same rfl rfl rfl tL, ⟨ent_same rfl rfl rfl tL, ⟨ent_same rfl rfl rfl tL, trivial⟩⟩⟩⟩⟩⟩⟩⟩⟩⟩) (fun _ h => by simp at h) (rel_intro)
                      · intro ⟨k, ed⟩ ⟨hk, hU⟩ K3 hK5
                        dsimp only at hk hU ⊢
                        refine nK ?_
                        refine s_reg rfl ?_
                        refine Run.pure (dd := some 139) rfl rfl (op_lss rfl (Opd.tmp _ _ rfl) (Opd.tmp _ _ rfl)) ?_
                        refine Run.nil (FinR.mk ?_)
                        refine nK ?_
                        refine n_cond _ rfl (fun hb => ?_) (fun hb => ?_)
                        · have hlt3 : k < ns.length := by simp at hb; omega
                          have hr3 := row_at' encA ns k hlt3
                          have hnk := hnl ns[k] (List.getElem_mem hlt3)
                          rw [net_step hlt3, ← List.append_assoc] at hU
                          have hK6 := fun es' h => hK5 (k + 1, es') ⟨by dsimp only; omega, h⟩ (by dsimp only; omega)
                          dsimp only at hK6
                          generalize ns[k] = nd at *
                          have hna : lenOk nd.att.length := by unfold lenOk; omega
                          refine nK ?_
                          refine s_reg rfl ?_
                          refine Run.pure (dd := some 140) rfl rfl (op_move rfl (Opd.tmp _ _ rfl)) ?_
                          refine Run.pure (dd := some 141) rfl rfl (op_idx_fz _ rfl (Opd.tmp _ _ rfl) (Opd.tmp _ _ rfl) tF) ?_
                          refine Run.pure (dd := some 142) rfl rfl (op_loadw_fz rfl (Opd.tmp _ _ rfl) rfl) ?_
                          refine Run.eff (dd := some 20) rfl rfl (op_alloc rfl rfl rfl rfl) ?_
                          refine Run.pure (dd := some 19) rfl rfl (op_assign rfl (Opd.tmp _ _ rfl)) ?_
                          refine Run.eff (dd := none) rfl rfl (op_store_flat rfl (Opd.tmp _ _ rfl) (Opd.tmp _ _ rfl) tC rfl rfl (by first | rfl | assumption) tS) ?_
                          refine Run.nil (FinR.mk ?_)
                          refine nK ?_
                          refine s_reg rfl ?_
                          refine Run.pure (dd := some 143) rfl rfl (op_move rfl (Opd.tmp _ _ rfl)) ?_
                          refine Run.pure (dd := some 144) rfl rfl (op_len_fz rfl (by first | exact Opd.tmp _ _ rfl | exact Opd.nil _ _ (Opd.tmp _ _ rfl)) (by first | exact List.length_map _ | rfl)) ?_
                          refine Run.pure (dd := some 145) rfl rfl (op_move rfl (Opd.tmp _ _ rfl)) ?_
                          refine Run.pure (dd := some 146) rfl rfl (op_add rfl (Opd.tmp _ _ rfl) (Opd.tmp _ _ rfl) tI) ?_
                          refine Run.pure (dd := some 21) rfl rfl (op_assign rfl (Opd.tmp _ _ rfl)) ?_
                          refine Run.nil (FinR.mk ?_)
                          refine nK ?_
                          refine s_reg rfl ?_
                          refine Run.pure (dd := some 147) rfl rfl (op_fld_ptr (by decide) rfl (Opd.tmp _ _ rfl)) ?_
                          refine Run.pure (dd := some 148) rfl rfl (op_fld_ptr (by decide) rfl (Opd.tmp _ _ rfl)) ?_
                          refine Run.load (dd := some 149) rfl rfl (op_load1_flat rfl (Opd.tmp _ _ rfl) tH rfl) ?_
                          refine Run.pure (dd := some 150) rfl rfl (op_fld_ptr (by decide) rfl (Opd.tmp _ _ rfl)) ?_
                          refine Run.load (dd := some 151) rfl rfl (op_load1_flat rfl (Opd.tmp _ _ rfl) tH rfl) ?_
                          refine Run.pure (dd := some 152) rfl rfl (op_eql rfl (Opd.tmp _ _ rfl) (Opd.tmp _ _ rfl)) ?_
                          refine Run.pure (dd := some 153) rfl rfl (op_move rfl (Opd.tmp _ _ rfl)) ?_
                          refine Run.pureG (dd := some 154) rfl rfl rfl tG (op_fld_ptr (by decide) rfl (Opd.tmp _ _ rfl)) ?_
                          refine Run.loadG (dd := some 155) rfl rfl rfl tG (op_load1_flat rfl (Opd.topt _ _ _ rfl tO) tH rfl) ?_
                          refine Run.pureG (dd := some 156) rfl rfl rfl tG (op_fld_ptr (by decide) rfl (Opd.tmp _ _ rfl)) ?_
                          refine Run.pureG (dd := some 157) rfl rfl rfl tG (op_fld_ptr (by decide) rfl (Opd.topt _ _ _ rfl tO)) ?_
                          refine Run.loadG (dd := some 158) rfl rfl rfl tG (op_load1_flat rfl (Opd.topt _ _ _ rfl tO) tH rfl) ?_
                          refine Run.pureG (dd := some 159) rfl rfl rfl tG (op_call_pure (fun _ => scont_c _ _ (by assumption)) rfl (Opd.func _) (Opds.cons _ _ _ _ (Opd.topt _ _ _ rfl tO) (Opds.cons _ _ _ _ (Opd.topt _ _ _ rfl tO) Opds.nil))) ?_
                          refine Run.pure (dd := some 160) rfl rfl (op_pick_and rfl (Opd.tmp _ _ rfl) (Opd.topt _ _ _ rfl tO)) ?_
                          refine Run.nil (FinR.mk ?_)
                          refine nK ?_
                          refine n_cond _ rfl (fun hb => ?_) (fun hb => ?_)
                          · rw [ifT hb] at hU
                            have hTl : (ed ++ ([⟨(i : Int), (rs.length : Int) + k, x.c⟩, ⟨(rs.length : Int) + k, (i : Int), 0⟩] : List Edg)).length ≤ 40000000 - 10 := by have := congrArg List.length hU; simp at this ⊢; omega
                            have hK7 := hK6 _ hU
                            have hel : (ed ++ ([⟨(i : Int), (rs.length : Int) + k, x.c⟩, ⟨(rs.length : Int) + k, (i : Int), 0⟩] : List Edg)).length = ed.length + 2 := by simp
                            rw [hel] at hK7
                            refine nK ?_
                            refine s_reg rfl ?_
                            refine Run.pure (dd := some 161) rfl rfl (op_move rfl (Opd.tmp _ _ rfl)) ?_
                            refine Run.pure (dd := some 162) rfl rfl (op_move rfl (Opd.tmp _ _ rfl)) ?_
                            refine Run.pure (dd := some 163) rfl rfl (op_move rfl (Opd.tmp _ _ rfl)) ?_
                            refine Run.pure (dd := some 164) rfl rfl (op_fld_ptr (by decide) rfl (Opd.tmp _ _ rfl)) ?_
                            refine Run.load (dd := some 165) rfl rfl (op_load1_flat rfl (Opd.tmp _ _ rfl) tH rfl) ?_
                            refine Run.pure (dd := some 166) rfl rfl (op_build rfl rfl rfl (FillF.cons _ _ _ _ _ _ _ _ _ _ (by rfl) (Opd.tmp _ _ rfl) tC (by rfl) tR (FillF.cons _ _ _ _ _ _ _ _ _ _ (by rfl) (Opd.tmp _ _ rfl) tC (by rfl) tR (FillF.cons _ _ _ _ _ _ _ _ _ _ (by rfl) (Opd.tmp _ _ rfl) tC (by rfl) tR (FillF.nil _))))) ?_
                            refine Run.pure (dd := some 167) rfl rfl (op_move rfl (Opd.tmp _ _ rfl)) ?_
                            refine Run.pure (dd := some 168) rfl rfl (op_move rfl (Opd.tmp _ _ rfl)) ?_
                            refine Run.pure (dd := some 169) rfl rfl (op_build rfl rfl rfl (FillF.cons _ _ _ _ _ _ _ _ _ _ (by rfl) (Opd.tmp _ _ rfl) tC (by rfl) tR (FillF.cons _ _ _ _ _ _ _ _ _ _ (by rfl) (Opd.tmp _ _ rfl) tC (by rfl) tR (FillF.nil _)))) ?_
                            refine Run.pure (dd := some 170) rfl rfl (op_buildSlice_fz rfl (RowsF.cons _ _ _ _ _ _ (Opd.tmp _ _ rfl) tC (by rfl) (RowsF.cons _ _ _ _ _ _ (Opd.tmp _ _ rfl) tC (by rfl) (RowsF.nil _))) rfl rfl) ?_
                            refine Run.eff (dd := some 171) rfl rfl (op_call (n := 3) (n' := 4) [3, 2, 7] (fun _ => add_c nm ed ([⟨(i : Int), (rs.length : Int) + k, x.c⟩, ⟨(rs.length : Int) + k, (i : Int), 0⟩] : List Edg) (by simp; simp at hTl; omega)) rfl (Opd.func _) (Opds.cons _ _ _ _ (Opd.tmp _ _ rfl) (Opds.cons _ _ _ _ (Opd.tmp _ _ rfl) Opds.nil)) rfl rfl (Lent.of rfl rfl (by repeat (first | exact trivial | refine ⟨⟨rfl, rfl, rfl, tL⟩, ?_⟩)) rfl) rfl rfl rfl rfl rfl) ?_
                            refine Run.nil (FinR.mk ?_)
                            refine nK ?_
                            refine s_reg rfl ?_
                            refine Run.pure (dd := some 172) rfl rfl (op_add rfl (Opd.tmp _ _ rfl) (Opd.const _) tI) ?_
                            refine Run.pure (dd := some 138) rfl rfl (op_move rfl (Opd.tmp _ _ rfl)) ?_
                            refine Run.nil (FinR.mk ?_)
                            refine nK ?_
                            refine Next.weak [0, 1, 2, 3, 4, 5, 6, 11, 8, 9] [] (by rfl) (keeps0 hC _) (by repeat (first | exact trivial | refine ⟨⟨_, rfl, .inl ⟨rfl, rfl⟩⟩, ?_⟩ | refine ⟨⟨_, rfl, .inl ⟨slEq rfl tN, rfl⟩⟩, ?_⟩ | refine ⟨⟨_, rfl, .inl ⟨ivEq tX, rfl⟩⟩, ?_⟩)) (by exact ⟨ent_same rfl rfl rfl tL, ⟨ent_same rfl rfl rfl tL, ⟨ent_same rfl rfl rfl tL, ⟨ent_same rfl rfl rfl tL, ⟨ent_same rfl rfl rfl tL, ⟨ent_same rfl rfl rfl tL, ⟨ent_same rfl rfl rfl tL, ⟨ent_same rfl rfl rfl tL, ⟨ent_same rfl rfl rfl tL, ⟨ent_same rfl rfl rfl tL, trivial⟩⟩⟩⟩⟩⟩⟩⟩⟩⟩) (fun _ h => by simp at h) (hK7)
                          · rw [ifF hb, List.append_nil] at hU
                            refine nK ?_
                            refine s_reg rfl ?_
                            refine Run.pure (dd := some 172) rfl rfl (op_add rfl (Opd.tmp _ _ rfl) (Opd.const _) tI) ?_
                            refine Run.pure (dd := some 138) rfl rfl (op_move rfl (Opd.tmp _ _ rfl)) ?_
                            refine Run.nil (FinR.mk ?_)
                            refine nK ?_
                            refine Next.weak [0, 1, 2, 3, 4, 5, 6, 7, 8, 9] [] (by rfl) (keeps0 hC _) (by repeat (first | exact trivial | refine ⟨⟨_, rfl, .inl ⟨rfl, rfl⟩⟩, ?_⟩ | refine ⟨⟨_, rfl, .inl ⟨slEq rfl tN, rfl⟩⟩, ?_⟩ | refine ⟨⟨_, rfl, .inl ⟨ivEq tX, rfl⟩⟩, ?_⟩)) (by exact ⟨ent_same rfl rfl rfl tL, ⟨ent_same rfl rfl rfl tL, ⟨ent_same rfl rfl rfl tL, ⟨ent_same rfl rfl rfl tL, ⟨ent_same rfl rfl rfl tL, ⟨ent_same rfl rfl rfl tL, ⟨ent_same rfl rfl rfl tL, ⟨ent_same rfl rfl rfl tL, ⟨ent_same rfl rfl rfl tL, ⟨ent_same rfl rfl rfl tL, trivial⟩⟩⟩⟩⟩⟩⟩⟩⟩⟩) (fun _ h => by simp at h) (hK6 _ hU)
                        · have hie3 : k = ns.length := by simp at hb; omega
                          rw [hie3, List.drop_length] at hU
                          simp only [netE, List.append_nil] at hU
                          subst hU
                          refine nK ?_
                          refine s_reg rfl ?_
                          refine Run.pure (dd := some 173) rfl rfl (op_add rfl (Opd.tmp _ _ rfl) (Opd.const _) tI) ?_
                          refine Run.pure (dd := some 93) rfl rfl (op_move rfl (Opd.tmp _ _ rfl)) ?_
                          refine Run.nil (FinR.mk ?_)
                          refine nK ?_
                          refine Next.weak [0, 1, 2, 3, 4, 5, 6, 7, 8] [] (by rfl) (keeps0 hC _) (by repeat (first | exact trivial | refine ⟨⟨_, rfl, .inl ⟨rfl, rfl⟩⟩, ?_⟩ | refine ⟨⟨_, rfl, .inl ⟨slEq rfl tN, rfl⟩⟩, ?_⟩ | refine ⟨⟨_, rfl, .inl ⟨ivEq tX, rfl⟩⟩, ?_⟩)) (by exact ⟨ent_same rfl rfl rfl tL, ⟨ent_same rfl rfl rfl tL, ⟨ent_same rfl rfl rfl tL, ⟨ent_same rfl rfl rfl tL, ⟨ent_same rfl rfl rfl tL, ⟨ent_same rfl rfl rfl tL, ⟨ent_same rfl rfl rfl tL, ⟨ent_same rfl rfl rfl tL, ⟨ent_same rfl rfl rfl tL, trivial⟩⟩⟩⟩⟩⟩⟩⟩⟩) (fun _ h => by simp at h) (hK3 _ hT)
                    · rw [ifF hb] at hLE
                      rw [hLE, List.append_nil] at hT
                      refine nK ?_
                      refine s_reg rfl ?_
                      refine Run.pure (dd := some 173) rfl rfl (op_add rfl (Opd.tmp _ _ rfl) (Opd.const _) tI) ?_
                      refine Run.pure (dd := some 93) rfl rfl (op_move rfl (Opd.tmp _ _ rfl)) ?_
                      refine Run.nil (FinR.mk ?_)
                      refine nK ?_
                      refine Next.weak [0, 1, 2, 3, 4, 5, 6, 7, 8] [] (by rfl) (keeps0 hC _) (by repeat (first | exact trivial | refine ⟨⟨_, rfl, .inl ⟨rfl, rfl⟩⟩, ?_⟩ | refine ⟨⟨_, rfl, .inl ⟨slEq rfl tN, rfl⟩⟩, ?_⟩ | refine ⟨⟨_, rfl, .inl ⟨ivEq tX, rfl⟩⟩, ?_⟩)) (by exact ⟨ent_same rfl rfl rfl tL, ⟨ent_same rfl rfl rfl tL, ⟨ent_same rfl rfl rfl tL, ⟨ent_same rfl rfl rfl tL, ⟨ent_same rfl rfl rfl tL, ⟨ent_same rfl rfl rfl tL, ⟨ent_same rfl rfl rfl tL, ⟨ent_same rfl rfl rfl tL, ⟨ent_same rfl rfl rfl tL, trivial⟩⟩⟩⟩⟩⟩⟩⟩⟩) (fun _ h => by simp at h) (hK3 _ hT)
                · have hie2 : j = l.ls.length := by simp at hb; omega
                  rw [hie2, List.drop_length] at hT
                  simp only [List.flatMap_nil, List.append_nil] at hT
                  subst hT
                  refine nK ?_
                  refine s_reg rfl ?_
                  refine Run.pure (dd := some 174) rfl rfl (op_add rfl (Opd.tmp _ _ rfl) (Opd.const _) tI) ?_
                  refine Run.pure (dd := some 85) rfl rfl (op_move rfl (Opd.tmp _ _ rfl)) ?_
                  refine Run.nil (FinR.mk ?_)
                  refine nK ?_
                  refine Next.weak [0, 1, 2, 3, 4, 5, 6, 7] [] (by rfl) (keeps0 hC _) (by repeat (first | exact trivial | refine ⟨⟨_, rfl, .inl ⟨rfl, rfl⟩⟩, ?_⟩ | refine ⟨⟨_, rfl, .inl ⟨slEq rfl tN, rfl⟩⟩, ?_⟩ | refine ⟨⟨_, rfl, .inl ⟨ivEq tX, rfl⟩⟩, ?_⟩)) (by exact ⟨ent_same rfl rfl rfl tL, ⟨ent_same rfl rfl rfl tL, ⟨ent_same rfl rfl rfl tL, ⟨ent_same rfl rfl rfl tL, ⟨ent_same rfl rfl rfl tL, ⟨ent_same rfl rfl rfl tL, ⟨ent_same rfl rfl rfl tL, ⟨ent_same rfl rfl rfl tL, trivial⟩⟩⟩⟩⟩⟩⟩⟩) (fun _ h => by simp at h) (hK1 _ hS)
            · have hie1 : i = rs.length := by simp at hb; omega
              rw [hie1, List.drop_length] at hS
              simp only [rowE, List.append_nil] at hS
              subst hS
              clear hK
              have hokE : okEs es := by rw [← hE]; exact rowE_ok hR hN hm3 rs 0 (by omega) hro
              have hof := of_c (rs.length : Int) (ns.length : Int) es (by simp only [inr]; omega) (by simp only [inr]; omega) hokE (by omega)
              refine nK ?_
              refine s_reg rfl ?_
              refine Run.pure (dd := some 22) rfl rfl (op_assign rfl (Opd.const _)) ?_
              refine Run.nil (FinR.mk ?_)
              refine nK ?_
              refine Next.weak [0, 1, 3, 5, 6] [2, 7] (by rfl) (keeps0 hC _) (G' := [(2, .ptr 0 5 0 0), (4, .fz (VA rs)), (5, .fz (VA ns)), (6, .ptr 1 5 0 0), (7, .ptr 2 2 0 0)]) (H' := [(0, OR zeroR), (1, some (.refs 5 [[IV .i64 0, IV .i64 0, .fz (.lit (.slice none 0 0)), .sl 3 1 0 rs.length, .sl 4 3 0 ns.length]])), (2, some (.flat 2 [[FMap ekU evI nm, VE es]])), (3, some (.flat 1 ((rs.map fun l => l.h.rt).map encU))), (4, some (.flat 3 ((ns.map netOf).map encV)))]) (by repeat (first | exact trivial | refine ⟨⟨_, rfl, .inl ⟨rfl, rfl⟩⟩, ?_⟩ | refine ⟨⟨_, rfl, .inl ⟨slEq rfl tN, rfl⟩⟩, ?_⟩ | refine ⟨⟨_, rfl, .inl ⟨ivEq tX, rfl⟩⟩, ?_⟩)) (by exact ⟨ent_same rfl rfl rfl tL, ⟨ent_same rfl rfl rfl tL, ⟨⟨rfl, rfl, .flat _ _ _ rfl (.cons _ _ _ _ (.cons _ _ _ _ (.mp _ _ _ rfl rfl) (.cons _ _ _ _ (.sl _ _ 0 _ _ _ rfl rfl (take0 rfl (by simp)) (by simp)) .nil)) .nil)⟩, ⟨ent_same rfl rfl rfl tL, ⟨ent_same rfl rfl rfl tL, trivial⟩⟩⟩⟩⟩) (fun id h => by
                have h' : id = 2 ∨ id = 7 := by simpa using h
                rcases h' with rfl | rfl <;> exact ⟨_, rfl⟩) ?_
              refine nK ?_
              refine s_reg rfl ?_
              refine Run.pure (dd := some 176) rfl rfl (op_move rfl (Opd.tmp _ _ rfl)) ?_
              refine Run.pure (dd := some 177) rfl rfl (op_len_fz rfl (by first | exact Opd.tmp _ _ rfl | exact Opd.nil _ _ (Opd.tmp _ _ rfl)) (by first | exact List.length_map _ | rfl)) ?_
              refine Run.pure (dd := some 178) rfl rfl (op_move rfl (Opd.tmp _ _ rfl)) ?_
              refine Run.pure (dd := some 179) rfl rfl (op_len_fz rfl (by first | exact Opd.tmp _ _ rfl | exact Opd.nil _ _ (Opd.tmp _ _ rfl)) (by first | exact List.length_map _ | rfl)) ?_
              refine Run.pure (dd := some 180) rfl rfl (op_move rfl (Opd.tmp _ _ rfl)) ?_
              refine Run.pure (dd := some 181) rfl rfl (op_nilck_ptr rfl (Opd.tmp _ _ rfl)) ?_
              refine Run.pure (dd := some 182) rfl rfl (op_fld_ptr (by decide) rfl (Opd.tmp _ _ rfl)) ?_
              refine Run.load (dd := some 183) rfl rfl (op_load1_flat rfl (Opd.tmp _ _ rfl) tH rfl) ?_
              refine Run.pure (dd := some 184) rfl rfl (op_call_pure (fun _ => hof) rfl (Opd.func _) (Opds.cons _ _ _ _ (Opd.tmp _ _ rfl) (Opds.cons _ _ _ _ (Opd.tmp _ _ rfl) (Opds.cons _ _ _ _ (Opd.tmp _ _ rfl) Opds.nil)))) ?_
              refine Run.pure (dd := some 175) rfl rfl (op_move rfl (Opd.tmp _ _ rfl)) ?_
              refine Run.pure (dd := some 185) rfl rfl (op_extract_fz rfl (Opd.tmp _ _ rfl) rfl) ?_
              refine Run.pure (dd := some 186) rfl rfl (op_extract_fz rfl (Opd.tmp _ _ rfl) rfl) ?_
              refine Run.pure (dd := some 187) rfl rfl (op_fld_ptr (by decide) rfl (Opd.tmp _ _ rfl)) ?_
              refine Run.eff (dd := none) rfl rfl (op_store_refs rfl (Opd.tmp _ _ rfl) (Opd.tmp _ _ rfl) tP rfl rfl rfl tS) ?_
              refine Run.pure (dd := some 22) rfl rfl (op_assign rfl (Opd.tmp _ _ rfl)) ?_
              refine Run.nil (FinR.mk ?_)
              refine nK ?_
              refine s_reg rfl ?_
              refine Run.pure (dd := some 188) rfl rfl (op_move rfl (Opd.tmp _ _ rfl)) ?_
              refine Run.pure (dd := some 189) rfl rfl (op_neq rfl (Opd.tmp _ _ rfl) (Opd.const _)) ?_
              refine Run.nil (FinR.mk ?_)
              refine nK ?_
              refine n_cond _ rfl (fun hb => ?_) (fun hb => ?_)
              · rw [if_pos (by simpa using hb)]
                refine nK ?_
                refine s_reg rfl ?_
                refine Run.pure (dd := some 190) rfl rfl (op_build rfl rfl rfl (FillF.nil _)) ?_
                refine Run.pure (dd := some 191) rfl rfl (op_move rfl (Opd.tmp _ _ rfl)) ?_
                refine Run.eff (dd := none) rfl rfl (op_store_flat rfl (Opd.tmp _ _ rfl) (Opd.tmp _ _ rfl) tC rfl rfl (by first | rfl | assumption) tS) ?_
                refine Run.pure (dd := some 3) rfl rfl (op_assign rfl (Opd.tmp _ _ rfl)) ?_
                refine Run.nil (FinR.mk ?_)
                refine nK ?_
                refine Next.weak [0] [] (by rfl) (keeps0 hC _) (G' := [(2, .ptr 0 5 0 0), (3, IV .i64 (ofF (rs.length : Int) (ns.length : Int) es).2)]) (H' := [(0, OR zeroR)]) (by repeat (first | exact trivial | refine ⟨⟨_, rfl, .inl ⟨rfl, rfl⟩⟩, ?_⟩ | refine ⟨⟨_, rfl, .inl ⟨slEq rfl tN, rfl⟩⟩, ?_⟩ | refine ⟨⟨_, rfl, .inl ⟨ivEq tX, rfl⟩⟩, ?_⟩)) (by exact ⟨⟨rfl, rfl, .fflat _ _ _ rfl tW⟩, trivial⟩) (fun _ h => by simp at h) ?_
                (first | exact s_o1 hC rfl tV | exact s_o2 hC rfl tV tV | exact s_o3 hC rfl tV tV tV | exact s_o4 hC rfl tV tV tV tV | exact s_out0 hC rfl | exact s_outO hC rfl rfl rfl)
              · rw [if_neg (by simpa using hb)]
                refine nK ?_
                refine Next.weak [0, 1] [3, 4] (by rfl) (keeps0 hC _) (G' := [(2, .ptr 0 5 0 0), (6, .ptr 1 5 0 0)]) (H' := [(0, OR zeroR), (1, OR ⟨(ofF (rs.length : Int) (ns.length : Int) es).1, rs.map fun l => l.h.rt, ns.map netOf⟩)]) (by repeat (first | exact trivial | refine ⟨⟨_, rfl, .inl ⟨rfl, rfl⟩⟩, ?_⟩ | refine ⟨⟨_, rfl, .inl ⟨slEq rfl tN, rfl⟩⟩, ?_⟩ | refine ⟨⟨_, rfl, .inl ⟨ivEq tX, rfl⟩⟩, ?_⟩)) (by exact ⟨ent_same rfl rfl rfl tL, ⟨⟨rfl, rfl, .flat _ _ _ rfl tW⟩, trivial⟩⟩) (fun id h => by
                  have h' : id = 3 ∨ id = 4 := by simpa using h
                  rcases h' with rfl | rfl <;> exact ⟨_, rfl⟩) ?_
                refine nK ?_
                refine s_reg rfl ?_
                refine Run.load (dd := some 192) rfl rfl (op_loadw_flat rfl (Opd.tmp _ _ rfl) tH rfl) ?_
                refine Run.eff (dd := none) rfl rfl (op_store_flat rfl (Opd.tmp _ _ rfl) (Opd.tmp _ _ rfl) tC rfl rfl (by first | rfl | assumption) tS) ?_
                refine Run.pure (dd := some 3) rfl rfl (op_assign rfl (Opd.const _)) ?_
                refine Run.nil (FinR.mk ?_)
                refine nK ?_
                (first | exact s_o1 hC rfl tV | exact s_o2 hC rfl tV tV | exact s_o3 hC rfl tV tV tV | exact s_o4 hC rfl tV tV tV tV | exact s_out0 hC rfl | exact s_outO hC rfl rfl rfl)
end Go.Proofs.Ytdhkioocjgpocaa
/- The engine, part 38: literals whose missing slices are read as empty ones. -/
namespace Go.RT
open Go
set_option linter.all false
variable {P : Program} {G : Env} {t : TypeId} {o : Oper} {g : Bool}
/-- the cells of a zero value; a nil slice may be read as an empty one -/
def zOk : List Value → List FV → Prop
  | [], [] => True
  | u :: us, f :: fs => (f = .lit u ∨ ∃ sz, u = .slice none 0 0 ∧ f = .vals sz []) ∧ zOk us fs
  | _, _ => False
theorem zOk.len : ∀ {us : List Value} {fs : List FV}, zOk us fs → us.length = fs.length
  | [], [], _ => rfl
  | _ :: _, _ :: _, h => by simp [zOk.len h.2]
theorem zOk.at : ∀ {us : List Value} {fs : List FV}, zOk us fs → ∀ (i : Nat) (f : FV), fs[i]? = some f → ∃ u, us[i]? = some u ∧ (f = .lit u ∨ ∃ sz, u = .slice none 0 0 ∧ f = .vals sz [])
  | [], [], _, i, f, h => by simp at h
  | u :: us, f' :: fs, h, i, f, hf => by
    cases i with
    | zero => simp at hf; subst hf; exact ⟨u, rfl, h.1⟩
    | succ i => simpa using zOk.at h.2 i f (by simpa using hf)
theorem zOk.rep {z : Value} {zs : List FV} (h : zOk z.cells.toList zs) (h1 : z.cells.toList.all (·.oneCell') = true) (w : World) (S : Nat → Prop) : ARep (FRep w S) z.cells zs := by
  refine ⟨by simpa using h.len, fun i p hp => ?_⟩
  obtain ⟨u, hu, hq⟩ := h.at i p hp
  rw [Array.getElem?_toList] at hu
  refine ⟨u, hu, List.all_eq_true.1 h1 u (Array.mem_toList_iff.2 (Array.mem_of_getElem? hu)), ?_⟩
  rcases hq with rfl | ⟨sz, rfl, rfl⟩
  · exact .lit _
  · exact .nil _ _ _
theorem op_buildZ {places : List (Nat × Nat)} {n by_ : Nat} {z : Value} {cs : List FV} {parts : List (Nat × Operand)} (zs : List FV) [hb : TyB P t places] [hn : TyN P t n by_ z] (ho : o.op = .build t parts.toArray) (h1 : z.cells.toList.all (·.oneCell') = true) (hz : zOk z.cells.toList zs) (hf : FillF places G g parts zs cs) : OpP P o g G (.fz (.agg cs)) :=
  .of fun S m a w hg ha => by
    obtain ⟨fs, e1, e2⟩ := hb.h
    obtain ⟨A, k1, k2, k3⟩ := hf.run hg ha (fun p hp => by simp only [ho, Op.operands, List.mem_toArray]; exact List.mem_map.2 ⟨p, by simpa using hp, rfl⟩) _ (hz.rep h1 w S)
    refine ⟨.agg A, ?_, .fz _ _ (.agg A cs k2 (fun i c f hc hf => ?_) (fun i c hc => ?_))⟩
    · have : (parts.toArray.map fun p => (p.1, a.eval p.2)).toList = parts.map fun p => (p.1, a.eval p.2) := by simp
      simp [execOp, ho, Instr.build, run_zero hn, run_underlying e1, e2, k1]
    · obtain ⟨u, hu, _, hr⟩ := k3 i f hf
      rw [hc] at hu; cases hu; exact hr
    · have hi : i < cs.length := by rw [← k2]; exact (Array.getElem?_eq_some_iff.1 hc).1
      obtain ⟨u, hu, hone, _⟩ := k3 i cs[i] (by simp [hi])
      rw [hc] at hu; cases hu; exact hone
end Go.RT
namespace Go.Proofs.Ytdhkioocjgpocaa
open Go Go.RT Go.Proofs Go.Pl
set_option linter.all false
set_option maxRecDepth 20000
theorem rawL_ok {a b c : Int} (ha : inr .u32 a) (hb : inr .u32 b) (hc : inr .i64 c) : okA (rawL a b c) := by
  refine ⟨⟨?_, ha, ?_, ha, ?_, ?_, ?_⟩, fun x hx => ?_, fun x hx => by simp [rawL] at hx, ?_, ?_, ?_⟩
  all_goals first | (simp [rawL, inr]; done) | skip
  have := List.mem_singleton.1 hx
  subst this
  exact ⟨by simp [inr], hb, by simp [inr], hc⟩
theorem tZk {α : Prop} (h : α := by repeat (first | exact trivial | refine And.intro (.inl rfl) ?_ | refine And.intro (.inr ⟨_, rfl, rfl⟩) ?_)) : α := h
theorem link_c (a b c s : Int) (ha : inr .u32 a) (hb0 : inr .u32 b) (hc : inr .i64 c) (h0 : chkA (rawL a b c) = 0) (hsm : sumA (rawL a b c) = s) : Pure Try.prog 24 [If .u32 a, If .u32 b, If .i64 c] (.agg (encA (lnkS a b c s))) := by
  have hs : Pure Try.prog 15 [.agg (encA (rawL a b c))] (.tup [.agg (encA (lnkS a b c s)), If .i64 0]) := by
    have h := seal_c (rawL a b c) (rawL_ok ha hb0 hc)
    have e : sealF (rawL a b c) = (lnkS a b c s, 0) := by unfold sealF; rw [if_neg (by simp [h0]), hsm]; rfl
    rw [e] at h
    exact h
  clear h0 hsm
  refine Meets.intro Try.func24 rfl (Nat.le_of_ble_eq_true rfl) fun C hC => ?_
  simp only [List.map, argEnv, Nat.reduceAdd]
  refine nK ?_
  refine s_reg rfl ?_
  refine Run.eff (dd := some 6) rfl rfl (op_alloc rfl rfl rfl rfl) ?_
  refine Run.nil (FinR.mk ?_)
  refine nK ?_
  refine s_reg rfl ?_
  refine Run.pure (dd := some 10) rfl rfl (op_move rfl (Opd.tmp _ _ rfl)) ?_
  refine Run.pure (dd := some 11) rfl rfl (op_move rfl (Opd.tmp _ _ rfl)) ?_
  refine Run.pure (dd := some 12) rfl rfl (op_build rfl rfl rfl (FillF.cons _ _ _ _ _ _ _ _ _ _ (by rfl) (Opd.const _) tC (by rfl) tR (FillF.cons _ _ _ _ _ _ _ _ _ _ (by rfl) (Opd.tmp _ _ rfl) tC (by rfl) tR (FillF.cons _ _ _ _ _ _ _ _ _ _ (by rfl) (Opd.tmp _ _ rfl) tC (by rfl) tR (FillF.cons _ _ _ _ _ _ _ _ _ _ (by rfl) (Opd.const _) tC (by rfl) tR (FillF.nil _)))))) ?_
  refine Run.pure (dd := some 13) rfl rfl (op_move rfl (Opd.tmp _ _ rfl)) ?_
  refine Run.pure (dd := some 14) rfl rfl (op_move rfl (Opd.tmp _ _ rfl)) ?_
  refine Run.pure (dd := some 15) rfl rfl (op_build rfl rfl rfl (FillF.cons _ _ _ _ _ _ _ _ _ _ (by rfl) (Opd.const _) tC (by rfl) tR (FillF.cons _ _ _ _ _ _ _ _ _ _ (by rfl) (Opd.tmp _ _ rfl) tC (by rfl) tR (FillF.cons _ _ _ _ _ _ _ _ _ _ (by rfl) (Opd.const _) tC (by rfl) tR (FillF.cons _ _ _ _ _ _ _ _ _ _ (by rfl) (Opd.tmp _ _ rfl) tC (by rfl) tR (FillF.nil _)))))) ?_
  refine Run.pure (dd := some 16) rfl rfl (op_buildSlice_fz rfl (RowsF.cons _ _ _ _ _ _ (Opd.tmp _ _ rfl) tC (by rfl) (RowsF.nil _)) rfl rfl) ?_
  refine Run.pure (dd := some 17) rfl rfl (op_buildZ (encA zeroA) rfl rfl tZk (FillF.cons _ _ _ _ _ _ _ _ _ _ (by rfl) (Opd.tmp _ _ rfl) tC (by rfl) tR (FillF.cons _ _ _ _ _ _ _ _ _ _ (by rfl) (Opd.tmp _ _ rfl) tC (by rfl) tR (FillF.nil _)))) ?_
  refine Run.pure (dd := some 18) rfl rfl (op_call_pure (fun _ => hs) rfl (Opd.func _) (Opds.cons _ _ _ _ (Opd.tmp _ _ rfl) Opds.nil)) ?_
  refine Run.pure (dd := some 9) rfl rfl (op_move rfl (Opd.tmp _ _ rfl)) ?_
  refine Run.pure (dd := some 19) rfl rfl (op_extract_fz rfl (Opd.tmp _ _ rfl) rfl) ?_
  refine Run.pure (dd := some 20) rfl rfl (op_extract_fz rfl (Opd.tmp _ _ rfl) rfl) ?_
  refine Run.eff (dd := some 7) rfl rfl (op_alloc rfl rfl rfl rfl) ?_
  refine Run.eff (dd := none) rfl rfl (op_store_flat rfl (Opd.tmp _ _ rfl) (Opd.tmp _ _ rfl) tC rfl rfl (by first | rfl | assumption) tS) ?_
  refine Run.pure (dd := some 8) rfl rfl (op_assign rfl (Opd.tmp _ _ rfl)) ?_
  refine Run.nil (FinR.mk ?_)
  refine nK ?_
  refine s_reg rfl ?_
  refine Run.load (dd := some 21) rfl rfl (op_loadw_flat rfl (Opd.tmp _ _ rfl) tH rfl) ?_
  refine Run.eff (dd := none) rfl rfl (op_store_flat rfl (Opd.tmp _ _ rfl) (Opd.tmp _ _ rfl) tC rfl rfl (by first | rfl | assumption) tS) ?_
  refine Run.nil (FinR.mk ?_)
  refine nK ?_
  (first | exact s_o1 hC rfl tV | exact s_o2 hC rfl tV tV | exact s_o3 hC rfl tV tV tV | exact s_o4 hC rfl tV tV tV tV | exact s_out0 hC rfl | exact s_outO hC rfl rfl rfl)
def exR : AGr := ⟨⟨2, 0, [⟨0, 1, 5⟩, ⟨1, 0, 7⟩]⟩, [1, 2], []⟩
theorem lnkS_ok {a b c s : Int} (ha : inr .u32 a) (hb : inr .u32 b) (hc : inr .i64 c) (hs : inr .i64 s) : okA (lnkS a b c s) := by
  refine ⟨⟨?_, ha, ?_, ha, ?_, ?_, hs⟩, fun x hx => ?_, fun x hx => by simp [lnkS] at hx, ?_, ?_, ?_⟩
  all_goals first | (simp [lnkS, inr]; done) | skip
  have := List.mem_singleton.1 hx
  subst this
  exact ⟨by simp [inr], hb, by simp [inr], hc⟩
theorem lives_c : Pure Try.prog 9 [] (Bf true) := by
  have l12 := link_c 1 2 5 _ (by decide) (by decide) (by decide) (by decide) rfl
  have l21 := link_c 2 1 7 _ (by decide) (by decide) (by decide) (by decide) rfl
  have l23 := link_c 2 3 7 _ (by decide) (by decide) (by decide) (by decide) rfl
  have o12 := sumA_ok (rawL 1 2 5)
  have o21 := sumA_ok (rawL 2 1 7)
  have o23 := sumA_ok (rawL 2 3 7)
  generalize sumA (rawL 1 2 5) = s12 at *
  generalize sumA (rawL 2 1 7) = s21 at *
  generalize sumA (rawL 2 3 7) = s23 at *
  have b1 := build_c (db1 s12 s21) (by simp [db1]) (fun x hx => by
    rcases List.mem_cons.1 hx with rfl | hx
    · exact lnkS_ok (by decide) (by decide) (by decide) o12
    · rw [List.mem_singleton.1 hx]; exact lnkS_ok (by decide) (by decide) (by decide) o21) (fun x hx => by
    rcases List.mem_cons.1 hx with rfl | hx
    · exact ⟨by simp [lnkS], by simp [lnkS]⟩
    · rw [List.mem_singleton.1 hx]; exact ⟨by simp [lnkS], by simp [lnkS]⟩)
  have b2 := build_c (db2 s12 s23) (by simp [db2]) (fun x hx => by
    rcases List.mem_cons.1 hx with rfl | hx
    · exact lnkS_ok (by decide) (by decide) (by decide) o12
    · rw [List.mem_singleton.1 hx]; exact lnkS_ok (by decide) (by decide) (by decide) o23) (fun x hx => by
    rcases List.mem_cons.1 hx with rfl | hx
    · exact ⟨by simp [lnkS], by simp [lnkS]⟩
    · rw [List.mem_singleton.1 hx]; exact ⟨by simp [lnkS], by simp [lnkS]⟩)
  rw [build1] at b1
  rw [build2] at b2
  have k1 : Pure Try.prog 16 [.agg (encR exR), If .u32 2] (If .i64 1) := aidx_c exR 2 (by decide)
  have k2 : Pure Try.prog 16 [.agg (encR exR), If .u32 3] (If .i64 (-1)) := aidx_c exR 3 (by decide)
  refine Meets.intro Try.func9 rfl (Nat.le_of_ble_eq_true rfl) fun C hC => ?_
  simp only [List.map, argEnv, Nat.reduceAdd]
  refine nK ?_
  refine s_reg rfl ?_
  refine Run.pure (dd := some 0) rfl rfl (op_assign rfl (Opd.const _)) ?_
  refine Run.nil (FinR.mk ?_)
  refine nK ?_
  refine s_reg rfl ?_
  refine Run.pure (dd := some 6) rfl rfl (op_call_pure (fun _ => l12) rfl (Opd.func _) (Opds.cons _ _ _ _ (Opd.const _) (Opds.cons _ _ _ _ (Opd.const _) (Opds.cons _ _ _ _ (Opd.const _) Opds.nil)))) ?_
  refine Run.pure (dd := some 7) rfl rfl (op_call_pure (fun _ => l21) rfl (Opd.func _) (Opds.cons _ _ _ _ (Opd.const _) (Opds.cons _ _ _ _ (Opd.const _) (Opds.cons _ _ _ _ (Opd.const _) Opds.nil)))) ?_
  refine Run.pure (dd := some 8) rfl rfl (op_buildSlice_fz rfl (RowsF.cons _ _ _ _ _ _ (Opd.tmp _ _ rfl) tC (by rfl) (RowsF.cons _ _ _ _ _ _ (Opd.tmp _ _ rfl) tC (by rfl) (RowsF.nil _))) rfl rfl) ?_
  refine Run.pure (dd := some 9) rfl rfl (op_call_pure (fun _ => b1) rfl (Opd.func _) (Opds.cons _ _ _ _ (Opd.tmp _ _ rfl) Opds.nil)) ?_
  refine Run.pure (dd := some 5) rfl rfl (op_move rfl (Opd.tmp _ _ rfl)) ?_
  refine Run.pure (dd := some 10) rfl rfl (op_extract_fz rfl (Opd.tmp _ _ rfl) rfl) ?_
  refine Run.pure (dd := some 11) rfl rfl (op_extract_fz rfl (Opd.tmp _ _ rfl) rfl) ?_
  refine Run.eff (dd := some 1) rfl rfl (op_alloc rfl rfl rfl rfl) ?_
  refine Run.eff (dd := none) rfl rfl (op_store_flat rfl (Opd.tmp _ _ rfl) (Opd.tmp _ _ rfl) tC rfl rfl (by first | rfl | assumption) tS) ?_
  refine Run.pure (dd := some 2) rfl rfl (op_assign rfl (Opd.tmp _ _ rfl)) ?_
  refine Run.nil (FinR.mk ?_)
  refine nK ?_
  refine s_reg rfl ?_
  refine Run.pure (dd := some 13) rfl rfl (op_call_pure (fun _ => l12) rfl (Opd.func _) (Opds.cons _ _ _ _ (Opd.const _) (Opds.cons _ _ _ _ (Opd.const _) (Opds.cons _ _ _ _ (Opd.const _) Opds.nil)))) ?_
  refine Run.pure (dd := some 14) rfl rfl (op_call_pure (fun _ => l23) rfl (Opd.func _) (Opds.cons _ _ _ _ (Opd.const _) (Opds.cons _ _ _ _ (Opd.const _) (Opds.cons _ _ _ _ (Opd.const _) Opds.nil)))) ?_
  refine Run.pure (dd := some 15) rfl rfl (op_buildSlice_fz rfl (RowsF.cons _ _ _ _ _ _ (Opd.tmp _ _ rfl) tC (by rfl) (RowsF.cons _ _ _ _ _ _ (Opd.tmp _ _ rfl) tC (by rfl) (RowsF.nil _))) rfl rfl) ?_
  refine Run.pure (dd := some 16) rfl rfl (op_call_pure (fun _ => b2) rfl (Opd.func _) (Opds.cons _ _ _ _ (Opd.tmp _ _ rfl) Opds.nil)) ?_
  refine Run.pure (dd := some 12) rfl rfl (op_move rfl (Opd.tmp _ _ rfl)) ?_
  refine Run.pure (dd := some 17) rfl rfl (op_extract_fz rfl (Opd.tmp _ _ rfl) rfl) ?_
  refine Run.pure (dd := some 18) rfl rfl (op_extract_fz rfl (Opd.tmp _ _ rfl) rfl) ?_
  refine Run.eff (dd := some 3) rfl rfl (op_alloc rfl rfl rfl rfl) ?_
  refine Run.eff (dd := none) rfl rfl (op_store_flat rfl (Opd.tmp _ _ rfl) (Opd.tmp _ _ rfl) tC rfl rfl (by first | rfl | assumption) tS) ?_
  refine Run.pure (dd := some 4) rfl rfl (op_assign rfl (Opd.tmp _ _ rfl)) ?_
  refine Run.nil (FinR.mk ?_)
  refine nK ?_
  refine nK ?_
  refine s_reg rfl ?_
  refine Run.pure (dd := some 19) rfl rfl (op_move rfl (Opd.tmp _ _ rfl)) ?_
  refine Run.pure (dd := some 20) rfl rfl (op_neq rfl (Opd.tmp _ _ rfl) (Opd.const _)) ?_
  refine Run.pure (dd := some 21) rfl rfl (op_move rfl (Opd.tmp _ _ rfl)) ?_
  refine Run.pureG (dd := some 22) rfl rfl rfl tG (op_move rfl (Opd.tmp _ _ rfl)) ?_
  refine Run.pureG (dd := some 23) rfl rfl rfl tG (op_neq rfl (Opd.topt _ _ _ rfl tO) (Opd.const _)) ?_
  refine Run.pure (dd := some 24) rfl rfl (op_pick_or rfl (Opd.tmp _ _ rfl) (Opd.topt _ _ _ rfl tO)) ?_
  refine Run.pure (dd := some 25) rfl rfl (op_move rfl (Opd.tmp _ _ rfl)) ?_
  refine Run.pureG (dd := some 26) rfl rfl rfl tG (op_fld_ptr (by decide) rfl (Opd.tmp _ _ rfl)) ?_
  refine Run.pureG (dd := some 27) rfl rfl rfl tG (op_fld_ptr (by decide) rfl (Opd.topt _ _ _ rfl tO)) ?_
  refine Run.loadG (dd := some 28) rfl rfl rfl tG (op_load1_flat rfl (Opd.topt _ _ _ rfl tO) tH rfl) ?_
  refine Run.pureG (dd := some 29) rfl rfl rfl tG (op_len_fz rfl (by first | exact Opd.topt _ _ _ rfl tO | exact Opd.nil _ _ (Opd.topt _ _ _ rfl tO)) (by first | exact List.length_map _ | rfl)) ?_
  refine Run.pureG (dd := some 30) rfl rfl rfl tG (op_neq rfl (Opd.topt _ _ _ rfl tO) (Opd.const _)) ?_
  refine Run.pure (dd := some 31) rfl rfl (op_pick_or rfl (Opd.tmp _ _ rfl) (Opd.topt _ _ _ rfl tO)) ?_
  refine Run.pure (dd := some 32) rfl rfl (op_move rfl (Opd.tmp _ _ rfl)) ?_
  refine Run.pureG (dd := some 33) rfl rfl rfl tG (op_fld_ptr (by decide) rfl (Opd.tmp _ _ rfl)) ?_
  refine Run.pureG (dd := some 34) rfl rfl rfl tG (op_fld_ptr (by decide) rfl (Opd.topt _ _ _ rfl tO)) ?_
  refine Run.loadG (dd := some 35) rfl rfl rfl tG (op_load1_flat rfl (Opd.topt _ _ _ rfl tO) tH rfl) ?_
  refine Run.pureG (dd := some 36) rfl rfl rfl tG (op_len_fz rfl (by first | exact Opd.topt _ _ _ rfl tO | exact Opd.nil _ _ (Opd.topt _ _ _ rfl tO)) (by first | exact List.length_map _ | rfl)) ?_
  refine Run.pureG (dd := some 37) rfl rfl rfl tG (op_neq rfl (Opd.topt _ _ _ rfl tO) (Opd.const _)) ?_
  refine Run.pure (dd := some 38) rfl rfl (op_pick_or rfl (Opd.tmp _ _ rfl) (Opd.topt _ _ _ rfl tO)) ?_
  refine Run.nil (FinR.mk ?_)
  refine nK ?_
  refine n_cond _ rfl (fun hb => ?_) (fun hb => ?_)
  · exfalso; simp at hb
  · refine nK ?_
    refine s_reg rfl ?_
    refine Run.pure (dd := some 39) rfl rfl (op_fld_ptr (by decide) rfl (Opd.tmp _ _ rfl)) ?_
    refine Run.pure (dd := some 40) rfl rfl (op_fld_ptr (by decide) rfl (Opd.tmp _ _ rfl)) ?_
    refine Run.load (dd := some 41) rfl rfl (op_load1_flat rfl (Opd.tmp _ _ rfl) tH rfl) ?_
    refine Run.pure (dd := some 42) rfl rfl (op_idx_fz 0 rfl (Opd.tmp _ _ rfl) (Opd.const _) (by intro _; exact ⟨rfl, rfl⟩)) ?_
    refine Run.pure (dd := some 43) rfl rfl (op_loadw_fz rfl (Opd.tmp _ _ rfl) rfl) ?_
    refine Run.pure (dd := some 44) rfl rfl (op_build rfl rfl rfl (FillF.cons _ _ _ _ _ _ _ _ _ _ (by rfl) (Opd.const _) tC (by rfl) tR (FillF.cons _ _ _ _ _ _ _ _ _ _ (by rfl) (Opd.const _) tC (by rfl) tR (FillF.cons _ _ _ _ _ _ _ _ _ _ (by rfl) (Opd.const _) tC (by rfl) tR (FillF.nil _))))) ?_
    refine Run.pure (dd := some 45) rfl rfl (op_eqS rfl (Opd.tmp _ _ rfl) (Opd.tmp _ _ rfl) (by kernel_rfl)) ?_
    refine Run.pure (dd := some 46) rfl rfl (op_move rfl (Opd.tmp _ _ rfl)) ?_
    refine Run.pureG (dd := some 47) rfl rfl rfl tG (op_fld_ptr (by decide) rfl (Opd.tmp _ _ rfl)) ?_
    refine Run.pureG (dd := some 48) rfl rfl rfl tG (op_fld_ptr (by decide) rfl (Opd.topt _ _ _ rfl tO)) ?_
    refine Run.loadG (dd := some 49) rfl rfl rfl tG (op_load1_flat rfl (Opd.topt _ _ _ rfl tO) tH rfl) ?_
    refine Run.pureG (dd := some 50) rfl rfl rfl tG (op_idx_fz 1 rfl (Opd.topt _ _ _ rfl tO) (Opd.const _) (by intro _; exact ⟨rfl, rfl⟩)) ?_
    refine Run.pureG (dd := some 51) rfl rfl rfl tG (op_loadw_fz rfl (Opd.topt _ _ _ rfl tO) rfl) ?_
    refine Run.pureG (dd := some 52) rfl rfl rfl tG (op_build rfl rfl rfl (FillF.cons _ _ _ _ _ _ _ _ _ _ (by rfl) (Opd.const _) tC (by rfl) tR (FillF.cons _ _ _ _ _ _ _ _ _ _ (by rfl) (Opd.const _) tC (by rfl) tR (FillF.cons _ _ _ _ _ _ _ _ _ _ (by rfl) (Opd.const _) tC (by rfl) tR (FillF.nil _))))) ?_
    refine Run.pureG (dd := some 53) rfl rfl rfl tG (op_eqS rfl (Opd.topt _ _ _ rfl tO) (Opd.topt _ _ _ rfl tO) (by kernel_rfl)) ?_
    refine Run.pure (dd := some 54) rfl rfl (op_pick_and rfl (Opd.tmp _ _ rfl) (Opd.topt _ _ _ rfl tO)) ?_
    refine Run.pure (dd := some 55) rfl rfl (op_move rfl (Opd.tmp _ _ rfl)) ?_
    refine Run.loadG (dd := some 56) rfl rfl rfl tG (op_loadw_flat rfl (Opd.tmp _ _ rfl) tH rfl) ?_
    refine Run.pureG (dd := some 57) rfl rfl rfl tG (op_call_pure (fun _ => k1) rfl (Opd.func _) (Opds.cons _ _ _ _ (Opd.topt _ _ _ rfl tO) (Opds.cons _ _ _ _ (Opd.const _) Opds.nil))) ?_
    refine Run.pureG (dd := some 58) rfl rfl rfl tG (op_eql rfl (Opd.topt _ _ _ rfl tO) (Opd.const _)) ?_
    refine Run.pure (dd := some 59) rfl rfl (op_pick_and rfl (Opd.tmp _ _ rfl) (Opd.topt _ _ _ rfl tO)) ?_
    refine Run.pure (dd := some 60) rfl rfl (op_move rfl (Opd.tmp _ _ rfl)) ?_
    refine Run.loadG (dd := some 61) rfl rfl rfl tG (op_loadw_flat rfl (Opd.tmp _ _ rfl) tH rfl) ?_
    refine Run.pureG (dd := some 62) rfl rfl rfl tG (op_call_pure (fun _ => k2) rfl (Opd.func _) (Opds.cons _ _ _ _ (Opd.topt _ _ _ rfl tO) (Opds.cons _ _ _ _ (Opd.const _) Opds.nil))) ?_
    refine Run.pureG (dd := some 63) rfl rfl rfl tG (op_eql rfl (Opd.topt _ _ _ rfl tO) (Opd.const _)) ?_
    refine Run.pure (dd := some 64) rfl rfl (op_pick_and rfl (Opd.tmp _ _ rfl) (Opd.topt _ _ _ rfl tO)) ?_
    refine Run.pure (dd := some 0) rfl rfl (op_assign rfl (Opd.tmp _ _ rfl)) ?_
    refine Run.nil (FinR.mk ?_)
    refine nK ?_
    refine s_oB hC rfl rfl ?_
    decide
end Go.Proofs.Ytdhkioocjgpocaa
/- The reference's graph of an area. No program in sight. -/
namespace Go.Pl
open Go Go.RT
set_option linter.all false
def refP (i : Nat) (l : Lsa) : Nat → List Lsa → List Edg
  | _, [] => []
  | k, m :: t => (if (((cheapF 1 m.h.rt l).2 && (cheapF 1 l.h.rt m).2) && decide ((i : Int) ≠ (k : Int))) = true then [⟨i, k, (cheapF 1 m.h.rt l).1⟩] else []) ++ refP i l (k + 1) t
def refN (R i : Nat) (l : Lsa) : Nat → List Lsa → List Edg
  | _, [] => []
  | k, n :: t => (if ((cheapF 2 n.h.id l).2 && n.att.contains l.h.rt) = true then [⟨i, (R : Int) + k, (cheapF 2 n.h.id l).1⟩, ⟨(R : Int) + k, i, 0⟩] else []) ++ refN R i l (k + 1) t
def refA (rs ns : List Lsa) : Nat → List Lsa → List Edg
  | _, [] => []
  | i, l :: t => refP i l 0 rs ++ refN rs.length i l 0 ns ++ refA rs ns (i + 1) t
def refG (rs ns : List Lsa) : AGr × Int :=
  if 128 < rs.length + ns.length then (zeroR, 4) else
  if (ofF (rs.length : Int) (ns.length : Int) (refA rs ns 0 rs)).2 ≠ 0 then (zeroR, (ofF (rs.length : Int) (ns.length : Int) (refA rs ns 0 rs)).2)
  else (⟨(ofF (rs.length : Int) (ns.length : Int) (refA rs ns 0 rs)).1, rs.map fun l => l.h.rt, ns.map netOf⟩, 0)
def refF (db : List Lsa) : AGr × Int := refG (cntL 1 db) (cntL 2 db)
theorem refP_step {i : Nat} {l : Lsa} {t : List Lsa} {k : Nat} (h : k < t.length) : refP i l k (t.drop k) = (if (((cheapF 1 t[k].h.rt l).2 && (cheapF 1 l.h.rt t[k]).2) && decide ((i : Int) ≠ (k : Int))) = true then [⟨i, k, (cheapF 1 t[k].h.rt l).1⟩] else []) ++ refP i l (k + 1) (t.drop (k + 1)) := by
  rw [List.drop_eq_getElem_cons h]; rfl
theorem refN_step {R i : Nat} {l : Lsa} {t : List Lsa} {k : Nat} (h : k < t.length) : refN R i l k (t.drop k) = (if ((cheapF 2 t[k].h.id l).2 && t[k].att.contains l.h.rt) = true then [⟨i, (R : Int) + k, (cheapF 2 t[k].h.id l).1⟩, ⟨(R : Int) + k, i, 0⟩] else []) ++ refN R i l (k + 1) (t.drop (k + 1)) := by
  rw [List.drop_eq_getElem_cons h]; rfl
theorem refA_step {rs ns t : List Lsa} {i : Nat} (h : i < t.length) : refA rs ns i (t.drop i) = refP i t[i] 0 rs ++ refN rs.length i t[i] 0 ns ++ refA rs ns (i + 1) (t.drop (i + 1)) := by
  rw [List.drop_eq_getElem_cons h]; rfl
open Go.RT
theorem cheapGo_ok {k id : Int} : ∀ (l : List Lnk) (p : Int × Bool), (∀ x ∈ l, okK x) → inr .i64 p.1 → inr .i64 (cheapGo k id l p).1
  | [], p, _, h => h
  | x :: l, p, hl, h => by
    simp only [cheapGo]
    refine cheapGo_ok l _ (fun y hy => hl y (List.mem_cons_of_mem _ hy)) ?_
    split
    · exact (hl x (List.mem_cons_self ..)).2.2.2
    · exact h
theorem cheapF_ok {k id : Int} {l : Lsa} (h : okA l) : inr .i64 (cheapF k id l).1 := cheapGo_ok _ _ h.2.1 (by simp [inr])
theorem refP_ok {i : Nat} {l : Lsa} (hi : i ≤ 400) (hl : okA l) : ∀ (t : List Lsa) (k : Nat), k + t.length ≤ 400 → okEs (refP i l k t)
  | [], k, _ => fun e he => by simp [refP] at he
  | m :: t, k, h => fun e he => by
    simp only [List.length_cons] at h
    simp only [refP] at he
    rcases List.mem_append.1 he with he | he
    · split at he
      · have := List.mem_singleton.1 he
        subst this
        exact ⟨by simp only [inr]; omega, by simp only [inr]; omega, cheapF_ok hl⟩
      · simp at he
    · exact refP_ok hi hl t (k + 1) (by omega) e he
theorem refN_ok {R i : Nat} {l : Lsa} (hR : R ≤ 400) (hi : i ≤ 400) (hl : okA l) : ∀ (t : List Lsa) (k : Nat), k + t.length ≤ 400 → okEs (refN R i l k t)
  | [], k, _ => fun e he => by simp [refN] at he
  | m :: t, k, h => fun e he => by
    simp only [List.length_cons] at h
    simp only [refN] at he
    rcases List.mem_append.1 he with he | he
    · split at he
      · rcases List.mem_cons.1 he with rfl | he
        · exact ⟨by simp only [inr]; omega, by simp only [inr]; omega, cheapF_ok hl⟩
        · have := List.mem_singleton.1 he
          subst this
          refine ⟨?_, ?_, ?_⟩ <;> simp only [inr] <;> omega
      · simp at he
    · exact refN_ok hR hi hl t (k + 1) (by omega) e he
theorem refA_ok {rs ns : List Lsa} (hR : rs.length ≤ 400) (hN : ns.length ≤ 400) : ∀ (t : List Lsa) (i : Nat), i + t.length ≤ 400 → (∀ x ∈ t, okA x) → okEs (refA rs ns i t)
  | [], i, _, _ => fun e he => by simp [refA] at he
  | l :: t, i, h, hl => fun e he => by
    simp only [List.length_cons] at h
    simp only [refA] at he
    have hol := hl l (List.mem_cons_self ..)
    rcases List.mem_append.1 he with he | he
    · rcases List.mem_append.1 he with he | he
      · exact refP_ok (by omega) hol rs 0 (by omega) e he
      · exact refN_ok hR (by omega) hol ns 0 (by omega) e he
    · exact refA_ok hR hN t (i + 1) (by omega) (fun x hx => hl x (List.mem_cons_of_mem _ hx)) e he
end Go.Pl
namespace Go.Proofs.Ytdhkioocjgpocaa
open Go Go.RT Go.Proofs Go.Pl
set_option linter.all false
set_option maxRecDepth 20000
set_option maxHeartbeats 4000000
theorem rbuild_c (db : List Lsa) (hn : db.length ≤ 400) (ho : ∀ x ∈ db, okA x) (hl : ∀ x ∈ db, x.ls.length ≤ 64 ∧ x.att.length ≤ 64) : Pure Try.prog 11 [VA db] (.tup [.agg (encR (refF db).1), If .i64 (refF db).2]) := by
  refine Meets.intro Try.func11 rfl (Nat.le_of_ble_eq_true rfl) fun C hC => ?_
  simp only [List.map, argEnv, Nat.reduceAdd]
  refine nK ?_
  refine s_reg rfl ?_
  refine Run.eff (dd := some 2) rfl rfl (op_alloc rfl rfl rfl rfl) ?_
  refine Run.pure (dd := some 3) rfl rfl (op_assign rfl (Opd.const _)) ?_
  refine Run.nil (FinR.mk ?_)
  refine nK ?_
  refine s_reg rfl ?_
  refine Run.eff (dd := some 21) rfl rfl (op_buildSlice_own rfl (RowsF.nil _) rfl rfl rfl) ?_
  refine Run.pure (dd := some 4) rfl rfl (op_assign rfl (Opd.tmp _ _ rfl)) ?_
  refine Run.nil (FinR.mk ?_)
  refine nK ?_
  refine s_reg rfl ?_
  refine Run.eff (dd := some 22) rfl rfl (op_buildSlice_own rfl (RowsF.nil _) rfl rfl rfl) ?_
  refine Run.pure (dd := some 5) rfl rfl (op_assign rfl (Opd.tmp _ _ rfl)) ?_
  refine Run.nil (FinR.mk ?_)
  refine nK ?_
  refine s_reg rfl ?_
  refine Run.pure (dd := some 23) rfl rfl (op_build rfl rfl rfl (FillF.nil _)) ?_
  refine Run.eff (dd := some 6) rfl rfl (op_alloc rfl rfl rfl rfl) ?_
  refine Run.eff (dd := none) rfl rfl (op_store_flat rfl (Opd.tmp _ _ rfl) (Opd.tmp _ _ rfl) tC rfl rfl (by first | rfl | assumption) tS) ?_
  refine Run.nil (FinR.mk ?_)
  refine nK ?_
  refine Next.toRefs 3 rfl rfl ?_
  refine Next.adoptCell 3 0 3 1 rfl rfl rfl rfl ?_
  refine Next.adoptCell 3 0 4 3 rfl rfl rfl rfl ?_
  refine nK ?_
  refine s_reg rfl ?_
  refine Run.pure (dd := some 7) rfl rfl (op_assign rfl (Opd.const _)) ?_
  refine Run.nil (FinR.mk ?_)
  refine nK ?_
  refine n_loop (ι := Nat × List Lsa × List Lsa) (fun p => ([(0, .fz (VA db)), (2, .ptr 0 5 0 0), (4, .sl 1 15 0 p.2.1.length), (5, .sl 2 15 0 p.2.2.length), (6, .ptr 3 5 0 0), (7, IV .i64 p.1)], [(0, OR zeroR), (1, some (.flat 15 (p.2.1.map encA))), (2, some (.flat 15 (p.2.2.map encA))), (3, some (.refs 5 [[IV .i64 0, IV .i64 0, .fz (.lit (.slice none 0 0)), .sl 4 1 0 p.2.1.length, .sl 5 3 0 p.2.2.length]])), (4, some (.flat 1 ((p.2.1.map fun l => l.h.rt).map encU))), (5, some (.flat 3 ((p.2.2.map netOf).map encV)))], 6)) (fun p => p.1 ≤ db.length ∧ p.2.1 = cntL 1 (db.take p.1) ∧ p.2.2 = cntL 2 (db.take p.1)) (fun p => db.length - p.1) (0, [], []) ⟨Nat.zero_le _, by simp [cntL], by simp [cntL]⟩ ?_ ?_
  · refine Next.weak [0, 1, 2, 3, 4, 5] [] (by rfl) (keeps0 hC _) (by repeat (first | exact trivial | refine ⟨⟨_, rfl, .inl ⟨rfl, rfl⟩⟩, ?_⟩ | refine ⟨⟨_, rfl, .inl ⟨slEq rfl tN, rfl⟩⟩, ?_⟩ | refine ⟨⟨_, rfl, .inl ⟨ivEq tX, rfl⟩⟩, ?_⟩)) (by exact ⟨⟨rfl, rfl, .fflat _ _ _ rfl tW⟩, ⟨ent_same rfl rfl rfl tL, ⟨ent_same rfl rfl rfl tL, ⟨ent_same rfl rfl rfl tL, ⟨ent_same rfl rfl rfl tL, ⟨ent_same rfl rfl rfl tL, trivial⟩⟩⟩⟩⟩⟩) (fun _ h => by simp at h) (rel_intro)
  · intro ⟨i, rs, ns⟩ ⟨hi, hS1, hS2⟩ K hK
    dsimp only at hi hS1 hS2 ⊢
    have hrl : rs.length ≤ i := by rw [hS1]; exact Nat.le_trans (cnt_len _ _) (by simp; omega)
    have hnl : ns.length ≤ i := by rw [hS2]; exact Nat.le_trans (cnt_len _ _) (by simp; omega)
    refine nK ?_
    refine s_reg rfl ?_
    refine Run.pure (dd := some 24) rfl rfl (op_move rfl (Opd.tmp _ _ rfl)) ?_
    refine Run.pure (dd := some 25) rfl rfl (op_move rfl (Opd.tmp _ _ rfl)) ?_
    refine Run.pure (dd := some 26) rfl rfl (op_len_fz rfl (by first | exact Opd.tmp _ _ rfl | exact Opd.nil _ _ (Opd.tmp _ _ rfl)) (by first | exact List.length_map _ | rfl)) ?_
    refine Run.pure (dd := some 27) rfl rfl (op_lss rfl (Opd.tmp _ _ rfl) (Opd.tmp _ _ rfl)) ?_
    refine Run.nil (FinR.mk ?_)
    refine nK ?_
    refine n_cond _ rfl (fun hb => ?_) (fun hb => ?_)
    · have hlt : i < db.length := by simp at hb; omega
      have hr1 := row_at' encA db i hlt
      have hs1 := cnt_take (k := 1) hlt
      have hs2 := cnt_take (k := 2) hlt
      rw [← hS1] at hs1
      rw [← hS2] at hs2
      have hK1 := fun a b h1 h2 => hK (i + 1, a, b) ⟨by dsimp only; omega, h1, h2⟩ (by dsimp only; omega)
      dsimp only at hK1
      generalize db[i] = l at *
      refine nK ?_
      refine s_reg rfl ?_
      refine Run.pure (dd := some 30) rfl rfl (op_move rfl (Opd.tmp _ _ rfl)) ?_
      refine Run.pure (dd := some 31) rfl rfl (op_move rfl (Opd.tmp _ _ rfl)) ?_
      refine Run.pure (dd := some 32) rfl rfl (op_idx_fz _ rfl (Opd.tmp _ _ rfl) (Opd.tmp _ _ rfl) tF) ?_
      refine Run.pure (dd := some 33) rfl rfl (op_loadw_fz rfl (Opd.tmp _ _ rfl) rfl) ?_
      refine Run.pure (dd := some 34) rfl rfl (op_call_pure (fun _ => counts_c _ _) rfl (Opd.func _) (Opds.cons _ _ _ _ (Opd.tmp _ _ rfl) (Opds.cons _ _ _ _ (Opd.const _) Opds.nil))) ?_
      refine Run.nil (FinR.mk ?_)
      refine nK ?_
      refine n_cond _ rfl (fun hb => ?_) (fun hb => ?_)
      · rw [if_pos hb] at hs1
        have e1 : (rs ++ [l]).length = rs.length + 1 := by simp
        have e2 : (rs ++ [l]).map encA = rs.map encA ++ [encA l] := by simp
        have e3 : ((rs ++ [l]).map fun l => l.h.rt).map encU = (rs.map fun l => l.h.rt).map encU ++ [encU l.h.rt] := by simp
        have hK2 := hK1 (rs ++ [l]) ns hs1.symm
        rw [e1, e2, e3] at hK2
        refine nK ?_
        refine s_reg rfl ?_
        refine Run.pure (dd := some 35) rfl rfl (op_move rfl (Opd.tmp _ _ rfl)) ?_
        refine Run.pure (dd := some 36) rfl rfl (op_move rfl (Opd.tmp _ _ rfl)) ?_
        refine Run.pure (dd := some 37) rfl rfl (op_move rfl (Opd.tmp _ _ rfl)) ?_
        refine Run.pure (dd := some 38) rfl rfl (op_idx_fz _ rfl (Opd.tmp _ _ rfl) (Opd.tmp _ _ rfl) tF) ?_
        refine Run.pure (dd := some 39) rfl rfl (op_loadw_fz rfl (Opd.tmp _ _ rfl) rfl) ?_
        refine Run.pure (dd := some 40) rfl rfl (op_buildSlice_fz rfl (RowsF.cons _ _ _ _ _ _ (Opd.tmp _ _ rfl) tC (by rfl) (RowsF.nil _)) rfl rfl) ?_
        refine Run.eff (dd := some 41) rfl rfl (op_append rfl (Opd.tmp _ _ rfl) (Opd.tmp _ _ rfl) rfl (by simp) rfl rfl tB tB) ?_
        refine Run.pure (dd := some 4) rfl rfl (op_assign rfl (Opd.tmp _ _ rfl)) ?_
        refine Run.nil (FinR.mk ?_)
        refine nK ?_
        refine s_draw mixed ?_
        refine Run.pure (dd := some 42) rfl rfl (op_fld_ptr (by decide) rfl (Opd.tmp _ _ rfl)) ?_
        refine Run.load (dd := some 43) rfl rfl (op_load1_refs rfl (Opd.tmp _ _ rfl) tH rfl) ?_
        refine Run.pure (dd := some 44) rfl rfl (op_move rfl (Opd.tmp _ _ rfl)) ?_
        refine Run.pure (dd := some 45) rfl rfl (op_move rfl (Opd.tmp _ _ rfl)) ?_
        refine Run.pure (dd := some 46) rfl rfl (op_idx_fz _ rfl (Opd.tmp _ _ rfl) (Opd.tmp _ _ rfl) tF) ?_
        refine Run.pure (dd := some 47) rfl rfl (op_fld_fz (by decide) rfl (Opd.tmp _ _ rfl) tR) ?_
        refine Run.pure (dd := some 48) rfl rfl (op_fld_fz (by decide) rfl (Opd.tmp _ _ rfl) tR) ?_
        refine Run.pure (dd := some 49) rfl rfl (op_load1_fz rfl (Opd.tmp _ _ rfl) rfl) ?_
        refine Run.pure (dd := some 50) rfl rfl (op_buildSlice_fz rfl (RowsF.cons _ _ _ _ _ _ (Opd.tmp _ _ rfl) tC (by rfl) (RowsF.nil _)) rfl rfl) ?_
        refine Run.effW (dd := some 51) rfl rfl (op_append rfl (Opd.tmp _ _ rfl) (Opd.tmp _ _ rfl) rfl (by simp) rfl rfl tB tB) tE ?_
        refine Run.pure (dd := some 52) rfl rfl (op_fld_ptr (by decide) rfl (Opd.tmp _ _ rfl)) ?_
        refine Run.effW (dd := none) rfl rfl (op_store_refs rfl (Opd.tmp _ _ rfl) (Opd.tmp _ _ rfl) tP rfl rfl rfl tS) tE ?_
        refine Run.nil (FinD.mk (by kernel_rfl) ?_)
        refine nK ?_
        refine s_reg rfl ?_
        refine Run.pure (dd := some 53) rfl rfl (op_move rfl (Opd.tmp _ _ rfl)) ?_
        refine Run.pure (dd := some 54) rfl rfl (op_move rfl (Opd.tmp _ _ rfl)) ?_
        refine Run.pure (dd := some 55) rfl rfl (op_idx_fz _ rfl (Opd.tmp _ _ rfl) (Opd.tmp _ _ rfl) tF) ?_
        refine Run.pure (dd := some 56) rfl rfl (op_loadw_fz rfl (Opd.tmp _ _ rfl) rfl) ?_
        refine Run.pure (dd := some 57) rfl rfl (op_call_pure (fun _ => counts_c _ _) rfl (Opd.func _) (Opds.cons _ _ _ _ (Opd.tmp _ _ rfl) (Opds.cons _ _ _ _ (Opd.const _) Opds.nil))) ?_
        refine Run.nil (FinR.mk ?_)
        refine nK ?_
        refine n_cond _ rfl (fun hb => ?_) (fun hb => ?_)
        · exfalso
          rename_i hb1
          simp [cntB] at hb hb1; omega
        · rw [if_neg (by rw [hb]; decide), List.append_nil] at hs2
          refine nK ?_
          refine s_reg rfl ?_
          refine Run.pure (dd := some 28) rfl rfl (op_move rfl (Opd.tmp _ _ rfl)) ?_
          refine Run.pure (dd := some 29) rfl rfl (op_add rfl (Opd.tmp _ _ rfl) (Opd.const _) tI) ?_
          refine Run.pure (dd := some 7) rfl rfl (op_assign rfl (Opd.tmp _ _ rfl)) ?_
          refine Run.nil (FinR.mk ?_)
          refine nK ?_
          refine Next.weak [0, 6, 2, 3, 7, 5] [] (by rfl) (keeps0 hC _) (by repeat (first | exact trivial | refine ⟨⟨_, rfl, .inl ⟨rfl, rfl⟩⟩, ?_⟩ | refine ⟨⟨_, rfl, .inl ⟨slEq rfl tN, rfl⟩⟩, ?_⟩ | refine ⟨⟨_, rfl, .inl ⟨ivEq tX, rfl⟩⟩, ?_⟩)) (by exact ⟨ent_same rfl rfl rfl tL, ⟨ent_same rfl rfl rfl tL, ⟨ent_same rfl rfl rfl tL, ⟨ent_same rfl rfl rfl tL, ⟨ent_same rfl rfl rfl tL, ⟨ent_same rfl rfl rfl tL, trivial⟩⟩⟩⟩⟩⟩) (fun _ h => by simp at h) (hK2 hs2.symm)
      · rw [if_neg (by rw [hb]; decide), List.append_nil] at hs1
        refine nK ?_
        refine s_reg rfl ?_
        refine Run.pure (dd := some 53) rfl rfl (op_move rfl (Opd.tmp _ _ rfl)) ?_
        refine Run.pure (dd := some 54) rfl rfl (op_move rfl (Opd.tmp _ _ rfl)) ?_
        refine Run.pure (dd := some 55) rfl rfl (op_idx_fz _ rfl (Opd.tmp _ _ rfl) (Opd.tmp _ _ rfl) tF) ?_
        refine Run.pure (dd := some 56) rfl rfl (op_loadw_fz rfl (Opd.tmp _ _ rfl) rfl) ?_
        refine Run.pure (dd := some 57) rfl rfl (op_call_pure (fun _ => counts_c _ _) rfl (Opd.func _) (Opds.cons _ _ _ _ (Opd.tmp _ _ rfl) (Opds.cons _ _ _ _ (Opd.const _) Opds.nil))) ?_
        refine Run.nil (FinR.mk ?_)
        refine nK ?_
        refine n_cond _ rfl (fun hb => ?_) (fun hb => ?_)
        · rw [if_pos hb] at hs2
          have e1 : (ns ++ [l]).length = ns.length + 1 := by simp
          have e2 : (ns ++ [l]).map encA = ns.map encA ++ [encA l] := by simp
          have e3 : ((ns ++ [l]).map netOf).map encV = (ns.map netOf).map encV ++ [encV (netOf l)] := by simp
          have hK2 := hK1 rs (ns ++ [l]) hs1.symm hs2.symm
          rw [e1, e2, e3] at hK2
          refine nK ?_
          refine s_reg rfl ?_
          refine Run.pure (dd := some 58) rfl rfl (op_move rfl (Opd.tmp _ _ rfl)) ?_
          refine Run.pure (dd := some 59) rfl rfl (op_move rfl (Opd.tmp _ _ rfl)) ?_
          refine Run.pure (dd := some 60) rfl rfl (op_idx_fz _ rfl (Opd.tmp _ _ rfl) (Opd.tmp _ _ rfl) tF) ?_
          refine Run.pure (dd := some 61) rfl rfl (op_fld_fz (by decide) rfl (Opd.tmp _ _ rfl) tR) ?_
          refine Run.pure (dd := some 62) rfl rfl (op_loadn_fz rfl (Opd.tmp _ _ rfl) tR) ?_
          refine Run.eff (dd := some 8) rfl rfl (op_alloc rfl rfl rfl rfl) ?_
          refine Run.eff (dd := none) rfl rfl (op_store_flat rfl (Opd.tmp _ _ rfl) (Opd.tmp _ _ rfl) tC rfl rfl (by first | rfl | assumption) tS) ?_
          refine Run.nil (FinR.mk ?_)
          refine nK ?_
          refine s_reg rfl ?_
          refine Run.pure (dd := some 63) rfl rfl (op_move rfl (Opd.tmp _ _ rfl)) ?_
          refine Run.pure (dd := some 64) rfl rfl (op_move rfl (Opd.tmp _ _ rfl)) ?_
          refine Run.pure (dd := some 65) rfl rfl (op_move rfl (Opd.tmp _ _ rfl)) ?_
          refine Run.pure (dd := some 66) rfl rfl (op_idx_fz _ rfl (Opd.tmp _ _ rfl) (Opd.tmp _ _ rfl) tF) ?_
          refine Run.pure (dd := some 67) rfl rfl (op_loadw_fz rfl (Opd.tmp _ _ rfl) rfl) ?_
          refine Run.pure (dd := some 68) rfl rfl (op_buildSlice_fz rfl (RowsF.cons _ _ _ _ _ _ (Opd.tmp _ _ rfl) tC (by rfl) (RowsF.nil _)) rfl rfl) ?_
          refine Run.eff (dd := some 69) rfl rfl (op_append rfl (Opd.tmp _ _ rfl) (Opd.tmp _ _ rfl) rfl (by simp) rfl rfl tB tB) ?_
          refine Run.pure (dd := some 5) rfl rfl (op_assign rfl (Opd.tmp _ _ rfl)) ?_
          refine Run.nil (FinR.mk ?_)
          refine nK ?_
          refine s_reg rfl ?_
          refine Run.pure (dd := some 70) rfl rfl (op_fld_ptr (by decide) rfl (Opd.tmp _ _ rfl)) ?_
          refine Run.load (dd := some 71) rfl rfl (op_load1_refs rfl (Opd.tmp _ _ rfl) tH rfl) ?_
          refine Run.pure (dd := some 72) rfl rfl (op_fld_ptr (by decide) rfl (Opd.tmp _ _ rfl)) ?_
          refine Run.load (dd := some 73) rfl rfl (op_load1_flat rfl (Opd.tmp _ _ rfl) tH rfl) ?_
          refine Run.pure (dd := some 74) rfl rfl (op_fld_ptr (by decide) rfl (Opd.tmp _ _ rfl)) ?_
          refine Run.load (dd := some 75) rfl rfl (op_load1_flat rfl (Opd.tmp _ _ rfl) tH rfl) ?_
          refine Run.pure (dd := some 76) rfl rfl (op_fld_ptr (by decide) rfl (Opd.tmp _ _ rfl)) ?_
          refine Run.load (dd := some 77) rfl rfl (op_load1_flat rfl (Opd.tmp _ _ rfl) tH rfl) ?_
          refine Run.pure (dd := some 78) rfl rfl (op_build rfl rfl rfl (FillF.cons _ _ _ _ _ _ _ _ _ _ (by rfl) (Opd.tmp _ _ rfl) tC (by rfl) tR (FillF.cons _ _ _ _ _ _ _ _ _ _ (by rfl) (Opd.tmp _ _ rfl) tC (by rfl) tR (FillF.cons _ _ _ _ _ _ _ _ _ _ (by rfl) (Opd.tmp _ _ rfl) tC (by rfl) tR (FillF.nil _))))) ?_
          refine Run.pure (dd := some 79) rfl rfl (op_buildSlice_fz rfl (RowsF.cons _ _ _ _ _ _ (Opd.tmp _ _ rfl) tC (by rfl) (RowsF.nil _)) rfl rfl) ?_
          refine Run.eff (dd := some 80) rfl rfl (op_append rfl (Opd.tmp _ _ rfl) (Opd.tmp _ _ rfl) rfl (by simp) rfl rfl tB tB) ?_
          refine Run.pure (dd := some 81) rfl rfl (op_fld_ptr (by decide) rfl (Opd.tmp _ _ rfl)) ?_
          refine Run.eff (dd := none) rfl rfl (op_store_refs rfl (Opd.tmp _ _ rfl) (Opd.tmp _ _ rfl) tP rfl rfl rfl tS) ?_
          refine Run.nil (FinR.mk ?_)
          refine nK ?_
          refine s_reg rfl ?_
          refine Run.pure (dd := some 28) rfl rfl (op_move rfl (Opd.tmp _ _ rfl)) ?_
          refine Run.pure (dd := some 29) rfl rfl (op_add rfl (Opd.tmp _ _ rfl) (Opd.const _) tI) ?_
          refine Run.pure (dd := some 7) rfl rfl (op_assign rfl (Opd.tmp _ _ rfl)) ?_
          refine Run.nil (FinR.mk ?_)
          refine nK ?_
          refine Next.weak [0, 1, 7, 3, 4, 8] [] (by rfl) (keeps0 hC _) (by repeat (first | exact trivial | refine ⟨⟨_, rfl, .inl ⟨rfl, rfl⟩⟩, ?_⟩ | refine ⟨⟨_, rfl, .inl ⟨slEq rfl tN, rfl⟩⟩, ?_⟩ | refine ⟨⟨_, rfl, .inl ⟨ivEq tX, rfl⟩⟩, ?_⟩)) (by exact ⟨ent_same rfl rfl rfl tL, ⟨ent_same rfl rfl rfl tL, ⟨ent_same rfl rfl rfl tL, ⟨ent_same rfl rfl rfl tL, ⟨ent_same rfl rfl rfl tL, ⟨ent_same rfl rfl rfl tL, trivial⟩⟩⟩⟩⟩⟩) (fun _ h => by simp at h) (hK2)
        · rw [if_neg (by rw [hb]; decide), List.append_nil] at hs2
          refine nK ?_
          refine s_reg rfl ?_
          refine Run.pure (dd := some 28) rfl rfl (op_move rfl (Opd.tmp _ _ rfl)) ?_
          refine Run.pure (dd := some 29) rfl rfl (op_add rfl (Opd.tmp _ _ rfl) (Opd.const _) tI) ?_
          refine Run.pure (dd := some 7) rfl rfl (op_assign rfl (Opd.tmp _ _ rfl)) ?_
          refine Run.nil (FinR.mk ?_)
          refine nK ?_
          refine Next.weak [0, 1, 2, 3, 4, 5] [] (by rfl) (keeps0 hC _) (by repeat (first | exact trivial | refine ⟨⟨_, rfl, .inl ⟨rfl, rfl⟩⟩, ?_⟩ | refine ⟨⟨_, rfl, .inl ⟨slEq rfl tN, rfl⟩⟩, ?_⟩ | refine ⟨⟨_, rfl, .inl ⟨ivEq tX, rfl⟩⟩, ?_⟩)) (by exact ⟨ent_same rfl rfl rfl tL, ⟨ent_same rfl rfl rfl tL, ⟨ent_same rfl rfl rfl tL, ⟨ent_same rfl rfl rfl tL, ⟨ent_same rfl rfl rfl tL, ⟨ent_same rfl rfl rfl tL, trivial⟩⟩⟩⟩⟩⟩) (fun _ h => by simp at h) (hK1 rs ns hs1.symm hs2.symm)
    · have hie : i = db.length := by simp at hb; omega
      rw [hie, List.take_length] at hS1 hS2
      clear hK
      refine nK ?_
      refine Next.weak [0, 3] [1, 2, 4, 5] (by rfl) (keeps0 hC _) (G' := [(2, .ptr 0 5 0 0), (4, .fz (VA rs)), (5, .fz (VA ns)), (6, .ptr 1 5 0 0)]) (H' := [(0, OR zeroR), (1, OR ⟨zeroG, rs.map fun l => l.h.rt, ns.map netOf⟩)]) (by repeat (first | exact trivial | refine ⟨⟨_, rfl, .inl ⟨rfl, rfl⟩⟩, ?_⟩ | refine ⟨⟨_, rfl, .inl ⟨slEq rfl tN, rfl⟩⟩, ?_⟩ | refine ⟨⟨_, rfl, .inl ⟨ivEq tX, rfl⟩⟩, ?_⟩ | refine ⟨⟨_, rfl, .inr ⟨_, rfl, tW⟩⟩, ?_⟩)) (by exact ⟨ent_same rfl rfl rfl tL, ⟨⟨rfl, rfl, .flat _ _ _ rfl tW⟩, trivial⟩⟩) (fun id h => by
        have h' : id = 1 ∨ id = 2 ∨ id = 4 ∨ id = 5 := by simpa using h
        rcases h' with rfl | rfl | rfl | rfl <;> exact ⟨_, rfl⟩) ?_
      have hro : ∀ x ∈ rs, okA x ∧ x.ls.length ≤ 64 ∧ x.att.length ≤ 64 := fun x hx => by rw [hS1] at hx; exact ⟨ho x (List.mem_filter.1 hx).1, hl x (List.mem_filter.1 hx).1⟩
      have hno : ∀ x ∈ ns, okA x ∧ x.ls.length ≤ 64 ∧ x.att.length ≤ 64 := fun x hx => by rw [hS2] at hx; exact ⟨ho x (List.mem_filter.1 hx).1, hl x (List.mem_filter.1 hx).1⟩
      unfold refF
      rw [← hS1, ← hS2]
      clear hS1 hS2
      unfold refG
      refine nK ?_
      refine s_reg rfl ?_
      refine Run.pure (dd := some 82) rfl rfl (op_move rfl (Opd.tmp _ _ rfl)) ?_
      refine Run.pure (dd := some 83) rfl rfl (op_len_fz rfl (by first | exact Opd.tmp _ _ rfl | exact Opd.nil _ _ (Opd.tmp _ _ rfl)) (by first | exact List.length_map _ | rfl)) ?_
      refine Run.pure (dd := some 84) rfl rfl (op_move rfl (Opd.tmp _ _ rfl)) ?_
      refine Run.pure (dd := some 85) rfl rfl (op_len_fz rfl (by first | exact Opd.tmp _ _ rfl | exact Opd.nil _ _ (Opd.tmp _ _ rfl)) (by first | exact List.length_map _ | rfl)) ?_
      refine Run.pure (dd := some 86) rfl rfl (op_add rfl (Opd.tmp _ _ rfl) (Opd.tmp _ _ rfl) tI) ?_
      refine Run.pure (dd := some 87) rfl rfl (op_gtr rfl (Opd.tmp _ _ rfl) (Opd.const _)) ?_
      refine Run.nil (FinR.mk ?_)
      refine nK ?_
      refine n_cond _ rfl (fun hb => ?_) (fun hb => ?_)
      · rw [if_pos (by simp at hb; omega)]
        refine nK ?_
        refine s_reg rfl ?_
        refine Run.pure (dd := some 88) rfl rfl (op_build rfl rfl rfl (FillF.nil _)) ?_
        refine Run.eff (dd := none) rfl rfl (op_store_flat rfl (Opd.tmp _ _ rfl) (Opd.tmp _ _ rfl) tC rfl rfl (by first | rfl | assumption) tS) ?_
        refine Run.pure (dd := some 3) rfl rfl (op_assign rfl (Opd.const _)) ?_
        refine Run.nil (FinR.mk ?_)
        refine nK ?_
        refine Next.weak [0] [] (by rfl) (keeps0 hC _) (G' := [(2, .ptr 0 5 0 0), (3, IV .i64 4)]) (H' := [(0, OR zeroR)]) (by repeat (first | exact trivial | refine ⟨⟨_, rfl, .inl ⟨rfl, rfl⟩⟩, ?_⟩ | refine ⟨⟨_, rfl, .inl ⟨slEq rfl tN, rfl⟩⟩, ?_⟩ | refine ⟨⟨_, rfl, .inl ⟨ivEq tX, rfl⟩⟩, ?_⟩)) (by exact ⟨⟨rfl, rfl, .fflat _ _ _ rfl tW⟩, trivial⟩) (fun _ h => by simp at h) ?_
        (first | exact s_o1 hC rfl tV | exact s_o2 hC rfl tV tV | exact s_o3 hC rfl tV tV tV | exact s_o4 hC rfl tV tV tV tV | exact s_out0 hC rfl | exact s_outO hC rfl rfl rfl)
      · have h128 : rs.length + ns.length ≤ 128 := by simp at hb; omega
        rw [if_neg (by omega)]
        refine nK ?_
        refine s_reg rfl ?_
        refine Run.eff (dd := some 89) rfl rfl (op_buildSlice_own rfl (RowsF.nil _) rfl rfl rfl) ?_
        refine Run.pure (dd := some 9) rfl rfl (op_assign rfl (Opd.tmp _ _ rfl)) ?_
        refine Run.nil (FinR.mk ?_)
        refine nK ?_
        refine s_reg rfl ?_
        refine Run.pure (dd := some 10) rfl rfl (op_assign rfl (Opd.const _)) ?_
        refine Run.nil (FinR.mk ?_)
        refine nK ?_
        generalize hE : refA rs ns 0 rs = E at *
        refine n_loop (ι := Nat × List Edg) (fun p => ([(2, .ptr 0 5 0 0), (4, .fz (VA rs)), (5, .fz (VA ns)), (6, .ptr 1 5 0 0), (9, .sl 2 3 0 p.2.length), (10, IV .i64 p.1)], [(0, OR zeroR), (1, OR ⟨zeroG, rs.map fun l => l.h.rt, ns.map netOf⟩), (2, OE p.2)], 3)) (fun p => p.1 ≤ rs.length ∧ p.2.length ≤ p.1 * 384 ∧ p.2 ++ refA rs ns p.1 (rs.drop p.1) = E) (fun p => rs.length - p.1) (0, []) ⟨Nat.zero_le _, by simp, hE⟩ ?_ ?_
        · refine Next.weak [0, 1, 2] [] (by rfl) (keeps0 hC _) (by repeat (first | exact trivial | refine ⟨⟨_, rfl, .inl ⟨rfl, rfl⟩⟩, ?_⟩ | refine ⟨⟨_, rfl, .inl ⟨slEq rfl tN, rfl⟩⟩, ?_⟩ | refine ⟨⟨_, rfl, .inl ⟨ivEq tX, rfl⟩⟩, ?_⟩)) (by exact ⟨ent_same rfl rfl rfl tL, ⟨ent_same rfl rfl rfl tL, ⟨ent_same rfl rfl rfl tL, trivial⟩⟩⟩) (fun _ h => by simp at h) (rel_intro)
        · intro ⟨i, es⟩ ⟨hi, hel, hS⟩ K hK
          dsimp only at hi hel hS ⊢
          refine nK ?_
          refine s_reg rfl ?_
          refine Run.pure (dd := some 90) rfl rfl (op_move rfl (Opd.tmp _ _ rfl)) ?_
          refine Run.pure (dd := some 91) rfl rfl (op_move rfl (Opd.tmp _ _ rfl)) ?_
          refine Run.pure (dd := some 92) rfl rfl (op_len_fz rfl (by first | exact Opd.tmp _ _ rfl | exact Opd.nil _ _ (Opd.tmp _ _ rfl)) (by first | exact List.length_map _ | rfl)) ?_
          refine Run.pure (dd := some 93) rfl rfl (op_lss rfl (Opd.tmp _ _ rfl) (Opd.tmp _ _ rfl)) ?_
          refine Run.nil (FinR.mk ?_)
          refine nK ?_
          refine n_cond _ rfl (fun hb => ?_) (fun hb => ?_)
          · have hlt : i < rs.length := by simp at hb; omega
            have hr1 := row_at' encA rs i hlt
            have hr1r := row_at' encU (rs.map fun l => l.h.rt) i (by simpa using hlt)
            rw [List.getElem_map] at hr1r
            obtain ⟨hol, hll1, hll2⟩ := hro rs[i] (List.getElem_mem hlt)
            rw [refA_step hlt, List.append_assoc, ← List.append_assoc] at hS
            have hK1 := fun es' h0 h => hK (i + 1, es') ⟨by dsimp only; omega, h0, h⟩ (by dsimp only; omega)
            dsimp only at hK1
            generalize rs[i] = l at *
            have hcl : lenOk l.ls.length := by unfold lenOk; omega
            generalize hM1 : es ++ refP i l 0 rs = M1 at *
            refine nK ?_
            refine s_reg rfl ?_
            refine Run.pure (dd := some 11) rfl rfl (op_assign rfl (Opd.const _)) ?_
            refine Run.nil (FinR.mk ?_)
            refine nK ?_
            refine n_loop (ι := Nat × List Edg) (fun p => ([(2, .ptr 0 5 0 0), (4, .fz (VA rs)), (5, .fz (VA ns)), (6, .ptr 1 5 0 0), (9, .sl 2 3 0 p.2.length), (10, IV .i64 i), (11, IV .i64 p.1)], [(0, OR zeroR), (1, OR ⟨zeroG, rs.map fun l => l.h.rt, ns.map netOf⟩), (2, OE p.2)], 3)) (fun p => p.1 ≤ rs.length ∧ p.2.length ≤ es.length + p.1 ∧ p.2 ++ refP i l p.1 (rs.drop p.1) = M1) (fun p => rs.length - p.1) (0, es) ⟨Nat.zero_le _, by simp, hM1⟩ ?_ ?_
            · refine Next.weak [0, 1, 2] [] (by rfl) (keeps0 hC _) (by repeat (first | exact trivial | refine ⟨⟨_, rfl, .inl ⟨rfl, rfl⟩⟩, ?_⟩ | refine ⟨⟨_, rfl, .inl ⟨slEq rfl tN, rfl⟩⟩, ?_⟩ | refine ⟨⟨_, rfl, .inl ⟨ivEq tX, rfl⟩⟩, ?_⟩)) (by exact ⟨ent_same rfl rfl rfl tL, ⟨ent_same rfl rfl rfl tL, ⟨ent_same rfl rfl rfl tL, trivial⟩⟩⟩) (fun _ h => by simp at h) (rel_intro)
            · intro ⟨k, ec⟩ ⟨hk, hcl2, hT⟩ K2 hK2
              dsimp only at hk hcl2 hT ⊢
              refine nK ?_
              refine s_reg rfl ?_
              refine Run.pure (dd := some 96) rfl rfl (op_move rfl (Opd.tmp _ _ rfl)) ?_
              refine Run.pure (dd := some 97) rfl rfl (op_move rfl (Opd.tmp _ _ rfl)) ?_
              refine Run.pure (dd := some 98) rfl rfl (op_len_fz rfl (by first | exact Opd.tmp _ _ rfl | exact Opd.nil _ _ (Opd.tmp _ _ rfl)) (by first | exact List.length_map _ | rfl)) ?_
              refine Run.pure (dd := some 99) rfl rfl (op_lss rfl (Opd.tmp _ _ rfl) (Opd.tmp _ _ rfl)) ?_
              refine Run.nil (FinR.mk ?_)
              refine nK ?_
              refine n_cond _ rfl (fun hb => ?_) (fun hb => ?_)
              · have hlt2 : k < rs.length := by simp at hb; omega
                have hr2 := row_at' encA rs k hlt2
                have hr2r := row_at' encU (rs.map fun l => l.h.rt) k (by simpa using hlt2)
                rw [List.getElem_map] at hr2r
                have hmm := hro rs[k] (List.getElem_mem hlt2)
                rw [refP_step hlt2, ← List.append_assoc] at hT
                have hK3 := fun es' h0 h => hK2 (k + 1, es') ⟨by dsimp only; omega, h0, h⟩ (by dsimp only; omega)
                dsimp only at hK3
                generalize rs[k] = m at *
                have hcm : lenOk m.ls.length := by unfold lenOk; omega
                refine nK ?_
                refine s_draw mixed ?_
                refine Run.pure (dd := some 103) rfl rfl (op_move rfl (Opd.tmp _ _ rfl)) ?_
                refine Run.pure (dd := some 104) rfl rfl (op_move rfl (Opd.tmp _ _ rfl)) ?_
                refine Run.pure (dd := some 105) rfl rfl (op_idx_fz _ rfl (Opd.tmp _ _ rfl) (Opd.tmp _ _ rfl) tF) ?_
                refine Run.pure (dd := some 106) rfl rfl (op_loadw_fz rfl (Opd.tmp _ _ rfl) rfl) ?_
                refine Run.pure (dd := some 107) rfl rfl (op_fld_ptr (by decide) rfl (Opd.tmp _ _ rfl)) ?_
                refine Run.load (dd := some 108) rfl rfl (op_load1_flat rfl (Opd.tmp _ _ rfl) tH rfl) ?_
                refine Run.pure (dd := some 109) rfl rfl (op_move rfl (Opd.tmp _ _ rfl)) ?_
                refine Run.pure (dd := some 110) rfl rfl (op_idx_fz _ rfl (Opd.tmp _ _ rfl) (Opd.tmp _ _ rfl) tF) ?_
                refine Run.pure (dd := some 111) rfl rfl (op_load1_fz rfl (Opd.tmp _ _ rfl) rfl) ?_
                refine Run.pure (dd := some 112) rfl rfl (op_call_pure (fun _ => cheap_c _ _ _ (by assumption)) rfl (Opd.func _) (Opds.cons _ _ _ _ (Opd.tmp _ _ rfl) (Opds.cons _ _ _ _ (Opd.const _) (Opds.cons _ _ _ _ (Opd.tmp _ _ rfl) Opds.nil)))) ?_
                refine Run.pure (dd := some 102) rfl rfl (op_move rfl (Opd.tmp _ _ rfl)) ?_
                refine Run.pure (dd := some 113) rfl rfl (op_extract_fz rfl (Opd.tmp _ _ rfl) rfl) ?_
                refine Run.pure (dd := some 114) rfl rfl (op_extract_fz rfl (Opd.tmp _ _ rfl) rfl) ?_
                refine Run.pure (dd := some 12) rfl rfl (op_assign rfl (Opd.tmp _ _ rfl)) ?_
                refine Run.pure (dd := some 13) rfl rfl (op_assign rfl (Opd.tmp _ _ rfl)) ?_
                refine Run.nil (FinD.mk (by kernel_rfl) ?_)
                refine nK ?_
                refine s_draw mixed ?_
                refine Run.pure (dd := some 116) rfl rfl (op_move rfl (Opd.tmp _ _ rfl)) ?_
                refine Run.pure (dd := some 117) rfl rfl (op_move rfl (Opd.tmp _ _ rfl)) ?_
                refine Run.pure (dd := some 118) rfl rfl (op_idx_fz _ rfl (Opd.tmp _ _ rfl) (Opd.tmp _ _ rfl) tF) ?_
                refine Run.pure (dd := some 119) rfl rfl (op_loadw_fz rfl (Opd.tmp _ _ rfl) rfl) ?_
                refine Run.pure (dd := some 120) rfl rfl (op_fld_ptr (by decide) rfl (Opd.tmp _ _ rfl)) ?_
                refine Run.load (dd := some 121) rfl rfl (op_load1_flat rfl (Opd.tmp _ _ rfl) tH rfl) ?_
                refine Run.pure (dd := some 122) rfl rfl (op_move rfl (Opd.tmp _ _ rfl)) ?_
                refine Run.pure (dd := some 123) rfl rfl (op_idx_fz _ rfl (Opd.tmp _ _ rfl) (Opd.tmp _ _ rfl) tF) ?_
                refine Run.pure (dd := some 124) rfl rfl (op_load1_fz rfl (Opd.tmp _ _ rfl) rfl) ?_
                refine Run.pure (dd := some 125) rfl rfl (op_call_pure (fun _ => cheap_c _ _ _ (by assumption)) rfl (Opd.func _) (Opds.cons _ _ _ _ (Opd.tmp _ _ rfl) (Opds.cons _ _ _ _ (Opd.const _) (Opds.cons _ _ _ _ (Opd.tmp _ _ rfl) Opds.nil)))) ?_
                refine Run.pure (dd := some 115) rfl rfl (op_move rfl (Opd.tmp _ _ rfl)) ?_
                refine Run.pure (dd := some 126) rfl rfl (op_extract_fz rfl (Opd.tmp _ _ rfl) rfl) ?_
                refine Run.pure (dd := some 127) rfl rfl (op_extract_fz rfl (Opd.tmp _ _ rfl) rfl) ?_
                refine Run.pure (dd := some 14) rfl rfl (op_assign rfl (Opd.tmp _ _ rfl)) ?_
                refine Run.pure (dd := some 15) rfl rfl (op_assign rfl (Opd.tmp _ _ rfl)) ?_
                refine Run.nil (FinD.mk (by kernel_rfl) ?_)
                refine nK ?_
                refine s_reg rfl ?_
                refine Run.pure (dd := some 128) rfl rfl (op_move rfl (Opd.tmp _ _ rfl)) ?_
                refine Run.pure (dd := some 129) rfl rfl (op_move rfl (Opd.tmp _ _ rfl)) ?_
                refine Run.pureG (dd := some 130) rfl rfl rfl tG (op_move rfl (Opd.tmp _ _ rfl)) ?_
                refine Run.pure (dd := some 131) rfl rfl (op_pick_and rfl (Opd.tmp _ _ rfl) (Opd.topt _ _ _ rfl tO)) ?_
                refine Run.pure (dd := some 132) rfl rfl (op_move rfl (Opd.tmp _ _ rfl)) ?_
                refine Run.pureG (dd := some 133) rfl rfl rfl tG (op_move rfl (Opd.tmp _ _ rfl)) ?_
                refine Run.pureG (dd := some 134) rfl rfl rfl tG (op_move rfl (Opd.tmp _ _ rfl)) ?_
                refine Run.pureG (dd := some 135) rfl rfl rfl tG (op_neq rfl (Opd.topt _ _ _ rfl tO) (Opd.topt _ _ _ rfl tO)) ?_
                refine Run.pure (dd := some 136) rfl rfl (op_pick_and rfl (Opd.tmp _ _ rfl) (Opd.topt _ _ _ rfl tO)) ?_
                refine Run.nil (FinR.mk ?_)
                refine nK ?_
                refine n_cond _ rfl (fun hb => ?_) (fun hb => ?_)
                · rw [ifT hb] at hT
                  have hK4 := hK3 _ (by simp; omega) hT
                  have he : (ec ++ ([⟨(i : Int), (k : Int), (cheapF 1 m.h.rt l).1⟩] : List Edg)).length = ec.length + 1 := by simp
                  have he2 : (ec ++ ([⟨(i : Int), (k : Int), (cheapF 1 m.h.rt l).1⟩] : List Edg)).map encE = ec.map encE ++ [encE ⟨(i : Int), (k : Int), (cheapF 1 m.h.rt l).1⟩] := by simp
                  unfold OE at hK4
                  rw [he, he2] at hK4
                  refine nK ?_
                  refine s_reg rfl ?_
                  refine Run.pure (dd := some 137) rfl rfl (op_move rfl (Opd.tmp _ _ rfl)) ?_
                  refine Run.pure (dd := some 138) rfl rfl (op_move rfl (Opd.tmp _ _ rfl)) ?_
                  refine Run.pure (dd := some 139) rfl rfl (op_move rfl (Opd.tmp _ _ rfl)) ?_
                  refine Run.pure (dd := some 140) rfl rfl (op_move rfl (Opd.tmp _ _ rfl)) ?_
                  refine Run.pure (dd := some 141) rfl rfl (op_build rfl rfl rfl (FillF.cons _ _ _ _ _ _ _ _ _ _ (by rfl) (Opd.tmp _ _ rfl) tC (by rfl) tR (FillF.cons _ _ _ _ _ _ _ _ _ _ (by rfl) (Opd.tmp _ _ rfl) tC (by rfl) tR (FillF.cons _ _ _ _ _ _ _ _ _ _ (by rfl) (Opd.tmp _ _ rfl) tC (by rfl) tR (FillF.nil _))))) ?_
                  refine Run.pure (dd := some 142) rfl rfl (op_buildSlice_fz rfl (RowsF.cons _ _ _ _ _ _ (Opd.tmp _ _ rfl) tC (by rfl) (RowsF.nil _)) rfl rfl) ?_
                  refine Run.eff (dd := some 143) rfl rfl (op_append rfl (Opd.tmp _ _ rfl) (Opd.tmp _ _ rfl) rfl (by simp) rfl rfl tB tB) ?_
                  refine Run.pure (dd := some 9) rfl rfl (op_assign rfl (Opd.tmp _ _ rfl)) ?_
                  refine Run.nil (FinR.mk ?_)
                  refine nK ?_
                  refine s_reg rfl ?_
                  refine Run.pure (dd := some 100) rfl rfl (op_move rfl (Opd.tmp _ _ rfl)) ?_
                  refine Run.pure (dd := some 101) rfl rfl (op_add rfl (Opd.tmp _ _ rfl) (Opd.const _) tI) ?_
                  refine Run.pure (dd := some 11) rfl rfl (op_assign rfl (Opd.tmp _ _ rfl)) ?_
                  refine Run.nil (FinR.mk ?_)
                  refine nK ?_
                  refine Next.weak [0, 1, 3] [] (by rfl) (keeps0 hC _) (by repeat (first | exact trivial | refine ⟨⟨_, rfl, .inl ⟨rfl, rfl⟩⟩, ?_⟩ | refine ⟨⟨_, rfl, .inl ⟨slEq rfl tN, rfl⟩⟩, ?_⟩ | refine ⟨⟨_, rfl, .inl ⟨ivEq tX, rfl⟩⟩, ?_⟩)) (by exact ⟨ent_same rfl rfl rfl tL, ⟨ent_same rfl rfl rfl tL, ⟨ent_same rfl rfl rfl tL, trivial⟩⟩⟩) (fun _ h => by simp at h) (hK4)
                · rw [ifF hb, List.append_nil] at hT
                  refine nK ?_
                  refine s_reg rfl ?_
                  refine Run.pure (dd := some 100) rfl rfl (op_move rfl (Opd.tmp _ _ rfl)) ?_
                  refine Run.pure (dd := some 101) rfl rfl (op_add rfl (Opd.tmp _ _ rfl) (Opd.const _) tI) ?_
                  refine Run.pure (dd := some 11) rfl rfl (op_assign rfl (Opd.tmp _ _ rfl)) ?_
                  refine Run.nil (FinR.mk ?_)
                  refine nK ?_
                  refine Next.weak [0, 1, 2] [] (by rfl) (keeps0 hC _) (by repeat (first | exact trivial | refine ⟨⟨_, rfl, .inl ⟨rfl, rfl⟩⟩, ?_⟩ | refine ⟨⟨_, rfl, .inl ⟨slEq rfl tN, rfl⟩⟩, ?_⟩ | refine ⟨⟨_, rfl, .inl ⟨ivEq tX, rfl⟩⟩, ?_⟩)) (by exact ⟨ent_same rfl rfl rfl tL, ⟨ent_same rfl rfl rfl tL, ⟨ent_same rfl rfl rfl tL, trivial⟩⟩⟩) (fun _ h => by simp at h) (hK3 ec (by omega) hT)
              · have hie2 : k = rs.length := by simp at hb; omega
                rw [hie2, List.drop_length] at hT
                simp only [refP, List.append_nil] at hT
                subst hT
                rw [hie2] at hcl2
                clear hK2
                rw [← List.append_assoc] at hS
                generalize hM2 : ec ++ refN rs.length i l 0 ns = M2 at *
                refine nK ?_
                refine s_reg rfl ?_
                refine Run.pure (dd := some 16) rfl rfl (op_assign rfl (Opd.const _)) ?_
                refine Run.nil (FinR.mk ?_)
                refine nK ?_
                refine n_loop (ι := Nat × List Edg) (fun p => ([(2, .ptr 0 5 0 0), (4, .fz (VA rs)), (5, .fz (VA ns)), (6, .ptr 1 5 0 0), (9, .sl 2 3 0 p.2.length), (10, IV .i64 i), (16, IV .i64 p.1)], [(0, OR zeroR), (1, OR ⟨zeroG, rs.map fun l => l.h.rt, ns.map netOf⟩), (2, OE p.2)], 3)) (fun p => p.1 ≤ ns.length ∧ p.2.length ≤ ec.length + 2 * p.1 ∧ p.2 ++ refN rs.length i l p.1 (ns.drop p.1) = M2) (fun p => ns.length - p.1) (0, ec) ⟨Nat.zero_le _, by simp, hM2⟩ ?_ ?_
                · refine Next.weak [0, 1, 2] [] (by rfl) (keeps0 hC _) (by repeat (first | exact trivial | refine ⟨⟨_, rfl, .inl ⟨rfl, rfl⟩⟩, ?_⟩ | refine ⟨⟨_, rfl, .inl ⟨slEq rfl tN, rfl⟩⟩, ?_⟩ | refine ⟨⟨_, rfl, .inl ⟨ivEq tX, rfl⟩⟩, ?_⟩)) (by exact ⟨ent_same rfl rfl rfl tL, ⟨ent_same rfl rfl rfl tL, ⟨ent_same rfl rfl rfl tL, trivial⟩⟩⟩) (fun _ h => by simp at h) (rel_intro)
                · intro ⟨k, ed⟩ ⟨hk, hcl3, hU⟩ K3 hK5
                  dsimp only at hk hcl3 hU ⊢
                  refine nK ?_
                  refine s_reg rfl ?_
                  refine Run.pure (dd := some 144) rfl rfl (op_move rfl (Opd.tmp _ _ rfl)) ?_
                  refine Run.pure (dd := some 145) rfl rfl (op_move rfl (Opd.tmp _ _ rfl)) ?_
                  refine Run.pure (dd := some 146) rfl rfl (op_len_fz rfl (by first | exact Opd.tmp _ _ rfl | exact Opd.nil _ _ (Opd.tmp _ _ rfl)) (by first | exact List.length_map _ | rfl)) ?_
                  refine Run.pure (dd := some 147) rfl rfl (op_lss rfl (Opd.tmp _ _ rfl) (Opd.tmp _ _ rfl)) ?_
                  refine Run.nil (FinR.mk ?_)
                  refine nK ?_
                  refine n_cond _ rfl (fun hb => ?_) (fun hb => ?_)
                  · have hlt3 : k < ns.length := by simp at hb; omega
                    have hr3 := row_at' encA ns k hlt3
                    have hr3r := row_at' encV (ns.map netOf) k (by simpa using hlt3)
                    rw [List.getElem_map] at hr3r
                    have hmm := hno ns[k] (List.getElem_mem hlt3)
                    rw [refN_step hlt3, ← List.append_assoc] at hU
                    have hK6 := fun es' h0 h => hK5 (k + 1, es') ⟨by dsimp only; omega, h0, h⟩ (by dsimp only; omega)
                    dsimp only at hK6
                    generalize ns[k] = m at *
                    have hcm : lenOk m.att.length := by unfold lenOk; omega
                    refine nK ?_
                    refine s_draw mixed ?_
                    refine Run.pure (dd := some 151) rfl rfl (op_move rfl (Opd.tmp _ _ rfl)) ?_
                    refine Run.pure (dd := some 152) rfl rfl (op_move rfl (Opd.tmp _ _ rfl)) ?_
                    refine Run.pure (dd := some 153) rfl rfl (op_idx_fz _ rfl (Opd.tmp _ _ rfl) (Opd.tmp _ _ rfl) tF) ?_
                    refine Run.pure (dd := some 154) rfl rfl (op_loadw_fz rfl (Opd.tmp _ _ rfl) rfl) ?_
                    refine Run.pure (dd := some 155) rfl rfl (op_fld_ptr (by decide) rfl (Opd.tmp _ _ rfl)) ?_
                    refine Run.load (dd := some 156) rfl rfl (op_load1_flat rfl (Opd.tmp _ _ rfl) tH rfl) ?_
                    refine Run.pure (dd := some 157) rfl rfl (op_move rfl (Opd.tmp _ _ rfl)) ?_
                    refine Run.pure (dd := some 158) rfl rfl (op_idx_fz _ rfl (Opd.tmp _ _ rfl) (Opd.tmp _ _ rfl) tF) ?_
                    refine Run.pure (dd := some 159) rfl rfl (op_fld_fz (by decide) rfl (Opd.tmp _ _ rfl) tR) ?_
                    refine Run.pure (dd := some 160) rfl rfl (op_load1_fz rfl (Opd.tmp _ _ rfl) rfl) ?_
                    refine Run.pure (dd := some 161) rfl rfl (op_call_pure (fun _ => cheap_c _ _ _ (by assumption)) rfl (Opd.func _) (Opds.cons _ _ _ _ (Opd.tmp _ _ rfl) (Opds.cons _ _ _ _ (Opd.const _) (Opds.cons _ _ _ _ (Opd.tmp _ _ rfl) Opds.nil)))) ?_
                    refine Run.pure (dd := some 150) rfl rfl (op_move rfl (Opd.tmp _ _ rfl)) ?_
                    refine Run.pure (dd := some 162) rfl rfl (op_extract_fz rfl (Opd.tmp _ _ rfl) rfl) ?_
                    refine Run.pure (dd := some 163) rfl rfl (op_extract_fz rfl (Opd.tmp _ _ rfl) rfl) ?_
                    refine Run.pure (dd := some 17) rfl rfl (op_assign rfl (Opd.tmp _ _ rfl)) ?_
                    refine Run.pure (dd := some 18) rfl rfl (op_assign rfl (Opd.tmp _ _ rfl)) ?_
                    refine Run.nil (FinD.mk (by kernel_rfl) ?_)
                    refine nK ?_
                    refine s_draw mixed ?_
                    refine Run.pure (dd := some 164) rfl rfl (op_move rfl (Opd.tmp _ _ rfl)) ?_
                    refine Run.pure (dd := some 165) rfl rfl (op_move rfl (Opd.tmp _ _ rfl)) ?_
                    refine Run.pureG (dd := some 166) rfl rfl rfl tG (op_move rfl (Opd.tmp _ _ rfl)) ?_
                    refine Run.pureG (dd := some 167) rfl rfl rfl tG (op_move rfl (Opd.tmp _ _ rfl)) ?_
                    refine Run.pureG (dd := some 168) rfl rfl rfl tG (op_idx_fz _ rfl (Opd.topt _ _ _ rfl tO) (Opd.topt _ _ _ rfl tO) tF) ?_
                    refine Run.pureG (dd := some 169) rfl rfl rfl tG (op_loadw_fz rfl (Opd.topt _ _ _ rfl tO) rfl) ?_
                    refine Run.pureG (dd := some 170) rfl rfl rfl tG (op_fld_ptr (by decide) rfl (Opd.tmp _ _ rfl)) ?_
                    refine Run.loadG (dd := some 171) rfl rfl rfl tG (op_load1_flat rfl (Opd.topt _ _ _ rfl tO) tH rfl) ?_
                    refine Run.pureG (dd := some 172) rfl rfl rfl tG (op_move rfl (Opd.tmp _ _ rfl)) ?_
                    refine Run.pureG (dd := some 173) rfl rfl rfl tG (op_idx_fz _ rfl (Opd.topt _ _ _ rfl tO) (Opd.topt _ _ _ rfl tO) tF) ?_
                    refine Run.pureG (dd := some 174) rfl rfl rfl tG (op_load1_fz rfl (Opd.topt _ _ _ rfl tO) rfl) ?_
                    refine Run.pureG (dd := some 175) rfl rfl rfl tG (op_call_pure (fun _ => attd_c _ _ (by assumption)) rfl (Opd.func _) (Opds.cons _ _ _ _ (Opd.topt _ _ _ rfl tO) (Opds.cons _ _ _ _ (Opd.topt _ _ _ rfl tO) Opds.nil))) ?_
                    refine Run.pure (dd := some 176) rfl rfl (op_pick_and rfl (Opd.tmp _ _ rfl) (Opd.topt _ _ _ rfl tO)) ?_
                    refine Run.nil (FinD.mk (by kernel_rfl) ?_)
                    refine nK ?_
                    refine n_cond _ rfl (fun hb => ?_) (fun hb => ?_)
                    · have hb' : ((cheapF 2 m.h.id l).2 && m.att.contains l.h.rt) = true := hb
                      rw [ifT hb'] at hU
                      have hK7 := hK6 _ (by simp; omega) hU
                      have he : (ed ++ ([⟨(i : Int), (rs.length : Int) + k, (cheapF 2 m.h.id l).1⟩, ⟨(rs.length : Int) + k, (i : Int), 0⟩] : List Edg)).length = ed.length + 1 + 1 := by simp
                      have he2 : (ed ++ ([⟨(i : Int), (rs.length : Int) + k, (cheapF 2 m.h.id l).1⟩, ⟨(rs.length : Int) + k, (i : Int), 0⟩] : List Edg)).map encE = ed.map encE ++ [encE ⟨(i : Int), (rs.length : Int) + k, (cheapF 2 m.h.id l).1⟩] ++ [encE ⟨(rs.length : Int) + k, (i : Int), 0⟩] := by simp
                      unfold OE at hK7
                      rw [he, he2] at hK7
                      refine nK ?_
                      refine s_reg rfl ?_
                      refine Run.pure (dd := some 177) rfl rfl (op_move rfl (Opd.tmp _ _ rfl)) ?_
                      refine Run.pure (dd := some 178) rfl rfl (op_move rfl (Opd.tmp _ _ rfl)) ?_
                      refine Run.pure (dd := some 179) rfl rfl (op_move rfl (Opd.tmp _ _ rfl)) ?_
                      refine Run.pure (dd := some 180) rfl rfl (op_len_fz rfl (by first | exact Opd.tmp _ _ rfl | exact Opd.nil _ _ (Opd.tmp _ _ rfl)) (by first | exact List.length_map _ | rfl)) ?_
                      refine Run.pure (dd := some 181) rfl rfl (op_move rfl (Opd.tmp _ _ rfl)) ?_
                      refine Run.pure (dd := some 182) rfl rfl (op_add rfl (Opd.tmp _ _ rfl) (Opd.tmp _ _ rfl) tI) ?_
                      refine Run.pure (dd := some 183) rfl rfl (op_move rfl (Opd.tmp _ _ rfl)) ?_
                      refine Run.pure (dd := some 184) rfl rfl (op_build rfl rfl rfl (FillF.cons _ _ _ _ _ _ _ _ _ _ (by rfl) (Opd.tmp _ _ rfl) tC (by rfl) tR (FillF.cons _ _ _ _ _ _ _ _ _ _ (by rfl) (Opd.tmp _ _ rfl) tC (by rfl) tR (FillF.cons _ _ _ _ _ _ _ _ _ _ (by rfl) (Opd.tmp _ _ rfl) tC (by rfl) tR (FillF.nil _))))) ?_
                      refine Run.pure (dd := some 185) rfl rfl (op_buildSlice_fz rfl (RowsF.cons _ _ _ _ _ _ (Opd.tmp _ _ rfl) tC (by rfl) (RowsF.nil _)) rfl rfl) ?_
                      refine Run.eff (dd := some 186) rfl rfl (op_append rfl (Opd.tmp _ _ rfl) (Opd.tmp _ _ rfl) rfl (by simp) rfl rfl tB tB) ?_
                      refine Run.pure (dd := some 9) rfl rfl (op_assign rfl (Opd.tmp _ _ rfl)) ?_
                      refine Run.nil (FinR.mk ?_)
                      refine nK ?_
                      refine s_reg rfl ?_
                      refine Run.pure (dd := some 187) rfl rfl (op_move rfl (Opd.tmp _ _ rfl)) ?_
                      refine Run.pure (dd := some 188) rfl rfl (op_move rfl (Opd.tmp _ _ rfl)) ?_
                      refine Run.pure (dd := some 189) rfl rfl (op_len_fz rfl (by first | exact Opd.tmp _ _ rfl | exact Opd.nil _ _ (Opd.tmp _ _ rfl)) (by first | exact List.length_map _ | rfl)) ?_
                      refine Run.pure (dd := some 190) rfl rfl (op_move rfl (Opd.tmp _ _ rfl)) ?_
                      refine Run.pure (dd := some 191) rfl rfl (op_add rfl (Opd.tmp _ _ rfl) (Opd.tmp _ _ rfl) tI) ?_
                      refine Run.pure (dd := some 192) rfl rfl (op_move rfl (Opd.tmp _ _ rfl)) ?_
                      refine Run.pure (dd := some 193) rfl rfl (op_build rfl rfl rfl (FillF.cons _ _ _ _ _ _ _ _ _ _ (by rfl) (Opd.tmp _ _ rfl) tC (by rfl) tR (FillF.cons _ _ _ _ _ _ _ _ _ _ (by rfl) (Opd.tmp _ _ rfl) tC (by rfl) tR (FillF.nil _)))) ?_
                      refine Run.pure (dd := some 194) rfl rfl (op_buildSlice_fz rfl (RowsF.cons _ _ _ _ _ _ (Opd.tmp _ _ rfl) tC (by rfl) (RowsF.nil _)) rfl rfl) ?_
                      refine Run.eff (dd := some 195) rfl rfl (op_append rfl (Opd.tmp _ _ rfl) (Opd.tmp _ _ rfl) rfl (by simp) rfl rfl tB tB) ?_
                      refine Run.pure (dd := some 9) rfl rfl (op_assign rfl (Opd.tmp _ _ rfl)) ?_
                      refine Run.nil (FinR.mk ?_)
                      refine nK ?_
                      refine s_reg rfl ?_
                      refine Run.pure (dd := some 148) rfl rfl (op_move rfl (Opd.tmp _ _ rfl)) ?_
                      refine Run.pure (dd := some 149) rfl rfl (op_add rfl (Opd.tmp _ _ rfl) (Opd.const _) tI) ?_
                      refine Run.pure (dd := some 16) rfl rfl (op_assign rfl (Opd.tmp _ _ rfl)) ?_
                      refine Run.nil (FinR.mk ?_)
                      refine nK ?_
                      refine Next.weak [0, 1, 4] [] (by rfl) (keeps0 hC _) (by repeat (first | exact trivial | refine ⟨⟨_, rfl, .inl ⟨rfl, rfl⟩⟩, ?_⟩ | refine ⟨⟨_, rfl, .inl ⟨slEq rfl tN, rfl⟩⟩, ?_⟩ | refine ⟨⟨_, rfl, .inl ⟨ivEq tX, rfl⟩⟩, ?_⟩)) (by exact ⟨ent_same rfl rfl rfl tL, ⟨ent_same rfl rfl rfl tL, ⟨ent_same rfl rfl rfl tL, trivial⟩⟩⟩) (fun _ h => by simp at h) (hK7)
                    · have hb' : ((cheapF 2 m.h.id l).2 && m.att.contains l.h.rt) = false := hb
                      rw [ifF hb', List.append_nil] at hU
                      refine nK ?_
                      refine s_reg rfl ?_
                      refine Run.pure (dd := some 148) rfl rfl (op_move rfl (Opd.tmp _ _ rfl)) ?_
                      refine Run.pure (dd := some 149) rfl rfl (op_add rfl (Opd.tmp _ _ rfl) (Opd.const _) tI) ?_
                      refine Run.pure (dd := some 16) rfl rfl (op_assign rfl (Opd.tmp _ _ rfl)) ?_
                      refine Run.nil (FinR.mk ?_)
                      refine nK ?_
                      refine Next.weak [0, 1, 2] [] (by rfl) (keeps0 hC _) (by repeat (first | exact trivial | refine ⟨⟨_, rfl, .inl ⟨rfl, rfl⟩⟩, ?_⟩ | refine ⟨⟨_, rfl, .inl ⟨slEq rfl tN, rfl⟩⟩, ?_⟩ | refine ⟨⟨_, rfl, .inl ⟨ivEq tX, rfl⟩⟩, ?_⟩)) (by exact ⟨ent_same rfl rfl rfl tL, ⟨ent_same rfl rfl rfl tL, ⟨ent_same rfl rfl rfl tL, trivial⟩⟩⟩) (fun _ h => by simp at h) (hK6 ed (by omega) hU)
                  · have hie3 : k = ns.length := by simp at hb; omega
                    rw [hie3, List.drop_length] at hU
                    simp only [refN, List.append_nil] at hU
                    subst hU
                    rw [hie3] at hcl3
                    refine nK ?_
                    refine s_reg rfl ?_
                    refine Run.pure (dd := some 94) rfl rfl (op_move rfl (Opd.tmp _ _ rfl)) ?_
                    refine Run.pure (dd := some 95) rfl rfl (op_add rfl (Opd.tmp _ _ rfl) (Opd.const _) tI) ?_
                    refine Run.pure (dd := some 10) rfl rfl (op_assign rfl (Opd.tmp _ _ rfl)) ?_
                    refine Run.nil (FinR.mk ?_)
                    refine nK ?_
                    refine Next.weak [0, 1, 2] [] (by rfl) (keeps0 hC _) (by repeat (first | exact trivial | refine ⟨⟨_, rfl, .inl ⟨rfl, rfl⟩⟩, ?_⟩ | refine ⟨⟨_, rfl, .inl ⟨slEq rfl tN, rfl⟩⟩, ?_⟩ | refine ⟨⟨_, rfl, .inl ⟨ivEq tX, rfl⟩⟩, ?_⟩)) (by exact ⟨ent_same rfl rfl rfl tL, ⟨ent_same rfl rfl rfl tL, ⟨ent_same rfl rfl rfl tL, trivial⟩⟩⟩) (fun _ h => by simp at h) (hK1 ed (by omega) hS)
          · have hie1 : i = rs.length := by simp at hb; omega
            rw [hie1, List.drop_length] at hS
            simp only [refA, List.append_nil] at hS
            subst hS
            rw [hie1] at hel
            clear hK
            have hokE : okEs es := by rw [← hE]; exact refA_ok (by omega) (by omega) rs 0 (by omega) (fun x hx => (hro x hx).1)
            have hof := rof_c (rs.length : Int) (ns.length : Int) es (by simp only [inr]; omega) (by simp only [inr]; omega) hokE (by omega)
            refine nK ?_
            refine Next.weak [0, 1] [2] (by rfl) (keeps0 hC _) (G' := [(2, .ptr 0 5 0 0), (4, .fz (VA rs)), (5, .fz (VA ns)), (6, .ptr 1 5 0 0), (9, .fz (VE es))]) (H' := [(0, OR zeroR), (1, OR ⟨zeroG, rs.map fun l => l.h.rt, ns.map netOf⟩)]) (by repeat (first | exact trivial | refine ⟨⟨_, rfl, .inl ⟨rfl, rfl⟩⟩, ?_⟩ | refine ⟨⟨_, rfl, .inl ⟨slEq rfl tN, rfl⟩⟩, ?_⟩ | refine ⟨⟨_, rfl, .inl ⟨ivEq tX, rfl⟩⟩, ?_⟩ | refine ⟨⟨_, rfl, .inr ⟨_, rfl, tW⟩⟩, ?_⟩)) (by exact ⟨ent_same rfl rfl rfl tL, ⟨ent_same rfl rfl rfl tL, trivial⟩⟩) (fun id h => by
              have h' : id = 2 := by simpa using h
              subst h'; exact ⟨_, rfl⟩) ?_
            refine nK ?_
            refine s_reg rfl ?_
            refine Run.pure (dd := some 197) rfl rfl (op_move rfl (Opd.tmp _ _ rfl)) ?_
            refine Run.pure (dd := some 198) rfl rfl (op_len_fz rfl (by first | exact Opd.tmp _ _ rfl | exact Opd.nil _ _ (Opd.tmp _ _ rfl)) (by first | exact List.length_map _ | rfl)) ?_
            refine Run.pure (dd := some 199) rfl rfl (op_move rfl (Opd.tmp _ _ rfl)) ?_
            refine Run.pure (dd := some 200) rfl rfl (op_len_fz rfl (by first | exact Opd.tmp _ _ rfl | exact Opd.nil _ _ (Opd.tmp _ _ rfl)) (by first | exact List.length_map _ | rfl)) ?_
            refine Run.pure (dd := some 201) rfl rfl (op_move rfl (Opd.tmp _ _ rfl)) ?_
            refine Run.pure (dd := some 202) rfl rfl (op_call_pure (fun _ => hof) rfl (Opd.func _) (Opds.cons _ _ _ _ (Opd.tmp _ _ rfl) (Opds.cons _ _ _ _ (Opd.tmp _ _ rfl) (Opds.cons _ _ _ _ (Opd.tmp _ _ rfl) Opds.nil)))) ?_
            refine Run.pure (dd := some 196) rfl rfl (op_move rfl (Opd.tmp _ _ rfl)) ?_
            refine Run.pure (dd := some 203) rfl rfl (op_extract_fz rfl (Opd.tmp _ _ rfl) rfl) ?_
            refine Run.pure (dd := some 204) rfl rfl (op_extract_fz rfl (Opd.tmp _ _ rfl) rfl) ?_
            refine Run.eff (dd := some 19) rfl rfl (op_alloc rfl rfl rfl rfl) ?_
            refine Run.eff (dd := none) rfl rfl (op_store_flat rfl (Opd.tmp _ _ rfl) (Opd.tmp _ _ rfl) tC rfl rfl (by first | rfl | assumption) tS) ?_
            refine Run.pure (dd := some 20) rfl rfl (op_assign rfl (Opd.tmp _ _ rfl)) ?_
            refine Run.nil (FinR.mk ?_)
            refine nK ?_
            refine s_reg rfl ?_
            refine Run.pure (dd := some 205) rfl rfl (op_move rfl (Opd.tmp _ _ rfl)) ?_
            refine Run.pure (dd := some 206) rfl rfl (op_neq rfl (Opd.tmp _ _ rfl) (Opd.const _)) ?_
            refine Run.nil (FinR.mk ?_)
            refine nK ?_
            refine n_cond _ rfl (fun hb => ?_) (fun hb => ?_)
            · rw [if_pos (by simpa using hb)]
              refine nK ?_
              refine s_reg rfl ?_
              refine Run.pure (dd := some 207) rfl rfl (op_build rfl rfl rfl (FillF.nil _)) ?_
              refine Run.pure (dd := some 208) rfl rfl (op_move rfl (Opd.tmp _ _ rfl)) ?_
              refine Run.eff (dd := none) rfl rfl (op_store_flat rfl (Opd.tmp _ _ rfl) (Opd.tmp _ _ rfl) tC rfl rfl (by first | rfl | assumption) tS) ?_
              refine Run.pure (dd := some 3) rfl rfl (op_assign rfl (Opd.tmp _ _ rfl)) ?_
              refine Run.nil (FinR.mk ?_)
              refine nK ?_
              refine Next.weak [0] [] (by rfl) (keeps0 hC _) (G' := [(2, .ptr 0 5 0 0), (3, IV .i64 (ofF (rs.length : Int) (ns.length : Int) es).2)]) (H' := [(0, OR zeroR)]) (by repeat (first | exact trivial | refine ⟨⟨_, rfl, .inl ⟨rfl, rfl⟩⟩, ?_⟩ | refine ⟨⟨_, rfl, .inl ⟨slEq rfl tN, rfl⟩⟩, ?_⟩ | refine ⟨⟨_, rfl, .inl ⟨ivEq tX, rfl⟩⟩, ?_⟩)) (by exact ⟨⟨rfl, rfl, .fflat _ _ _ rfl tW⟩, trivial⟩) (fun _ h => by simp at h) ?_
              (first | exact s_o1 hC rfl tV | exact s_o2 hC rfl tV tV | exact s_o3 hC rfl tV tV tV | exact s_o4 hC rfl tV tV tV tV | exact s_out0 hC rfl | exact s_outO hC rfl rfl rfl)
            · rw [if_neg (by simpa using hb)]
              refine nK ?_
              refine s_reg rfl ?_
              refine Run.load (dd := some 209) rfl rfl (op_loadw_flat rfl (Opd.tmp _ _ rfl) tH rfl) ?_
              refine Run.pure (dd := some 210) rfl rfl (op_fld_ptr (by decide) rfl (Opd.tmp _ _ rfl)) ?_
              refine Run.eff (dd := none) rfl rfl (op_store_flat rfl (Opd.tmp _ _ rfl) (Opd.tmp _ _ rfl) tC rfl rfl (by first | rfl | assumption) tS) ?_
              refine Run.nil (FinR.mk ?_)
              refine nK ?_
              refine s_reg rfl ?_
              refine Run.load (dd := some 211) rfl rfl (op_loadw_flat rfl (Opd.tmp _ _ rfl) tH rfl) ?_
              refine Run.eff (dd := none) rfl rfl (op_store_flat rfl (Opd.tmp _ _ rfl) (Opd.tmp _ _ rfl) tC rfl rfl (by first | rfl | assumption) tS) ?_
              refine Run.pure (dd := some 3) rfl rfl (op_assign rfl (Opd.const _)) ?_
              refine Run.nil (FinR.mk ?_)
              refine nK ?_
              (first | exact s_o1 hC rfl tV | exact s_o2 hC rfl tV tV | exact s_o3 hC rfl tV tV tV | exact s_o4 hC rfl tV tV tV tV | exact s_out0 hC rfl | exact s_outO hC rfl rfl rfl)
end Go.Proofs.Ytdhkioocjgpocaa
/- Two lists of edges with the same cheapest ones give the same graph. No program in sight. -/
namespace Go.Pl
open Go Go.RT
set_option linter.all false
theorem ofL_eq {a b : List Edg} (h1 : ∀ e ∈ b, e ∈ a) (h2 : ∀ e ∈ a, ∃ e' ∈ b, e'.f = e.f ∧ e'.t = e.t ∧ e'.c ≤ e.c) : ofL a = ofL b := by
  have hb := ofL_least b
  refine (ofL_least a).uniq ⟨hb.asc, fun e he => h1 e (hb.sub e he), fun e he e' he' k1 k2 => ?_, fun e' he' => ?_⟩
  · obtain ⟨q, hq, q1, q2, q3⟩ := h2 e' he'
    have := hb.min e he q hq (q1.trans k1) (q2.trans k2)
    omega
  · obtain ⟨q, hq, q1, q2, _⟩ := h2 e' he'
    obtain ⟨e, he, e1, e2⟩ := hb.all q hq
    exact ⟨e, he, e1.trans q1, e2.trans q2⟩
open Go.RT
/-- the nodes of routers whose identities are apart -/
theorem nodes_get : ∀ (l : List Lsa) (i : Nat) (m : List (Int × Int)), (l.Pairwise fun a b => a.h.rt ≠ b.h.rt) → ∀ id, mget (nodesGo i l m) id = match l.findIdx? (fun x => decide (x.h.rt = id)) with | some j => some ((i + j : Nat) : Int) | none => mget m id
  | [], i, m, _, id => rfl
  | x :: l, i, m, h, id => by
    obtain ⟨h1, h2⟩ := List.pairwise_cons.1 h
    simp only [nodesGo]
    rw [nodes_get l (i + 1) _ h2 id, mget_mput, List.findIdx?_cons]
    by_cases hx : x.h.rt = id
    · have : l.findIdx? (fun y => decide (y.h.rt = id)) = none := List.findIdx?_eq_none_iff.2 fun y hy => by
        have := h1 y hy; rw [hx] at this; simpa using Ne.symm this
      rw [this]; simp [hx]
    · simp only [hx, decide_false, Bool.false_eq_true, if_false]
      cases l.findIdx? (fun y => decide (y.h.rt = id)) with
      | none => rfl
      | some j => simp; omega
open Go.RT
theorem tow_get : ∀ (l : List Lsa) (m : List (Int × List (Int × Bool))), (l.Pairwise fun a b => a.h.rt ≠ b.h.rt) → ∀ id, mget (towGo l m) id = match l.find? (fun x => decide (x.h.rt = id)) with | some x => some (ptsM x.ls) | none => mget m id
  | [], m, _, id => rfl
  | x :: l, m, h, id => by
    obtain ⟨h1, h2⟩ := List.pairwise_cons.1 h
    simp only [towGo]
    rw [tow_get l _ h2 id, mget_mput, List.find?_cons]
    by_cases hx : x.h.rt = id
    · have : l.find? (fun y => decide (y.h.rt = id)) = none := List.find?_eq_none.2 fun y hy => by
        have := h1 y hy; rw [hx] at this; simpa using Ne.symm this
      rw [this]; simp [hx]
    · simp only [hx, decide_false, if_false]
theorem pts_get : ∀ (l : List Lnk) (m : List (Int × Bool)) (id : Int), (mget (ptsGo l m) id).getD false = (decide (∃ x ∈ l, x.k = 1 ∧ x.id = id) || (mget m id).getD false)
  | [], m, id => by simp [ptsGo]
  | x :: l, m, id => by
    simp only [ptsGo]
    rw [pts_get l _ id]
    by_cases hk : x.k = 1
    · simp only [hk, decide_true, if_true]
      rw [mget_mput]
      by_cases hi : x.id = id
      · simp [hk, hi]
      · simp [hk, hi]
    · simp [hk]
end Go.Pl
/- The cheapest link of a kind to an identity. No program in sight. -/
namespace Go.Pl
open Go Go.RT
set_option linter.all false
theorem cheapGo_spec (k id : Int) : ∀ (l : List Lnk) (p : Int × Bool),
    ((cheapGo k id l p).2 = true ↔ p.2 = true ∨ ∃ x ∈ l, x.k = k ∧ x.id = id) ∧
    ((cheapGo k id l p).2 = true → (p.2 = true ∧ (cheapGo k id l p).1 = p.1 ∨ ∃ x ∈ l, x.k = k ∧ x.id = id ∧ (cheapGo k id l p).1 = x.c) ∧ (p.2 = true → (cheapGo k id l p).1 ≤ p.1) ∧ ∀ x ∈ l, x.k = k → x.id = id → (cheapGo k id l p).1 ≤ x.c)
  | [], p => by
    refine ⟨by simp [cheapGo], fun h => ⟨.inl ⟨h, rfl⟩, fun _ => Int.le_refl _, fun x hx => by simp at hx⟩⟩
  | x :: l, p => by
    simp only [cheapGo]
    by_cases c : ((decide (x.k = k) && decide (x.id = id)) && (!p.2 || decide (x.c < p.1))) = true
    · rw [if_pos c]
      obtain ⟨h1, h2⟩ := cheapGo_spec k id l (x.c, true)
      have hx : x.k = k ∧ x.id = id := by simp at c; exact c.1
      have ht : (cheapGo k id l (x.c, true)).2 = true := h1.2 (.inl rfl)
      obtain ⟨a1, a2, a3⟩ := h2 ht
      refine ⟨⟨fun _ => .inr ⟨x, List.mem_cons_self .., hx⟩, fun _ => ht⟩, fun _ => ⟨?_, fun hp => ?_, fun y hy hk hi => ?_⟩⟩
      · rcases a1 with ⟨_, e⟩ | ⟨y, hy, e⟩
        · exact .inr ⟨x, List.mem_cons_self .., hx.1, hx.2, e⟩
        · exact .inr ⟨y, List.mem_cons_of_mem _ hy, e⟩
      · have : x.c < p.1 := by simp [hp] at c; exact c.2
        have := a2 rfl
        simp only at this; omega
      · rcases List.mem_cons.1 hy with rfl | hy
        · exact a2 rfl
        · exact a3 y hy hk hi
    · rw [if_neg c]
      obtain ⟨h1, h2⟩ := cheapGo_spec k id l p
      refine ⟨⟨fun h => (h1.1 h).imp (fun h => h) fun ⟨y, hy, e⟩ => ⟨y, List.mem_cons_of_mem _ hy, e⟩, fun h => ?_⟩, fun ht => ?_⟩
      · rcases h with h | ⟨y, hy, e⟩
        · exact h1.2 (.inl h)
        · rcases List.mem_cons.1 hy with rfl | hy
          · refine h1.2 (.inl ?_)
            simp [e.1, e.2] at c; exact c.1
          · exact h1.2 (.inr ⟨y, hy, e⟩)
      · obtain ⟨a1, a2, a3⟩ := h2 ht
        refine ⟨a1.imp (fun h => h) fun ⟨y, hy, e⟩ => ⟨y, List.mem_cons_of_mem _ hy, e⟩, a2, fun y hy hk hi => ?_⟩
        rcases List.mem_cons.1 hy with rfl | hy
        · simp [hk, hi] at c
          have := a2 c.1
          omega
        · exact a3 y hy hk hi
theorem cheap_has {k id : Int} {l : Lsa} : (cheapF k id l).2 = true ↔ ∃ x ∈ l.ls, x.k = k ∧ x.id = id := by
  have := (cheapGo_spec k id l.ls (0, false)).1
  simpa [cheapF] using this
theorem cheap_at {k id : Int} {l : Lsa} (h : (cheapF k id l).2 = true) : ∃ x ∈ l.ls, x.k = k ∧ x.id = id ∧ (cheapF k id l).1 = x.c := by
  have := ((cheapGo_spec k id l.ls (0, false)).2 h).1
  simpa [cheapF] using this
theorem cheap_le {k id : Int} {l : Lsa} {x : Lnk} (hx : x ∈ l.ls) (hk : x.k = k) (hi : x.id = id) : (cheapF k id l).2 = true ∧ (cheapF k id l).1 ≤ x.c := by
  have h : (cheapF k id l).2 = true := cheap_has.2 ⟨x, hx, hk, hi⟩
  exact ⟨h, ((cheapGo_spec k id l.ls (0, false)).2 h).2.2 x hx hk hi⟩
end Go.Pl
/- The reference's edges and the program's have the same cheapest ones. No program in sight. -/
namespace Go.Pl
open Go Go.RT
set_option linter.all false
abbrev apartA (l : List Lsa) : Prop := l.Pairwise fun a b => a.h.rt ≠ b.h.rt
theorem apart_idx {l : List Lsa} (h : apartA l) {i j : Nat} (hi : i < l.length) (hj : j < l.length) (e : l[i].h.rt = l[j].h.rt) : i = j := by
  rcases Nat.lt_trichotomy i j with c | c | c
  · exact absurd e (List.pairwise_iff_getElem.1 h i j hi hj c)
  · exact c
  · exact absurd e.symm (List.pairwise_iff_getElem.1 h j i hj hi c)
theorem mem_refP {i : Nat} {l : Lsa} {e : Edg} : ∀ (t : List Lsa) (k : Nat), e ∈ refP i l k t ↔ ∃ j, ∃ h : j < t.length, (cheapF 1 t[j].h.rt l).2 = true ∧ (cheapF 1 l.h.rt t[j]).2 = true ∧ i ≠ k + j ∧ e = ⟨i, ((k + j : Nat) : Int), (cheapF 1 t[j].h.rt l).1⟩
  | [], k => by simp [refP]
  | m :: t, k => by
    simp only [refP, List.mem_append]
    rw [mem_refP t (k + 1)]
    constructor
    · rintro (h | ⟨j, hj, h1, h2, h3, h4⟩)
      · by_cases c : (((cheapF 1 m.h.rt l).2 && (cheapF 1 l.h.rt m).2) && decide ((i : Int) ≠ (k : Int))) = true
        · rw [if_pos c] at h
          simp only [Bool.and_eq_true, decide_eq_true_eq] at c
          refine ⟨0, by simp, c.1.1, c.1.2, ?_, ?_⟩
          · have := c.2; omega
          · simpa using h
        · rw [if_neg c] at h; simp at h
      · refine ⟨j + 1, by simpa using hj, h1, h2, by omega, ?_⟩
        rw [h4]; simp; omega
    · rintro ⟨j, hj, h1, h2, h3, h4⟩
      cases j with
      | zero =>
        left
        have c : (((cheapF 1 m.h.rt l).2 && (cheapF 1 l.h.rt m).2) && decide ((i : Int) ≠ (k : Int))) = true := by
          have a1 : (cheapF 1 m.h.rt l).2 = true := h1
          have a2 : (cheapF 1 l.h.rt m).2 = true := h2
          rw [a1, a2]; simp; omega
        rw [if_pos c]; simpa using h4
      | succ j =>
        right
        refine ⟨j, by simpa using hj, h1, h2, by omega, ?_⟩
        rw [h4]; simp; omega
theorem mem_refN {R i : Nat} {l : Lsa} {e : Edg} : ∀ (t : List Lsa) (k : Nat), e ∈ refN R i l k t ↔ ∃ j, ∃ h : j < t.length, (cheapF 2 t[j].h.id l).2 = true ∧ t[j].att.contains l.h.rt = true ∧ (e = ⟨i, ((R + (k + j) : Nat) : Int), (cheapF 2 t[j].h.id l).1⟩ ∨ e = ⟨((R + (k + j) : Nat) : Int), i, 0⟩)
  | [], k => by simp [refN]
  | m :: t, k => by
    simp only [refN, List.mem_append]
    rw [mem_refN t (k + 1)]
    constructor
    · rintro (h | ⟨j, hj, h1, h2, h4⟩)
      · by_cases c : ((cheapF 2 m.h.id l).2 && m.att.contains l.h.rt) = true
        · rw [if_pos c] at h
          rw [Bool.and_eq_true] at c
          refine ⟨0, by simp, c.1, c.2, ?_⟩
          simpa using h
        · rw [if_neg c] at h; simp at h
      · refine ⟨j + 1, by simpa using hj, h1, h2, ?_⟩
        rw [show k + (j + 1) = k + 1 + j by omega]; exact h4
    · rintro ⟨j, hj, h1, h2, h4⟩
      cases j with
      | zero =>
        left
        have c : ((cheapF 2 m.h.id l).2 && m.att.contains l.h.rt) = true := by
          rw [Bool.and_eq_true]; exact ⟨h1, h2⟩
        rw [if_pos c]; simpa using h4
      | succ j =>
        right
        refine ⟨j, by simpa using hj, h1, h2, ?_⟩
        rw [show k + 1 + j = k + (j + 1) by omega]; exact h4
theorem mem_refA {rs ns : List Lsa} {e : Edg} : ∀ (t : List Lsa) (k : Nat), e ∈ refA rs ns k t ↔ ∃ i, ∃ h : i < t.length, e ∈ refP (k + i) t[i] 0 rs ∨ e ∈ refN rs.length (k + i) t[i] 0 ns
  | [], k => by simp [refA]
  | m :: t, k => by
    simp only [refA, List.mem_append]
    rw [mem_refA t (k + 1)]
    constructor
    · rintro (h | ⟨i, hi, h⟩)
      · exact ⟨0, by simp, h⟩
      · exact ⟨i + 1, by simpa using hi, by rw [show k + (i + 1) = k + 1 + i by omega]; exact h⟩
    · rintro ⟨i, hi, h⟩
      cases i with
      | zero => exact .inl h
      | succ i => exact .inr ⟨i, by simpa using hi, by rw [show k + 1 + i = k + (i + 1) by omega]; exact h⟩
theorem mem_netE {R i : Nat} {rt : Int} {x : Lnk} {e : Edg} : ∀ (t : List Lsa) (k : Nat), e ∈ netE R i rt x k t ↔ ∃ j, ∃ h : j < t.length, t[j].h.id = x.id ∧ t[j].att.contains rt = true ∧ (e = ⟨i, ((R + (k + j) : Nat) : Int), x.c⟩ ∨ e = ⟨((R + (k + j) : Nat) : Int), i, 0⟩)
  | [], k => by simp [netE]
  | m :: t, k => by
    simp only [netE, List.mem_append]
    rw [mem_netE t (k + 1)]
    constructor
    · rintro (h | ⟨j, hj, h1, h2, h4⟩)
      · by_cases c : (decide (m.h.id = x.id) && m.att.contains rt) = true
        · rw [if_pos c] at h
          rw [Bool.and_eq_true, decide_eq_true_eq] at c
          refine ⟨0, by simp, c.1, c.2, ?_⟩
          simpa using h
        · rw [if_neg c] at h; simp at h
      · refine ⟨j + 1, by simpa using hj, h1, h2, ?_⟩
        rw [show k + (j + 1) = k + 1 + j by omega]; exact h4
    · rintro ⟨j, hj, h1, h2, h4⟩
      cases j with
      | zero =>
        left
        have c : (decide (m.h.id = x.id) && m.att.contains rt) = true := by
          rw [Bool.and_eq_true, decide_eq_true_eq]; exact ⟨h1, h2⟩
        rw [if_pos c]; simpa using h4
      | succ j =>
        right
        refine ⟨j, by simpa using hj, h1, h2, ?_⟩
        rw [show k + 1 + j = k + (j + 1) by omega]; exact h4
theorem mem_rowE {nm : List (Int × Int)} {tm : List (Int × List (Int × Bool))} {R : Nat} {ns : List Lsa} {e : Edg} : ∀ (t : List Lsa) (k : Nat), e ∈ rowE nm tm R ns k t ↔ ∃ i, ∃ h : i < t.length, ∃ x ∈ t[i].ls, e ∈ lnkE nm tm R ns (k + i) t[i].h.rt x
  | [], k => by simp [rowE]
  | m :: t, k => by
    simp only [rowE, List.mem_append, List.mem_flatMap]
    rw [mem_rowE t (k + 1)]
    constructor
    · rintro (⟨x, hx, h⟩ | ⟨i, hi, x, hx, h⟩)
      · exact ⟨0, by simp, x, hx, h⟩
      · exact ⟨i + 1, by simpa using hi, x, hx, by rw [show k + (i + 1) = k + 1 + i by omega]; exact h⟩
    · rintro ⟨i, hi, x, hx, h⟩
      cases i with
      | zero => exact .inl ⟨x, hx, h⟩
      | succ i => exact .inr ⟨i, by simpa using hi, x, hx, by rw [show k + 1 + i = k + (i + 1) by omega]; exact h⟩
theorem node_at {rs : List Lsa} (h : apartA rs) {id : Int} {j : Nat} (hj : j < rs.length) (e : rs[j].h.rt = id) : mget (nodesGo 0 rs []) id = some (j : Int) ∧ mget (towGo rs []) id = some (ptsM rs[j].ls) := by
  have hf : ∀ x ∈ rs, x.h.rt = id → x = rs[j] := fun x hx hxe => by
    obtain ⟨k, hk, rfl⟩ := List.mem_iff_getElem.1 hx
    have := apart_idx h hk hj (hxe.trans e.symm)
    subst this; rfl
  constructor
  · rw [nodes_get rs 0 [] h id]
    cases hc : rs.findIdx? (fun x => decide (x.h.rt = id)) with
    | none => have := List.findIdx?_eq_none_iff.1 hc _ (List.getElem_mem hj); simp [e] at this
    | some k =>
      obtain ⟨hk, h1, _⟩ := List.findIdx?_eq_some_iff_getElem.1 hc
      have := apart_idx h hk hj (by rw [e]; simpa using h1)
      subst this; simp
  · rw [tow_get rs [] h id]
    cases hc : rs.find? (fun x => decide (x.h.rt = id)) with
    | none => have := List.find?_eq_none.1 hc _ (List.getElem_mem hj); simp [e] at this
    | some x =>
      rw [hf x (List.mem_of_find?_eq_some hc) (by simpa using List.find?_some hc)]
theorem node_none {rs : List Lsa} (h : apartA rs) {id : Int} (e : ∀ x ∈ rs, x.h.rt ≠ id) : mget (nodesGo 0 rs []) id = none := by
  rw [nodes_get rs 0 [] h id, List.findIdx?_eq_none_iff.2 fun x hx => by simpa using e x hx]; rfl
theorem mem_lnkE {rs ns : List Lsa} (h : apartA rs) {i : Nat} {rt : Int} {x : Lnk} {e : Edg} : e ∈ lnkE (nodesGo 0 rs []) (towGo rs []) rs.length ns i rt x ↔
    (x.k = 1 ∧ ∃ j, ∃ hj : j < rs.length, rs[j].h.rt = x.id ∧ (∃ y ∈ rs[j].ls, y.k = 1 ∧ y.id = rt) ∧ e = ⟨i, (j : Int), x.c⟩) ∨ (x.k = 2 ∧ e ∈ netE rs.length i rt x 0 ns) := by
  unfold lnkE
  by_cases hk1 : x.k = 1
  · have hk2 : ¬ x.k = 2 := by omega
    by_cases hc : ∃ j, ∃ hj : j < rs.length, rs[j].h.rt = x.id
    · obtain ⟨j, hj, hje⟩ := hc
      obtain ⟨e1, e2⟩ := node_at h hj hje
      rw [e1, e2]
      have hp := pts_get rs[j].ls [] rt
      simp only [mget, Option.getD_none, Bool.or_false] at hp
      simp only [Option.getD_some, Option.isSome_some, ptsM, hp, hk1, Int.reduceEq, decide_true, Bool.true_and, decide_false, Bool.false_eq_true, if_false, false_and, or_false, true_and, decide_eq_true_eq]
      constructor
      · intro he
        split at he
        · next c => exact ⟨j, hj, hje, c, by simpa using he⟩
        · simp at he
      · rintro ⟨k, hkl, h1, h2, h3⟩
        have := apart_idx h hkl hj (h1.trans hje.symm)
        subst this
        rw [if_pos h2, h3]; simp
    · have hn : mget (nodesGo 0 rs []) x.id = none := node_none h fun y hy hye => by
        obtain ⟨j, hj, rfl⟩ := List.mem_iff_getElem.1 hy
        exact hc ⟨j, hj, hye⟩
      rw [hn]
      simp only [hk1, Int.reduceEq, Option.isSome_none, decide_true, Bool.and_false, Bool.false_and, Bool.false_eq_true, decide_false, if_false, List.not_mem_nil, true_and, false_and, or_false, false_iff]
      rintro ⟨j, hj, hje, _⟩
      exact hc ⟨j, hj, hje⟩
  · simp only [hk1, decide_false, Bool.false_and, Bool.false_eq_true, if_false, false_and, false_or, decide_eq_true_eq]
    by_cases hk2 : x.k = 2
    · simp [hk2]
    · simp [hk2]
theorem edges_eq {rs ns : List Lsa} (h : apartA rs) (hl : ∀ l ∈ rs, ∀ x ∈ l.ls, x.k = 1 → x.id ≠ l.h.rt) : ofL (edgesG rs ns) = ofL (refA rs ns 0 rs) := by
  refine ofL_eq (fun e he => ?_) fun e he => ?_
  · obtain ⟨i, hi, he⟩ := (mem_refA rs 0).1 he
    refine (mem_rowE rs 0).2 ⟨i, hi, ?_⟩
    simp only [Nat.zero_add] at he ⊢
    rcases he with he | he
    · obtain ⟨j, hj, h1, h2, h3, h4⟩ := (mem_refP rs 0).1 he
      obtain ⟨x, hx, k1, k2, k3⟩ := cheap_at h1
      refine ⟨x, hx, (mem_lnkE h).2 (.inl ⟨k1, j, hj, k2.symm, cheap_has.1 h2, ?_⟩)⟩
      rw [h4, k3]; simp
    · obtain ⟨j, hj, h1, h2, h4⟩ := (mem_refN ns 0).1 he
      obtain ⟨x, hx, k1, k2, k3⟩ := cheap_at h1
      refine ⟨x, hx, (mem_lnkE h).2 (.inr ⟨k1, (mem_netE ns 0).2 ⟨j, hj, k2.symm, h2, ?_⟩⟩)⟩
      rw [k3] at h4; exact h4
  · obtain ⟨i, hi, x, hx, he⟩ := (mem_rowE rs 0).1 he
    simp only [Nat.zero_add] at he
    rcases (mem_lnkE h).1 he with ⟨k1, j, hj, k2, k3, rfl⟩ | ⟨k1, he⟩
    · obtain ⟨c1, c2⟩ := cheap_le (id := rs[j].h.rt) hx k1 k2.symm
      refine ⟨⟨i, (j : Int), (cheapF 1 rs[j].h.rt rs[i]).1⟩, (mem_refA rs 0).2 ⟨i, hi, .inl ((mem_refP rs 0).2 ⟨j, hj, by simpa using c1, by simpa using cheap_has.2 k3, ?_, by simp⟩)⟩, rfl, rfl, c2⟩
      simp only [Nat.zero_add]
      intro hij
      subst hij
      exact hl _ (List.getElem_mem hi) x hx k1 k2.symm
    · obtain ⟨j, hj, h1, h2, h4⟩ := (mem_netE ns 0).1 he
      obtain ⟨c1, c2⟩ := cheap_le (id := ns[j].h.id) hx k1 h1.symm
      rcases h4 with rfl | rfl
      · exact ⟨_, (mem_refA rs 0).2 ⟨i, hi, .inr ((mem_refN ns 0).2 ⟨j, hj, by simpa using c1, by simpa using h2, .inl rfl⟩)⟩, by simp, rfl, by simpa using c2⟩
      · exact ⟨_, (mem_refA rs 0).2 ⟨i, hi, .inr ((mem_refN ns 0).2 ⟨j, hj, by simpa using c1, by simpa using h2, .inr rfl⟩)⟩, by simp, by simp, by simp⟩
end Go.Pl
/- Build is the reference's Build. No program in sight. -/
namespace Go.Pl
open Go Go.RT
set_option linter.all false
def ltN (a b : Lnk) : Prop := lnkI a b < 0
theorem ltN_iff (a b : Lnk) : ltN a b ↔ a.k < b.k ∨ a.k = b.k ∧ (a.id < b.id ∨ a.id = b.id ∧ a.d < b.d) := by
  unfold ltN lnkI
  split
  · rw [cmpI_lt]; omega
  · split
    · rw [cmpI_lt]; omega
    · rw [cmpI_lt]; omega
theorem ltN.trans {a b c : Lnk} (h1 : ltN a b) (h2 : ltN b c) : ltN a c := by
  rw [ltN_iff] at *; omega
theorem links_cons (r : Int) (p : Option Lnk) (x : Lnk) (l : List Lnk) : linksGo r p (x :: l) = if linkE r x ≠ 0 then linkE r x else if badL p x = true then 16 else linksGo r (some x) l := by
  cases p <;> rfl
theorem badL_false {p : Option Lnk} {x : Lnk} : badL p x = false ↔ ∀ q, p = some q → ltN q x := by
  cases p with
  | none => simp [badL]
  | some q => simp [badL, ltN]
theorem links_iff {r : Int} : ∀ (l : List Lnk) (p : Option Lnk), linksGo r p l = 0 ↔ (∀ x ∈ l, linkE r x = 0) ∧ l.Pairwise ltN ∧ ∀ q, p = some q → ∀ x ∈ l, ltN q x
  | [], p => by simp [linksGo]
  | x :: l, p => by
    have ih := links_iff l (some x) (r := r)
    rw [links_cons]
    constructor
    · intro h
      by_cases h1 : linkE r x ≠ 0
      · rw [if_pos h1] at h; exact absurd h h1
      · rw [if_neg h1] at h
        by_cases h2 : badL p x = true
        · rw [if_pos h2] at h; cases h
        · rw [if_neg h2] at h
          obtain ⟨a1, a2, a3⟩ := ih.1 h
          have a4 := a3 x rfl
          have hb := badL_false.1 (by simpa using h2 : badL p x = false)
          refine ⟨fun y hy => ?_, List.pairwise_cons.2 ⟨a4, a2⟩, fun q hq y hy => ?_⟩
          · rcases List.mem_cons.1 hy with rfl | hy
            · simpa using h1
            · exact a1 y hy
          · rcases List.mem_cons.1 hy with rfl | hy
            · exact hb q hq
            · exact (hb q hq).trans (a4 y hy)
    · rintro ⟨a1, a2, a3⟩
      obtain ⟨b1, b2⟩ := List.pairwise_cons.1 a2
      rw [if_neg (by simp [a1 x (List.mem_cons_self ..)])]
      have hb : badL p x = false := badL_false.2 fun q hq => a3 q hq x (List.mem_cons_self ..)
      rw [if_neg (by simp [hb])]
      exact ih.2 ⟨fun y hy => a1 y (List.mem_cons_of_mem _ hy), b2, fun q hq y hy => by cases hq; exact b1 y hy⟩
theorem links_filter {r : Int} {l : List Lnk} {p : Option Lnk} (f : Lnk → Bool) (h : linksGo r p l = 0) : linksGo r p (l.filter f) = 0 := by
  obtain ⟨h1, h2, h3⟩ := (links_iff l p).1 h
  exact (links_iff _ p).2 ⟨fun x hx => h1 x (List.mem_filter.1 hx).1, h2.filter _, fun q hq x hx => h3 q hq x (List.mem_filter.1 hx).1⟩
theorem linkE_self {r : Int} {x : Lnk} (h : linkE r x = 0) (hk : x.k = 1) : x.id ≠ r := by
  unfold linkE at h
  by_cases c1 : (!inB x.k 1 3) = true
  · rw [if_pos c1] at h; cases h
  rw [if_neg c1] at h
  by_cases c2 : (!inB x.c 1 65535) = true
  · rw [if_pos c2] at h; cases h
  rw [if_neg c2] at h
  by_cases c3 : (decide (x.k = 1) && (decide (x.id = 0) || decide (x.id = r))) = true
  · rw [if_pos c3] at h; cases h
  simp [hk] at c3
  exact c3.2
theorem linksI_go {l : Lsa} (h : linksI l = 0) : linksGo l.h.rt none l.ls = 0 := by
  unfold linksI at h
  by_cases h1 : 64 < l.ls.length
  · rw [if_pos h1] at h; cases h
  · rw [if_neg h1] at h; exact h
theorem cnt_mem {k : Int} {db : List Lsa} {x : Lsa} (h : x ∈ cntL k db) : x ∈ db ∧ x.h.ty = k ∧ x.h.ag < 3600 := by
  obtain ⟨h1, h2⟩ := List.mem_filter.1 h
  simp only [cntB, Bool.and_eq_true, decide_eq_true_eq] at h2
  exact ⟨h1, h2⟩
theorem DbOk.apart {db : List Lsa} (h : DbOk db) : apartA (cntL 1 db) := by
  have h1 : (cntL 1 db).Pairwise keyLt := h.pw.filter _
  refine h1.imp_of_mem fun {a b} ha hb hab e => ?_
  obtain ⟨a1, a2, _⟩ := cnt_mem ha
  obtain ⟨b1, b2, _⟩ := cnt_mem hb
  exact hab.irr (by rw [h.router a1 a2, h.router b1 b2, e])
theorem DbOk.noself {db : List Lsa} (h : DbOk db) : ∀ l ∈ cntL 1 db, ∀ x ∈ l.ls, x.k = 1 → x.id ≠ l.h.rt := fun l hl x hx hk => by
  obtain ⟨a1, a2, _⟩ := cnt_mem hl
  have := linksI_go ((chkA_parts (h.chk l a1)).2.2.1 a2)
  exact linkE_self (((links_iff _ _).1 this).1 x hx) hk
theorem check_big {r n : Int} {es : List Edg} (hr : 0 ≤ r) (hn : 0 ≤ n) (h : 128 < r + n) : checkI ⟨r, n, es⟩ = 4 := by
  have : sizeI ⟨r, n, es⟩ = 4 := by
    unfold sizeI
    rw [if_neg (by simp only; omega), if_pos (by simp only; omega)]
  unfold checkI
  rw [this]; rfl
theorem build_eq {db : List Lsa} (h : DbOk db) : buildF db = refF db := by
  have he := edges_eq (ns := cntL 2 db) h.apart h.noself
  unfold buildF refF buildG refG
  have hof : ofF ((cntL 1 db).length : Int) ((cntL 2 db).length : Int) (edgesG (cntL 1 db) (cntL 2 db)) = ofF ((cntL 1 db).length : Int) ((cntL 2 db).length : Int) (refA (cntL 1 db) (cntL 2 db) 0 (cntL 1 db)) := by
    unfold ofF; rw [he]
  rw [hof]
  by_cases hb : 128 < (cntL 1 db).length + (cntL 2 db).length
  · rw [if_pos hb]
    have hc : (ofF ((cntL 1 db).length : Int) ((cntL 2 db).length : Int) (refA (cntL 1 db) (cntL 2 db) 0 (cntL 1 db))).2 = 4 := by
      unfold ofF
      rw [check_big (by omega) (by omega) (by omega)]; rfl
    rw [hc]; rfl
  · rw [if_neg hb]
/-- valid graphs, and every edge has one in the other direction -/
theorem both_ok {db : List Lsa} (h : DbOk db) (h0 : (buildF db).2 = 0) : checkI (buildF db).1.g = 0 ∧ ((buildF db).1.rs.length : Int) = (buildF db).1.g.r ∧ ((buildF db).1.ns.length : Int) = (buildF db).1.g.n ∧ ∀ e ∈ (buildF db).1.g.es, ∃ e' ∈ (buildF db).1.g.es, e'.f = e.t ∧ e'.t = e.f := by
  rw [build_eq h] at h0 ⊢
  unfold refF refG at *
  generalize cntL 1 db = rs at *
  generalize cntL 2 db = ns at *
  by_cases hb : 128 < rs.length + ns.length
  · rw [if_pos hb] at h0; cases h0
  rw [if_neg hb] at h0 ⊢
  by_cases hc : (ofF (rs.length : Int) (ns.length : Int) (refA rs ns 0 rs)).2 ≠ 0
  · rw [if_pos hc] at h0; exact absurd h0 hc
  rw [if_neg hc]
  unfold ofF at hc ⊢
  by_cases hk : checkI ⟨rs.length, ns.length, ofL (refA rs ns 0 rs)⟩ ≠ 0
  · rw [if_pos hk] at hc; exact absurd hk hc
  rw [if_neg hk]
  refine ⟨by simpa using hk, by simp, by simp, fun e he => ?_⟩
  have hL := ofL_least (refA rs ns 0 rs)
  obtain ⟨i, hi, hm⟩ := (mem_refA rs 0).1 (hL.sub e he)
  simp only [Nat.zero_add] at hm
  have back : ∃ e' ∈ refA rs ns 0 rs, e'.f = e.t ∧ e'.t = e.f := by
    rcases hm with hm | hm
    · obtain ⟨j, hj, h1, h2, h3, rfl⟩ := (mem_refP rs 0).1 hm
      refine ⟨⟨(j : Int), (i : Int), (cheapF 1 rs[i].h.rt rs[j]).1⟩, (mem_refA rs 0).2 ⟨j, hj, .inl ((mem_refP rs 0).2 ⟨i, hi, h2, h1, by omega, by simp⟩)⟩, by simp, rfl⟩
    · obtain ⟨j, hj, h1, h2, rfl | rfl⟩ := (mem_refN ns 0).1 hm
      · exact ⟨_, (mem_refA rs 0).2 ⟨i, hi, .inr ((mem_refN ns 0).2 ⟨j, hj, by simpa using h1, by simpa using h2, .inr rfl⟩)⟩, rfl, by simp⟩
      · exact ⟨_, (mem_refA rs 0).2 ⟨i, hi, .inr ((mem_refN ns 0).2 ⟨j, hj, by simpa using h1, by simpa using h2, .inl rfl⟩)⟩, by simp, by simp⟩
  obtain ⟨q, hq, q1, q2⟩ := back
  obtain ⟨e', he', k1, k2⟩ := hL.all q hq
  exact ⟨e', he', k1.trans q1, k2.trans q2⟩
theorem cost_has {f t : Int} : ∀ {l : List Edg}, (∃ e ∈ l, e.f = f ∧ e.t = t) → (costL f t l).2 = true
  | [], h => by obtain ⟨e, he, _⟩ := h; simp at he
  | x :: l, h => by
    simp only [costL]
    by_cases c : isB f t x = true
    · rw [if_pos c]
    · rw [if_neg c]
      refine cost_has ?_
      obtain ⟨e, he, h1, h2⟩ := h
      rcases List.mem_cons.1 he with rfl | he
      · simp [isB, h1, h2] at c
      · exact ⟨e, he, h1, h2⟩
end Go.Pl
/- Stub links, summaries and expired advertisements do not affect the graph. No program in sight. -/
namespace Go.Pl
open Go Go.RT
set_option linter.all false
def nosL (l : List Lnk) : List Lnk := l.filter fun x => decide (x.k ≠ 3)
def nosA (l : Lsa) : Lsa := { l with ls := nosL l.ls }
def keptB (l : Lsa) : Bool := !(decide (2 < l.h.ty) || decide (3600 ≤ l.h.ag))
def sealA (l : Lsa) : Lsa := (sealF (nosA l)).1
def restL (db : List Lsa) : List Lsa := (db.filter keptB).map sealA
theorem nos_ok {l : Lsa} (h : chkA l = 0) : chkA (nosA l) = 0 := by
  obtain ⟨h1, h2, h3, h4⟩ := chkA_parts h
  by_cases c : l.h.ty = 1
  · have hu : unusedB (nosA l) = true := by
      rw [← h2]
      unfold unusedB
      have e : decide (l.h.ty ≠ 1) = false := by simp [c]
      show (if (decide (l.h.ty ≠ 1) && (l.bo || l.bd || decide (0 < ((nosL l.ls).length : Int)))) = true then false else _) = _
      rw [e, Bool.false_and, Bool.false_and]
      rfl
    unfold chkA
    have e1 : headI (nosA l).h = 0 := h1
    rw [if_neg (by simp [e1]), if_neg (by simp [hu]), if_pos (show (nosA l).h.ty = 1 from c)]
    have := linksI_go (h3 c)
    unfold linksI
    have hlen := linksI_len (h3 c)
    have hle : (nosA l).ls.length ≤ l.ls.length := List.length_filter_le _ _
    rw [if_neg (by omega)]
    exact links_filter _ this
  · have : l.ls = [] := List.length_eq_zero_iff.1 (unused_ls h2 c)
    have e : nosA l = l := by cases l; simp only at this; subst this; rfl
    rw [e]; exact h
theorem sealA_eq {l : Lsa} (h : chkA l = 0) : sealF (nosA l) = ({ nosA l with h := { l.h with sm := sumA (nosA l) } }, 0) := by
  unfold sealF
  rw [if_neg (by simp [nos_ok h])]; rfl
structure Like (a b : Lsa) : Prop where
  ty : a.h.ty = b.h.ty
  id : a.h.id = b.h.id
  ln : a.h.ln = b.h.ln
  rt : a.h.rt = b.h.rt
  ag : a.h.ag = b.h.ag
  ls : a.ls = nosL b.ls
  att : a.att = b.att
theorem like_of {l : Lsa} (h : chkA l = 0) : Like (sealA l) l := by
  unfold sealA; rw [sealA_eq h]
  exact ⟨rfl, rfl, rfl, rfl, rfl, rfl, rfl⟩
/-- two lists, element by element alike -/
inductive Likes : List Lsa → List Lsa → Prop
  | nil : Likes [] []
  | cons {a b : Lsa} {k l : List Lsa} : Like a b → Likes k l → Likes (a :: k) (b :: l)
theorem Likes.len {k l : List Lsa} (h : Likes k l) : k.length = l.length := by
  induction h with
  | nil => rfl
  | cons _ _ ih => simp [ih]
theorem rest_likes {n : Int} (hn : n = 1 ∨ n = 2) : ∀ {db : List Lsa}, (∀ x ∈ db, chkA x = 0) → Likes (cntL n (restL db)) (cntL n db)
  | [], _ => .nil
  | x :: db, h => by
    have ih := rest_likes hn (db := db) fun y hy => h y (List.mem_cons_of_mem _ hy)
    have hx := like_of (h x (List.mem_cons_self ..))
    unfold restL cntL at ih ⊢
    by_cases c : cntB n x = true
    · have hk : keptB x = true := by
        simp only [cntB, Bool.and_eq_true, decide_eq_true_eq] at c
        simp only [keptB, Bool.not_eq_true', Bool.or_eq_false_iff, decide_eq_false_iff_not]
        omega
      have c2 : cntB n (sealA x) = true := by
        simp only [cntB, hx.ty, hx.ag] at c ⊢; exact c
      rw [List.filter_cons_of_pos hk, List.map_cons, List.filter_cons_of_pos c2, List.filter_cons_of_pos c]
      exact .cons hx ih
    · rw [List.filter_cons_of_neg c]
      by_cases hk : keptB x = true
      · have c2 : ¬ cntB n (sealA x) = true := by
          simp only [cntB, hx.ty, hx.ag] at c ⊢; exact c
        rw [List.filter_cons_of_pos hk, List.map_cons, List.filter_cons_of_neg c2]
        exact ih
      · rw [List.filter_cons_of_neg hk]; exact ih
theorem Likes.nodes {k l : List Lsa} (h : Likes k l) : ∀ i m, nodesGo i k m = nodesGo i l m := by
  induction h with
  | nil => intros; rfl
  | cons h _ ih => intro i m; simp only [nodesGo]; rw [h.rt, ih]
theorem pts_nos : ∀ (l : List Lnk) (m : List (Int × Bool)), ptsGo (nosL l) m = ptsGo l m
  | [], m => rfl
  | x :: l, m => by
    unfold nosL
    by_cases c : x.k = 3
    · rw [List.filter_cons_of_neg (by simp [c])]
      simp only [ptsGo]
      rw [if_neg (by simp [c])]
      exact pts_nos l m
    · rw [List.filter_cons_of_pos (by simp [c])]
      simp only [ptsGo]
      exact pts_nos l _
theorem Likes.tow {k l : List Lsa} (h : Likes k l) : ∀ m, towGo k m = towGo l m := by
  induction h with
  | nil => intros; rfl
  | cons h _ ih => intro m; simp only [towGo, ptsM]; rw [h.rt, h.ls, pts_nos, ih]
theorem Likes.netE {R i : Nat} {rt : Int} {x : Lnk} {k l : List Lsa} (h : Likes k l) : ∀ j, Go.Pl.netE R i rt x j k = Go.Pl.netE R i rt x j l := by
  induction h with
  | nil => intros; rfl
  | cons h _ ih => intro j; simp only [Go.Pl.netE]; rw [h.id, h.att, ih]
theorem flat_nos (f : Lnk → List Edg) (h : ∀ x, x.k = 3 → f x = []) : ∀ l : List Lnk, (nosL l).flatMap f = l.flatMap f
  | [] => rfl
  | x :: l => by
    have ih := flat_nos f h l
    unfold nosL at ih ⊢
    by_cases c : x.k = 3
    · rw [List.filter_cons_of_neg (by simp [c]), List.flatMap_cons, h x c]; simpa using ih
    · rw [List.filter_cons_of_pos (by simp [c]), List.flatMap_cons, List.flatMap_cons, ih]
theorem Likes.row {nm : List (Int × Int)} {tm : List (Int × List (Int × Bool))} {R : Nat} {n n' : List Lsa} (hn : Likes n n') {k l : List Lsa} (h : Likes k l) : ∀ i, rowE nm tm R n i k = rowE nm tm R n' i l := by
  induction h with
  | nil => intros; rfl
  | cons h _ ih =>
    intro i
    simp only [rowE]
    rw [h.ls, h.rt, ih]
    congr 1
    rw [flat_nos _ fun x hx => by simp [lnkE, hx]]
    congr 1
    funext x
    unfold lnkE
    rw [hn.netE]
theorem Likes.rts {k l : List Lsa} (h : Likes k l) : k.map (fun l => l.h.rt) = l.map fun l => l.h.rt := by
  induction h with
  | nil => rfl
  | cons h _ ih => simp only [List.map_cons]; rw [h.rt, ih]
theorem Likes.nets {k l : List Lsa} (h : Likes k l) : k.map netOf = l.map netOf := by
  induction h with
  | nil => rfl
  | cons h _ ih => simp only [List.map_cons, netOf]; rw [h.rt, h.id, h.ln]; congr 1
theorem rest_eq {db : List Lsa} (h : ∀ x ∈ db, chkA x = 0) : buildF (restL db) = buildF db := by
  have h1 := rest_likes (.inl rfl) h
  have h2 := rest_likes (.inr rfl) h
  unfold buildF buildG edgesG
  rw [h1.len, h2.len, h1.nodes, h1.tow, h2.row h1, h1.rts, h2.nets]
theorem rest_take {db : List Lsa} {i : Nat} (h : i < db.length) : restL (db.take (i + 1)) = restL (db.take i) ++ if keptB db[i] = true then [sealA db[i]] else [] := by
  rw [List.take_succ_eq_append_getElem h]
  unfold restL
  rw [List.filter_append, List.map_append]
  by_cases c : keptB db[i] = true
  · rw [if_pos c, List.filter_cons_of_pos c]; rfl
  · rw [if_neg c, List.filter_cons_of_neg c]; rfl
theorem rest_len (db : List Lsa) : (restL db).length ≤ db.length := by
  unfold restL; rw [List.length_map]; exact List.length_filter_le _ _
theorem nos_take {l : List Lnk} {i : Nat} (h : i < l.length) : nosL (l.take (i + 1)) = nosL (l.take i) ++ if decide (l[i].k ≠ 3) = true then [l[i]] else [] := by
  rw [List.take_succ_eq_append_getElem h]
  simp only [nosL, List.filter_append]
  by_cases c : l[i].k = 3 <;> simp [c]
theorem nos_len (l : List Lnk) : (nosL l).length ≤ l.length := List.length_filter_le _ _
end Go.Pl
/- Sizes of the graph of an area. No program in sight. -/
namespace Go.Pl
open Go Go.RT
set_option linter.all false
theorem build_small (db : List Lsa) : (buildF db).1.g.es.length ≤ 1024 ∧ (buildF db).1.rs.length ≤ db.length ∧ (buildF db).1.ns.length ≤ db.length := by
  have h1 := cnt_len 1 db
  have h2 := cnt_len 2 db
  unfold buildF buildG
  generalize cntL 1 db = rs at *
  generalize cntL 2 db = ns at *
  by_cases hc : (ofF (rs.length : Int) (ns.length : Int) (edgesG rs ns)).2 ≠ 0
  · rw [if_pos hc]; simp [zeroR, zeroG]
  rw [if_neg hc]
  unfold ofF at hc ⊢
  by_cases hk : checkI ⟨rs.length, ns.length, ofL (edgesG rs ns)⟩ ≠ 0
  · rw [if_pos hk] at hc; exact absurd hk hc
  rw [if_neg hk]
  exact ⟨(checkI_ok (by simpa using hk)).2.1, by simpa using h1, by simpa using h2⟩
theorem build_ok {db : List Lsa} (hn : db.length ≤ 400) (ho : ∀ x ∈ db, okA x) : okG (buildF db).1.g := by
  have h1 := cnt_len 1 db
  have h2 := cnt_len 2 db
  have hz : okG zeroR.g := ⟨by simp [zeroR, zeroG, inr], by simp [zeroR, zeroG, inr], fun e he => by simp [zeroR, zeroG] at he⟩
  unfold buildF buildG
  have hro : ∀ x ∈ cntL 1 db, okA x := fun x hx => ho x (cnt_mem hx).1
  generalize cntL 1 db = rs at *
  generalize cntL 2 db = ns at *
  by_cases hc : (ofF (rs.length : Int) (ns.length : Int) (edgesG rs ns)).2 ≠ 0
  · rw [if_pos hc]; exact hz
  rw [if_neg hc]
  unfold ofF at hc ⊢
  by_cases hk : checkI ⟨rs.length, ns.length, ofL (edgesG rs ns)⟩ ≠ 0
  · rw [if_pos hk] at hc; exact absurd hk hc
  rw [if_neg hk]
  refine ofL_ok (by simp only [inr]; omega) (by simp only [inr]; omega) ?_
  refine rowE_ok (by omega) (by omega) ?_ rs 0 (by omega) hro
  intro q hq
  have : ∀ (l : List Lsa) (i : Nat) (m : List (Int × Int)), i + l.length ≤ 400 → (∀ q ∈ m, inr .i64 q.2) → ∀ q ∈ nodesGo i l m, inr .i64 q.2 := by
    intro l
    induction l with
    | nil => intro i m _ h; exact h
    | cons x l ih =>
      intro i m hi h
      simp only [List.length_cons] at hi
      refine ih (i + 1) _ (by omega) fun q hq => ?_
      rcases mput_vals _ _ _ _ hq with e | e
      · rw [e]; simp only [inr]; omega
      · exact h q e
  exact this rs 0 [] (by omega) (fun q hq => by simp at hq) q hq
theorem sealA_ok {l : Lsa} (h : chkA l = 0) (ho : okA l) : okA (sealA l) := by
  unfold sealA; rw [sealA_eq h]
  obtain ⟨⟨a1, a2, a3, a4, a5, a6, a7⟩, b, c⟩ := ho
  exact ⟨⟨a1, a2, a3, a4, a5, a6, sumA_ok _⟩, fun x hx => b x (List.mem_filter.1 hx).1, c⟩
theorem nosA_ok {l : Lsa} (ho : okA l) : okA (nosA l) := ⟨ho.1, fun x hx => ho.2.1 x (List.mem_filter.1 hx).1, ho.2.2⟩
theorem rest_mem {db : List Lsa} {x : Lsa} (h : x ∈ restL db) : ∃ l ∈ db, x = sealA l := by
  unfold restL at h
  obtain ⟨l, hl, rfl⟩ := List.mem_map.1 h
  exact ⟨l, (List.mem_filter.1 hl).1, rfl⟩
theorem sealA_len {l : Lsa} (h : chkA l = 0) : (sealA l).ls.length ≤ 64 ∧ (sealA l).att.length ≤ 64 := by
  obtain ⟨h1, h2⟩ := chkA_len h
  unfold sealA; rw [sealA_eq h]
  exact ⟨Nat.le_trans (nos_len _) h1, h2⟩
end Go.Pl
namespace Go.Proofs.Ytdhkioocjgpocaa
open Go Go.RT Go.Proofs Go.Pl
set_option linter.all false
set_option maxRecDepth 20000
theorem chk_sizes {db : List Lsa} (hk : DbOk db) : ∀ x ∈ db, x.ls.length ≤ 64 ∧ x.att.length ≤ 64 := fun x hx => chkA_len (hk.chk x hx)
theorem builds_law (db : List Lsa) (ho : ∀ x ∈ db, okA x) : Pure Try.prog 3 [VA db] (Bf true) := by
  by_cases hd : 400 < db.length ∨ dbI db ≠ 0
  · have hd2 := hd
    refine Meets.intro Try.func3 rfl (Nat.le_of_ble_eq_true rfl) fun C hC => ?_
    simp only [List.map, argEnv, Nat.reduceAdd]
    refine nK ?_
    refine s_reg rfl ?_
    refine Run.pure (dd := some 2) rfl rfl (op_assign rfl (Opd.const _)) ?_
    refine Run.nil (FinR.mk ?_)
    refine nK ?_
    refine s_reg rfl ?_
    refine Run.pure (dd := some 7) rfl rfl (op_move rfl (Opd.tmp _ _ rfl)) ?_
    refine Run.pure (dd := some 8) rfl rfl (op_len_fz rfl (by first | exact Opd.tmp _ _ rfl | exact Opd.nil _ _ (Opd.tmp _ _ rfl)) (by first | exact List.length_map _ | rfl)) ?_
    refine Run.pure (dd := some 9) rfl rfl (op_gtr rfl (Opd.tmp _ _ rfl) (Opd.const _)) ?_
    refine Run.pure (dd := some 10) rfl rfl (op_move rfl (Opd.tmp _ _ rfl)) ?_
    refine Run.pureG (dd := some 11) rfl rfl rfl tG (op_move rfl (Opd.tmp _ _ rfl)) ?_
    refine Run.pureG (dd := some 12) rfl rfl rfl tG (op_call_pure (fun _ => db_c _ (by assumption)) rfl (Opd.func _) (Opds.cons _ _ _ _ (Opd.topt _ _ _ rfl tO) Opds.nil)) ?_
    refine Run.pureG (dd := some 13) rfl rfl rfl tG (op_neq rfl (Opd.topt _ _ _ rfl tO) (Opd.const _)) ?_
    refine Run.pure (dd := some 14) rfl rfl (op_pick_or rfl (Opd.tmp _ _ rfl) (Opd.topt _ _ _ rfl tO)) ?_
    refine Run.nil (FinR.mk ?_)
    refine nK ?_
    refine n_cond _ rfl (fun hb => ?_) (fun hb => ?_)
    · refine nK ?_
      refine s_reg rfl ?_
      refine Run.pure (dd := some 15) rfl rfl (op_call_pure (fun _ => lives_c) rfl (Opd.func _) Opds.nil) ?_
      refine Run.pure (dd := some 2) rfl rfl (op_assign rfl (Opd.tmp _ _ rfl)) ?_
      refine Run.nil (FinR.mk ?_)
      refine nK ?_
      (first | exact s_o1 hC rfl tV | exact s_o2 hC rfl tV tV | exact s_o3 hC rfl tV tV tV | exact s_o4 hC rfl tV tV tV tV | exact s_out0 hC rfl | exact s_outO hC rfl rfl rfl)
    · exfalso; simp at hb; omega
  · have hn : db.length ≤ 400 := by omega
    have hk := dbOk (show dbI db = 0 by omega)
    have k1 := build_c db hn ho (chk_sizes hk)
    have k2 := rbuild_c db hn ho (chk_sizes hk)
    rw [← build_eq hk] at k2
    obtain ⟨s1, s2, s3⟩ := build_small db
    generalize buildF db = b at *
    have k3 := rsame_c b.1 b.1 (by omega) (by omega) (by unfold lenOk; omega) (by unfold lenOk; omega) (by unfold lenOk; omega) (by unfold lenOk; omega)
    refine Meets.intro Try.func3 rfl (Nat.le_of_ble_eq_true rfl) fun C hC => ?_
    simp only [List.map, argEnv, Nat.reduceAdd]
    refine nK ?_
    refine s_reg rfl ?_
    refine Run.pure (dd := some 2) rfl rfl (op_assign rfl (Opd.const _)) ?_
    refine Run.nil (FinR.mk ?_)
    refine nK ?_
    refine s_reg rfl ?_
    refine Run.pure (dd := some 7) rfl rfl (op_move rfl (Opd.tmp _ _ rfl)) ?_
    refine Run.pure (dd := some 8) rfl rfl (op_len_fz rfl (by first | exact Opd.tmp _ _ rfl | exact Opd.nil _ _ (Opd.tmp _ _ rfl)) (by first | exact List.length_map _ | rfl)) ?_
    refine Run.pure (dd := some 9) rfl rfl (op_gtr rfl (Opd.tmp _ _ rfl) (Opd.const _)) ?_
    refine Run.pure (dd := some 10) rfl rfl (op_move rfl (Opd.tmp _ _ rfl)) ?_
    refine Run.pureG (dd := some 11) rfl rfl rfl tG (op_move rfl (Opd.tmp _ _ rfl)) ?_
    refine Run.pureG (dd := some 12) rfl rfl rfl tG (op_call_pure (fun _ => db_c _ (by assumption)) rfl (Opd.func _) (Opds.cons _ _ _ _ (Opd.topt _ _ _ rfl tO) Opds.nil)) ?_
    refine Run.pureG (dd := some 13) rfl rfl rfl tG (op_neq rfl (Opd.topt _ _ _ rfl tO) (Opd.const _)) ?_
    refine Run.pure (dd := some 14) rfl rfl (op_pick_or rfl (Opd.tmp _ _ rfl) (Opd.topt _ _ _ rfl tO)) ?_
    refine Run.nil (FinR.mk ?_)
    refine nK ?_
    refine n_cond _ rfl (fun hb => ?_) (fun hb => ?_)
    · exfalso; simp at hb; omega
    · refine nK ?_
      refine s_reg rfl ?_
      refine Run.pure (dd := some 17) rfl rfl (op_move rfl (Opd.tmp _ _ rfl)) ?_
      refine Run.pure (dd := some 18) rfl rfl (op_call_pure (fun _ => k1) rfl (Opd.func _) (Opds.cons _ _ _ _ (Opd.tmp _ _ rfl) Opds.nil)) ?_
      refine Run.pure (dd := some 16) rfl rfl (op_move rfl (Opd.tmp _ _ rfl)) ?_
      refine Run.pure (dd := some 19) rfl rfl (op_extract_fz rfl (Opd.tmp _ _ rfl) rfl) ?_
      refine Run.pure (dd := some 20) rfl rfl (op_extract_fz rfl (Opd.tmp _ _ rfl) rfl) ?_
      refine Run.eff (dd := some 3) rfl rfl (op_alloc rfl rfl rfl rfl) ?_
      refine Run.eff (dd := none) rfl rfl (op_store_flat rfl (Opd.tmp _ _ rfl) (Opd.tmp _ _ rfl) tC rfl rfl (by first | rfl | assumption) tS) ?_
      refine Run.pure (dd := some 4) rfl rfl (op_assign rfl (Opd.tmp _ _ rfl)) ?_
      refine Run.nil (FinR.mk ?_)
      refine nK ?_
      refine s_reg rfl ?_
      refine Run.pure (dd := some 22) rfl rfl (op_move rfl (Opd.tmp _ _ rfl)) ?_
      refine Run.pure (dd := some 23) rfl rfl (op_call_pure (fun _ => k2) rfl (Opd.func _) (Opds.cons _ _ _ _ (Opd.tmp _ _ rfl) Opds.nil)) ?_
      refine Run.pure (dd := some 21) rfl rfl (op_move rfl (Opd.tmp _ _ rfl)) ?_
      refine Run.pure (dd := some 24) rfl rfl (op_extract_fz rfl (Opd.tmp _ _ rfl) rfl) ?_
      refine Run.pure (dd := some 25) rfl rfl (op_extract_fz rfl (Opd.tmp _ _ rfl) rfl) ?_
      refine Run.eff (dd := some 5) rfl rfl (op_alloc rfl rfl rfl rfl) ?_
      refine Run.eff (dd := none) rfl rfl (op_store_flat rfl (Opd.tmp _ _ rfl) (Opd.tmp _ _ rfl) tC rfl rfl (by first | rfl | assumption) tS) ?_
      refine Run.pure (dd := some 6) rfl rfl (op_assign rfl (Opd.tmp _ _ rfl)) ?_
      refine Run.nil (FinR.mk ?_)
      refine nK ?_
      refine s_reg rfl ?_
      refine Run.pure (dd := some 26) rfl rfl (op_move rfl (Opd.tmp _ _ rfl)) ?_
      refine Run.pure (dd := some 27) rfl rfl (op_move rfl (Opd.tmp _ _ rfl)) ?_
      refine Run.pure (dd := some 28) rfl rfl (op_eql rfl (Opd.tmp _ _ rfl) (Opd.tmp _ _ rfl)) ?_
      refine Run.pure (dd := some 29) rfl rfl (op_move rfl (Opd.tmp _ _ rfl)) ?_
      refine Run.loadG (dd := some 30) rfl rfl rfl tG (op_loadw_flat rfl (Opd.tmp _ _ rfl) tH rfl) ?_
      refine Run.loadG (dd := some 31) rfl rfl rfl tG (op_loadw_flat rfl (Opd.tmp _ _ rfl) tH rfl) ?_
      refine Run.pureG (dd := some 32) rfl rfl rfl tG (op_call_pure (fun _ => k3) rfl (Opd.func _) (Opds.cons _ _ _ _ (Opd.topt _ _ _ rfl tO) (Opds.cons _ _ _ _ (Opd.topt _ _ _ rfl tO) Opds.nil))) ?_
      refine Run.pure (dd := some 33) rfl rfl (op_pick_and rfl (Opd.tmp _ _ rfl) (Opd.topt _ _ _ rfl tO)) ?_
      refine Run.pure (dd := some 34) rfl rfl (op_move rfl (Opd.tmp _ _ rfl)) ?_
      refine Run.pureG (dd := some 35) rfl rfl rfl tG (op_call_pure (fun _ => lives_c) rfl (Opd.func _) Opds.nil) ?_
      refine Run.pure (dd := some 36) rfl rfl (op_pick_and rfl (Opd.tmp _ _ rfl) (Opd.topt _ _ _ rfl tO)) ?_
      refine Run.pure (dd := some 2) rfl rfl (op_assign rfl (Opd.tmp _ _ rfl)) ?_
      refine Run.nil (FinR.mk ?_)
      refine nK ?_
      refine s_oB hC rfl rfl ?_
      simp
theorem both_law (db : List Lsa) (ho : ∀ x ∈ db, okA x) : Pure Try.prog 4 [VA db] (Bf true) := by
  by_cases hd : 400 < db.length ∨ dbI db ≠ 0
  · have hd2 := hd
    refine Meets.intro Try.func4 rfl (Nat.le_of_ble_eq_true rfl) fun C hC => ?_
    simp only [List.map, argEnv, Nat.reduceAdd]
    refine nK ?_
    refine s_reg rfl ?_
    refine Run.pure (dd := some 2) rfl rfl (op_assign rfl (Opd.const _)) ?_
    refine Run.nil (FinR.mk ?_)
    refine nK ?_
    refine s_reg rfl ?_
    refine Run.pure (dd := some 8) rfl rfl (op_move rfl (Opd.tmp _ _ rfl)) ?_
    refine Run.pure (dd := some 9) rfl rfl (op_len_fz rfl (by first | exact Opd.tmp _ _ rfl | exact Opd.nil _ _ (Opd.tmp _ _ rfl)) (by first | exact List.length_map _ | rfl)) ?_
    refine Run.pure (dd := some 10) rfl rfl (op_gtr rfl (Opd.tmp _ _ rfl) (Opd.const _)) ?_
    refine Run.pure (dd := some 11) rfl rfl (op_move rfl (Opd.tmp _ _ rfl)) ?_
    refine Run.pureG (dd := some 12) rfl rfl rfl tG (op_move rfl (Opd.tmp _ _ rfl)) ?_
    refine Run.pureG (dd := some 13) rfl rfl rfl tG (op_call_pure (fun _ => db_c _ (by assumption)) rfl (Opd.func _) (Opds.cons _ _ _ _ (Opd.topt _ _ _ rfl tO) Opds.nil)) ?_
    refine Run.pureG (dd := some 14) rfl rfl rfl tG (op_neq rfl (Opd.topt _ _ _ rfl tO) (Opd.const _)) ?_
    refine Run.pure (dd := some 15) rfl rfl (op_pick_or rfl (Opd.tmp _ _ rfl) (Opd.topt _ _ _ rfl tO)) ?_
    refine Run.nil (FinR.mk ?_)
    refine nK ?_
    refine n_cond _ rfl (fun hb => ?_) (fun hb => ?_)
    · refine nK ?_
      refine s_reg rfl ?_
      refine Run.pure (dd := some 16) rfl rfl (op_call_pure (fun _ => lives_c) rfl (Opd.func _) Opds.nil) ?_
      refine Run.pure (dd := some 2) rfl rfl (op_assign rfl (Opd.tmp _ _ rfl)) ?_
      refine Run.nil (FinR.mk ?_)
      refine nK ?_
      (first | exact s_o1 hC rfl tV | exact s_o2 hC rfl tV tV | exact s_o3 hC rfl tV tV tV | exact s_o4 hC rfl tV tV tV tV | exact s_out0 hC rfl | exact s_outO hC rfl rfl rfl)
    · exfalso; simp at hb; omega
  · have hn : db.length ≤ 400 := by omega
    have hk := dbOk (show dbI db = 0 by omega)
    have k1 := build_c db hn ho (chk_sizes hk)
    have hbo := both_ok hk
    have hog := build_ok hn ho
    obtain ⟨s1, s2, s3⟩ := build_small db
    generalize buildF db = b at *
    have k2 := rcheck_c b.1.g hog
    refine Meets.intro Try.func4 rfl (Nat.le_of_ble_eq_true rfl) fun C hC => ?_
    simp only [List.map, argEnv, Nat.reduceAdd]
    refine nK ?_
    refine s_reg rfl ?_
    refine Run.pure (dd := some 2) rfl rfl (op_assign rfl (Opd.const _)) ?_
    refine Run.nil (FinR.mk ?_)
    refine nK ?_
    refine s_reg rfl ?_
    refine Run.pure (dd := some 8) rfl rfl (op_move rfl (Opd.tmp _ _ rfl)) ?_
    refine Run.pure (dd := some 9) rfl rfl (op_len_fz rfl (by first | exact Opd.tmp _ _ rfl | exact Opd.nil _ _ (Opd.tmp _ _ rfl)) (by first | exact List.length_map _ | rfl)) ?_
    refine Run.pure (dd := some 10) rfl rfl (op_gtr rfl (Opd.tmp _ _ rfl) (Opd.const _)) ?_
    refine Run.pure (dd := some 11) rfl rfl (op_move rfl (Opd.tmp _ _ rfl)) ?_
    refine Run.pureG (dd := some 12) rfl rfl rfl tG (op_move rfl (Opd.tmp _ _ rfl)) ?_
    refine Run.pureG (dd := some 13) rfl rfl rfl tG (op_call_pure (fun _ => db_c _ (by assumption)) rfl (Opd.func _) (Opds.cons _ _ _ _ (Opd.topt _ _ _ rfl tO) Opds.nil)) ?_
    refine Run.pureG (dd := some 14) rfl rfl rfl tG (op_neq rfl (Opd.topt _ _ _ rfl tO) (Opd.const _)) ?_
    refine Run.pure (dd := some 15) rfl rfl (op_pick_or rfl (Opd.tmp _ _ rfl) (Opd.topt _ _ _ rfl tO)) ?_
    refine Run.nil (FinR.mk ?_)
    refine nK ?_
    refine n_cond _ rfl (fun hb => ?_) (fun hb => ?_)
    · exfalso; simp at hb; omega
    · refine nK ?_
      refine s_reg rfl ?_
      refine Run.pure (dd := some 18) rfl rfl (op_move rfl (Opd.tmp _ _ rfl)) ?_
      refine Run.pure (dd := some 19) rfl rfl (op_call_pure (fun _ => k1) rfl (Opd.func _) (Opds.cons _ _ _ _ (Opd.tmp _ _ rfl) Opds.nil)) ?_
      refine Run.pure (dd := some 17) rfl rfl (op_move rfl (Opd.tmp _ _ rfl)) ?_
      refine Run.pure (dd := some 20) rfl rfl (op_extract_fz rfl (Opd.tmp _ _ rfl) rfl) ?_
      refine Run.pure (dd := some 21) rfl rfl (op_extract_fz rfl (Opd.tmp _ _ rfl) rfl) ?_
      refine Run.eff (dd := some 3) rfl rfl (op_alloc rfl rfl rfl rfl) ?_
      refine Run.eff (dd := none) rfl rfl (op_store_flat rfl (Opd.tmp _ _ rfl) (Opd.tmp _ _ rfl) tC rfl rfl (by first | rfl | assumption) tS) ?_
      refine Run.pure (dd := some 4) rfl rfl (op_assign rfl (Opd.tmp _ _ rfl)) ?_
      refine Run.nil (FinR.mk ?_)
      refine nK ?_
      refine s_reg rfl ?_
      refine Run.pure (dd := some 22) rfl rfl (op_move rfl (Opd.tmp _ _ rfl)) ?_
      refine Run.pure (dd := some 23) rfl rfl (op_neq rfl (Opd.tmp _ _ rfl) (Opd.const _)) ?_
      refine Run.nil (FinR.mk ?_)
      refine nK ?_
      refine n_cond _ rfl (fun hb => ?_) (fun hb => ?_)
      · refine nK ?_
        refine s_reg rfl ?_
        refine Run.pure (dd := some 24) rfl rfl (op_call_pure (fun _ => lives_c) rfl (Opd.func _) Opds.nil) ?_
        refine Run.pure (dd := some 2) rfl rfl (op_assign rfl (Opd.tmp _ _ rfl)) ?_
        refine Run.nil (FinR.mk ?_)
        refine nK ?_
        (first | exact s_o1 hC rfl tV | exact s_o2 hC rfl tV tV | exact s_o3 hC rfl tV tV tV | exact s_o4 hC rfl tV tV tV tV | exact s_out0 hC rfl | exact s_outO hC rfl rfl rfl)
      · obtain ⟨c1, c2, c3, c4⟩ := hbo (by simpa using hb)
        have hb0 := hb
        refine nK ?_
        refine s_reg rfl ?_
        refine Run.pure (dd := some 25) rfl rfl (op_fld_ptr (by decide) rfl (Opd.tmp _ _ rfl)) ?_
        refine Run.load (dd := some 26) rfl rfl (op_loadn_flat rfl (Opd.tmp _ _ rfl) tH tR tR) ?_
        refine Run.pure (dd := some 27) rfl rfl (op_call_pure (fun _ => k2) rfl (Opd.func _) (Opds.cons _ _ _ _ (Opd.tmp _ _ rfl) Opds.nil)) ?_
        refine Run.pure (dd := some 28) rfl rfl (op_neq rfl (Opd.tmp _ _ rfl) (Opd.const _)) ?_
        refine Run.pure (dd := some 29) rfl rfl (op_move rfl (Opd.tmp _ _ rfl)) ?_
        refine Run.pureG (dd := some 30) rfl rfl rfl tG (op_fld_ptr (by decide) rfl (Opd.tmp _ _ rfl)) ?_
        refine Run.loadG (dd := some 31) rfl rfl rfl tG (op_load1_flat rfl (Opd.topt _ _ _ rfl tO) tH rfl) ?_
        refine Run.pureG (dd := some 32) rfl rfl rfl tG (op_len_fz rfl (by first | exact Opd.topt _ _ _ rfl tO | exact Opd.nil _ _ (Opd.topt _ _ _ rfl tO)) (by first | exact List.length_map _ | rfl)) ?_
        refine Run.pureG (dd := some 33) rfl rfl rfl tG (op_fld_ptr (by decide) rfl (Opd.tmp _ _ rfl)) ?_
        refine Run.pureG (dd := some 34) rfl rfl rfl tG (op_fld_ptr (by decide) rfl (Opd.topt _ _ _ rfl tO)) ?_
        refine Run.loadG (dd := some 35) rfl rfl rfl tG (op_load1_flat rfl (Opd.topt _ _ _ rfl tO) tH rfl) ?_
        refine Run.pureG (dd := some 36) rfl rfl rfl tG (op_neq rfl (Opd.topt _ _ _ rfl tO) (Opd.topt _ _ _ rfl tO)) ?_
        refine Run.pure (dd := some 37) rfl rfl (op_pick_or rfl (Opd.tmp _ _ rfl) (Opd.topt _ _ _ rfl tO)) ?_
        refine Run.pure (dd := some 38) rfl rfl (op_move rfl (Opd.tmp _ _ rfl)) ?_
        refine Run.pureG (dd := some 39) rfl rfl rfl tG (op_fld_ptr (by decide) rfl (Opd.tmp _ _ rfl)) ?_
        refine Run.loadG (dd := some 40) rfl rfl rfl tG (op_load1_flat rfl (Opd.topt _ _ _ rfl tO) tH rfl) ?_
        refine Run.pureG (dd := some 41) rfl rfl rfl tG (op_len_fz rfl (by first | exact Opd.topt _ _ _ rfl tO | exact Opd.nil _ _ (Opd.topt _ _ _ rfl tO)) (by first | exact List.length_map _ | rfl)) ?_
        refine Run.pureG (dd := some 42) rfl rfl rfl tG (op_fld_ptr (by decide) rfl (Opd.tmp _ _ rfl)) ?_
        refine Run.pureG (dd := some 43) rfl rfl rfl tG (op_fld_ptr (by decide) rfl (Opd.topt _ _ _ rfl tO)) ?_
        refine Run.loadG (dd := some 44) rfl rfl rfl tG (op_load1_flat rfl (Opd.topt _ _ _ rfl tO) tH rfl) ?_
        refine Run.pureG (dd := some 45) rfl rfl rfl tG (op_neq rfl (Opd.topt _ _ _ rfl tO) (Opd.topt _ _ _ rfl tO)) ?_
        refine Run.pure (dd := some 46) rfl rfl (op_pick_or rfl (Opd.tmp _ _ rfl) (Opd.topt _ _ _ rfl tO)) ?_
        refine Run.nil (FinR.mk ?_)
        refine nK ?_
        refine n_cond _ rfl (fun hb => ?_) (fun hb => ?_)
        · exfalso; simp [c1, c2, c3] at hb
        · refine nK ?_
          refine s_reg rfl ?_
          refine Run.pure (dd := some 47) rfl rfl (op_fld_ptr (by decide) rfl (Opd.tmp _ _ rfl)) ?_
          refine Run.pure (dd := some 48) rfl rfl (op_fld_ptr (by decide) rfl (Opd.tmp _ _ rfl)) ?_
          refine Run.load (dd := some 49) rfl rfl (op_load1_flat rfl (Opd.tmp _ _ rfl) tH rfl) ?_
          refine Run.pure (dd := some 50) rfl rfl (op_len_fz rfl (by first | exact Opd.tmp _ _ rfl | exact Opd.nil _ _ (Opd.tmp _ _ rfl)) (by first | exact List.length_map _ | rfl)) ?_
          refine Run.pure (dd := some 51) rfl rfl (op_move rfl (Opd.const _)) ?_
          refine Run.nil (FinR.mk ?_)
          refine nK ?_
          refine n_loop (ι := Nat) (fun i => ([(3, .ptr 0 5 0 0), (50, IV .i64 b.1.g.es.length), (51, IV .i64 i)], [(0, some (.flat 5 [encR b.1]))], 1)) (fun i => i ≤ b.1.g.es.length) (fun i => b.1.g.es.length - i) 0 (Nat.zero_le _) ?_ ?_
          · refine Next.weakS [3] [] (by rfl) (by first | exact keeps0 hC _ | exact keepsN hC _ rfl) (by repeat (first | exact trivial | refine ⟨⟨_, rfl, .inl ⟨rfl, rfl⟩⟩, ?_⟩ | refine ⟨⟨_, rfl, .inl ⟨slEq rfl tN, rfl⟩⟩, ?_⟩ | refine ⟨⟨_, rfl, .inl ⟨ivEq tX, rfl⟩⟩, ?_⟩)) (by repeat (first | exact trivial | refine ⟨ent_same rfl rfl rfl tL, ?_⟩ | refine ⟨ent_same rfl rfl (rfEq rfl tU) tL, ?_⟩ | refine ⟨ent_same rfl rfl (flEq rfl (by first | (simp; done) | (simp; omega) | (simp [encA, encH, encL, encU, encK, encV, encR, encE, encG]; done) | simp [maxC, minC])) trivial, ?_⟩)) rfl (rel_intro)
          · intro i hi K hK
            refine nK ?_
            refine s_reg rfl ?_
            refine Run.pure (dd := some 52) rfl rfl (op_lss rfl (Opd.tmp _ _ rfl) (Opd.tmp _ _ rfl)) ?_
            refine Run.nil (FinR.mk ?_)
            refine nK ?_
            refine n_cond _ rfl (fun hb => ?_) (fun hb => ?_)
            · have hlt : i < b.1.g.es.length := by simp at hb; omega
              have hr1 := row_at' encE b.1.g.es i hlt
              have hcc := cost_has (c4 _ (List.getElem_mem hlt))
              generalize b.1.g.es[i] = x at *
              have k3 := rcost_c b.1.g x.t x.f (by omega)
              rw [hcc] at k3
              refine nK ?_
              refine s_reg rfl ?_
              refine Run.pure (dd := some 53) rfl rfl (op_move rfl (Opd.tmp _ _ rfl)) ?_
              refine Run.pure (dd := some 5) rfl rfl (op_assign rfl (Opd.tmp _ _ rfl)) ?_
              refine Run.nil (FinR.mk ?_)
              refine nK ?_
              refine s_draw mixed ?_
              refine Run.pure (dd := some 55) rfl rfl (op_fld_ptr (by decide) rfl (Opd.tmp _ _ rfl)) ?_
              refine Run.load (dd := some 56) rfl rfl (op_loadn_flat rfl (Opd.tmp _ _ rfl) tH tR tR) ?_
              refine Run.pure (dd := some 57) rfl rfl (op_fld_ptr (by decide) rfl (Opd.tmp _ _ rfl)) ?_
              refine Run.pure (dd := some 58) rfl rfl (op_fld_ptr (by decide) rfl (Opd.tmp _ _ rfl)) ?_
              refine Run.load (dd := some 59) rfl rfl (op_load1_flat rfl (Opd.tmp _ _ rfl) tH rfl) ?_
              refine Run.pure (dd := some 60) rfl rfl (op_move rfl (Opd.tmp _ _ rfl)) ?_
              refine Run.pure (dd := some 61) rfl rfl (op_idx_fz _ rfl (Opd.tmp _ _ rfl) (Opd.tmp _ _ rfl) tF) ?_
              refine Run.pure (dd := some 62) rfl rfl (op_fld_fz (by decide) rfl (Opd.tmp _ _ rfl) tR) ?_
              refine Run.pure (dd := some 63) rfl rfl (op_load1_fz rfl (Opd.tmp _ _ rfl) rfl) ?_
              refine Run.pure (dd := some 64) rfl rfl (op_fld_ptr (by decide) rfl (Opd.tmp _ _ rfl)) ?_
              refine Run.pure (dd := some 65) rfl rfl (op_fld_ptr (by decide) rfl (Opd.tmp _ _ rfl)) ?_
              refine Run.load (dd := some 66) rfl rfl (op_load1_flat rfl (Opd.tmp _ _ rfl) tH rfl) ?_
              refine Run.pure (dd := some 67) rfl rfl (op_move rfl (Opd.tmp _ _ rfl)) ?_
              refine Run.pure (dd := some 68) rfl rfl (op_idx_fz _ rfl (Opd.tmp _ _ rfl) (Opd.tmp _ _ rfl) tF) ?_
              refine Run.pure (dd := some 69) rfl rfl (op_fld_fz (by decide) rfl (Opd.tmp _ _ rfl) tR) ?_
              refine Run.pure (dd := some 70) rfl rfl (op_load1_fz rfl (Opd.tmp _ _ rfl) rfl) ?_
              refine Run.pure (dd := some 71) rfl rfl (op_call_pure (fun _ => k3) rfl (Opd.func _) (Opds.cons _ _ _ _ (Opd.tmp _ _ rfl) (Opds.cons _ _ _ _ (Opd.tmp _ _ rfl) (Opds.cons _ _ _ _ (Opd.tmp _ _ rfl) Opds.nil)))) ?_
              refine Run.pure (dd := some 54) rfl rfl (op_move rfl (Opd.tmp _ _ rfl)) ?_
              refine Run.pure (dd := some 72) rfl rfl (op_extract_fz rfl (Opd.tmp _ _ rfl) rfl) ?_
              refine Run.pure (dd := some 73) rfl rfl (op_extract_fz rfl (Opd.tmp _ _ rfl) rfl) ?_
              refine Run.pure (dd := some 6) rfl rfl (op_assign rfl (Opd.tmp _ _ rfl)) ?_
              refine Run.pure (dd := some 7) rfl rfl (op_assign rfl (Opd.tmp _ _ rfl)) ?_
              refine Run.nil (FinD.mk (by kernel_rfl) ?_)
              refine nK ?_
              refine s_reg rfl ?_
              refine Run.pure (dd := some 74) rfl rfl (op_move rfl (Opd.tmp _ _ rfl)) ?_
              refine Run.pure (dd := some 75) rfl rfl (op_not rfl (Opd.tmp _ _ rfl)) ?_
              refine Run.nil (FinR.mk ?_)
              refine nK ?_
              refine n_cond _ rfl (fun hb => ?_) (fun hb => ?_)
              · exfalso; simp at hb
              · refine nK ?_
                refine s_reg rfl ?_
                refine Run.pure (dd := some 76) rfl rfl (op_add rfl (Opd.tmp _ _ rfl) (Opd.const _) tI) ?_
                refine Run.pure (dd := some 51) rfl rfl (op_move rfl (Opd.tmp _ _ rfl)) ?_
                refine Run.nil (FinR.mk ?_)
                refine nK ?_
                refine Next.weakS [3] [] (by rfl) (by first | exact keeps0 hC _ | exact keepsN hC _ rfl) (by repeat (first | exact trivial | refine ⟨⟨_, rfl, .inl ⟨rfl, rfl⟩⟩, ?_⟩ | refine ⟨⟨_, rfl, .inl ⟨slEq rfl tN, rfl⟩⟩, ?_⟩ | refine ⟨⟨_, rfl, .inl ⟨ivEq tX, rfl⟩⟩, ?_⟩)) (by repeat (first | exact trivial | refine ⟨ent_same rfl rfl rfl tL, ?_⟩ | refine ⟨ent_same rfl rfl (rfEq rfl tU) tL, ?_⟩ | refine ⟨ent_same rfl rfl (flEq rfl (by first | (simp; done) | (simp; omega) | (simp [encA, encH, encL, encU, encK, encV, encR, encE, encG]; done) | simp [maxC, minC])) trivial, ?_⟩)) rfl ((hK (i + 1) (by omega) (by omega)))
            · refine nK ?_
              refine s_reg rfl ?_
              refine Run.pure (dd := some 77) rfl rfl (op_call_pure (fun _ => lives_c) rfl (Opd.func _) Opds.nil) ?_
              refine Run.pure (dd := some 2) rfl rfl (op_assign rfl (Opd.tmp _ _ rfl)) ?_
              refine Run.nil (FinR.mk ?_)
              refine nK ?_
              (first | exact s_o1 hC rfl tV | exact s_o2 hC rfl tV tV | exact s_o3 hC rfl tV tV tV | exact s_o4 hC rfl tV tV tV tV | exact s_out0 hC rfl | exact s_outO hC rfl rfl rfl)
theorem only_law (db : List Lsa) (ho : ∀ x ∈ db, okA x) : Pure Try.prog 5 [VA db] (Bf true) := by
  by_cases hd : 400 < db.length ∨ dbI db ≠ 0
  · have hd2 := hd
    refine Meets.intro Try.func5 rfl (Nat.le_of_ble_eq_true rfl) fun C hC => ?_
    simp only [List.map, argEnv, Nat.reduceAdd]
    refine nK ?_
    refine s_reg rfl ?_
    refine Run.pure (dd := some 2) rfl rfl (op_assign rfl (Opd.const _)) ?_
    refine Run.nil (FinR.mk ?_)
    refine nK ?_
    refine s_reg rfl ?_
    refine Run.pure (dd := some 14) rfl rfl (op_move rfl (Opd.tmp _ _ rfl)) ?_
    refine Run.pure (dd := some 15) rfl rfl (op_len_fz rfl (by first | exact Opd.tmp _ _ rfl | exact Opd.nil _ _ (Opd.tmp _ _ rfl)) (by first | exact List.length_map _ | rfl)) ?_
    refine Run.pure (dd := some 16) rfl rfl (op_gtr rfl (Opd.tmp _ _ rfl) (Opd.const _)) ?_
    refine Run.pure (dd := some 17) rfl rfl (op_move rfl (Opd.tmp _ _ rfl)) ?_
    refine Run.pureG (dd := some 18) rfl rfl rfl tG (op_move rfl (Opd.tmp _ _ rfl)) ?_
    refine Run.pureG (dd := some 19) rfl rfl rfl tG (op_call_pure (fun _ => db_c _ (by assumption)) rfl (Opd.func _) (Opds.cons _ _ _ _ (Opd.topt _ _ _ rfl tO) Opds.nil)) ?_
    refine Run.pureG (dd := some 20) rfl rfl rfl tG (op_neq rfl (Opd.topt _ _ _ rfl tO) (Opd.const _)) ?_
    refine Run.pure (dd := some 21) rfl rfl (op_pick_or rfl (Opd.tmp _ _ rfl) (Opd.topt _ _ _ rfl tO)) ?_
    refine Run.nil (FinR.mk ?_)
    refine nK ?_
    refine n_cond _ rfl (fun hb => ?_) (fun hb => ?_)
    · refine nK ?_
      refine s_reg rfl ?_
      refine Run.pure (dd := some 22) rfl rfl (op_call_pure (fun _ => lives_c) rfl (Opd.func _) Opds.nil) ?_
      refine Run.pure (dd := some 2) rfl rfl (op_assign rfl (Opd.tmp _ _ rfl)) ?_
      refine Run.nil (FinR.mk ?_)
      refine nK ?_
      (first | exact s_o1 hC rfl tV | exact s_o2 hC rfl tV tV | exact s_o3 hC rfl tV tV tV | exact s_o4 hC rfl tV tV tV tV | exact s_out0 hC rfl | exact s_outO hC rfl rfl rfl)
    · exfalso; simp at hb; omega
  · have hn : db.length ≤ 400 := by omega
    have hk := dbOk (show dbI db = 0 by omega)
    have k1 := build_c db hn ho (chk_sizes hk)
    have hre := rest_eq hk.chk
    have hrn := rest_len db
    have k2 := build_c (restL db) (by omega) (fun x hx => by
      obtain ⟨l, hl, rfl⟩ := rest_mem hx
      exact sealA_ok (hk.chk l hl) (ho l hl)) (fun x hx => by
      obtain ⟨l, hl, rfl⟩ := rest_mem hx
      exact sealA_len (hk.chk l hl))
    rw [hre] at k2
    obtain ⟨s1, s2, s3⟩ := build_small db
    clear hre
    generalize buildF db = b at *
    have k3 := rsame_c b.1 b.1 (by omega) (by omega) (by unfold lenOk; omega) (by unfold lenOk; omega) (by unfold lenOk; omega) (by unfold lenOk; omega)
    refine Meets.intro Try.func5 rfl (Nat.le_of_ble_eq_true rfl) fun C hC => ?_
    simp only [List.map, argEnv, Nat.reduceAdd]
    refine nK ?_
    refine s_reg rfl ?_
    refine Run.pure (dd := some 2) rfl rfl (op_assign rfl (Opd.const _)) ?_
    refine Run.nil (FinR.mk ?_)
    refine nK ?_
    refine s_reg rfl ?_
    refine Run.pure (dd := some 14) rfl rfl (op_move rfl (Opd.tmp _ _ rfl)) ?_
    refine Run.pure (dd := some 15) rfl rfl (op_len_fz rfl (by first | exact Opd.tmp _ _ rfl | exact Opd.nil _ _ (Opd.tmp _ _ rfl)) (by first | exact List.length_map _ | rfl)) ?_
    refine Run.pure (dd := some 16) rfl rfl (op_gtr rfl (Opd.tmp _ _ rfl) (Opd.const _)) ?_
    refine Run.pure (dd := some 17) rfl rfl (op_move rfl (Opd.tmp _ _ rfl)) ?_
    refine Run.pureG (dd := some 18) rfl rfl rfl tG (op_move rfl (Opd.tmp _ _ rfl)) ?_
    refine Run.pureG (dd := some 19) rfl rfl rfl tG (op_call_pure (fun _ => db_c _ (by assumption)) rfl (Opd.func _) (Opds.cons _ _ _ _ (Opd.topt _ _ _ rfl tO) Opds.nil)) ?_
    refine Run.pureG (dd := some 20) rfl rfl rfl tG (op_neq rfl (Opd.topt _ _ _ rfl tO) (Opd.const _)) ?_
    refine Run.pure (dd := some 21) rfl rfl (op_pick_or rfl (Opd.tmp _ _ rfl) (Opd.topt _ _ _ rfl tO)) ?_
    refine Run.nil (FinR.mk ?_)
    refine nK ?_
    refine n_cond _ rfl (fun hb => ?_) (fun hb => ?_)
    · exfalso; simp at hb; omega
    · refine nK ?_
      refine s_reg rfl ?_
      refine Run.eff (dd := some 23) rfl rfl (op_buildSlice_own rfl (RowsF.nil _) rfl rfl rfl) ?_
      refine Run.pure (dd := some 3) rfl rfl (op_assign rfl (Opd.tmp _ _ rfl)) ?_
      refine Run.nil (FinR.mk ?_)
      refine nK ?_
      refine s_reg rfl ?_
      refine Run.pure (dd := some 24) rfl rfl (op_move rfl (Opd.tmp _ _ rfl)) ?_
      refine Run.pure (dd := some 25) rfl rfl (op_len_fz rfl (by first | exact Opd.tmp _ _ rfl | exact Opd.nil _ _ (Opd.tmp _ _ rfl)) (by first | exact List.length_map _ | rfl)) ?_
      refine Run.pure (dd := some 26) rfl rfl (op_move rfl (Opd.const _)) ?_
      refine Run.nil (FinR.mk ?_)
      refine nK ?_
      refine n_loop (ι := Nat × List Lsa) (fun p => ([(0, .fz (VA db)), (3, .sl 0 15 0 p.2.length), (25, IV .i64 db.length), (26, IV .i64 p.1)], [(0, some (.flat 15 (p.2.map encA)))], 1)) (fun p => p.1 ≤ db.length ∧ p.2 = restL (db.take p.1)) (fun p => db.length - p.1) (0, []) ⟨Nat.zero_le _, by simp [restL]⟩ ?_ ?_
      · refine Next.weakS [3] [] (by rfl) (by first | exact keeps0 hC _ | exact keepsN hC _ rfl) (by repeat (first | exact trivial | refine ⟨⟨_, rfl, .inl ⟨rfl, rfl⟩⟩, ?_⟩ | refine ⟨⟨_, rfl, .inl ⟨slEq rfl tN, rfl⟩⟩, ?_⟩ | refine ⟨⟨_, rfl, .inl ⟨ivEq tX, rfl⟩⟩, ?_⟩)) (by repeat (first | exact trivial | refine ⟨ent_same rfl rfl rfl tL, ?_⟩ | refine ⟨ent_same rfl rfl (rfEq rfl tU) tL, ?_⟩ | refine ⟨ent_same rfl rfl (flEq rfl (by first | (simp; done) | (simp; omega) | (simp [encA, encH, encL, encU, encK, encV, encR, encE, encG]; done) | simp [maxC, minC])) trivial, ?_⟩)) rfl (rel_intro)
      · intro ⟨i, rs⟩ ⟨hi, hS⟩ K hK
        dsimp only at hi hS ⊢
        have hrl : rs.length ≤ i := by rw [hS]; exact Nat.le_trans (rest_len _) (by simp; omega)
        refine nK ?_
        refine s_reg rfl ?_
        refine Run.pure (dd := some 27) rfl rfl (op_lss rfl (Opd.tmp _ _ rfl) (Opd.tmp _ _ rfl)) ?_
        refine Run.nil (FinR.mk ?_)
        refine nK ?_
        refine n_cond _ rfl (fun hb => ?_) (fun hb => ?_)
        · have hlt : i < db.length := by simp at hb; omega
          have hr1 := row_at' encA db i hlt
          have hs := rest_take hlt
          rw [← hS] at hs
          have hK1 := fun a h => hK (i + 1, a) ⟨by dsimp only; omega, h⟩ (by dsimp only; omega)
          dsimp only at hK1
          have hck := hk.chk _ (List.getElem_mem hlt)
          have hol := ho _ (List.getElem_mem hlt)
          generalize db[i] = l at *
          have hll := (chkA_len hck).1
          refine nK ?_
          refine s_reg rfl ?_
          refine Run.pure (dd := some 28) rfl rfl (op_move rfl (Opd.tmp _ _ rfl)) ?_
          refine Run.pure (dd := some 4) rfl rfl (op_assign rfl (Opd.tmp _ _ rfl)) ?_
          refine Run.nil (FinR.mk ?_)
          refine nK ?_
          refine s_reg rfl ?_
          refine Run.pure (dd := some 29) rfl rfl (op_move rfl (Opd.tmp _ _ rfl)) ?_
          refine Run.pure (dd := some 30) rfl rfl (op_move rfl (Opd.tmp _ _ rfl)) ?_
          refine Run.pure (dd := some 31) rfl rfl (op_idx_fz _ rfl (Opd.tmp _ _ rfl) (Opd.tmp _ _ rfl) tF) ?_
          refine Run.pure (dd := some 32) rfl rfl (op_loadw_fz rfl (Opd.tmp _ _ rfl) rfl) ?_
          refine Run.eff (dd := some 5) rfl rfl (op_alloc rfl rfl rfl rfl) ?_
          refine Run.eff (dd := none) rfl rfl (op_store_flat rfl (Opd.tmp _ _ rfl) (Opd.tmp _ _ rfl) tC rfl rfl (by first | rfl | assumption) tS) ?_
          refine Run.nil (FinR.mk ?_)
          refine nK ?_
          refine s_reg rfl ?_
          refine Run.pure (dd := some 33) rfl rfl (op_fld_ptr (by decide) rfl (Opd.tmp _ _ rfl)) ?_
          refine Run.pure (dd := some 34) rfl rfl (op_fld_ptr (by decide) rfl (Opd.tmp _ _ rfl)) ?_
          refine Run.load (dd := some 35) rfl rfl (op_load1_flat rfl (Opd.tmp _ _ rfl) tH rfl) ?_
          refine Run.pure (dd := some 36) rfl rfl (op_gtr rfl (Opd.tmp _ _ rfl) (Opd.const _)) ?_
          refine Run.pure (dd := some 37) rfl rfl (op_move rfl (Opd.tmp _ _ rfl)) ?_
          refine Run.pureG (dd := some 38) rfl rfl rfl tG (op_fld_ptr (by decide) rfl (Opd.tmp _ _ rfl)) ?_
          refine Run.pureG (dd := some 39) rfl rfl rfl tG (op_fld_ptr (by decide) rfl (Opd.topt _ _ _ rfl tO)) ?_
          refine Run.loadG (dd := some 40) rfl rfl rfl tG (op_load1_flat rfl (Opd.topt _ _ _ rfl tO) tH rfl) ?_
          refine Run.pureG (dd := some 41) rfl rfl rfl tG (op_geq rfl (Opd.topt _ _ _ rfl tO) (Opd.const _)) ?_
          refine Run.pure (dd := some 42) rfl rfl (op_pick_or rfl (Opd.tmp _ _ rfl) (Opd.topt _ _ _ rfl tO)) ?_
          refine Run.nil (FinR.mk ?_)
          refine nK ?_
          refine n_cond _ rfl (fun hb => ?_) (fun hb => ?_)
          · have hke : keptB l = false := by unfold keptB; simp at hb ⊢; omega
            rw [if_neg (by simp [hke]), List.append_nil] at hs
            refine nK ?_
            refine s_reg rfl ?_
            refine Run.pure (dd := some 79) rfl rfl (op_add rfl (Opd.tmp _ _ rfl) (Opd.const _) tI) ?_
            refine Run.pure (dd := some 26) rfl rfl (op_move rfl (Opd.tmp _ _ rfl)) ?_
            refine Run.nil (FinR.mk ?_)
            refine nK ?_
            refine Next.weakS [3] [] (by rfl) (by first | exact keeps0 hC _ | exact keepsN hC _ rfl) (by repeat (first | exact trivial | refine ⟨⟨_, rfl, .inl ⟨rfl, rfl⟩⟩, ?_⟩ | refine ⟨⟨_, rfl, .inl ⟨slEq rfl tN, rfl⟩⟩, ?_⟩ | refine ⟨⟨_, rfl, .inl ⟨ivEq tX, rfl⟩⟩, ?_⟩)) (by repeat (first | exact trivial | refine ⟨ent_same rfl rfl rfl tL, ?_⟩ | refine ⟨ent_same rfl rfl (rfEq rfl tU) tL, ?_⟩ | refine ⟨ent_same rfl rfl (flEq rfl (by first | (simp; done) | (simp; omega) | (simp [encA, encH, encL, encU, encK, encV, encR, encE, encG]; done) | simp [maxC, minC])) trivial, ?_⟩)) rfl ((hK1 rs hs.symm))
          · have hke : keptB l = true := by unfold keptB; simp at hb ⊢; exact hb
            rw [if_pos hke] at hs
            have ks : Pure Try.prog 15 [.agg (encA (nosA l))] (.tup [.agg (encA (sealA l)), If .i64 0]) := by
              have h := seal_c (nosA l) (nosA_ok hol)
              have e2 : (sealF (nosA l)).2 = 0 := by rw [sealA_eq hck]
              rw [e2] at h
              exact h
            refine nK ?_
            refine s_reg rfl ?_
            refine Run.eff (dd := some 43) rfl rfl (op_buildSlice_own rfl (RowsF.nil _) rfl rfl rfl) ?_
            refine Run.pure (dd := some 6) rfl rfl (op_assign rfl (Opd.tmp _ _ rfl)) ?_
            refine Run.nil (FinR.mk ?_)
            refine nK ?_
            refine s_reg rfl ?_
            refine Run.pure (dd := some 44) rfl rfl (op_fld_ptr (by decide) rfl (Opd.tmp _ _ rfl)) ?_
            refine Run.load (dd := some 45) rfl rfl (op_load1_flat rfl (Opd.tmp _ _ rfl) tH rfl) ?_
            refine Run.pure (dd := some 46) rfl rfl (op_len_fz rfl (by first | exact Opd.tmp _ _ rfl | exact Opd.nil _ _ (Opd.tmp _ _ rfl)) (by first | exact List.length_map _ | rfl)) ?_
            refine Run.pure (dd := some 47) rfl rfl (op_move rfl (Opd.const _)) ?_
            refine Run.nil (FinR.mk ?_)
            refine nK ?_
            refine n_loop (ι := Nat × List Lnk) (fun p => ([(0, .fz (VA db)), (3, .sl 0 15 0 rs.length), (5, .ptr 1 15 0 0), (6, .sl 2 4 0 p.2.length), (25, IV .i64 db.length), (26, IV .i64 i), (46, IV .i64 l.ls.length), (47, IV .i64 p.1)], [(0, some (.flat 15 (rs.map encA))), (1, some (.flat 15 [encA l])), (2, some (.flat 4 (p.2.map encL)))], 3)) (fun p => p.1 ≤ l.ls.length ∧ p.2 = nosL (l.ls.take p.1)) (fun p => l.ls.length - p.1) (0, []) ⟨Nat.zero_le _, by simp [nosL]⟩ ?_ ?_
            · refine Next.weakS [3, 5, 6] [] (by rfl) (by first | exact keeps0 hC _ | exact keepsN hC _ rfl) (by repeat (first | exact trivial | refine ⟨⟨_, rfl, .inl ⟨rfl, rfl⟩⟩, ?_⟩ | refine ⟨⟨_, rfl, .inl ⟨slEq rfl tN, rfl⟩⟩, ?_⟩ | refine ⟨⟨_, rfl, .inl ⟨ivEq tX, rfl⟩⟩, ?_⟩)) (by repeat (first | exact trivial | refine ⟨ent_same rfl rfl rfl tL, ?_⟩ | refine ⟨ent_same rfl rfl (rfEq rfl tU) tL, ?_⟩ | refine ⟨ent_same rfl rfl (flEq rfl (by first | (simp; done) | (simp; omega) | (simp [encA, encH, encL, encU, encK, encV, encR, encE, encG]; done) | simp [maxC, minC])) trivial, ?_⟩)) rfl (rel_intro)
            · intro ⟨j, ks'⟩ ⟨hj, hT⟩ K2 hK2
              dsimp only at hj hT ⊢
              have hkl : ks'.length ≤ j := by rw [hT]; exact Nat.le_trans (nos_len _) (by simp; omega)
              refine nK ?_
              refine s_reg rfl ?_
              refine Run.pure (dd := some 48) rfl rfl (op_lss rfl (Opd.tmp _ _ rfl) (Opd.tmp _ _ rfl)) ?_
              refine Run.nil (FinR.mk ?_)
              refine nK ?_
              refine n_cond _ rfl (fun hb => ?_) (fun hb => ?_)
              · have hlt2 : j < l.ls.length := by simp at hb; omega
                have hr2 := row_at' encL l.ls j hlt2
                have ht := nos_take hlt2
                rw [← hT] at ht
                have hK3 := fun a h => hK2 (j + 1, a) ⟨by dsimp only; omega, h⟩ (by dsimp only; omega)
                dsimp only at hK3
                generalize l.ls[j] = x at *
                refine nK ?_
                refine s_reg rfl ?_
                refine Run.pure (dd := some 49) rfl rfl (op_move rfl (Opd.tmp _ _ rfl)) ?_
                refine Run.pure (dd := some 7) rfl rfl (op_assign rfl (Opd.tmp _ _ rfl)) ?_
                refine Run.nil (FinR.mk ?_)
                refine nK ?_
                refine s_reg rfl ?_
                refine Run.pure (dd := some 50) rfl rfl (op_fld_ptr (by decide) rfl (Opd.tmp _ _ rfl)) ?_
                refine Run.load (dd := some 51) rfl rfl (op_load1_flat rfl (Opd.tmp _ _ rfl) tH rfl) ?_
                refine Run.pure (dd := some 52) rfl rfl (op_move rfl (Opd.tmp _ _ rfl)) ?_
                refine Run.pure (dd := some 53) rfl rfl (op_idx_fz _ rfl (Opd.tmp _ _ rfl) (Opd.tmp _ _ rfl) tF) ?_
                refine Run.pure (dd := some 54) rfl rfl (op_fld_fz (by decide) rfl (Opd.tmp _ _ rfl) tR) ?_
                refine Run.pure (dd := some 55) rfl rfl (op_load1_fz rfl (Opd.tmp _ _ rfl) rfl) ?_
                refine Run.pure (dd := some 56) rfl rfl (op_neq rfl (Opd.tmp _ _ rfl) (Opd.const _)) ?_
                refine Run.nil (FinR.mk ?_)
                refine nK ?_
                refine n_cond _ rfl (fun hb => ?_) (fun hb => ?_)
                · rw [if_pos (by simpa using hb)] at ht
                  have e1 : (ks' ++ [x]).length = ks'.length + 1 := by simp
                  have e2 : (ks' ++ [x]).map encL = ks'.map encL ++ [encL x] := by simp
                  have hK4 := hK3 (ks' ++ [x]) ht.symm
                  rw [e1, e2] at hK4
                  refine nK ?_
                  refine s_reg rfl ?_
                  refine Run.pure (dd := some 57) rfl rfl (op_move rfl (Opd.tmp _ _ rfl)) ?_
                  refine Run.pure (dd := some 58) rfl rfl (op_fld_ptr (by decide) rfl (Opd.tmp _ _ rfl)) ?_
                  refine Run.load (dd := some 59) rfl rfl (op_load1_flat rfl (Opd.tmp _ _ rfl) tH rfl) ?_
                  refine Run.pure (dd := some 60) rfl rfl (op_move rfl (Opd.tmp _ _ rfl)) ?_
                  refine Run.pure (dd := some 61) rfl rfl (op_idx_fz _ rfl (Opd.tmp _ _ rfl) (Opd.tmp _ _ rfl) tF) ?_
                  refine Run.pure (dd := some 62) rfl rfl (op_loadw_fz rfl (Opd.tmp _ _ rfl) rfl) ?_
                  refine Run.pure (dd := some 63) rfl rfl (op_buildSlice_fz rfl (RowsF.cons _ _ _ _ _ _ (Opd.tmp _ _ rfl) tC (by rfl) (RowsF.nil _)) rfl rfl) ?_
                  refine Run.eff (dd := some 64) rfl rfl (op_append rfl (Opd.tmp _ _ rfl) (Opd.tmp _ _ rfl) rfl (by simp) rfl rfl tB tB) ?_
                  refine Run.pure (dd := some 6) rfl rfl (op_assign rfl (Opd.tmp _ _ rfl)) ?_
                  refine Run.nil (FinR.mk ?_)
                  refine nK ?_
                  refine s_reg rfl ?_
                  refine Run.pure (dd := some 65) rfl rfl (op_add rfl (Opd.tmp _ _ rfl) (Opd.const _) tI) ?_
                  refine Run.pure (dd := some 47) rfl rfl (op_move rfl (Opd.tmp _ _ rfl)) ?_
                  refine Run.nil (FinR.mk ?_)
                  refine nK ?_
                  refine Next.weakS [3, 5, 6] [] (by rfl) (by first | exact keeps0 hC _ | exact keepsN hC _ rfl) (by repeat (first | exact trivial | refine ⟨⟨_, rfl, .inl ⟨rfl, rfl⟩⟩, ?_⟩ | refine ⟨⟨_, rfl, .inl ⟨slEq rfl tN, rfl⟩⟩, ?_⟩ | refine ⟨⟨_, rfl, .inl ⟨ivEq tX, rfl⟩⟩, ?_⟩)) (by repeat (first | exact trivial | refine ⟨ent_same rfl rfl rfl tL, ?_⟩ | refine ⟨ent_same rfl rfl (rfEq rfl tU) tL, ?_⟩ | refine ⟨ent_same rfl rfl (flEq rfl (by first | (simp; done) | (simp; omega) | (simp [encA, encH, encL, encU, encK, encV, encR, encE, encG]; done) | simp [maxC, minC])) trivial, ?_⟩)) rfl (hK4)
                · rw [if_neg (by simpa using hb), List.append_nil] at ht
                  refine nK ?_
                  refine s_reg rfl ?_
                  refine Run.pure (dd := some 65) rfl rfl (op_add rfl (Opd.tmp _ _ rfl) (Opd.const _) tI) ?_
                  refine Run.pure (dd := some 47) rfl rfl (op_move rfl (Opd.tmp _ _ rfl)) ?_
                  refine Run.nil (FinR.mk ?_)
                  refine nK ?_
                  refine Next.weakS [3, 5, 6] [] (by rfl) (by first | exact keeps0 hC _ | exact keepsN hC _ rfl) (by repeat (first | exact trivial | refine ⟨⟨_, rfl, .inl ⟨rfl, rfl⟩⟩, ?_⟩ | refine ⟨⟨_, rfl, .inl ⟨slEq rfl tN, rfl⟩⟩, ?_⟩ | refine ⟨⟨_, rfl, .inl ⟨ivEq tX, rfl⟩⟩, ?_⟩)) (by repeat (first | exact trivial | refine ⟨ent_same rfl rfl rfl tL, ?_⟩ | refine ⟨ent_same rfl rfl (rfEq rfl tU) tL, ?_⟩ | refine ⟨ent_same rfl rfl (flEq rfl (by first | (simp; done) | (simp; omega) | (simp [encA, encH, encL, encU, encK, encV, encR, encE, encG]; done) | simp [maxC, minC])) trivial, ?_⟩)) rfl ((hK3 ks' ht.symm))
              · have hje : j = l.ls.length := by simp at hb; omega
                rw [hje, List.take_length] at hT
                subst hT
                have e1 : (rs ++ [sealA l]).length = rs.length + 1 := by simp
                have e2 : (rs ++ [sealA l]).map encA = rs.map encA ++ [encA (sealA l)] := by simp
                have hK4 := hK1 (rs ++ [sealA l]) hs.symm
                rw [e1, e2] at hK4
                refine nK ?_
                refine Next.weak [0, 1] [2] (by rfl) (keeps0 hC _) (G' := [(0, .fz (VA db)), (3, .sl 0 15 0 rs.length), (5, .ptr 1 15 0 0), (6, .fz (VL (nosL l.ls))), (25, IV .i64 db.length), (26, IV .i64 i)]) (H' := [(0, some (.flat 15 (rs.map encA))), (1, some (.flat 15 [encA l]))]) (by repeat (first | exact trivial | refine ⟨⟨_, rfl, .inl ⟨rfl, rfl⟩⟩, ?_⟩ | refine ⟨⟨_, rfl, .inl ⟨slEq rfl tN, rfl⟩⟩, ?_⟩ | refine ⟨⟨_, rfl, .inl ⟨ivEq tX, rfl⟩⟩, ?_⟩ | refine ⟨⟨_, rfl, .inr ⟨_, rfl, tW⟩⟩, ?_⟩)) (by exact ⟨ent_same rfl rfl rfl tL, ⟨ent_same rfl rfl rfl tL, trivial⟩⟩) (fun id h => by
                  have h' : id = 2 := by simpa using h
                  subst h'; exact ⟨_, rfl⟩) ?_
                refine nK ?_
                refine s_reg rfl ?_
                refine Run.pure (dd := some 66) rfl rfl (op_move rfl (Opd.tmp _ _ rfl)) ?_
                refine Run.pure (dd := some 67) rfl rfl (op_fld_ptr (by decide) rfl (Opd.tmp _ _ rfl)) ?_
                refine Run.eff (dd := none) rfl rfl (op_store_flat rfl (Opd.tmp _ _ rfl) (Opd.tmp _ _ rfl) tC rfl rfl (by first | rfl | assumption) tS) ?_
                refine Run.nil (FinR.mk ?_)
                refine nK ?_
                refine s_reg rfl ?_
                refine Run.load (dd := some 69) rfl rfl (op_loadw_flat rfl (Opd.tmp _ _ rfl) tH rfl) ?_
                refine Run.pure (dd := some 70) rfl rfl (op_call_pure (fun _ => ks) rfl (Opd.func _) (Opds.cons _ _ _ _ (Opd.tmp _ _ rfl) Opds.nil)) ?_
                refine Run.pure (dd := some 68) rfl rfl (op_move rfl (Opd.tmp _ _ rfl)) ?_
                refine Run.pure (dd := some 71) rfl rfl (op_extract_fz rfl (Opd.tmp _ _ rfl) rfl) ?_
                refine Run.pure (dd := some 72) rfl rfl (op_extract_fz rfl (Opd.tmp _ _ rfl) rfl) ?_
                refine Run.eff (dd := some 8) rfl rfl (op_alloc rfl rfl rfl rfl) ?_
                refine Run.eff (dd := none) rfl rfl (op_store_flat rfl (Opd.tmp _ _ rfl) (Opd.tmp _ _ rfl) tC rfl rfl (by first | rfl | assumption) tS) ?_
                refine Run.pure (dd := some 9) rfl rfl (op_assign rfl (Opd.tmp _ _ rfl)) ?_
                refine Run.nil (FinR.mk ?_)
                refine nK ?_
                refine s_reg rfl ?_
                refine Run.pure (dd := some 73) rfl rfl (op_move rfl (Opd.tmp _ _ rfl)) ?_
                refine Run.pure (dd := some 74) rfl rfl (op_neq rfl (Opd.tmp _ _ rfl) (Opd.const _)) ?_
                refine Run.nil (FinR.mk ?_)
                refine nK ?_
                refine n_cond _ rfl (fun hb => ?_) (fun hb => ?_)
                · exfalso; simp at hb
                · refine nK ?_
                  refine s_reg rfl ?_
                  refine Run.pure (dd := some 75) rfl rfl (op_move rfl (Opd.tmp _ _ rfl)) ?_
                  refine Run.load (dd := some 76) rfl rfl (op_loadw_flat rfl (Opd.tmp _ _ rfl) tH rfl) ?_
                  refine Run.pure (dd := some 77) rfl rfl (op_buildSlice_fz rfl (RowsF.cons _ _ _ _ _ _ (Opd.tmp _ _ rfl) tC (by rfl) (RowsF.nil _)) rfl rfl) ?_
                  refine Run.eff (dd := some 78) rfl rfl (op_append rfl (Opd.tmp _ _ rfl) (Opd.tmp _ _ rfl) rfl (by simp) rfl rfl tB tB) ?_
                  refine Run.pure (dd := some 3) rfl rfl (op_assign rfl (Opd.tmp _ _ rfl)) ?_
                  refine Run.nil (FinR.mk ?_)
                  refine nK ?_
                  refine s_reg rfl ?_
                  refine Run.pure (dd := some 79) rfl rfl (op_add rfl (Opd.tmp _ _ rfl) (Opd.const _) tI) ?_
                  refine Run.pure (dd := some 26) rfl rfl (op_move rfl (Opd.tmp _ _ rfl)) ?_
                  refine Run.nil (FinR.mk ?_)
                  refine nK ?_
                  refine Next.weakS [3] [] (by rfl) (by first | exact keeps0 hC _ | exact keepsN hC _ rfl) (by repeat (first | exact trivial | refine ⟨⟨_, rfl, .inl ⟨rfl, rfl⟩⟩, ?_⟩ | refine ⟨⟨_, rfl, .inl ⟨slEq rfl tN, rfl⟩⟩, ?_⟩ | refine ⟨⟨_, rfl, .inl ⟨ivEq tX, rfl⟩⟩, ?_⟩)) (by repeat (first | exact trivial | refine ⟨ent_same rfl rfl rfl tL, ?_⟩ | refine ⟨ent_same rfl rfl (rfEq rfl tU) tL, ?_⟩ | refine ⟨ent_same rfl rfl (flEq rfl (by first | (simp; done) | (simp; omega) | (simp [encA, encH, encL, encU, encK, encV, encR, encE, encG]; done) | simp [maxC, minC])) trivial, ?_⟩)) rfl (hK4)
        · have hie : i = db.length := by simp at hb; omega
          rw [hie, List.take_length] at hS
          subst hS
          refine nK ?_
          refine Next.weak [] [0] (by rfl) (keeps0 hC _) (G' := [(0, .fz (VA db)), (3, .fz (VA (restL db)))]) (H' := []) (by repeat (first | exact trivial | refine ⟨⟨_, rfl, .inl ⟨rfl, rfl⟩⟩, ?_⟩ | refine ⟨⟨_, rfl, .inl ⟨slEq rfl tN, rfl⟩⟩, ?_⟩ | refine ⟨⟨_, rfl, .inl ⟨ivEq tX, rfl⟩⟩, ?_⟩ | refine ⟨⟨_, rfl, .inr ⟨_, rfl, tW⟩⟩, ?_⟩)) trivial (fun id h => by
            have h' : id = 0 := by simpa using h
            subst h'; exact ⟨_, rfl⟩) ?_
          refine nK ?_
          refine s_reg rfl ?_
          refine Run.pure (dd := some 81) rfl rfl (op_move rfl (Opd.tmp _ _ rfl)) ?_
          refine Run.pure (dd := some 82) rfl rfl (op_call_pure (fun _ => k1) rfl (Opd.func _) (Opds.cons _ _ _ _ (Opd.tmp _ _ rfl) Opds.nil)) ?_
          refine Run.pure (dd := some 80) rfl rfl (op_move rfl (Opd.tmp _ _ rfl)) ?_
          refine Run.pure (dd := some 83) rfl rfl (op_extract_fz rfl (Opd.tmp _ _ rfl) rfl) ?_
          refine Run.pure (dd := some 84) rfl rfl (op_extract_fz rfl (Opd.tmp _ _ rfl) rfl) ?_
          refine Run.eff (dd := some 10) rfl rfl (op_alloc rfl rfl rfl rfl) ?_
          refine Run.eff (dd := none) rfl rfl (op_store_flat rfl (Opd.tmp _ _ rfl) (Opd.tmp _ _ rfl) tC rfl rfl (by first | rfl | assumption) tS) ?_
          refine Run.pure (dd := some 11) rfl rfl (op_assign rfl (Opd.tmp _ _ rfl)) ?_
          refine Run.nil (FinR.mk ?_)
          refine nK ?_
          refine s_reg rfl ?_
          refine Run.pure (dd := some 86) rfl rfl (op_move rfl (Opd.tmp _ _ rfl)) ?_
          refine Run.pure (dd := some 87) rfl rfl (op_call_pure (fun _ => k2) rfl (Opd.func _) (Opds.cons _ _ _ _ (Opd.tmp _ _ rfl) Opds.nil)) ?_
          refine Run.pure (dd := some 85) rfl rfl (op_move rfl (Opd.tmp _ _ rfl)) ?_
          refine Run.pure (dd := some 88) rfl rfl (op_extract_fz rfl (Opd.tmp _ _ rfl) rfl) ?_
          refine Run.pure (dd := some 89) rfl rfl (op_extract_fz rfl (Opd.tmp _ _ rfl) rfl) ?_
          refine Run.eff (dd := some 12) rfl rfl (op_alloc rfl rfl rfl rfl) ?_
          refine Run.eff (dd := none) rfl rfl (op_store_flat rfl (Opd.tmp _ _ rfl) (Opd.tmp _ _ rfl) tC rfl rfl (by first | rfl | assumption) tS) ?_
          refine Run.pure (dd := some 13) rfl rfl (op_assign rfl (Opd.tmp _ _ rfl)) ?_
          refine Run.nil (FinR.mk ?_)
          refine nK ?_
          refine s_reg rfl ?_
          refine Run.pure (dd := some 90) rfl rfl (op_move rfl (Opd.tmp _ _ rfl)) ?_
          refine Run.pure (dd := some 91) rfl rfl (op_move rfl (Opd.tmp _ _ rfl)) ?_
          refine Run.pure (dd := some 92) rfl rfl (op_eql rfl (Opd.tmp _ _ rfl) (Opd.tmp _ _ rfl)) ?_
          refine Run.pure (dd := some 93) rfl rfl (op_move rfl (Opd.tmp _ _ rfl)) ?_
          refine Run.loadG (dd := some 94) rfl rfl rfl tG (op_loadw_flat rfl (Opd.tmp _ _ rfl) tH rfl) ?_
          refine Run.loadG (dd := some 95) rfl rfl rfl tG (op_loadw_flat rfl (Opd.tmp _ _ rfl) tH rfl) ?_
          refine Run.pureG (dd := some 96) rfl rfl rfl tG (op_call_pure (fun _ => k3) rfl (Opd.func _) (Opds.cons _ _ _ _ (Opd.topt _ _ _ rfl tO) (Opds.cons _ _ _ _ (Opd.topt _ _ _ rfl tO) Opds.nil))) ?_
          refine Run.pure (dd := some 97) rfl rfl (op_pick_and rfl (Opd.tmp _ _ rfl) (Opd.topt _ _ _ rfl tO)) ?_
          refine Run.pure (dd := some 98) rfl rfl (op_move rfl (Opd.tmp _ _ rfl)) ?_
          refine Run.pureG (dd := some 99) rfl rfl rfl tG (op_call_pure (fun _ => lives_c) rfl (Opd.func _) Opds.nil) ?_
          refine Run.pure (dd := some 100) rfl rfl (op_pick_and rfl (Opd.tmp _ _ rfl) (Opd.topt _ _ _ rfl tO)) ?_
          refine Run.pure (dd := some 2) rfl rfl (op_assign rfl (Opd.tmp _ _ rfl)) ?_
          refine Run.nil (FinR.mk ?_)
          refine nK ?_
          refine s_oB hC rfl rfl ?_
          simp
end Go.Proofs.Ytdhkioocjgpocaa
/- How the arguments of the rows read. -/
namespace Go.Proofs.Ytdhkioocjgpocaa
open Go Go.RT Go.Proofs Go.Pl
set_option linter.all false
variable {H : Type} {enc : TypeId × Value → H} {W : World} {ok : DataW H → Prop} {B : Nat}
theorem rdc_n : RdC ok enc Try.prog W 3 (fun fs => ∃ n, inr .i64 n ∧ fs = [If .i64 n]) := rdc_int (P := Try.prog) (t := 3) inferInstance
theorem rdc_u : RdC ok enc Try.prog W 42 (fun fs => ∃ n, inr .u32 n ∧ fs = [If .u32 n]) := rdc_int (P := Try.prog) (t := 42) inferInstance
theorem rdc_a : RdC ok enc Try.prog W 46 (fun fs => ∃ n, inr .u32 n ∧ fs = [If .u32 n]) := rdc_int (P := Try.prog) (t := 46) inferInstance
theorem rdc_b : RdC ok enc Try.prog W 4 (fun fs => ∃ b, fs = [Bf b]) := rdc_bool (P := Try.prog) (t := 4) inferInstance
theorem rdc_us (dn : DnOk H ok B) : RdC ok enc Try.prog W 29 (fun fs => ∃ l : List Int, (∀ x ∈ l, okU x) ∧ l.length ≤ B ∧ fs = [VU l]) :=
  (rdc_slice (P := Try.prog) (t := 29) (e := 42) dn inferInstance inferInstance (by decide) rdc_u).imp fun fs h => by
    obtain ⟨rows, hr, hl, rfl⟩ := h
    obtain ⟨l, rfl, ho⟩ := rows_of (enc := encU) (ok := okU) (fun fs h => h) hr
    exact ⟨l, ho, by simpa using hl, rfl⟩
theorem rdc_hdr (dn : DnOk H ok B) : RdC ok enc Try.prog W 44 (fun fs => ∃ e : Hdr, okH e ∧ fs = encH e) :=
  (rdc_struct (P := Try.prog) (t := 44) dn Try.underlying44 (by kernel_rfl) (.cons _ _ _ _ rdc_n (.cons _ _ _ _ rdc_u (.cons _ _ _ _ rdc_n (.cons _ _ _ _ rdc_u (.cons _ _ _ _ rdc_n (.cons _ _ _ _ rdc_n (.cons _ _ _ _ rdc_n .nil)))))))).imp fun fs h => by
    obtain ⟨_, _, rfl, ⟨a, ha, rfl⟩, _, _, rfl, ⟨b, hb, rfl⟩, _, _, rfl, ⟨c, hc, rfl⟩, _, _, rfl, ⟨d, hd, rfl⟩, _, _, rfl, ⟨e, he, rfl⟩, _, _, rfl, ⟨f, hf, rfl⟩, _, _, rfl, ⟨g, hg, rfl⟩, rfl⟩ := h
    exact ⟨⟨a, b, c, d, e, f, g⟩, ⟨ha, hb, hc, hd, he, hf, hg⟩, rfl⟩
theorem rdc_lnk (dn : DnOk H ok B) : RdC ok enc Try.prog W 50 (fun fs => ∃ e : Lnk, okK e ∧ fs = encL e) :=
  (rdc_struct (P := Try.prog) (t := 50) dn Try.underlying50 (by kernel_rfl) (.cons _ _ _ _ rdc_n (.cons _ _ _ _ rdc_u (.cons _ _ _ _ rdc_u (.cons _ _ _ _ rdc_n .nil))))).imp fun fs h => by
    obtain ⟨_, _, rfl, ⟨a, ha, rfl⟩, _, _, rfl, ⟨b, hb, rfl⟩, _, _, rfl, ⟨c, hc, rfl⟩, _, _, rfl, ⟨d, hd, rfl⟩, rfl⟩ := h
    exact ⟨⟨a, b, c, d⟩, ⟨ha, hb, hc, hd⟩, rfl⟩
theorem rdc_lnks (dn : DnOk H ok B) : RdC ok enc Try.prog W 45 (fun fs => ∃ l : List Lnk, (∀ x ∈ l, okK x) ∧ l.length ≤ B ∧ fs = [VL l]) :=
  (rdc_slice (P := Try.prog) (t := 45) (e := 50) dn inferInstance inferInstance (by decide) (rdc_lnk dn)).imp fun fs h => by
    obtain ⟨rows, hr, hl, rfl⟩ := h
    obtain ⟨l, rfl, ho⟩ := rows_of (enc := encL) (ok := okK) (fun fs h => h) hr
    exact ⟨l, ho, by simpa using hl, rfl⟩
theorem rdc_lsa (dn : DnOk H ok B) : RdC ok enc Try.prog W 48 (fun fs => ∃ e : Lsa, okA e ∧ fs = encA e) :=
  (rdc_struct (P := Try.prog) (t := 48) dn Try.underlying48 (by kernel_rfl) (.cons _ _ _ _ (rdc_hdr dn) (.cons _ _ _ _ rdc_b (.cons _ _ _ _ rdc_b (.cons _ _ _ _ (rdc_lnks dn) (.cons _ _ _ _ (rdc_us dn) (.cons _ _ _ _ rdc_n (.cons _ _ _ _ rdc_b (.cons _ _ _ _ rdc_a (.cons _ _ _ _ rdc_n .nil)))))))))).imp fun fs h => by
    obtain ⟨_, _, rfl, ⟨h, hh, rfl⟩, _, _, rfl, ⟨b1, rfl⟩, _, _, rfl, ⟨b2, rfl⟩, _, _, rfl, ⟨l, hl, _, rfl⟩, _, _, rfl, ⟨u, hu, _, rfl⟩, _, _, rfl, ⟨c, hc, rfl⟩, _, _, rfl, ⟨s, rfl⟩, _, _, rfl, ⟨f, hf, rfl⟩, _, _, rfl, ⟨t, ht, rfl⟩, rfl⟩ := h
    exact ⟨⟨h, b1, b2, l, u, c, s, f, t⟩, ⟨hh, hl, hu, hc, hf, ht⟩, rfl⟩
theorem rdc_lsas (dn : DnOk H ok B) : RdC ok enc Try.prog W 22 (fun fs => ∃ l : List Lsa, (∀ x ∈ l, okA x) ∧ l.length ≤ B ∧ fs = [VA l]) :=
  (rdc_slice (P := Try.prog) (t := 22) (e := 48) dn inferInstance inferInstance (by decide) (rdc_lsa dn)).imp fun fs h => by
    obtain ⟨rows, hr, hl, rfl⟩ := h
    obtain ⟨l, rfl, ho⟩ := rows_of (enc := encA) (ok := okA) (fun fs h => h) hr
    exact ⟨l, ho, by simpa using hl, rfl⟩
end Go.Proofs.Ytdhkioocjgpocaa
