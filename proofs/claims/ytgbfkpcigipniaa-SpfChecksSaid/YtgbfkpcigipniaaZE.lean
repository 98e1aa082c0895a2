/- A part of the proof: P17, HP11, HP12, P18, P19, P20, HP13, HP14, HP15, HP20, HP16, HP21, HP22, HP23, HF1, RT33, HF2, P30. -/
import Derived.Test.YtgbfkpcigipniaaZD
set_option linter.all false
namespace Go.Proofs.Ytgbfkpcigipniaa
open Go Go.RT Go.Proofs Go.Pl
set_option linter.all false
set_option maxRecDepth 20000
set_option maxHeartbeats 4000000
theorem hops_c (g : Gr) (a n : Nat) (d : List Int) (up : List (List Int)) (l2 : List Nat) (hn : n ≤ 128) (hd : d.length = n) (ha : a < n) (hup : UpOk n up) (hp : l2.Perm (ordA d a n)) (hs : l2.Pairwise (ltHd d)) : Pure Try.prog 30 [.agg (encG g), If .i64 a, VI d, VLL up] (VLL (hopsL g.r a n up l2)) := by
  have hl2 : ∀ v ∈ l2, v < n := fun v hv => ordA_lt (hp.mem_iff.1 hv)
  have hso := sorth_c d (ordA d a n) l2 (by omega) (fun v hv => by have := ordA_lt hv; omega) (by have := ordA_len d a n; omega) hp hs
  have hl2l : l2.length = (ordA d a n).length := hp.length_eq
  have hl2n := ordA_len d a n
  refine Meets.intro Try.func30 rfl (Nat.le_of_ble_eq_true rfl) fun C hC => ?_
  simp only [List.map, argEnv, Nat.reduceAdd]
  refine nK ?_
  refine s_reg rfl ?_
  refine Run.eff (dd := some 4) rfl rfl (op_box_flat rfl (Opd.tmp _ _ rfl) tC rfl) ?_
  refine Run.eff (dd := some 6) rfl rfl (op_box_flat rfl (Opd.tmp _ _ rfl) tC rfl) ?_
  refine Run.pure (dd := some 8) rfl rfl (op_assign rfl (Opd.const _)) ?_
  refine Run.nil (FinR.mk ?_)
  refine nK ?_
  refine s_reg rfl ?_
  refine Run.pure (dd := some 9) rfl rfl (op_assign rfl (Opd.const _)) ?_
  refine Run.nil (FinR.mk ?_)
  refine nK ?_
  refine Next.weakS [] [4, 6] (by rfl) (keeps0 hC _) (G' := [(1, IV .i64 a), (3, .fz (VLL up)), (4, .fz (.cellp (encG g))), (6, .fz (.cellp [VI d])), (9, .fz (.lit (.slice none 0 0)))]) (H' := []) (by repeat (first | exact trivial | refine ⟨⟨_, rfl, .inl ⟨rfl, rfl⟩⟩, ?_⟩ | refine ⟨⟨_, rfl, .inl ⟨slEq rfl tN, rfl⟩⟩, ?_⟩ | refine ⟨⟨_, rfl, .inl ⟨ivEq tX, rfl⟩⟩, ?_⟩ | refine ⟨⟨_, rfl, .inr ⟨_, rfl, tW⟩⟩, ?_⟩)) trivial rfl ?_
  refine Next.adopt 9 1 rfl ?_
  refine nK ?_
  refine s_reg rfl ?_
  refine Run.pure (dd := some 20) rfl rfl (op_load1_fz rfl (Opd.tmp _ _ rfl) rfl) ?_
  refine Run.pure (dd := some 21) rfl rfl (op_len_fz rfl (by first | exact Opd.tmp _ _ rfl | exact Opd.nil _ _ (Opd.tmp _ _ rfl)) (by first | exact List.length_map _ | rfl)) ?_
  refine Run.pure (dd := some 22) rfl rfl (op_move rfl (Opd.const _)) ?_
  refine Run.nil (FinR.mk ?_)
  refine nK ?_
  refine n_loop (ι := Nat) (fun i => ([(1, IV .i64 a), (3, .fz (VLL up)), (4, .fz (.cellp (encG g))), (6, .fz (.cellp [VI d])), (9, .sl 0 1 0 (ordA d a i).length), (20, .fz (VI d)), (21, IV .i64 n), (22, IV .i64 i)], [(0, OT (ordA d a i))], 1)) (fun i => i ≤ n) (fun i => n - i) 0 (Nat.zero_le _) ?_ ?_
  · refine Next.weak [0] [] (by rfl) (keepsN hC _ rfl) (by repeat (first | exact trivial | refine ⟨⟨_, rfl, .inl ⟨rfl, rfl⟩⟩, ?_⟩ | refine ⟨⟨_, rfl, .inl ⟨ivEq (by rw [List.length_map, hd]), rfl⟩⟩, ?_⟩ | refine ⟨⟨_, rfl, .inl ⟨ivEq (by rw [hd]), rfl⟩⟩, ?_⟩)) (by exact ⟨ent_same rfl rfl rfl tL, trivial⟩) (fun _ h => by simp at h) rel_intro
  · intro i hi K hK
    try dsimp only at hi hK ⊢
    have hol := ordA_len d a i
    refine nK ?_
    refine s_reg rfl ?_
    refine Run.pure (dd := some 23) rfl rfl (op_lss rfl (Opd.tmp _ _ rfl) (Opd.tmp _ _ rfl)) ?_
    refine Run.nil (FinR.mk ?_)
    refine nK ?_
    refine n_cond _ rfl (fun hb => ?_) (fun hb => ?_)
    · have hlt : i < n := by simp at hb; omega
      have hri := row_of encN d i 0 (by omega)
      have hgi : d.getD i 0 = gt0 d i := rfl
      rw [hgi] at hri
      have hK1 := hK (i + 1) (by omega) (by omega)
      rw [ordA_succ] at hK1
      refine nK ?_
      refine s_reg rfl ?_
      refine Run.pure (dd := some 24) rfl rfl (op_move rfl (Opd.tmp _ _ rfl)) ?_
      refine Run.pure (dd := some 25) rfl rfl (op_idx_fz i rfl (Opd.tmp _ _ rfl) (Opd.tmp _ _ rfl) (by intro _; exact ⟨rfl, hri⟩)) ?_
      refine Run.pure (dd := some 26) rfl rfl (op_load1_fz rfl (Opd.tmp _ _ rfl) rfl) ?_
      refine Run.pure (dd := some 10) rfl rfl (op_assign rfl (Opd.tmp _ _ rfl)) ?_
      refine Run.pure (dd := some 11) rfl rfl (op_assign rfl (Opd.tmp _ _ rfl)) ?_
      refine Run.nil (FinR.mk ?_)
      refine nK ?_
      refine s_reg rfl ?_
      refine Run.pure (dd := some 27) rfl rfl (op_move rfl (Opd.tmp _ _ rfl)) ?_
      refine Run.pure (dd := some 28) rfl rfl (op_neq rfl (Opd.tmp _ _ rfl) (Opd.const _)) ?_
      refine Run.pure (dd := some 29) rfl rfl (op_move rfl (Opd.tmp _ _ rfl)) ?_
      refine Run.pureG (dd := some 30) rfl rfl rfl tG (op_move rfl (Opd.tmp _ _ rfl)) ?_
      refine Run.pureG (dd := some 31) rfl rfl rfl tG (op_move rfl (Opd.tmp _ _ rfl)) ?_
      refine Run.pureG (dd := some 32) rfl rfl rfl tG (op_neq rfl (Opd.topt _ _ _ rfl tO) (Opd.topt _ _ _ rfl tO)) ?_
      refine Run.pure (dd := some 33) rfl rfl (op_pick_and rfl (Opd.tmp _ _ rfl) (Opd.topt _ _ _ rfl tO)) ?_
      refine Run.nil (FinR.mk ?_)
      refine nK ?_
      refine n_cond _ rfl (fun hb => ?_) (fun hb => ?_)
      · rw [if_pos (show ordP d a i = true from hb)] at hK1
        refine nK ?_
        refine s_reg rfl ?_
        refine Run.pure (dd := some 34) rfl rfl (op_move rfl (Opd.tmp _ _ rfl)) ?_
        refine Run.pure (dd := some 35) rfl rfl (op_move rfl (Opd.tmp _ _ rfl)) ?_
        refine Run.pure (dd := some 36) rfl rfl (op_buildSlice_fz rfl (RowsF.cons _ _ _ _ _ _ (Opd.tmp _ _ rfl) tC (by rfl) (RowsF.nil _)) rfl rfl) ?_
        refine Run.eff (dd := some 37) rfl rfl (op_append rfl (Opd.tmp _ _ rfl) (by first | exact Opd.tmp _ _ rfl | exact Opd.nil _ _ (Opd.tmp _ _ rfl)) rfl (by first | rfl | simp) rfl rfl tB tB) ?_
        refine Run.pure (dd := some 9) rfl rfl (op_assign rfl (Opd.tmp _ _ rfl)) ?_
        refine Run.nil (FinR.mk ?_)
        refine nK ?_
        refine s_reg rfl ?_
        refine Run.pure (dd := some 38) rfl rfl (op_add rfl (Opd.tmp _ _ rfl) (Opd.const _) tI) ?_
        refine Run.pure (dd := some 22) rfl rfl (op_move rfl (Opd.tmp _ _ rfl)) ?_
        refine Run.nil (FinR.mk ?_)
        refine nK ?_
        refine Next.weak [1] [] (by rfl) (keepsN hC _ rfl) (by repeat (first | exact trivial | refine ⟨⟨_, rfl, .inl ⟨rfl, rfl⟩⟩, ?_⟩ | refine ⟨⟨_, rfl, .inl ⟨slEq rfl tN, rfl⟩⟩, ?_⟩ | refine ⟨⟨_, rfl, .inl ⟨ivEq tX, rfl⟩⟩, ?_⟩)) (by exact ⟨ent_same rfl rfl (flEq rfl (by rw [List.map_append]; rfl)) trivial, trivial⟩) (fun _ h => by simp at h) hK1
      · rw [if_neg (show ¬ ordP d a i = true by rw [Bool.not_eq_true]; exact hb), List.append_nil] at hK1
        refine nK ?_
        refine s_reg rfl ?_
        refine Run.pure (dd := some 38) rfl rfl (op_add rfl (Opd.tmp _ _ rfl) (Opd.const _) tI) ?_
        refine Run.pure (dd := some 22) rfl rfl (op_move rfl (Opd.tmp _ _ rfl)) ?_
        refine Run.nil (FinR.mk ?_)
        refine nK ?_
        refine Next.weak [0] [] (by rfl) (keepsN hC _ rfl) (by repeat (first | exact trivial | refine ⟨⟨_, rfl, .inl ⟨rfl, rfl⟩⟩, ?_⟩ | refine ⟨⟨_, rfl, .inl ⟨slEq rfl tN, rfl⟩⟩, ?_⟩ | refine ⟨⟨_, rfl, .inl ⟨ivEq tX, rfl⟩⟩, ?_⟩)) (by exact ⟨ent_same rfl rfl rfl tL, trivial⟩) (fun _ h => by simp at h) hK1
    · have hie : n = i := by simp at hb; omega
      subst hie
      refine nK ?_
      refine s_reg rfl ?_
      refine Run.pure (dd := some 39) rfl rfl (op_move rfl (Opd.tmp _ _ rfl)) ?_
      refine Run.pure (dd := some 40) rfl rfl (op_makeFuncF (fs := [.cellp [VI d]]) rfl (Opds.cons _ _ _ _ (Opd.tmp _ _ rfl) Opds.nil)) ?_
      refine Run.eff (dd := some 41) rfl rfl (op_call (n := 1) (n' := 1) [0] (fun _ => hso) rfl (Opd.func _) (Opds.cons _ _ _ _ (Opd.tmp _ _ rfl) (Opds.cons _ _ _ _ (Opd.tmp _ _ rfl) Opds.nil)) rfl rfl (Lent.of rfl rfl (by exact ⟨⟨rfl, rfl, rfl, trivial⟩, trivial⟩) rfl) rfl rfl rfl rfl rfl) ?_
      refine Run.nil (FinR.mk ?_)
      refine nK ?_
      refine s_reg rfl ?_
      refine Run.pure (dd := some 42) rfl rfl (op_load1_fz rfl (Opd.tmp _ _ rfl) rfl) ?_
      refine Run.pure (dd := some 43) rfl rfl (op_len_fz rfl (by first | exact Opd.tmp _ _ rfl | exact Opd.nil _ _ (Opd.tmp _ _ rfl)) (by first | exact List.length_map _ | rfl)) ?_
      refine Run.eff (dd := some 44) rfl rfl (op_make (l := n) (c := n) rfl (Opd.tmp _ _ rfl) (Opd.tmp _ _ rfl) rfl rfl rfl rfl (by intro _; rw [hd]; refine ⟨rfl, rfl, ?_⟩; omega)) ?_
      refine Run.eff (dd := some 12) rfl rfl (op_allocP rfl rfl rfl rfl rfl) ?_
      refine Run.eff (dd := none) rfl rfl (op_store_refs rfl (Opd.tmp _ _ rfl) (Opd.tmp _ _ rfl) tP rfl rfl rfl tS) ?_
      refine Run.nil (FinR.mk ?_)
      refine nK ?_
      refine Next.toOwn 1 1 n rfl ?_
      refine Next.weak [2, 1] [0] (by rfl) (keepsN hC _ rfl) (G' := [(1, IV .i64 a), (3, .fz (VLL up)), (4, .fz (.cellp (encG g))), (9, .fz (.vals 1 (l2.map encT))), (12, .ptr 0 1 0 0)]) (H' := [(0, some (.refs 1 [[.sl 1 1 0 n]])), (1, some (.refs 1 (ownL 1 (rowsI (List.replicate n [])))))]) (by exact ⟨⟨_, rfl, .inl ⟨rfl, rfl⟩⟩, ⟨_, rfl, .inl ⟨rfl, rfl⟩⟩, ⟨_, rfl, .inl ⟨rfl, rfl⟩⟩, ⟨_, rfl, .inr ⟨_, rfl, .sl _ _ _ _ _ _ rfl rfl (take_all0 (by rw [List.length_map]; exact hl2l)) (by rw [List.length_map]; omega)⟩⟩, ⟨_, rfl, .inl ⟨rfl, rfl⟩⟩, trivial⟩) (by exact ⟨ent_same rfl rfl rfl tL, ⟨ent_own rfl rfl (by rw [rowsI_nil, ← ownL_rep]; rfl), trivial⟩⟩) (fun id h => by simp at h; subst h; exact ⟨_, rfl⟩) ?_
      refine nK ?_
      refine s_reg rfl ?_
      refine Run.pure (dd := some 45) rfl rfl (op_move rfl (Opd.tmp _ _ rfl)) ?_
      refine Run.pure (dd := some 46) rfl rfl (op_len_fz rfl (by first | exact Opd.tmp _ _ rfl | exact Opd.nil _ _ (Opd.tmp _ _ rfl)) (by first | exact List.length_map _ | rfl)) ?_
      refine Run.pure (dd := some 47) rfl rfl (op_move rfl (Opd.const _)) ?_
      refine Run.nil (FinR.mk ?_)
      refine nK ?_
      refine n_loop (ι := Nat) (fun i => ([(1, IV .i64 a), (3, .fz (VLL up)), (4, .fz (.cellp (encG g))), (12, .ptr 0 1 0 0), (45, .fz (.vals 1 (l2.map encT))), (46, IV .i64 l2.length), (47, IV .i64 i)], [(0, some (.refs 1 [[.sl 1 1 0 n]])), (1, some (.refs 1 (ownL 1 (rowsI ((l2.take i).foldl (hopsV g.r a up) (List.replicate n []))))))], 2)) (fun i => i ≤ l2.length) (fun i => l2.length - i) 0 (Nat.zero_le _) ?_ ?_
      · refine Next.weak [0, 1] [] (by rfl) (keepsN hC _ rfl) (by repeat (first | exact trivial | refine ⟨⟨_, rfl, .inl ⟨rfl, rfl⟩⟩, ?_⟩ | refine ⟨⟨_, rfl, .inl ⟨slEq rfl tN, rfl⟩⟩, ?_⟩ | refine ⟨⟨_, rfl, .inl ⟨ivEq tX, rfl⟩⟩, ?_⟩)) (by exact ⟨ent_same rfl rfl rfl tL, ⟨ent_own rfl rfl rfl, trivial⟩⟩) (fun _ h => by simp at h) rel_intro
      · intro i hi K2 hK2
        try dsimp only at hi hK2 ⊢
        have hli : LLok n ((l2.take i).foldl (hopsV g.r a up) (List.replicate n [])) := LLok.hops hup _ (LLok.nil n) fun x hx => hl2 x (List.mem_of_mem_take hx)
        refine nK ?_
        refine s_reg rfl ?_
        refine Run.pure (dd := some 48) rfl rfl (op_lss rfl (Opd.tmp _ _ rfl) (Opd.tmp _ _ rfl)) ?_
        refine Run.nil (FinR.mk ?_)
        refine nK ?_
        refine n_cond _ rfl (fun hb => ?_) (fun hb => ?_)
        · have hlt : i < l2.length := by simp at hb; omega
          have hri := row_at' encT l2 i hlt
          have hv := hl2 _ (List.getElem_mem hlt)
          have hK3 := hK2 (i + 1) (by omega) (by omega)
          rw [foldl_take_succ _ _ _ _ hlt] at hK3
          generalize (l2.take i).foldl (hopsV g.r a up) (List.replicate n []) = ll0 at *
          generalize l2[i] = v at *
          have hru := row_of encL up v [] (by rw [hup.len]; exact hv)
          obtain ⟨hrl, hrow⟩ := hup.row v hv
          have hhv : hopsV g.r a up ll0 v = (rowAt' up v).foldl (stepU g.r a v) ll0 := rfl
          have hgu : up.getD v [] = rowAt' up v := rfl
          rw [hhv] at hK3
          rw [hgu] at hru
          generalize rowAt' up v = row at *
          refine nK ?_
          refine s_reg rfl ?_
          refine Run.pure (dd := some 49) rfl rfl (op_idx_fz _ rfl (Opd.tmp _ _ rfl) (Opd.tmp _ _ rfl) tF) ?_
          refine Run.pure (dd := some 50) rfl rfl (op_load1_fz rfl (Opd.tmp _ _ rfl) rfl) ?_
          refine Run.eff (dd := some 14) rfl rfl (op_alloc rfl rfl rfl rfl) ?_
          refine Run.eff (dd := none) rfl rfl (op_store_flat rfl (Opd.tmp _ _ rfl) (Opd.tmp _ _ rfl) tC rfl rfl (by first | rfl | assumption) tS) ?_
          refine Run.nil (FinR.mk ?_)
          refine nK ?_
          refine Next.weak [0, 1] [2] (by rfl) (keepsN hC _ rfl) (G' := [(1, IV .i64 a), (3, .fz (VLL up)), (4, .fz (.cellp (encG g))), (12, .ptr 0 1 0 0), (45, .fz (.vals 1 (l2.map encT))), (46, IV .i64 l2.length), (47, IV .i64 i), (14, .fz (.cellp [If .i64 v]))]) (H' := [(0, some (.refs 1 [[.sl 1 1 0 n]])), (1, some (.refs 1 (ownL 1 (rowsI ll0))))]) (by repeat (first | exact trivial | refine ⟨⟨_, rfl, .inl ⟨rfl, rfl⟩⟩, ?_⟩ | refine ⟨⟨_, rfl, .inr ⟨_, rfl, tW⟩⟩, ?_⟩)) (by exact ⟨ent_same rfl rfl rfl tL, ⟨ent_own rfl rfl rfl, trivial⟩⟩) (fun id h => by simp at h; subst h; exact ⟨_, rfl⟩) ?_
          refine nK ?_
          refine s_reg rfl ?_
          refine Run.pure (dd := some 51) rfl rfl (op_makeFunc rfl Opds.nil (Opds.cons _ _ _ _ (Opd.tmp _ _ rfl) (Opds.cons _ _ _ _ (Opd.tmp _ _ rfl) (Opds.cons _ _ _ _ (Opd.tmp _ _ rfl) Opds.nil)))) ?_
          refine Run.pure (dd := some 15) rfl rfl (op_assign rfl (Opd.tmp _ _ rfl)) ?_
          refine Run.nil (FinR.mk ?_)
          refine nK ?_
          refine s_reg rfl ?_
          refine Run.pure (dd := some 52) rfl rfl (op_move rfl (Opd.tmp _ _ rfl)) ?_
          refine Run.pure (dd := some 53) rfl rfl (op_load1_fz rfl (Opd.tmp _ _ rfl) rfl) ?_
          refine Run.pure (dd := some 54) rfl rfl (op_idx_fz v rfl (Opd.tmp _ _ rfl) (Opd.tmp _ _ rfl) (by intro _; exact ⟨rfl, hru⟩)) ?_
          refine Run.pure (dd := some 55) rfl rfl (op_load1_fz rfl (Opd.tmp _ _ rfl) rfl) ?_
          refine Run.pure (dd := some 56) rfl rfl (op_len_fz rfl (by first | exact Opd.tmp _ _ rfl | exact Opd.nil _ _ (Opd.tmp _ _ rfl)) (by first | exact List.length_map _ | rfl)) ?_
          refine Run.pure (dd := some 57) rfl rfl (op_move rfl (Opd.const _)) ?_
          refine Run.nil (FinR.mk ?_)
          refine nK ?_
          refine n_loop (ι := Nat) (fun j => ([(1, IV .i64 a), (3, .fz (VLL up)), (4, .fz (.cellp (encG g))), (12, .ptr 0 1 0 0), (45, .fz (.vals 1 (l2.map encT))), (46, IV .i64 l2.length), (47, IV .i64 i), (14, .fz (.cellp [If .i64 v])), (15, .clo 55 [] [.fz (.cellp (encG g)), .fz (.cellp [If .i64 v]), .ptr 0 1 0 0]), (55, .fz (VI row)), (56, IV .i64 row.length), (57, IV .i64 j)], [(0, some (.refs 1 [[.sl 1 1 0 n]])), (1, some (.refs 1 (ownL 1 (rowsI ((row.take j).foldl (stepU g.r a v) ll0)))))], 2)) (fun j => j ≤ row.length) (fun j => row.length - j) 0 (Nat.zero_le _) ?_ ?_
          · refine Next.weak [0, 1] [] (by rfl) (keepsN hC _ rfl) (by repeat (first | exact trivial | refine ⟨⟨_, rfl, .inl ⟨rfl, rfl⟩⟩, ?_⟩ | refine ⟨⟨_, rfl, .inl ⟨slEq rfl tN, rfl⟩⟩, ?_⟩ | refine ⟨⟨_, rfl, .inl ⟨ivEq tX, rfl⟩⟩, ?_⟩)) (by exact ⟨ent_same rfl rfl rfl tL, ⟨ent_own rfl rfl rfl, trivial⟩⟩) (fun _ h => by simp at h) rel_intro
          · intro j hj K3 hK4
            try dsimp only at hj hK4 ⊢
            have hlj : LLok n ((row.take j).foldl (stepU g.r a v) ll0) := LLok.steps hv _ hli fun x hx => by have := hrow x (List.mem_of_mem_take hx); omega
            refine nK ?_
            refine s_reg rfl ?_
            refine Run.pure (dd := some 58) rfl rfl (op_lss rfl (Opd.tmp _ _ rfl) (Opd.tmp _ _ rfl)) ?_
            refine Run.nil (FinR.mk ?_)
            refine nK ?_
            refine n_cond _ rfl (fun hb => ?_) (fun hb => ?_)
            · have hltj : j < row.length := by simp at hb; omega
              have hrj := row_at' encN row j hltj
              obtain ⟨hu0, hu1, huv0⟩ := hrow _ (List.getElem_mem hltj)
              have hK3 := hK4 (j + 1) (by omega) (by omega)
              rw [foldl_take_succ _ _ _ _ hltj] at hK3
              generalize (row.take j).foldl (stepU g.r a v) ll0 = ll at *
              generalize row[j] = u at *
              have huv : u.toNat ≠ v := by omega
              have hrgu := rowsI_get (ll := ll) (v := u.toNat) (by rw [hlj.len]; omega)
              have hruok := (hlj.row u.toNat (by omega)).2
              have hrul := (hlj.row u.toNat (by omega)).len
              have hstp : stepU g.r a v ll u = (rowAt' ll u.toNat).foldl (mergeL g.r v) (if u = (a : Int) then mergeL g.r v ll (v : Int) else ll) := rfl
              have hge : ll.getD u.toNat [] = rowAt' ll u.toNat := rfl
              have hmo := merge_other g.r v ll (v : Int) huv
              have hruq : rowAt' ll u.toNat = rowAt' ll u.toNat := rfl
              rw [hge] at hrgu
              generalize hrue : rowAt' ll u.toNat = ru at *
              have hmv := merge_c g u.toNat v n ru.length ru ll v huv hlj.len hv hn (Nat.le_trans (hlj.row v hv).len (by omega))
              refine nK ?_
              refine s_reg rfl ?_
              refine Run.pure (dd := some 59) rfl rfl (op_idx_fz j rfl (Opd.tmp _ _ rfl) (Opd.tmp _ _ rfl) (by intro _; exact ⟨rfl, hrj⟩)) ?_
              refine Run.pure (dd := some 60) rfl rfl (op_load1_fz rfl (Opd.tmp _ _ rfl) rfl) ?_
              refine Run.pure (dd := some 17) rfl rfl (op_assign rfl (Opd.tmp _ _ rfl)) ?_
              refine Run.nil (FinR.mk ?_)
              refine nK ?_
              refine Next.take 1 u.toNat 0 rfl (ownL_get hrgu) rfl (rows' := tkL (rowsI ll) u.toNat ru.length) (by rw [List.length_map]; rfl) ?_
              refine nK ?_
              refine s_reg rfl ?_
              refine Run.pure (dd := some 61) rfl rfl (op_move rfl (Opd.tmp _ _ rfl)) ?_
              refine Run.pure (dd := some 62) rfl rfl (op_move rfl (Opd.tmp _ _ rfl)) ?_
              refine Run.pure (dd := some 63) rfl rfl (op_eql rfl (Opd.tmp _ _ rfl) (Opd.tmp _ _ rfl)) ?_
              refine Run.nil (FinR.mk ?_)
              refine nK ?_
              refine n_cond _ rfl (fun hb => ?_) (fun hb => ?_)
              · have hua : u = (a : Int) := by simpa using hb
                rw [if_pos hua] at hstp
                have hl1 := hlj.merge g.r hv (x := (v : Int)) (by omega)
                refine nK ?_
                refine s_reg rfl ?_
                refine Run.pure (dd := some 64) rfl rfl (op_move rfl (Opd.tmp _ _ rfl)) ?_
                refine Run.pure (dd := some 65) rfl rfl (op_load1_fz rfl (Opd.tmp _ _ rfl) rfl) ?_
                refine Run.eff (dd := some 66) rfl rfl (op_call (n := 3) (n' := 3) [0, 1, 2] (fun _ => hmv) rfl (Opd.tmp _ _ rfl) (Opds.cons _ _ _ _ (Opd.tmp _ _ rfl) Opds.nil) rfl rfl (Lent.of rfl rfl (by exact ⟨⟨rfl, rfl, rfl, tL⟩, ⟨rfl, rfl, congrArg some (renO_tk rfl _ _ _).symm, ltO_tk (by decide) _ _ _⟩, ⟨rfl, rfl, rfl, trivial⟩, trivial⟩) rfl) rfl rfl rfl rfl rfl) ?_
                refine Run.nil (FinR.mk ?_)
                refine nK ?_
                refine Next.weak [0, 1, 2] [] (by rfl) (keepsN hC _ rfl) (G' := [(1, IV .i64 a), (3, .fz (VLL up)), (4, .fz (.cellp (encG g))), (12, .ptr 0 1 0 0), (45, .fz (.vals 1 (l2.map encT))), (46, IV .i64 l2.length), (47, IV .i64 i), (14, .fz (.cellp [If .i64 v])), (15, .clo 55 [] [.fz (.cellp (encG g)), .fz (.cellp [If .i64 v]), .ptr 0 1 0 0]), (55, .fz (VI row)), (56, IV .i64 row.length), (57, IV .i64 j), (17, IV .i64 u)]) (H' := [(0, some (.refs 1 [[.sl 1 1 0 n]])), (1, some (.refs 1 (tkL (rowsI (mergeL g.r v ll (v : Int))) u.toNat ru.length))), (2, OI ru)]) (by repeat (first | exact trivial | refine ⟨⟨_, rfl, .inl ⟨rfl, rfl⟩⟩, ?_⟩ | refine ⟨⟨_, rfl, .inl ⟨slEq rfl tN, rfl⟩⟩, ?_⟩ | refine ⟨⟨_, rfl, .inl ⟨ivEq tX, rfl⟩⟩, ?_⟩)) (by exact ⟨ent_same rfl rfl rfl tL, ⟨ent_tk rfl rfl rfl (by decide) (congrArg some (renO_tk rfl _ _ _)), ⟨ent_same rfl rfl rfl tL, trivial⟩⟩⟩) (fun _ h => by simp at h) ?_
                generalize mergeL g.r v ll (v : Int) = ll1 at *
                have hl1 : LLok n ll1 := hl1
                have hru1 : rowAt' ll1 u.toNat = ru := hmo
                have hfin : ru.foldl (mergeL g.r v) ll1 = stepU g.r a v ll u := hstp.symm
                rw [← hfin] at hK3
                clear hfin
                refine nK ?_
                refine s_reg rfl ?_
                refine Run.load (dd := some 67) rfl rfl (op_load1_refs rfl (Opd.tmp _ _ rfl) tH rfl) ?_
                refine Run.pure (dd := some 68) rfl rfl (op_move rfl (Opd.tmp _ _ rfl)) ?_
                refine Run.pure (dd := some 69) rfl rfl (op_idx_sl0 u.toNat rfl (Opd.tmp _ _ rfl) (Opd.tmp _ _ rfl) (by intro _; omega)) ?_
                refine Run.load (dd := some 70) rfl rfl (op_load1_refs rfl (Opd.tmp _ _ rfl) (by intro _; exact ⟨rfl, set_get (ownL 1 (rowsI ll1)) u.toNat [.sl 2 1 0 ru.length] (by rw [ownL_len, rowsI_len, hl1.len]; omega)⟩) rfl) ?_
                refine Run.pure (dd := some 71) rfl rfl (op_len_sl rfl (Opd.tmp _ _ rfl)) ?_
                refine Run.pure (dd := some 72) rfl rfl (op_move rfl (Opd.const _)) ?_
                refine Run.nil (FinR.mk ?_)
                refine nK ?_
                refine n_loop (ι := Nat) (fun k => ([(1, IV .i64 a), (3, .fz (VLL up)), (4, .fz (.cellp (encG g))), (12, .ptr 0 1 0 0), (45, .fz (.vals 1 (l2.map encT))), (46, IV .i64 l2.length), (47, IV .i64 i), (14, .fz (.cellp [If .i64 v])), (15, .clo 55 [] [.fz (.cellp (encG g)), .fz (.cellp [If .i64 v]), .ptr 0 1 0 0]), (55, .fz (VI row)), (56, IV .i64 row.length), (57, IV .i64 j), (70, .sl 2 1 0 ru.length), (71, IV .i64 ru.length), (72, IV .i64 k)], [(0, some (.refs 1 [[.sl 1 1 0 n]])), (1, some (.refs 1 (tkL (rowsI ((ru.take k).foldl (mergeL g.r v) ll1)) u.toNat ru.length))), (2, OI ru)], 3)) (fun k => k ≤ ru.length) (fun k => ru.length - k) 0 (Nat.zero_le _) ?_ ?_
                · refine Next.weak [0, 1, 2] [] (by rfl) (keepsN hC _ rfl) (by repeat (first | exact trivial | refine ⟨⟨_, rfl, .inl ⟨rfl, rfl⟩⟩, ?_⟩ | refine ⟨⟨_, rfl, .inl ⟨slEq rfl tN, rfl⟩⟩, ?_⟩ | refine ⟨⟨_, rfl, .inl ⟨ivEq tX, rfl⟩⟩, ?_⟩)) (by exact ⟨ent_same rfl rfl rfl tL, ⟨ent_tk rfl rfl rfl (by decide) rfl, ⟨ent_same rfl rfl rfl tL, trivial⟩⟩⟩) (fun _ h => by simp at h) rel_intro
                · intro k hk K4 hK4
                  try dsimp only at hk hK4 ⊢
                  have hlk : LLok n ((ru.take k).foldl (mergeL g.r v) ll1) := LLok.fold hv _ hl1 fun x hx => hruok x (List.mem_of_mem_take hx)
                  have hok := fold_other (r := g.r) (v := v) (u := u.toNat) huv (ru.take k) ll1
                  refine nK ?_
                  refine s_reg rfl ?_
                  refine Run.pure (dd := some 73) rfl rfl (op_lss rfl (Opd.tmp _ _ rfl) (Opd.tmp _ _ rfl)) ?_
                  refine Run.nil (FinR.mk ?_)
                  refine nK ?_
                  refine n_cond _ rfl (fun hb => ?_) (fun hb => ?_)
                  · have hkl : k < ru.length := by simp at hb; omega
                    have hrk := row_at' encN ru k hkl
                    have hxk := hruok _ (List.getElem_mem hkl)
                    have hK5 := hK4 (k + 1) (by omega) (by omega)
                    rw [foldl_take_succ _ _ _ _ hkl] at hK5
                    have hmg := fun x => merge_c g u.toNat v n ru.length ru ((ru.take k).foldl (mergeL g.r v) ll1) x huv hlk.len hv hn (Nat.le_trans (hlk.row v hv).len (by omega))
                    generalize (ru.take k).foldl (mergeL g.r v) ll1 = llk at *
                    generalize ru[k] = x at *
                    refine nK ?_
                    refine s_reg rfl ?_
                    refine Run.pure (dd := some 74) rfl rfl (op_idx_sl0 k rfl (Opd.tmp _ _ rfl) (Opd.tmp _ _ rfl) (by intro _; exact ⟨rfl, hkl⟩)) ?_
                    refine Run.load (dd := some 75) rfl rfl (op_load1_flat rfl (Opd.tmp _ _ rfl) (by intro _; exact ⟨rfl, hrk⟩) rfl) ?_
                    refine Run.pure (dd := some 19) rfl rfl (op_assign rfl (Opd.tmp _ _ rfl)) ?_
                    refine Run.nil (FinR.mk ?_)
                    refine nK ?_
                    refine s_reg rfl ?_
                    refine Run.pure (dd := some 76) rfl rfl (op_move rfl (Opd.tmp _ _ rfl)) ?_
                    refine Run.pure (dd := some 77) rfl rfl (op_move rfl (Opd.tmp _ _ rfl)) ?_
                    refine Run.eff (dd := some 78) rfl rfl (op_call (n := 3) (n' := 3) [0, 1, 2] (fun _ => hmg x) rfl (Opd.tmp _ _ rfl) (Opds.cons _ _ _ _ (Opd.tmp _ _ rfl) Opds.nil) rfl rfl (Lent.of rfl rfl (by exact ⟨⟨rfl, rfl, rfl, tL⟩, ⟨rfl, rfl, congrArg some (renO_tk rfl _ _ _).symm, ltO_tk (by decide) _ _ _⟩, ⟨rfl, rfl, rfl, trivial⟩, trivial⟩) rfl) rfl rfl rfl rfl rfl) ?_
                    refine Run.nil (FinR.mk ?_)
                    refine nK ?_
                    refine s_reg rfl ?_
                    refine Run.pure (dd := some 79) rfl rfl (op_add rfl (Opd.tmp _ _ rfl) (Opd.const _) tI) ?_
                    refine Run.pure (dd := some 72) rfl rfl (op_move rfl (Opd.tmp _ _ rfl)) ?_
                    refine Run.nil (FinR.mk ?_)
                    refine nK ?_
                    refine Next.weak [0, 1, 2] [] (by rfl) (keepsN hC _ rfl) (by repeat (first | exact trivial | refine ⟨⟨_, rfl, .inl ⟨rfl, rfl⟩⟩, ?_⟩ | refine ⟨⟨_, rfl, .inl ⟨slEq rfl tN, rfl⟩⟩, ?_⟩ | refine ⟨⟨_, rfl, .inl ⟨ivEq tX, rfl⟩⟩, ?_⟩)) (by exact ⟨ent_same rfl rfl rfl tL, ⟨ent_tk rfl rfl rfl (by decide) (congrArg some (renO_tk rfl _ _ _)), ⟨ent_same rfl rfl rfl tL, trivial⟩⟩⟩) (fun _ h => by simp at h) hK5
                  · have hke : k = ru.length := by simp at hb; omega
                    subst hke
                    rw [List.take_length] at *
                    refine nK ?_
                    refine s_reg rfl ?_
                    refine Run.pure (dd := some 80) rfl rfl (op_add rfl (Opd.tmp _ _ rfl) (Opd.const _) tI) ?_
                    refine Run.pure (dd := some 57) rfl rfl (op_move rfl (Opd.tmp _ _ rfl)) ?_
                    refine Run.nil (FinR.mk ?_)
                    refine nK ?_
                    refine Next.untake 1 u.toNat 0 rfl (set_get _ _ _ (by rw [ownL_len, rowsI_len, hlk.len]; omega)) rfl rfl (List.length_map _) (tk_put (by rw [rowsI_get (by rw [hlk.len]; omega)]; exact congrArg (fun r => some (r.map encN)) (hok.trans hru1))) ?_
                    refine Next.weak [0, 1] [] (by rfl) (keepsN hC _ rfl) (by repeat (first | exact trivial | refine ⟨⟨_, rfl, .inl ⟨rfl, rfl⟩⟩, ?_⟩ | refine ⟨⟨_, rfl, .inl ⟨slEq rfl tN, rfl⟩⟩, ?_⟩ | refine ⟨⟨_, rfl, .inl ⟨ivEq tX, rfl⟩⟩, ?_⟩)) (by exact ⟨ent_same rfl rfl rfl tL, ⟨ent_own rfl rfl rfl, trivial⟩⟩) (fun _ h => by simp at h) hK3
              · have hua : ¬ u = (a : Int) := by simpa using hb
                rw [if_neg hua] at hstp
                have hl1 : LLok n ll := hlj
                have hru1 : rowAt' ll u.toNat = ru := hrue
                have hfin : ru.foldl (mergeL g.r v) ll = stepU g.r a v ll u := hstp.symm
                rw [← hfin] at hK3
                clear hfin
                refine nK ?_
                refine s_reg rfl ?_
                refine Run.load (dd := some 67) rfl rfl (op_load1_refs rfl (Opd.tmp _ _ rfl) tH rfl) ?_
                refine Run.pure (dd := some 68) rfl rfl (op_move rfl (Opd.tmp _ _ rfl)) ?_
                refine Run.pure (dd := some 69) rfl rfl (op_idx_sl0 u.toNat rfl (Opd.tmp _ _ rfl) (Opd.tmp _ _ rfl) (by intro _; omega)) ?_
                refine Run.load (dd := some 70) rfl rfl (op_load1_refs rfl (Opd.tmp _ _ rfl) (by intro _; exact ⟨rfl, set_get (ownL 1 (rowsI ll)) u.toNat [.sl 2 1 0 ru.length] (by rw [ownL_len, rowsI_len, hl1.len]; omega)⟩) rfl) ?_
                refine Run.pure (dd := some 71) rfl rfl (op_len_sl rfl (Opd.tmp _ _ rfl)) ?_
                refine Run.pure (dd := some 72) rfl rfl (op_move rfl (Opd.const _)) ?_
                refine Run.nil (FinR.mk ?_)
                refine nK ?_
                refine n_loop (ι := Nat) (fun k => ([(1, IV .i64 a), (3, .fz (VLL up)), (4, .fz (.cellp (encG g))), (12, .ptr 0 1 0 0), (45, .fz (.vals 1 (l2.map encT))), (46, IV .i64 l2.length), (47, IV .i64 i), (14, .fz (.cellp [If .i64 v])), (15, .clo 55 [] [.fz (.cellp (encG g)), .fz (.cellp [If .i64 v]), .ptr 0 1 0 0]), (55, .fz (VI row)), (56, IV .i64 row.length), (57, IV .i64 j), (70, .sl 2 1 0 ru.length), (71, IV .i64 ru.length), (72, IV .i64 k)], [(0, some (.refs 1 [[.sl 1 1 0 n]])), (1, some (.refs 1 (tkL (rowsI ((ru.take k).foldl (mergeL g.r v) ll)) u.toNat ru.length))), (2, OI ru)], 3)) (fun k => k ≤ ru.length) (fun k => ru.length - k) 0 (Nat.zero_le _) ?_ ?_
                · refine Next.weak [0, 1, 2] [] (by rfl) (keepsN hC _ rfl) (by repeat (first | exact trivial | refine ⟨⟨_, rfl, .inl ⟨rfl, rfl⟩⟩, ?_⟩ | refine ⟨⟨_, rfl, .inl ⟨slEq rfl tN, rfl⟩⟩, ?_⟩ | refine ⟨⟨_, rfl, .inl ⟨ivEq tX, rfl⟩⟩, ?_⟩)) (by exact ⟨ent_same rfl rfl rfl tL, ⟨ent_tk rfl rfl rfl (by decide) rfl, ⟨ent_same rfl rfl rfl tL, trivial⟩⟩⟩) (fun _ h => by simp at h) rel_intro
                · intro k hk K4 hK4
                  try dsimp only at hk hK4 ⊢
                  have hlk : LLok n ((ru.take k).foldl (mergeL g.r v) ll) := LLok.fold hv _ hl1 fun x hx => hruok x (List.mem_of_mem_take hx)
                  have hok := fold_other (r := g.r) (v := v) (u := u.toNat) huv (ru.take k) ll
                  refine nK ?_
                  refine s_reg rfl ?_
                  refine Run.pure (dd := some 73) rfl rfl (op_lss rfl (Opd.tmp _ _ rfl) (Opd.tmp _ _ rfl)) ?_
                  refine Run.nil (FinR.mk ?_)
                  refine nK ?_
                  refine n_cond _ rfl (fun hb => ?_) (fun hb => ?_)
                  · have hkl : k < ru.length := by simp at hb; omega
                    have hrk := row_at' encN ru k hkl
                    have hxk := hruok _ (List.getElem_mem hkl)
                    have hK5 := hK4 (k + 1) (by omega) (by omega)
                    rw [foldl_take_succ _ _ _ _ hkl] at hK5
                    have hmg := fun x => merge_c g u.toNat v n ru.length ru ((ru.take k).foldl (mergeL g.r v) ll) x huv hlk.len hv hn (Nat.le_trans (hlk.row v hv).len (by omega))
                    generalize (ru.take k).foldl (mergeL g.r v) ll = llk at *
                    generalize ru[k] = x at *
                    refine nK ?_
                    refine s_reg rfl ?_
                    refine Run.pure (dd := some 74) rfl rfl (op_idx_sl0 k rfl (Opd.tmp _ _ rfl) (Opd.tmp _ _ rfl) (by intro _; exact ⟨rfl, hkl⟩)) ?_
                    refine Run.load (dd := some 75) rfl rfl (op_load1_flat rfl (Opd.tmp _ _ rfl) (by intro _; exact ⟨rfl, hrk⟩) rfl) ?_
                    refine Run.pure (dd := some 19) rfl rfl (op_assign rfl (Opd.tmp _ _ rfl)) ?_
                    refine Run.nil (FinR.mk ?_)
                    refine nK ?_
                    refine s_reg rfl ?_
                    refine Run.pure (dd := some 76) rfl rfl (op_move rfl (Opd.tmp _ _ rfl)) ?_
                    refine Run.pure (dd := some 77) rfl rfl (op_move rfl (Opd.tmp _ _ rfl)) ?_
                    refine Run.eff (dd := some 78) rfl rfl (op_call (n := 3) (n' := 3) [0, 1, 2] (fun _ => hmg x) rfl (Opd.tmp _ _ rfl) (Opds.cons _ _ _ _ (Opd.tmp _ _ rfl) Opds.nil) rfl rfl (Lent.of rfl rfl (by exact ⟨⟨rfl, rfl, rfl, tL⟩, ⟨rfl, rfl, congrArg some (renO_tk rfl _ _ _).symm, ltO_tk (by decide) _ _ _⟩, ⟨rfl, rfl, rfl, trivial⟩, trivial⟩) rfl) rfl rfl rfl rfl rfl) ?_
                    refine Run.nil (FinR.mk ?_)
                    refine nK ?_
                    refine s_reg rfl ?_
                    refine Run.pure (dd := some 79) rfl rfl (op_add rfl (Opd.tmp _ _ rfl) (Opd.const _) tI) ?_
                    refine Run.pure (dd := some 72) rfl rfl (op_move rfl (Opd.tmp _ _ rfl)) ?_
                    refine Run.nil (FinR.mk ?_)
                    refine nK ?_
                    refine Next.weak [0, 1, 2] [] (by rfl) (keepsN hC _ rfl) (by repeat (first | exact trivial | refine ⟨⟨_, rfl, .inl ⟨rfl, rfl⟩⟩, ?_⟩ | refine ⟨⟨_, rfl, .inl ⟨slEq rfl tN, rfl⟩⟩, ?_⟩ | refine ⟨⟨_, rfl, .inl ⟨ivEq tX, rfl⟩⟩, ?_⟩)) (by exact ⟨ent_same rfl rfl rfl tL, ⟨ent_tk rfl rfl rfl (by decide) (congrArg some (renO_tk rfl _ _ _)), ⟨ent_same rfl rfl rfl tL, trivial⟩⟩⟩) (fun _ h => by simp at h) hK5
                  · have hke : k = ru.length := by simp at hb; omega
                    subst hke
                    rw [List.take_length] at *
                    refine nK ?_
                    refine s_reg rfl ?_
                    refine Run.pure (dd := some 80) rfl rfl (op_add rfl (Opd.tmp _ _ rfl) (Opd.const _) tI) ?_
                    refine Run.pure (dd := some 57) rfl rfl (op_move rfl (Opd.tmp _ _ rfl)) ?_
                    refine Run.nil (FinR.mk ?_)
                    refine nK ?_
                    refine Next.untake 1 u.toNat 0 rfl (set_get _ _ _ (by rw [ownL_len, rowsI_len, hlk.len]; omega)) rfl rfl (List.length_map _) (tk_put (by rw [rowsI_get (by rw [hlk.len]; omega)]; exact congrArg (fun r => some (r.map encN)) (hok.trans hru1))) ?_
                    refine Next.weak [0, 1] [] (by rfl) (keepsN hC _ rfl) (by repeat (first | exact trivial | refine ⟨⟨_, rfl, .inl ⟨rfl, rfl⟩⟩, ?_⟩ | refine ⟨⟨_, rfl, .inl ⟨slEq rfl tN, rfl⟩⟩, ?_⟩ | refine ⟨⟨_, rfl, .inl ⟨ivEq tX, rfl⟩⟩, ?_⟩)) (by exact ⟨ent_same rfl rfl rfl tL, ⟨ent_own rfl rfl rfl, trivial⟩⟩) (fun _ h => by simp at h) hK3
            · have hje : j = row.length := by simp at hb; omega
              subst hje
              rw [List.take_length] at *
              refine nK ?_
              refine s_reg rfl ?_
              refine Run.pure (dd := some 81) rfl rfl (op_add rfl (Opd.tmp _ _ rfl) (Opd.const _) tI) ?_
              refine Run.pure (dd := some 47) rfl rfl (op_move rfl (Opd.tmp _ _ rfl)) ?_
              refine Run.nil (FinR.mk ?_)
              refine nK ?_
              refine Next.weak [0, 1] [] (by rfl) (keepsN hC _ rfl) (by repeat (first | exact trivial | refine ⟨⟨_, rfl, .inl ⟨rfl, rfl⟩⟩, ?_⟩ | refine ⟨⟨_, rfl, .inl ⟨slEq rfl tN, rfl⟩⟩, ?_⟩ | refine ⟨⟨_, rfl, .inl ⟨ivEq tX, rfl⟩⟩, ?_⟩)) (by exact ⟨ent_same rfl rfl rfl tL, ⟨ent_own rfl rfl rfl, trivial⟩⟩) (fun _ h => by simp at h) hK3
        · have hie : i = l2.length := by simp at hb; omega
          subst hie
          rw [List.take_length] at *
          refine Next.freezeOwn 1 rfl rfl ?_
          refine nK ?_
          refine s_reg rfl ?_
          refine Run.load (dd := some 82) rfl rfl (op_load1_refs rfl (Opd.tmp _ _ rfl) tH rfl) ?_
          refine Run.pure (dd := some 8) rfl rfl (op_assign rfl (Opd.tmp _ _ rfl)) ?_
          refine Run.nil (FinR.mk ?_)
          refine nK ?_
          have hFl : (fzL 1 (rowsI (hopsL g.r a n up l2))).length = n := by rw [fzL_len, rowsI_len]; exact hli.len
          refine Next.weakS [] [8] (by rfl) (keeps0 hC _) (G' := [(8, .fz (VLL (hopsL g.r a n up l2)))]) (H' := []) ⟨⟨_, rfl, .inr ⟨_, rfl, .sl _ _ _ _ _ _ rfl rfl ((take_all0 hFl).trans (fz_rowsI _)) (by rw [← fz_rowsI, hFl])⟩⟩, trivial⟩ trivial rfl ?_
          exact n_out1 rfl (by rfl) rfl rfl
end Go.Proofs.Ytgbfkpcigipniaa
namespace Go.Pl
open Go Go.RT
set_option linter.all false
structure Tr where
  root : Int
  dist : List Int
  hops : List (List Int)
  par : List (List Int)
  deriving DecidableEq
def encTr (t : Tr) : List FV := [If .i64 t.root, VI t.dist, VLL t.hops, VLL t.par]
abbrev OTr (t : Tr) : Option Ob := some (.flat 4 [encTr t])
def zeroT : Tr := ⟨0, [], [], []⟩
/-- what a shortest-path run makes -/
structure RunOk (g : Gr) (a : Nat) (t : Tr) : Prop where
  ok : checkI g = 0
  lt : (a : Int) < g.r
  root : t.root = a
  dl : t.dist.length = (g.r + g.n).toNat
  dist : ∀ v, v < (g.r + g.n).toNat → IsD g.es a v (gt0 t.dist v)
  par : t.par = parL g.es a t.dist (g.r + g.n).toNat
  hops : ∃ l2 : List Nat, l2.Perm (ordA t.dist a (g.r + g.n).toNat) ∧ l2.Pairwise (ltHd t.dist) ∧ t.hops = hopsL g.r a (g.r + g.n).toNat t.par l2
theorem IsD.ge {es : List Edg} {r n a v : Nat} {d : Int} (vg : VG es r n) (h : IsD es a v d) : -1 ≤ d := by
  rcases h with ⟨h, _⟩ | ⟨h, _⟩
  · omega
  · have := h.nn vg; omega
theorem parE_len (es : List Edg) (a : Nat) (d : List Int) (v : Nat) : (parE es a d v).length ≤ es.length := by unfold parE; rw [List.length_map]; exact List.length_filter_le _ _
theorem parL_ok {es : List Edg} {r n : Nat} (vg : VG es r n) (a : Nat) (d : List Int) : UpOk n (parL es a d n) := by
  refine ⟨parL_len _ _ _ _, fun v hv => ?_⟩
  have e : rowAt' (parL es a d n) v = parE es a d v := parL_get es a d hv
  rw [e]
  refine ⟨by have := parE_len es a d v; have := vg.e1024; omega, fun u hu => ?_⟩
  obtain ⟨x, hx, rfl⟩ := List.mem_map.1 hu
  obtain ⟨h1, h2⟩ := List.mem_filter.1 hx
  simp only [Bool.and_eq_true, decide_eq_true_eq] at h2
  have := vg.f x h1; have := vg.ne x h1
  exact ⟨by omega, by omega, fun e => by omega⟩
/-- a bound on distances -/
theorem IsD.le {es : List Edg} {r n a v : Nat} {d : Int} (vg : VG es r n) (ha : a < n) (h : IsD es a v d) {D : List Int} (hl : D.length = n) (hD : ∀ v, v < n → IsD es a v (gt0 D v)) (hk : ∀ v, v < n → gt0 D v ≤ 10000000) (hv : v < n) : d ≤ 10000000 := by
  rw [h.uniq (hD v hv)]; exact hk v hv
end Go.Pl
namespace Go.Pl
open Go Go.RT
set_option linter.all false
theorem relax_ex {es : List Edg} {r n a x : Nat} {kx : Int} {dist : List Int} (vg : VG es r n) (hx : gt0 dist x = kx) (h0 : 0 ≤ kx) (hb : kx + 65535 ≤ 65535 * cntP dist) : ∀ (todo : List Edg) (h : Hq), (∀ e ∈ todo, e ∈ es ∧ e.f = (x : Int)) → DJ es n a dist h todo → ∃ h', DJ es n a dist h' []
  | [], h, _, o => ⟨h, o⟩
  | e :: todo, h, ht, o => by
    obtain ⟨he, hef⟩ := ht e (by simp)
    have hfx : gt0 dist e.f.toNat = kx := by rw [hef, Int.toNat_natCast]; exact hx
    by_cases hc : gt0 dist e.t.toNat < 0 ∧ (h.place e.t.toNat < 0 ∨ gt0 dist e.f.toNat + e.c < h.key e.t.toNat)
    · exact relax_ex vg hx h0 hb todo _ (fun e' h' => ht e' (by simp [h'])) (o.put vg he (by omega) (by omega) hc)
    · exact relax_ex vg hx h0 hb todo _ (fun e' h' => ht e' (by simp [h'])) (o.skip vg hc)
theorem run_ex {es : List Edg} {r n a : Nat} (vg : VG es r n) (ha : a < n) : ∀ (m : Nat) (dist : List Int) (h : Hq), n - cntP dist ≤ m → DJ es n a dist h [] → (∀ v, v < n → gt0 dist v ≤ 65535 * cntP dist) → ∃ D : List Int, D.length = n ∧ (∀ v, v < n → IsD es a v (gt0 D v)) ∧ ∀ v, v < n → gt0 D v ≤ 8388480
  | m, dist, h, hm, o, hb => by
    by_cases he : h.it = []
    · refine ⟨dist, o.dl, fun v hv => o.done vg ha he hv, fun v hv => ?_⟩
      have h1 := hb v hv
      have h2 := cntP_le dist
      have h3 := vg.n128
      rw [o.dl] at h2; omega
    · have hne : 0 < h.it.length := Nat.pos_of_ne_zero fun e => he (List.length_eq_zero_iff.1 e)
      obtain ⟨x1, x2, x3, x4, x5, x6⟩ := o.pop vg ha hne
      have hcl := cntP_le (dist.set (h.item 0) (h.key (h.item 0)))
      rw [List.length_set, o.dl] at hcl
      have hget : ∀ v, gt0 (dist.set (h.item 0) (h.key (h.item 0))) v = if h.item 0 = v then h.key (h.item 0) else gt0 dist v := fun v => getD_set _ _ _ _ _ (by rw [o.dl]; exact x1)
      obtain ⟨h', o'⟩ := relax_ex vg (by rw [hget, if_pos rfl]) x3 (by rw [x5]; omega) _ _ (fun e he => by simpa using he) x6
      match m with
      | 0 => omega
      | m + 1 =>
        refine run_ex vg ha m _ h' (by omega) o' fun v hv => ?_
        rw [hget, x5]
        have := hb v hv
        split <;> omega
theorem dist_ex {es : List Edg} {r n a : Nat} (vg : VG es r n) (ha : a < n) : ∃ D : List Int, D.length = n ∧ (∀ v, v < n → IsD es a v (gt0 D v)) ∧ ∀ v, v < n → gt0 D v ≤ 8388480 := by
  obtain ⟨o, h0⟩ := DJ.start vg ha
  refine run_ex vg ha n _ _ (by omega) o fun v hv => ?_
  rw [h0]
  have : gt0 (List.replicate n (-1)) v = -1 := getD_rep _ _ _ _ hv
  rw [this]; omega
theorem IsD.small {es : List Edg} {r n a v : Nat} {d : Int} (vg : VG es r n) (ha : a < n) (hv : v < n) (h : IsD es a v d) : -1 ≤ d ∧ d ≤ 8388480 := by
  obtain ⟨D, h1, h2, h3⟩ := dist_ex vg ha
  rw [h.uniq (h2 v hv)]
  exact ⟨(h2 v hv).ge vg, h3 v hv⟩
theorem srt_ex (d : List Int) : ∀ (l : List Nat), l.Nodup → ∃ l2 : List Nat, l2.Perm l ∧ l2.Pairwise (ltHd d)
  | [], _ => ⟨[], .nil, .nil⟩
  | x :: l, h => by
    obtain ⟨h1, h2⟩ := List.nodup_cons.1 h
    obtain ⟨l2, p, q⟩ := srt_ex d l h2
    have : ∀ (l2 : List Nat), x ∉ l2 → l2.Pairwise (ltHd d) → ∃ l3 : List Nat, l3.Perm (x :: l2) ∧ l3.Pairwise (ltHd d) := by
      intro l2
      induction l2 with
      | nil => exact fun _ _ => ⟨[x], .refl _, by simp⟩
      | cons y l2 ih =>
        intro hx hq
        obtain ⟨q1, q2⟩ := List.pairwise_cons.1 hq
        by_cases hxy : ltHd d x y
        · refine ⟨x :: y :: l2, .refl _, List.pairwise_cons.2 ⟨fun z hz => ?_, hq⟩⟩
          rcases List.mem_cons.1 hz with rfl | hz
          · exact hxy
          · have := q1 z hz; unfold ltHd at *; omega
        · obtain ⟨l3, p3, q3⟩ := ih (fun e => hx (by simp [e])) q2
          refine ⟨y :: l3, (p3.cons y).trans (List.Perm.swap x y l2), List.pairwise_cons.2 ⟨fun z hz => ?_, q3⟩⟩
          rcases List.mem_cons.1 (p3.mem_iff.1 hz) with rfl | hz
          · have hne : z ≠ y := fun e => hx (by simp [e])
            unfold ltHd at *; omega
          · exact q1 z hz
    obtain ⟨l3, p3, q3⟩ := this l2 (fun e => h1 (p.mem_iff.1 e)) q
    exact ⟨l3, p3.trans (p.cons x), q3⟩
theorem run_exists {g : Gr} {a : Nat} (h : checkI g = 0) (ha : (a : Int) < g.r) : ∃ t, RunOk g a t := by
  obtain ⟨vg, h0, h1⟩ := checkI_vg h
  obtain ⟨D, d1, d2, d3⟩ := dist_ex vg (a := a) (by omega)
  obtain ⟨l2, p, q⟩ := srt_ex D (ordA D a (g.r + g.n).toNat) (List.nodup_range.filter _)
  exact ⟨⟨a, D, hopsL g.r a (g.r + g.n).toNat (parL g.es a D (g.r + g.n).toNat) l2, parL g.es a D (g.r + g.n).toNat⟩, h, ha, rfl, d1, d2, rfl, l2, p, q, rfl⟩
end Go.Pl
namespace Go.Proofs.Ytgbfkpcigipniaa
open Go Go.RT Go.Proofs Go.Pl
set_option linter.all false
set_option maxRecDepth 20000
set_option maxHeartbeats 2000000
theorem run_bad (g : Gr) (a : Int) (hok : okG g) (hg : checkI g ≠ 0) : Pure Try.prog 12 [.agg (encG g), If .i64 a] (.tup [.agg (encTr zeroT), If .i64 (checkI g)]) := by
  refine Meets.intro Try.func12 rfl (Nat.le_of_ble_eq_true rfl) fun C hC => ?_
  simp only [List.map, argEnv, Nat.reduceAdd]
  refine nK ?_
  refine s_reg rfl ?_
  refine Run.eff (dd := some 2) rfl rfl (op_box_flat rfl (Opd.tmp _ _ rfl) tC rfl) ?_
  refine Run.eff (dd := some 4) rfl rfl (op_alloc rfl rfl rfl rfl) ?_
  refine Run.pure (dd := some 5) rfl rfl (op_assign rfl (Opd.const _)) ?_
  refine Run.nil (FinR.mk ?_)
  refine nK ?_
  refine s_reg rfl ?_
  refine Run.load (dd := some 8) rfl rfl (op_loadw_flat rfl (Opd.tmp _ _ rfl) tH rfl) ?_
  refine Run.pure (dd := some 9) rfl rfl (op_call_pure (fun _ => check_c _ (by assumption)) rfl (Opd.func _) (Opds.cons _ _ _ _ (Opd.tmp _ _ rfl) Opds.nil)) ?_
  refine Run.pure (dd := some 6) rfl rfl (op_assign rfl (Opd.tmp _ _ rfl)) ?_
  refine Run.nil (FinR.mk ?_)
  refine nK ?_
  refine s_reg rfl ?_
  refine Run.pure (dd := some 10) rfl rfl (op_move rfl (Opd.tmp _ _ rfl)) ?_
  refine Run.pure (dd := some 11) rfl rfl (op_neq rfl (Opd.tmp _ _ rfl) (Opd.const _)) ?_
  refine Run.nil (FinR.mk ?_)
  refine nK ?_
  refine n_cond _ rfl (fun hb => ?_) (fun hb => ?_)
  · refine nK ?_
    refine s_reg rfl ?_
    refine Run.pure (dd := some 12) rfl rfl (op_build rfl rfl rfl (FillF.nil _)) ?_
    refine Run.pure (dd := some 13) rfl rfl (op_move rfl (Opd.tmp _ _ rfl)) ?_
    refine Run.eff (dd := none) rfl rfl (op_store_flat rfl (Opd.tmp _ _ rfl) (Opd.tmp _ _ rfl) tC rfl rfl (by first | rfl | assumption) tS) ?_
    refine Run.pure (dd := some 5) rfl rfl (op_assign rfl (Opd.tmp _ _ rfl)) ?_
    refine Run.nil (FinR.mk ?_)
    refine nK ?_
    (refine Next.weakS [4] [] (by rfl) (keeps0 hC _) (G' := [(4, .ptr 0 4 0 0), (5, .fz _)]) (H' := [(0, OTr zeroT)]) (by repeat (first | exact trivial | refine ⟨⟨_, rfl, .inl ⟨rfl, rfl⟩⟩, ?_⟩ | refine ⟨⟨_, rfl, .inl ⟨slEq rfl tN, rfl⟩⟩, ?_⟩ | refine ⟨⟨_, rfl, .inl ⟨ivEq tX, rfl⟩⟩, ?_⟩)) (by exact ⟨⟨rfl, rfl, .fflat _ _ _ rfl tW⟩, trivial⟩) rfl ?_; (first | exact s_o1 hC rfl tV | exact s_o2 hC rfl tV tV | exact s_o3 hC rfl tV tV tV | exact s_out0 hC rfl | exact s_outO hC rfl rfl rfl))
  · simp at hb; omega
theorem run_out (g : Gr) (a : Int) (hok : okG g) (hg : checkI g = 0) (ha : a < 0 ∨ g.r ≤ a) : Pure Try.prog 12 [.agg (encG g), If .i64 a] (.tup [.agg (encTr zeroT), If .i64 5]) := by
  refine Meets.intro Try.func12 rfl (Nat.le_of_ble_eq_true rfl) fun C hC => ?_
  simp only [List.map, argEnv, Nat.reduceAdd]
  refine nK ?_
  refine s_reg rfl ?_
  refine Run.eff (dd := some 2) rfl rfl (op_box_flat rfl (Opd.tmp _ _ rfl) tC rfl) ?_
  refine Run.eff (dd := some 4) rfl rfl (op_alloc rfl rfl rfl rfl) ?_
  refine Run.pure (dd := some 5) rfl rfl (op_assign rfl (Opd.const _)) ?_
  refine Run.nil (FinR.mk ?_)
  refine nK ?_
  refine s_reg rfl ?_
  refine Run.load (dd := some 8) rfl rfl (op_loadw_flat rfl (Opd.tmp _ _ rfl) tH rfl) ?_
  refine Run.pure (dd := some 9) rfl rfl (op_call_pure (fun _ => check_c _ (by assumption)) rfl (Opd.func _) (Opds.cons _ _ _ _ (Opd.tmp _ _ rfl) Opds.nil)) ?_
  refine Run.pure (dd := some 6) rfl rfl (op_assign rfl (Opd.tmp _ _ rfl)) ?_
  refine Run.nil (FinR.mk ?_)
  refine nK ?_
  refine s_reg rfl ?_
  refine Run.pure (dd := some 10) rfl rfl (op_move rfl (Opd.tmp _ _ rfl)) ?_
  refine Run.pure (dd := some 11) rfl rfl (op_neq rfl (Opd.tmp _ _ rfl) (Opd.const _)) ?_
  refine Run.nil (FinR.mk ?_)
  refine nK ?_
  refine n_cond _ rfl (fun hb => ?_) (fun hb => ?_)
  · simp at hb; omega
  · refine nK ?_
    refine s_reg rfl ?_
    refine Run.pure (dd := some 14) rfl rfl (op_move rfl (Opd.tmp _ _ rfl)) ?_
    refine Run.pure (dd := some 15) rfl rfl (op_lss rfl (Opd.tmp _ _ rfl) (Opd.const _)) ?_
    refine Run.pure (dd := some 16) rfl rfl (op_move rfl (Opd.tmp _ _ rfl)) ?_
    refine Run.pureG (dd := some 17) rfl rfl rfl tG (op_move rfl (Opd.tmp _ _ rfl)) ?_
    refine Run.pureG (dd := some 18) rfl rfl rfl tG (op_fld_ptr (by decide) rfl (Opd.tmp _ _ rfl)) ?_
    refine Run.loadG (dd := some 19) rfl rfl rfl tG (op_load1_flat rfl (Opd.topt _ _ _ rfl tO) tH rfl) ?_
    refine Run.pureG (dd := some 20) rfl rfl rfl tG (op_geq rfl (Opd.topt _ _ _ rfl tO) (Opd.topt _ _ _ rfl tO)) ?_
    refine Run.pure (dd := some 21) rfl rfl (op_pick_or rfl (Opd.tmp _ _ rfl) (Opd.topt _ _ _ rfl tO)) ?_
    refine Run.nil (FinR.mk ?_)
    refine nK ?_
    refine n_cond _ rfl (fun hb => ?_) (fun hb => ?_)
    · refine nK ?_
      refine s_reg rfl ?_
      refine Run.pure (dd := some 22) rfl rfl (op_build rfl rfl rfl (FillF.nil _)) ?_
      refine Run.eff (dd := none) rfl rfl (op_store_flat rfl (Opd.tmp _ _ rfl) (Opd.tmp _ _ rfl) tC rfl rfl (by first | rfl | assumption) tS) ?_
      refine Run.pure (dd := some 5) rfl rfl (op_assign rfl (Opd.const _)) ?_
      refine Run.nil (FinR.mk ?_)
      refine nK ?_
      (refine Next.weakS [4] [] (by rfl) (keeps0 hC _) (G' := [(4, .ptr 0 4 0 0), (5, .fz _)]) (H' := [(0, OTr zeroT)]) (by repeat (first | exact trivial | refine ⟨⟨_, rfl, .inl ⟨rfl, rfl⟩⟩, ?_⟩ | refine ⟨⟨_, rfl, .inl ⟨slEq rfl tN, rfl⟩⟩, ?_⟩ | refine ⟨⟨_, rfl, .inl ⟨ivEq tX, rfl⟩⟩, ?_⟩)) (by exact ⟨⟨rfl, rfl, .fflat _ _ _ rfl tW⟩, trivial⟩) rfl ?_; (first | exact s_o1 hC rfl tV | exact s_o2 hC rfl tV tV | exact s_o3 hC rfl tV tV tV | exact s_out0 hC rfl | exact s_outO hC rfl rfl rfl))
    · simp at hb; omega
theorem run_c (g : Gr) (a : Nat) (t : Tr) (hok : okG g) (h : RunOk g a t) : Pure Try.prog 12 [.agg (encG g), If .i64 a] (.tup [.agg (encTr t), If .i64 0]) := by
  obtain ⟨vg, h0, h1⟩ := checkI_vg h.ok
  have hlt := h.lt
  obtain ⟨l2, p, q, hh⟩ := h.hops
  have hd := dist_c g a t.dist h.ok hok (by omega) h.dl h.dist
  have hp := parents_c g a t.dist h.ok h.dl (fun v hv => by have := (h.dist v hv).small vg (by omega) hv; omega)
  have hup := parL_ok vg a t.dist
  rw [← h.par] at hp hup
  have hho := hops_c g a (g.r + g.n).toNat t.dist t.par l2 vg.n128 h.dl (by omega) hup p q
  rw [← hh] at hho
  have hck := h.ok
  obtain ⟨rt, d, hs, pr⟩ := t
  have hrt : rt = a := h.root
  subst hrt
  dsimp only at hd hp hho
  clear hh h hup q p
  refine Meets.intro Try.func12 rfl (Nat.le_of_ble_eq_true rfl) fun C hC => ?_
  simp only [List.map, argEnv, Nat.reduceAdd]
  refine nK ?_
  refine s_reg rfl ?_
  refine Run.eff (dd := some 2) rfl rfl (op_box_flat rfl (Opd.tmp _ _ rfl) tC rfl) ?_
  refine Run.eff (dd := some 4) rfl rfl (op_alloc rfl rfl rfl rfl) ?_
  refine Run.pure (dd := some 5) rfl rfl (op_assign rfl (Opd.const _)) ?_
  refine Run.nil (FinR.mk ?_)
  refine nK ?_
  refine s_reg rfl ?_
  refine Run.load (dd := some 8) rfl rfl (op_loadw_flat rfl (Opd.tmp _ _ rfl) tH rfl) ?_
  refine Run.pure (dd := some 9) rfl rfl (op_call_pure (fun _ => check_c _ (by assumption)) rfl (Opd.func _) (Opds.cons _ _ _ _ (Opd.tmp _ _ rfl) Opds.nil)) ?_
  refine Run.pure (dd := some 6) rfl rfl (op_assign rfl (Opd.tmp _ _ rfl)) ?_
  refine Run.nil (FinR.mk ?_)
  refine nK ?_
  refine s_reg rfl ?_
  refine Run.pure (dd := some 10) rfl rfl (op_move rfl (Opd.tmp _ _ rfl)) ?_
  refine Run.pure (dd := some 11) rfl rfl (op_neq rfl (Opd.tmp _ _ rfl) (Opd.const _)) ?_
  refine Run.nil (FinR.mk ?_)
  refine nK ?_
  refine n_cond _ rfl (fun hb => ?_) (fun hb => ?_)
  · simp at hb; omega
  · refine nK ?_
    refine s_reg rfl ?_
    refine Run.pure (dd := some 14) rfl rfl (op_move rfl (Opd.tmp _ _ rfl)) ?_
    refine Run.pure (dd := some 15) rfl rfl (op_lss rfl (Opd.tmp _ _ rfl) (Opd.const _)) ?_
    refine Run.pure (dd := some 16) rfl rfl (op_move rfl (Opd.tmp _ _ rfl)) ?_
    refine Run.pureG (dd := some 17) rfl rfl rfl tG (op_move rfl (Opd.tmp _ _ rfl)) ?_
    refine Run.pureG (dd := some 18) rfl rfl rfl tG (op_fld_ptr (by decide) rfl (Opd.tmp _ _ rfl)) ?_
    refine Run.loadG (dd := some 19) rfl rfl rfl tG (op_load1_flat rfl (Opd.topt _ _ _ rfl tO) tH rfl) ?_
    refine Run.pureG (dd := some 20) rfl rfl rfl tG (op_geq rfl (Opd.topt _ _ _ rfl tO) (Opd.topt _ _ _ rfl tO)) ?_
    refine Run.pure (dd := some 21) rfl rfl (op_pick_or rfl (Opd.tmp _ _ rfl) (Opd.topt _ _ _ rfl tO)) ?_
    refine Run.nil (FinR.mk ?_)
    refine nK ?_
    refine n_cond _ rfl (fun hb => ?_) (fun hb => ?_)
    · simp at hb; omega
    · refine nK ?_
      refine s_reg rfl ?_
      refine Run.pure (dd := some 23) rfl rfl (op_move rfl (Opd.tmp _ _ rfl)) ?_
      refine Run.load (dd := some 24) rfl rfl (op_loadw_flat rfl (Opd.tmp _ _ rfl) tH rfl) ?_
      refine Run.pure (dd := some 25) rfl rfl (op_move rfl (Opd.tmp _ _ rfl)) ?_
      refine Run.pure (dd := some 26) rfl rfl (op_call_pure (fun _ => hd) rfl (Opd.func _) (Opds.cons _ _ _ _ (Opd.tmp _ _ rfl) (Opds.cons _ _ _ _ (Opd.tmp _ _ rfl) Opds.nil))) ?_
      refine Run.pure (dd := some 27) rfl rfl (op_build rfl rfl rfl (FillF.cons _ _ _ _ _ _ _ _ _ _ (by rfl) (Opd.tmp _ _ rfl) tC (by rfl) tR (FillF.cons _ _ _ _ _ _ _ _ _ _ (by rfl) (Opd.tmp _ _ rfl) tC (by rfl) tR (FillF.nil _)))) ?_
      refine Run.eff (dd := some 7) rfl rfl (op_alloc rfl rfl rfl rfl) ?_
      refine Run.eff (dd := none) rfl rfl (op_store_flat rfl (Opd.tmp _ _ rfl) (Opd.tmp _ _ rfl) tC rfl rfl (by first | rfl | assumption) tS) ?_
      refine Run.nil (FinR.mk ?_)
      refine nK ?_
      refine s_reg rfl ?_
      refine Run.load (dd := some 28) rfl rfl (op_loadw_flat rfl (Opd.tmp _ _ rfl) tH rfl) ?_
      refine Run.pure (dd := some 29) rfl rfl (op_move rfl (Opd.tmp _ _ rfl)) ?_
      refine Run.pure (dd := some 30) rfl rfl (op_fld_ptr (by decide) rfl (Opd.tmp _ _ rfl)) ?_
      refine Run.load (dd := some 31) rfl rfl (op_load1_flat rfl (Opd.tmp _ _ rfl) tH rfl) ?_
      refine Run.pure (dd := some 32) rfl rfl (op_call_pure (fun _ => hp) rfl (Opd.func _) (Opds.cons _ _ _ _ (Opd.tmp _ _ rfl) (Opds.cons _ _ _ _ (Opd.tmp _ _ rfl) (Opds.cons _ _ _ _ (Opd.tmp _ _ rfl) Opds.nil)))) ?_
      refine Run.pure (dd := some 33) rfl rfl (op_fld_ptr (by decide) rfl (Opd.tmp _ _ rfl)) ?_
      refine Run.eff (dd := none) rfl rfl (op_store_flat rfl (Opd.tmp _ _ rfl) (Opd.tmp _ _ rfl) tC rfl rfl (by first | rfl | assumption) tS) ?_
      refine Run.nil (FinR.mk ?_)
      refine nK ?_
      refine s_reg rfl ?_
      refine Run.load (dd := some 34) rfl rfl (op_loadw_flat rfl (Opd.tmp _ _ rfl) tH rfl) ?_
      refine Run.pure (dd := some 35) rfl rfl (op_move rfl (Opd.tmp _ _ rfl)) ?_
      refine Run.pure (dd := some 36) rfl rfl (op_fld_ptr (by decide) rfl (Opd.tmp _ _ rfl)) ?_
      refine Run.load (dd := some 37) rfl rfl (op_load1_flat rfl (Opd.tmp _ _ rfl) tH rfl) ?_
      refine Run.pure (dd := some 38) rfl rfl (op_fld_ptr (by decide) rfl (Opd.tmp _ _ rfl)) ?_
      refine Run.load (dd := some 39) rfl rfl (op_load1_flat rfl (Opd.tmp _ _ rfl) tH rfl) ?_
      refine Run.pure (dd := some 40) rfl rfl (op_call_pure (fun _ => hho) rfl (Opd.func _) (Opds.cons _ _ _ _ (Opd.tmp _ _ rfl) (Opds.cons _ _ _ _ (Opd.tmp _ _ rfl) (Opds.cons _ _ _ _ (Opd.tmp _ _ rfl) (Opds.cons _ _ _ _ (Opd.tmp _ _ rfl) Opds.nil))))) ?_
      refine Run.pure (dd := some 41) rfl rfl (op_fld_ptr (by decide) rfl (Opd.tmp _ _ rfl)) ?_
      refine Run.eff (dd := none) rfl rfl (op_store_flat rfl (Opd.tmp _ _ rfl) (Opd.tmp _ _ rfl) tC rfl rfl (by first | rfl | assumption) tS) ?_
      refine Run.nil (FinR.mk ?_)
      refine nK ?_
      refine s_reg rfl ?_
      refine Run.load (dd := some 42) rfl rfl (op_loadw_flat rfl (Opd.tmp _ _ rfl) tH rfl) ?_
      refine Run.eff (dd := none) rfl rfl (op_store_flat rfl (Opd.tmp _ _ rfl) (Opd.tmp _ _ rfl) tC rfl rfl (by first | rfl | assumption) tS) ?_
      refine Run.pure (dd := some 5) rfl rfl (op_assign rfl (Opd.const _)) ?_
      refine Run.nil (FinR.mk ?_)
      refine nK ?_
      (first | exact s_o1 hC rfl tV | exact s_o2 hC rfl tV tV | exact s_o3 hC rfl tV tV tV | exact s_out0 hC rfl | exact s_outO hC rfl rfl rfl)
end Go.Proofs.Ytgbfkpcigipniaa
namespace Go.Proofs.Ytgbfkpcigipniaa
open Go Go.RT Go.Proofs Go.Pl
set_option linter.all false
set_option maxRecDepth 20000
set_option maxHeartbeats 2000000
def smL (ll : List (List Int)) : Prop := ll.length ≤ 9223372036854775807 ∧ ∀ l ∈ ll, l.length ≤ 9223372036854775807
def smT (t : Tr) : Prop := t.dist.length ≤ 9223372036854775807 ∧ smL t.hops ∧ smL t.par
theorem equali_c (a b : List Int) (ha : a.length ≤ 9223372036854775807) (hb0 : b.length ≤ 9223372036854775807) : Pure Try.prog 42 [VI a, VI b] (Bf (decide (a = b))) := by
  refine Meets.intro Try.func42 rfl (Nat.le_of_ble_eq_true rfl) fun C hC => ?_
  simp only [List.map, argEnv, Nat.reduceAdd]
  refine nK ?_
  refine s_reg rfl ?_
  refine Run.pure (dd := some 4) rfl rfl (op_assign rfl (Opd.const _)) ?_
  refine Run.nil (FinR.mk ?_)
  refine nK ?_
  refine s_reg rfl ?_
  refine Run.pure (dd := some 6) rfl rfl (op_move rfl (Opd.tmp _ _ rfl)) ?_
  refine Run.pure (dd := some 7) rfl rfl (op_len_fz rfl (by first | exact Opd.tmp _ _ rfl | exact Opd.nil _ _ (Opd.tmp _ _ rfl)) (by first | exact List.length_map _ | rfl)) ?_
  refine Run.pure (dd := some 8) rfl rfl (op_move rfl (Opd.tmp _ _ rfl)) ?_
  refine Run.pure (dd := some 9) rfl rfl (op_len_fz rfl (by first | exact Opd.tmp _ _ rfl | exact Opd.nil _ _ (Opd.tmp _ _ rfl)) (by first | exact List.length_map _ | rfl)) ?_
  refine Run.pure (dd := some 10) rfl rfl (op_neq rfl (Opd.tmp _ _ rfl) (Opd.tmp _ _ rfl)) ?_
  refine Run.nil (FinR.mk ?_)
  refine nK ?_
  refine n_cond _ rfl (fun hb => ?_) (fun hb => ?_)
  · have e : decide (a = b) = false := by
      rw [decide_eq_false_iff_not]; rintro rfl; simp at hb
    rw [e]
    refine nK ?_
    refine s_reg rfl ?_
    refine Run.pure (dd := some 4) rfl rfl (op_assign rfl (Opd.const _)) ?_
    refine Run.nil (FinR.mk ?_)
    refine nK ?_
    (first | exact s_o1 hC rfl tV | exact s_o2 hC rfl tV tV | exact s_o3 hC rfl tV tV tV | exact s_out0 hC rfl | exact s_outO hC rfl rfl rfl)
  · have hl : a.length = b.length := by simp at hb; omega
    refine nK ?_
    refine s_reg rfl ?_
    refine Run.pure (dd := some 11) rfl rfl (op_move rfl (Opd.tmp _ _ rfl)) ?_
    refine Run.pure (dd := some 12) rfl rfl (op_len_fz rfl (by first | exact Opd.tmp _ _ rfl | exact Opd.nil _ _ (Opd.tmp _ _ rfl)) (by first | exact List.length_map _ | rfl)) ?_
    refine Run.pure (dd := some 13) rfl rfl (op_move rfl (Opd.const _)) ?_
    refine Run.nil (FinR.mk ?_)
    refine nK ?_
    refine n_loop (ι := Nat) (fun i => ([(0, .fz (VI a)), (1, .fz (VI b)), (12, IV .i64 a.length), (13, IV .i64 i)], [], 0)) (fun i => i ≤ a.length ∧ (a = b ↔ a.drop i = b.drop i)) (fun i => a.length - i) 0 ⟨Nat.zero_le _, Iff.rfl⟩ ?_ ?_
    · refine Next.weak [] [] (by rfl) (keeps0 hC _) (by repeat (first | exact trivial | refine ⟨⟨_, rfl, .inl ⟨rfl, rfl⟩⟩, ?_⟩)) (by repeat (first | exact trivial | refine ⟨ent_same rfl rfl rfl tL, ?_⟩ | refine ⟨ent_same rfl rfl (rfEq rfl tU) tL, ?_⟩ | refine ⟨ent_same rfl rfl (flEq rfl (by first | (simp; done) | (simp; omega) | (simp [encE, encN, encB, encT, encL, encTr]; done) | simp [maxC, minC])) trivial, ?_⟩)) (fun _ h => by simp at h) rel_intro
    · intro i ⟨hi, ho⟩ K hK
      refine nK ?_
      refine s_reg rfl ?_
      refine Run.pure (dd := some 14) rfl rfl (op_lss rfl (Opd.tmp _ _ rfl) (Opd.tmp _ _ rfl)) ?_
      refine Run.nil (FinR.mk ?_)
      refine nK ?_
      refine n_cond _ rfl (fun hb => ?_) (fun hb => ?_)
      · have hlt : i < a.length := by simp at hb; omega
        have hlt2 : i < b.length := by omega
        rw [same_step hlt hlt2] at ho
        have hr1 := row_at' encN a i hlt
        have hr2 := row_at' encN b i hlt2
        have hK1 := fun h => hK (i + 1) ⟨by omega, h⟩ (by omega)
        generalize a[i] = x at *
        generalize b[i] = y at *
        refine nK ?_
        refine s_reg rfl ?_
        refine Run.pure (dd := some 15) rfl rfl (op_move rfl (Opd.tmp _ _ rfl)) ?_
        refine Run.pure (dd := some 5) rfl rfl (op_assign rfl (Opd.tmp _ _ rfl)) ?_
        refine Run.nil (FinR.mk ?_)
        refine nK ?_
        refine s_draw mixed ?_
        refine Run.pure (dd := some 16) rfl rfl (op_move rfl (Opd.tmp _ _ rfl)) ?_
        refine Run.pure (dd := some 17) rfl rfl (op_move rfl (Opd.tmp _ _ rfl)) ?_
        refine Run.pure (dd := some 18) rfl rfl (op_idx_fz _ rfl (Opd.tmp _ _ rfl) (Opd.tmp _ _ rfl) tF) ?_
        refine Run.pure (dd := some 19) rfl rfl (op_load1_fz rfl (Opd.tmp _ _ rfl) rfl) ?_
        refine Run.pure (dd := some 20) rfl rfl (op_move rfl (Opd.tmp _ _ rfl)) ?_
        refine Run.pure (dd := some 21) rfl rfl (op_move rfl (Opd.tmp _ _ rfl)) ?_
        refine Run.pure (dd := some 22) rfl rfl (op_idx_fz _ rfl (Opd.tmp _ _ rfl) (Opd.tmp _ _ rfl) tF) ?_
        refine Run.pure (dd := some 23) rfl rfl (op_load1_fz rfl (Opd.tmp _ _ rfl) rfl) ?_
        refine Run.pure (dd := some 24) rfl rfl (op_neq rfl (Opd.tmp _ _ rfl) (Opd.tmp _ _ rfl)) ?_
        refine Run.nil (FinD.mk (by kernel_rfl) ?_)
        refine nK ?_
        refine n_cond _ rfl (fun hb => ?_) (fun hb => ?_)
        · have e : decide (a = b) = false := by
            rw [decide_eq_false_iff_not, ho]; simp at hb; exact fun h => hb h.1
          rw [e]
          refine nK ?_
          refine s_reg rfl ?_
          refine Run.pure (dd := some 4) rfl rfl (op_assign rfl (Opd.const _)) ?_
          refine Run.nil (FinR.mk ?_)
          refine nK ?_
          (first | exact s_o1 hC rfl tV | exact s_o2 hC rfl tV tV | exact s_o3 hC rfl tV tV tV | exact s_out0 hC rfl | exact s_outO hC rfl rfl rfl)
        · refine nK ?_
          refine s_reg rfl ?_
          refine Run.pure (dd := some 25) rfl rfl (op_add rfl (Opd.tmp _ _ rfl) (Opd.const _) tI) ?_
          refine Run.pure (dd := some 13) rfl rfl (op_move rfl (Opd.tmp _ _ rfl)) ?_
          refine Run.nil (FinR.mk ?_)
          refine nK ?_
          refine Next.weak [] [] (by rfl) (keeps0 hC _) (by repeat (first | exact trivial | refine ⟨⟨_, rfl, .inl ⟨rfl, rfl⟩⟩, ?_⟩)) (by repeat (first | exact trivial | refine ⟨ent_same rfl rfl rfl tL, ?_⟩ | refine ⟨ent_same rfl rfl (rfEq rfl tU) tL, ?_⟩ | refine ⟨ent_same rfl rfl (flEq rfl (by first | (simp; done) | (simp; omega) | (simp [encE, encN, encB, encT, encL, encTr]; done) | simp [maxC, minC])) trivial, ?_⟩)) (fun _ h => by simp at h) (hK1 (ho.trans ⟨fun h => h.2, fun h => ⟨by simpa using hb, h⟩⟩))
      · have hie : i = a.length := by simp at hb; omega
        have e : decide (a = b) = true := by
          rw [decide_eq_true_iff, ho, hie, List.drop_length, hl, List.drop_length]
        rw [e]
        refine nK ?_
        refine s_reg rfl ?_
        refine Run.pure (dd := some 4) rfl rfl (op_assign rfl (Opd.const _)) ?_
        refine Run.nil (FinR.mk ?_)
        refine nK ?_
        (first | exact s_o1 hC rfl tV | exact s_o2 hC rfl tV tV | exact s_o3 hC rfl tV tV tV | exact s_out0 hC rfl | exact s_outO hC rfl rfl rfl)
theorem same1_c (a b : List Int) (ha : a.length ≤ 9223372036854775807) (hb0 : b.length ≤ 9223372036854775807) : Pure Try.prog 41 [VI a, VI b] (Bf (decide (a = b))) := by
  refine Meets.intro Try.func41 rfl (Nat.le_of_ble_eq_true rfl) fun C hC => ?_
  simp only [List.map, argEnv, Nat.reduceAdd]
  refine nK ?_
  refine s_reg rfl ?_
  refine Run.pure (dd := some 4) rfl rfl (op_assign rfl (Opd.const _)) ?_
  refine Run.nil (FinR.mk ?_)
  refine nK ?_
  refine s_reg rfl ?_
  refine Run.pure (dd := some 5) rfl rfl (op_move rfl (Opd.tmp _ _ rfl)) ?_
  refine Run.pure (dd := some 6) rfl rfl (op_move rfl (Opd.tmp _ _ rfl)) ?_
  refine Run.pure (dd := some 7) rfl rfl (op_call_pure (fun _ => equali_c _ _ (by assumption) (by assumption)) rfl (Opd.func _) (Opds.cons _ _ _ _ (Opd.tmp _ _ rfl) (Opds.cons _ _ _ _ (Opd.tmp _ _ rfl) Opds.nil))) ?_
  refine Run.pure (dd := some 4) rfl rfl (op_assign rfl (Opd.tmp _ _ rfl)) ?_
  refine Run.nil (FinR.mk ?_)
  refine nK ?_
  (first | exact s_o1 hC rfl tV | exact s_o2 hC rfl tV tV | exact s_o3 hC rfl tV tV tV | exact s_out0 hC rfl | exact s_outO hC rfl rfl rfl)
theorem equalF_c (a b : List (List Int)) (ha : smL a) (hb0 : smL b) : Pure Try.prog 43 [VLL a, VLL b, .clo 41 []] (Bf (decide (a = b))) := by
  have hal := ha.1
  have hbl := hb0.1
  refine Meets.intro Try.func43 rfl (Nat.le_of_ble_eq_true rfl) fun C hC => ?_
  simp only [List.map, argEnv, Nat.reduceAdd]
  refine nK ?_
  refine s_reg rfl ?_
  refine Run.pure (dd := some 6) rfl rfl (op_assign rfl (Opd.const _)) ?_
  refine Run.nil (FinR.mk ?_)
  refine nK ?_
  refine s_reg rfl ?_
  refine Run.pure (dd := some 10) rfl rfl (op_move rfl (Opd.tmp _ _ rfl)) ?_
  refine Run.pure (dd := some 11) rfl rfl (op_len_fz rfl (by first | exact Opd.tmp _ _ rfl | exact Opd.nil _ _ (Opd.tmp _ _ rfl)) (by first | exact List.length_map _ | rfl)) ?_
  refine Run.pure (dd := some 12) rfl rfl (op_move rfl (Opd.tmp _ _ rfl)) ?_
  refine Run.pure (dd := some 13) rfl rfl (op_len_fz rfl (by first | exact Opd.tmp _ _ rfl | exact Opd.nil _ _ (Opd.tmp _ _ rfl)) (by first | exact List.length_map _ | rfl)) ?_
  refine Run.pure (dd := some 14) rfl rfl (op_neq rfl (Opd.tmp _ _ rfl) (Opd.tmp _ _ rfl)) ?_
  refine Run.nil (FinR.mk ?_)
  refine nK ?_
  refine n_cond _ rfl (fun hb => ?_) (fun hb => ?_)
  · have e : decide (a = b) = false := by
      rw [decide_eq_false_iff_not]; rintro rfl; simp at hb
    rw [e]
    refine nK ?_
    refine s_reg rfl ?_
    refine Run.pure (dd := some 6) rfl rfl (op_assign rfl (Opd.const _)) ?_
    refine Run.nil (FinR.mk ?_)
    refine nK ?_
    (first | exact s_o1 hC rfl tV | exact s_o2 hC rfl tV tV | exact s_o3 hC rfl tV tV tV | exact s_out0 hC rfl | exact s_outO hC rfl rfl rfl)
  · have hl : a.length = b.length := by simp at hb; omega
    refine nK ?_
    refine s_reg rfl ?_
    refine Run.pure (dd := some 15) rfl rfl (op_move rfl (Opd.tmp _ _ rfl)) ?_
    refine Run.pure (dd := some 16) rfl rfl (op_len_fz rfl (by first | exact Opd.tmp _ _ rfl | exact Opd.nil _ _ (Opd.tmp _ _ rfl)) (by first | exact List.length_map _ | rfl)) ?_
    refine Run.pure (dd := some 17) rfl rfl (op_move rfl (Opd.const _)) ?_
    refine Run.nil (FinR.mk ?_)
    refine nK ?_
    refine n_loop (ι := Nat) (fun i => ([(0, .fz (VLL a)), (1, .fz (VLL b)), (2, .fz (.clo 41 [])), (15, .fz (VLL a)), (16, IV .i64 a.length), (17, IV .i64 i)], [], 0)) (fun i => i ≤ a.length ∧ (a = b ↔ a.drop i = b.drop i)) (fun i => a.length - i) 0 ⟨Nat.zero_le _, Iff.rfl⟩ ?_ ?_
    · refine Next.weak [] [] (by rfl) (keeps0 hC _) (by repeat (first | exact trivial | refine ⟨⟨_, rfl, .inl ⟨rfl, rfl⟩⟩, ?_⟩)) (by repeat (first | exact trivial | refine ⟨ent_same rfl rfl rfl tL, ?_⟩ | refine ⟨ent_same rfl rfl (rfEq rfl tU) tL, ?_⟩ | refine ⟨ent_same rfl rfl (flEq rfl (by first | (simp; done) | (simp; omega) | (simp [encE, encN, encB, encT, encL, encTr]; done) | simp [maxC, minC])) trivial, ?_⟩)) (fun _ h => by simp at h) rel_intro
    · intro i ⟨hi, ho⟩ K hK
      refine nK ?_
      refine s_reg rfl ?_
      refine Run.pure (dd := some 18) rfl rfl (op_lss rfl (Opd.tmp _ _ rfl) (Opd.tmp _ _ rfl)) ?_
      refine Run.nil (FinR.mk ?_)
      refine nK ?_
      refine n_cond _ rfl (fun hb => ?_) (fun hb => ?_)
      · have hlt : i < a.length := by simp at hb; omega
        have hlt2 : i < b.length := by omega
        rw [same_step hlt hlt2] at ho
        have hr1 := row_at' encL a i hlt
        have hr2 := row_at' encL b i hlt2
        have hK1 := fun h => hK (i + 1) ⟨by omega, h⟩ (by omega)
        have hx := ha.2 _ (List.getElem_mem hlt)
        have hy := hb0.2 _ (List.getElem_mem hlt2)
        generalize a[i] = x at *
        generalize b[i] = y at *
        refine nK ?_
        refine s_reg rfl ?_
        refine Run.pure (dd := some 19) rfl rfl (op_move rfl (Opd.tmp _ _ rfl)) ?_
        refine Run.pure (dd := some 20) rfl rfl (op_idx_fz _ rfl (Opd.tmp _ _ rfl) (Opd.tmp _ _ rfl) tF) ?_
        refine Run.pure (dd := some 21) rfl rfl (op_load1_fz rfl (Opd.tmp _ _ rfl) rfl) ?_
        refine Run.pure (dd := some 7) rfl rfl (op_assign rfl (Opd.tmp _ _ rfl)) ?_
        refine Run.pure (dd := some 8) rfl rfl (op_assign rfl (Opd.tmp _ _ rfl)) ?_
        refine Run.nil (FinR.mk ?_)
        refine nK ?_
        refine s_reg rfl ?_
        refine Run.pure (dd := some 22) rfl rfl (op_move rfl (Opd.tmp _ _ rfl)) ?_
        refine Run.pure (dd := some 23) rfl rfl (op_move rfl (Opd.tmp _ _ rfl)) ?_
        refine Run.pure (dd := some 24) rfl rfl (op_idx_fz _ rfl (Opd.tmp _ _ rfl) (Opd.tmp _ _ rfl) tF) ?_
        refine Run.pure (dd := some 25) rfl rfl (op_load1_fz rfl (Opd.tmp _ _ rfl) rfl) ?_
        refine Run.pure (dd := some 9) rfl rfl (op_assign rfl (Opd.tmp _ _ rfl)) ?_
        refine Run.nil (FinR.mk ?_)
        refine nK ?_
        refine s_reg rfl ?_
        refine Run.pure (dd := some 26) rfl rfl (op_move rfl (Opd.tmp _ _ rfl)) ?_
        refine Run.pure (dd := some 27) rfl rfl (op_move rfl (Opd.tmp _ _ rfl)) ?_
        refine Run.pure (dd := some 28) rfl rfl (op_move rfl (Opd.tmp _ _ rfl)) ?_
        refine Run.pure (dd := some 29) rfl rfl (op_call_pureC (args := [VI x, VI y]) (caps := []) (fun _ => same1_c x y hx hy) rfl (Opd.tmp _ _ rfl) (Opds.cons _ _ _ _ (Opd.tmp _ _ rfl) (Opds.cons _ _ _ _ (Opd.tmp _ _ rfl) Opds.nil))) ?_
        refine Run.pure (dd := some 30) rfl rfl (op_not rfl (Opd.tmp _ _ rfl)) ?_
        refine Run.nil (FinR.mk ?_)
        refine nK ?_
        refine n_cond _ rfl (fun hb => ?_) (fun hb => ?_)
        · have e : decide (a = b) = false := by
            rw [decide_eq_false_iff_not, ho]; simp at hb; exact fun h => hb h.1
          rw [e]
          refine nK ?_
          refine s_reg rfl ?_
          refine Run.pure (dd := some 6) rfl rfl (op_assign rfl (Opd.const _)) ?_
          refine Run.nil (FinR.mk ?_)
          refine nK ?_
          (first | exact s_o1 hC rfl tV | exact s_o2 hC rfl tV tV | exact s_o3 hC rfl tV tV tV | exact s_out0 hC rfl | exact s_outO hC rfl rfl rfl)
        · refine nK ?_
          refine s_reg rfl ?_
          refine Run.pure (dd := some 31) rfl rfl (op_add rfl (Opd.tmp _ _ rfl) (Opd.const _) tI) ?_
          refine Run.pure (dd := some 17) rfl rfl (op_move rfl (Opd.tmp _ _ rfl)) ?_
          refine Run.nil (FinR.mk ?_)
          refine nK ?_
          refine Next.weak [] [] (by rfl) (keeps0 hC _) (by repeat (first | exact trivial | refine ⟨⟨_, rfl, .inl ⟨rfl, rfl⟩⟩, ?_⟩)) (by repeat (first | exact trivial | refine ⟨ent_same rfl rfl rfl tL, ?_⟩ | refine ⟨ent_same rfl rfl (rfEq rfl tU) tL, ?_⟩ | refine ⟨ent_same rfl rfl (flEq rfl (by first | (simp; done) | (simp; omega) | (simp [encE, encN, encB, encT, encL, encTr]; done) | simp [maxC, minC])) trivial, ?_⟩)) (fun _ h => by simp at h) (hK1 (ho.trans ⟨fun h => h.2, fun h => ⟨by simpa using hb, h⟩⟩))
      · have hie : i = a.length := by simp at hb; omega
        have e : decide (a = b) = true := by
          rw [decide_eq_true_iff, ho, hie, List.drop_length, hl, List.drop_length]
        rw [e]
        refine nK ?_
        refine s_reg rfl ?_
        refine Run.pure (dd := some 6) rfl rfl (op_assign rfl (Opd.const _)) ?_
        refine Run.nil (FinR.mk ?_)
        refine nK ?_
        (first | exact s_o1 hC rfl tV | exact s_o2 hC rfl tV tV | exact s_o3 hC rfl tV tV tV | exact s_out0 hC rfl | exact s_outO hC rfl rfl rfl)
theorem samebig_c (a b : List Int) (ha : a.length ≤ 9223372036854775807) (hb0 : b.length ≤ 9223372036854775807) : Pure Try.prog 17 [VI a, VI b] (Bf (decide (a = b))) := by
  refine Meets.intro Try.func17 rfl (Nat.le_of_ble_eq_true rfl) fun C hC => ?_
  simp only [List.map, argEnv, Nat.reduceAdd]
  refine nK ?_
  refine s_reg rfl ?_
  refine Run.pure (dd := some 4) rfl rfl (op_assign rfl (Opd.const _)) ?_
  refine Run.nil (FinR.mk ?_)
  refine nK ?_
  refine s_reg rfl ?_
  refine Run.pure (dd := some 6) rfl rfl (op_move rfl (Opd.tmp _ _ rfl)) ?_
  refine Run.pure (dd := some 7) rfl rfl (op_len_fz rfl (by first | exact Opd.tmp _ _ rfl | exact Opd.nil _ _ (Opd.tmp _ _ rfl)) (by first | exact List.length_map _ | rfl)) ?_
  refine Run.pure (dd := some 8) rfl rfl (op_move rfl (Opd.tmp _ _ rfl)) ?_
  refine Run.pure (dd := some 9) rfl rfl (op_len_fz rfl (by first | exact Opd.tmp _ _ rfl | exact Opd.nil _ _ (Opd.tmp _ _ rfl)) (by first | exact List.length_map _ | rfl)) ?_
  refine Run.pure (dd := some 10) rfl rfl (op_neq rfl (Opd.tmp _ _ rfl) (Opd.tmp _ _ rfl)) ?_
  refine Run.nil (FinR.mk ?_)
  refine nK ?_
  refine n_cond _ rfl (fun hb => ?_) (fun hb => ?_)
  · have e : decide (a = b) = false := by
      rw [decide_eq_false_iff_not]; rintro rfl; simp at hb
    rw [e]
    refine nK ?_
    refine s_reg rfl ?_
    refine Run.pure (dd := some 4) rfl rfl (op_assign rfl (Opd.const _)) ?_
    refine Run.nil (FinR.mk ?_)
    refine nK ?_
    (first | exact s_o1 hC rfl tV | exact s_o2 hC rfl tV tV | exact s_o3 hC rfl tV tV tV | exact s_out0 hC rfl | exact s_outO hC rfl rfl rfl)
  · have hl : a.length = b.length := by simp at hb; omega
    refine nK ?_
    refine s_reg rfl ?_
    refine Run.pure (dd := some 5) rfl rfl (op_assign rfl (Opd.const _)) ?_
    refine Run.nil (FinR.mk ?_)
    refine nK ?_
    refine n_loop (ι := Nat) (fun i => ([(0, .fz (VI a)), (1, .fz (VI b)), (5, IV .i64 i)], [], 0)) (fun i => i ≤ a.length ∧ (a = b ↔ a.drop i = b.drop i)) (fun i => a.length - i) 0 ⟨Nat.zero_le _, Iff.rfl⟩ ?_ ?_
    · refine Next.weak [] [] (by rfl) (keeps0 hC _) (by repeat (first | exact trivial | refine ⟨⟨_, rfl, .inl ⟨rfl, rfl⟩⟩, ?_⟩)) (by repeat (first | exact trivial | refine ⟨ent_same rfl rfl rfl tL, ?_⟩ | refine ⟨ent_same rfl rfl (rfEq rfl tU) tL, ?_⟩ | refine ⟨ent_same rfl rfl (flEq rfl (by first | (simp; done) | (simp; omega) | (simp [encE, encN, encB, encT, encL, encTr]; done) | simp [maxC, minC])) trivial, ?_⟩)) (fun _ h => by simp at h) rel_intro
    · intro i ⟨hi, ho⟩ K hK
      refine nK ?_
      refine s_reg rfl ?_
      refine Run.pure (dd := some 11) rfl rfl (op_move rfl (Opd.tmp _ _ rfl)) ?_
      refine Run.pure (dd := some 12) rfl rfl (op_move rfl (Opd.tmp _ _ rfl)) ?_
      refine Run.pure (dd := some 13) rfl rfl (op_len_fz rfl (by first | exact Opd.tmp _ _ rfl | exact Opd.nil _ _ (Opd.tmp _ _ rfl)) (by first | exact List.length_map _ | rfl)) ?_
      refine Run.pure (dd := some 14) rfl rfl (op_lss rfl (Opd.tmp _ _ rfl) (Opd.tmp _ _ rfl)) ?_
      refine Run.nil (FinR.mk ?_)
      refine nK ?_
      refine n_cond _ rfl (fun hb => ?_) (fun hb => ?_)
      · have hlt : i < a.length := by simp at hb; omega
        have hlt2 : i < b.length := by omega
        rw [same_step hlt hlt2] at ho
        have hr1 := row_at' encN a i hlt
        have hr2 := row_at' encN b i hlt2
        have hK1 := fun h => hK (i + 1) ⟨by omega, h⟩ (by omega)
        generalize a[i] = x at *
        generalize b[i] = y at *
        refine nK ?_
        refine s_draw mixed ?_
        refine Run.pure (dd := some 17) rfl rfl (op_move rfl (Opd.tmp _ _ rfl)) ?_
        refine Run.pure (dd := some 18) rfl rfl (op_move rfl (Opd.tmp _ _ rfl)) ?_
        refine Run.pure (dd := some 19) rfl rfl (op_idx_fz _ rfl (Opd.tmp _ _ rfl) (Opd.tmp _ _ rfl) tF) ?_
        refine Run.pure (dd := some 20) rfl rfl (op_load1_fz rfl (Opd.tmp _ _ rfl) rfl) ?_
        refine Run.pure (dd := some 21) rfl rfl (op_move rfl (Opd.tmp _ _ rfl)) ?_
        refine Run.pure (dd := some 22) rfl rfl (op_move rfl (Opd.tmp _ _ rfl)) ?_
        refine Run.pure (dd := some 23) rfl rfl (op_idx_fz _ rfl (Opd.tmp _ _ rfl) (Opd.tmp _ _ rfl) tF) ?_
        refine Run.pure (dd := some 24) rfl rfl (op_load1_fz rfl (Opd.tmp _ _ rfl) rfl) ?_
        refine Run.pure (dd := some 25) rfl rfl (op_neq rfl (Opd.tmp _ _ rfl) (Opd.tmp _ _ rfl)) ?_
        refine Run.nil (FinD.mk (by kernel_rfl) ?_)
        refine nK ?_
        refine n_cond _ rfl (fun hb => ?_) (fun hb => ?_)
        · have e : decide (a = b) = false := by
            rw [decide_eq_false_iff_not, ho]; simp at hb; exact fun h => hb h.1
          rw [e]
          refine nK ?_
          refine s_reg rfl ?_
          refine Run.pure (dd := some 4) rfl rfl (op_assign rfl (Opd.const _)) ?_
          refine Run.nil (FinR.mk ?_)
          refine nK ?_
          (first | exact s_o1 hC rfl tV | exact s_o2 hC rfl tV tV | exact s_o3 hC rfl tV tV tV | exact s_out0 hC rfl | exact s_outO hC rfl rfl rfl)
        · refine nK ?_
          refine s_reg rfl ?_
          refine Run.pure (dd := some 15) rfl rfl (op_move rfl (Opd.tmp _ _ rfl)) ?_
          refine Run.pure (dd := some 16) rfl rfl (op_add rfl (Opd.tmp _ _ rfl) (Opd.const _) tI) ?_
          refine Run.pure (dd := some 5) rfl rfl (op_assign rfl (Opd.tmp _ _ rfl)) ?_
          refine Run.nil (FinR.mk ?_)
          refine nK ?_
          refine Next.weak [] [] (by rfl) (keeps0 hC _) (by repeat (first | exact trivial | refine ⟨⟨_, rfl, .inl ⟨rfl, rfl⟩⟩, ?_⟩)) (by repeat (first | exact trivial | refine ⟨ent_same rfl rfl rfl tL, ?_⟩ | refine ⟨ent_same rfl rfl (rfEq rfl tU) tL, ?_⟩ | refine ⟨ent_same rfl rfl (flEq rfl (by first | (simp; done) | (simp; omega) | (simp [encE, encN, encB, encT, encL, encTr]; done) | simp [maxC, minC])) trivial, ?_⟩)) (fun _ h => by simp at h) (hK1 (ho.trans ⟨fun h => h.2, fun h => ⟨by simpa using hb, h⟩⟩))
      · have hie : i = a.length := by simp at hb; omega
        have e : decide (a = b) = true := by
          rw [decide_eq_true_iff, ho, hie, List.drop_length, hl, List.drop_length]
        rw [e]
        refine nK ?_
        refine s_reg rfl ?_
        refine Run.pure (dd := some 4) rfl rfl (op_assign rfl (Opd.const _)) ?_
        refine Run.nil (FinR.mk ?_)
        refine nK ?_
        (first | exact s_o1 hC rfl tV | exact s_o2 hC rfl tV tV | exact s_o3 hC rfl tV tV tV | exact s_out0 hC rfl | exact s_outO hC rfl rfl rfl)
theorem rrows_c (a b : List (List Int)) (ha : smL a) (hb0 : smL b) : Pure Try.prog 24 [VLL a, VLL b] (Bf (decide (a = b))) := by
  have hal := ha.1
  have hbl := hb0.1
  refine Meets.intro Try.func24 rfl (Nat.le_of_ble_eq_true rfl) fun C hC => ?_
  simp only [List.map, argEnv, Nat.reduceAdd]
  refine nK ?_
  refine s_reg rfl ?_
  refine Run.pure (dd := some 4) rfl rfl (op_assign rfl (Opd.const _)) ?_
  refine Run.nil (FinR.mk ?_)
  refine nK ?_
  refine s_reg rfl ?_
  refine Run.pure (dd := some 6) rfl rfl (op_move rfl (Opd.tmp _ _ rfl)) ?_
  refine Run.pure (dd := some 7) rfl rfl (op_len_fz rfl (by first | exact Opd.tmp _ _ rfl | exact Opd.nil _ _ (Opd.tmp _ _ rfl)) (by first | exact List.length_map _ | rfl)) ?_
  refine Run.pure (dd := some 8) rfl rfl (op_move rfl (Opd.tmp _ _ rfl)) ?_
  refine Run.pure (dd := some 9) rfl rfl (op_len_fz rfl (by first | exact Opd.tmp _ _ rfl | exact Opd.nil _ _ (Opd.tmp _ _ rfl)) (by first | exact List.length_map _ | rfl)) ?_
  refine Run.pure (dd := some 10) rfl rfl (op_neq rfl (Opd.tmp _ _ rfl) (Opd.tmp _ _ rfl)) ?_
  refine Run.nil (FinR.mk ?_)
  refine nK ?_
  refine n_cond _ rfl (fun hb => ?_) (fun hb => ?_)
  · have e : decide (a = b) = false := by
      rw [decide_eq_false_iff_not]; rintro rfl; simp at hb
    rw [e]
    refine nK ?_
    refine s_reg rfl ?_
    refine Run.pure (dd := some 4) rfl rfl (op_assign rfl (Opd.const _)) ?_
    refine Run.nil (FinR.mk ?_)
    refine nK ?_
    (first | exact s_o1 hC rfl tV | exact s_o2 hC rfl tV tV | exact s_o3 hC rfl tV tV tV | exact s_out0 hC rfl | exact s_outO hC rfl rfl rfl)
  · have hl : a.length = b.length := by simp at hb; omega
    refine nK ?_
    refine s_reg rfl ?_
    refine Run.pure (dd := some 5) rfl rfl (op_assign rfl (Opd.const _)) ?_
    refine Run.nil (FinR.mk ?_)
    refine nK ?_
    refine n_loop (ι := Nat) (fun i => ([(0, .fz (VLL a)), (1, .fz (VLL b)), (5, IV .i64 i)], [], 0)) (fun i => i ≤ a.length ∧ (a = b ↔ a.drop i = b.drop i)) (fun i => a.length - i) 0 ⟨Nat.zero_le _, Iff.rfl⟩ ?_ ?_
    · refine Next.weak [] [] (by rfl) (keeps0 hC _) (by repeat (first | exact trivial | refine ⟨⟨_, rfl, .inl ⟨rfl, rfl⟩⟩, ?_⟩)) (by repeat (first | exact trivial | refine ⟨ent_same rfl rfl rfl tL, ?_⟩ | refine ⟨ent_same rfl rfl (rfEq rfl tU) tL, ?_⟩ | refine ⟨ent_same rfl rfl (flEq rfl (by first | (simp; done) | (simp; omega) | (simp [encE, encN, encB, encT, encL, encTr]; done) | simp [maxC, minC])) trivial, ?_⟩)) (fun _ h => by simp at h) rel_intro
    · intro i ⟨hi, ho⟩ K hK
      refine nK ?_
      refine s_reg rfl ?_
      refine Run.pure (dd := some 11) rfl rfl (op_move rfl (Opd.tmp _ _ rfl)) ?_
      refine Run.pure (dd := some 12) rfl rfl (op_move rfl (Opd.tmp _ _ rfl)) ?_
      refine Run.pure (dd := some 13) rfl rfl (op_len_fz rfl (by first | exact Opd.tmp _ _ rfl | exact Opd.nil _ _ (Opd.tmp _ _ rfl)) (by first | exact List.length_map _ | rfl)) ?_
      refine Run.pure (dd := some 14) rfl rfl (op_lss rfl (Opd.tmp _ _ rfl) (Opd.tmp _ _ rfl)) ?_
      refine Run.nil (FinR.mk ?_)
      refine nK ?_
      refine n_cond _ rfl (fun hb => ?_) (fun hb => ?_)
      · have hlt : i < a.length := by simp at hb; omega
        have hlt2 : i < b.length := by omega
        rw [same_step hlt hlt2] at ho
        have hr1 := row_at' encL a i hlt
        have hr2 := row_at' encL b i hlt2
        have hK1 := fun h => hK (i + 1) ⟨by omega, h⟩ (by omega)
        have hx := ha.2 _ (List.getElem_mem hlt)
        have hy := hb0.2 _ (List.getElem_mem hlt2)
        generalize a[i] = x at *
        generalize b[i] = y at *
        refine nK ?_
        refine s_draw mixed ?_
        refine Run.pure (dd := some 17) rfl rfl (op_move rfl (Opd.tmp _ _ rfl)) ?_
        refine Run.pure (dd := some 18) rfl rfl (op_move rfl (Opd.tmp _ _ rfl)) ?_
        refine Run.pure (dd := some 19) rfl rfl (op_idx_fz _ rfl (Opd.tmp _ _ rfl) (Opd.tmp _ _ rfl) tF) ?_
        refine Run.pure (dd := some 20) rfl rfl (op_load1_fz rfl (Opd.tmp _ _ rfl) rfl) ?_
        refine Run.pure (dd := some 21) rfl rfl (op_move rfl (Opd.tmp _ _ rfl)) ?_
        refine Run.pure (dd := some 22) rfl rfl (op_move rfl (Opd.tmp _ _ rfl)) ?_
        refine Run.pure (dd := some 23) rfl rfl (op_idx_fz _ rfl (Opd.tmp _ _ rfl) (Opd.tmp _ _ rfl) tF) ?_
        refine Run.pure (dd := some 24) rfl rfl (op_load1_fz rfl (Opd.tmp _ _ rfl) rfl) ?_
        refine Run.pure (dd := some 25) rfl rfl (op_call_pure (fun _ => samebig_c _ _ (by first | omega | (dsimp only; omega)) (by first | omega | (dsimp only; omega))) rfl (Opd.func _) (Opds.cons _ _ _ _ (Opd.tmp _ _ rfl) (Opds.cons _ _ _ _ (Opd.tmp _ _ rfl) Opds.nil))) ?_
        refine Run.pure (dd := some 26) rfl rfl (op_not rfl (Opd.tmp _ _ rfl)) ?_
        refine Run.nil (FinD.mk (by kernel_rfl) ?_)
        refine nK ?_
        refine n_cond _ rfl (fun hb => ?_) (fun hb => ?_)
        · have e : decide (a = b) = false := by
            rw [decide_eq_false_iff_not, ho]; simp at hb; exact fun h => hb h.1
          rw [e]
          refine nK ?_
          refine s_reg rfl ?_
          refine Run.pure (dd := some 4) rfl rfl (op_assign rfl (Opd.const _)) ?_
          refine Run.nil (FinR.mk ?_)
          refine nK ?_
          (first | exact s_o1 hC rfl tV | exact s_o2 hC rfl tV tV | exact s_o3 hC rfl tV tV tV | exact s_out0 hC rfl | exact s_outO hC rfl rfl rfl)
        · refine nK ?_
          refine s_reg rfl ?_
          refine Run.pure (dd := some 15) rfl rfl (op_move rfl (Opd.tmp _ _ rfl)) ?_
          refine Run.pure (dd := some 16) rfl rfl (op_add rfl (Opd.tmp _ _ rfl) (Opd.const _) tI) ?_
          refine Run.pure (dd := some 5) rfl rfl (op_assign rfl (Opd.tmp _ _ rfl)) ?_
          refine Run.nil (FinR.mk ?_)
          refine nK ?_
          refine Next.weak [] [] (by rfl) (keeps0 hC _) (by repeat (first | exact trivial | refine ⟨⟨_, rfl, .inl ⟨rfl, rfl⟩⟩, ?_⟩)) (by repeat (first | exact trivial | refine ⟨ent_same rfl rfl rfl tL, ?_⟩ | refine ⟨ent_same rfl rfl (rfEq rfl tU) tL, ?_⟩ | refine ⟨ent_same rfl rfl (flEq rfl (by first | (simp; done) | (simp; omega) | (simp [encE, encN, encB, encT, encL, encTr]; done) | simp [maxC, minC])) trivial, ?_⟩)) (fun _ h => by simp at h) (hK1 (ho.trans ⟨fun h => h.2, fun h => ⟨by simpa using hb, h⟩⟩))
      · have hie : i = a.length := by simp at hb; omega
        have e : decide (a = b) = true := by
          rw [decide_eq_true_iff, ho, hie, List.drop_length, hl, List.drop_length]
        rw [e]
        refine nK ?_
        refine s_reg rfl ?_
        refine Run.pure (dd := some 4) rfl rfl (op_assign rfl (Opd.const _)) ?_
        refine Run.nil (FinR.mk ?_)
        refine nK ?_
        (first | exact s_o1 hC rfl tV | exact s_o2 hC rfl tV tV | exact s_o3 hC rfl tV tV tV | exact s_out0 hC rfl | exact s_outO hC rfl rfl rfl)
theorem tr_eq (a b : Tr) : decide (a = b) = (decide (a.root = b.root) && decide (a.dist = b.dist) && decide (a.hops = b.hops) && decide (a.par = b.par)) := by
  cases a; cases b; simp [Bool.decide_and, Bool.and_assoc]
theorem rsame_c (a b : Tr) (ha : smT a) (hb : smT b) : Pure Try.prog 14 [.agg (encTr a), .agg (encTr b)] (Bf (decide (a = b))) := by
  rw [tr_eq]
  obtain ⟨a1, a2, a3⟩ := ha
  obtain ⟨b1, b2, b3⟩ := hb
  obtain ⟨r1, d1, h1, p1⟩ := a
  obtain ⟨r2, d2, h2, p2⟩ := b
  dsimp only at *
  refine Meets.intro Try.func14 rfl (Nat.le_of_ble_eq_true rfl) fun C hC => ?_
  simp only [List.map, argEnv, Nat.reduceAdd]
  refine nK ?_
  refine s_reg rfl ?_
  refine Run.eff (dd := some 2) rfl rfl (op_box_flat rfl (Opd.tmp _ _ rfl) tC rfl) ?_
  refine Run.eff (dd := some 3) rfl rfl (op_box_flat rfl (Opd.tmp _ _ rfl) tC rfl) ?_
  refine Run.pure (dd := some 4) rfl rfl (op_assign rfl (Opd.const _)) ?_
  refine Run.nil (FinR.mk ?_)
  refine nK ?_
  refine s_reg rfl ?_
  refine Run.pure (dd := some 5) rfl rfl (op_fld_ptr (by decide) rfl (Opd.tmp _ _ rfl)) ?_
  refine Run.load (dd := some 6) rfl rfl (op_load1_flat rfl (Opd.tmp _ _ rfl) tH rfl) ?_
  refine Run.pure (dd := some 7) rfl rfl (op_fld_ptr (by decide) rfl (Opd.tmp _ _ rfl)) ?_
  refine Run.load (dd := some 8) rfl rfl (op_load1_flat rfl (Opd.tmp _ _ rfl) tH rfl) ?_
  refine Run.pure (dd := some 9) rfl rfl (op_eql rfl (Opd.tmp _ _ rfl) (Opd.tmp _ _ rfl)) ?_
  refine Run.pure (dd := some 10) rfl rfl (op_move rfl (Opd.tmp _ _ rfl)) ?_
  refine Run.pureG (dd := some 11) rfl rfl rfl tG (op_fld_ptr (by decide) rfl (Opd.tmp _ _ rfl)) ?_
  refine Run.loadG (dd := some 12) rfl rfl rfl tG (op_load1_flat rfl (Opd.topt _ _ _ rfl tO) tH rfl) ?_
  refine Run.pureG (dd := some 13) rfl rfl rfl tG (op_fld_ptr (by decide) rfl (Opd.tmp _ _ rfl)) ?_
  refine Run.loadG (dd := some 14) rfl rfl rfl tG (op_load1_flat rfl (Opd.topt _ _ _ rfl tO) tH rfl) ?_
  refine Run.pureG (dd := some 15) rfl rfl rfl tG (op_call_pure (fun _ => samebig_c _ _ (by first | omega | (dsimp only; omega)) (by first | omega | (dsimp only; omega))) rfl (Opd.func _) (Opds.cons _ _ _ _ (Opd.topt _ _ _ rfl tO) (Opds.cons _ _ _ _ (Opd.topt _ _ _ rfl tO) Opds.nil))) ?_
  refine Run.pure (dd := some 16) rfl rfl (op_pick_and rfl (Opd.tmp _ _ rfl) (Opd.topt _ _ _ rfl tO)) ?_
  refine Run.pure (dd := some 17) rfl rfl (op_move rfl (Opd.tmp _ _ rfl)) ?_
  refine Run.pureG (dd := some 18) rfl rfl rfl tG (op_fld_ptr (by decide) rfl (Opd.tmp _ _ rfl)) ?_
  refine Run.loadG (dd := some 19) rfl rfl rfl tG (op_load1_flat rfl (Opd.topt _ _ _ rfl tO) tH rfl) ?_
  refine Run.pureG (dd := some 20) rfl rfl rfl tG (op_fld_ptr (by decide) rfl (Opd.tmp _ _ rfl)) ?_
  refine Run.loadG (dd := some 21) rfl rfl rfl tG (op_load1_flat rfl (Opd.topt _ _ _ rfl tO) tH rfl) ?_
  refine Run.pureG (dd := some 22) rfl rfl rfl tG (op_call_pure (fun _ => rrows_c _ _ (by assumption) (by assumption)) rfl (Opd.func _) (Opds.cons _ _ _ _ (Opd.topt _ _ _ rfl tO) (Opds.cons _ _ _ _ (Opd.topt _ _ _ rfl tO) Opds.nil))) ?_
  refine Run.pure (dd := some 23) rfl rfl (op_pick_and rfl (Opd.tmp _ _ rfl) (Opd.topt _ _ _ rfl tO)) ?_
  refine Run.pure (dd := some 24) rfl rfl (op_move rfl (Opd.tmp _ _ rfl)) ?_
  refine Run.pureG (dd := some 25) rfl rfl rfl tG (op_fld_ptr (by decide) rfl (Opd.tmp _ _ rfl)) ?_
  refine Run.loadG (dd := some 26) rfl rfl rfl tG (op_load1_flat rfl (Opd.topt _ _ _ rfl tO) tH rfl) ?_
  refine Run.pureG (dd := some 27) rfl rfl rfl tG (op_fld_ptr (by decide) rfl (Opd.tmp _ _ rfl)) ?_
  refine Run.loadG (dd := some 28) rfl rfl rfl tG (op_load1_flat rfl (Opd.topt _ _ _ rfl tO) tH rfl) ?_
  refine Run.pureG (dd := some 29) rfl rfl rfl tG (op_call_pure (fun _ => rrows_c _ _ (by assumption) (by assumption)) rfl (Opd.func _) (Opds.cons _ _ _ _ (Opd.topt _ _ _ rfl tO) (Opds.cons _ _ _ _ (Opd.topt _ _ _ rfl tO) Opds.nil))) ?_
  refine Run.pure (dd := some 30) rfl rfl (op_pick_and rfl (Opd.tmp _ _ rfl) (Opd.topt _ _ _ rfl tO)) ?_
  refine Run.pure (dd := some 4) rfl rfl (op_assign rfl (Opd.tmp _ _ rfl)) ?_
  refine Run.nil (FinR.mk ?_)
  refine nK ?_
  (first | exact s_o1 hC rfl tV | exact s_o2 hC rfl tV tV | exact s_o3 hC rfl tV tV tV | exact s_out0 hC rfl | exact s_outO hC rfl rfl rfl)
theorem same_c (a b : Tr) (ha : smT a) (hb : smT b) : Pure Try.prog 25 [.agg (encTr a), .agg (encTr b)] (Bf (decide (a = b))) := by
  rw [tr_eq]
  obtain ⟨a1, a2, a3⟩ := ha
  obtain ⟨b1, b2, b3⟩ := hb
  obtain ⟨r1, d1, h1, p1⟩ := a
  obtain ⟨r2, d2, h2, p2⟩ := b
  dsimp only at *
  refine Meets.intro Try.func25 rfl (Nat.le_of_ble_eq_true rfl) fun C hC => ?_
  simp only [List.map, argEnv, Nat.reduceAdd]
  refine nK ?_
  refine s_reg rfl ?_
  refine Run.eff (dd := some 2) rfl rfl (op_box_flat rfl (Opd.tmp _ _ rfl) tC rfl) ?_
  refine Run.eff (dd := some 3) rfl rfl (op_box_flat rfl (Opd.tmp _ _ rfl) tC rfl) ?_
  refine Run.pure (dd := some 4) rfl rfl (op_assign rfl (Opd.const _)) ?_
  refine Run.nil (FinR.mk ?_)
  refine nK ?_
  refine s_reg rfl ?_
  refine Run.pure (dd := some 5) rfl rfl (op_assign rfl (Opd.funcF _)) ?_
  refine Run.nil (FinR.mk ?_)
  refine nK ?_
  refine s_reg rfl ?_
  refine Run.pure (dd := some 6) rfl rfl (op_fld_ptr (by decide) rfl (Opd.tmp _ _ rfl)) ?_
  refine Run.load (dd := some 7) rfl rfl (op_load1_flat rfl (Opd.tmp _ _ rfl) tH rfl) ?_
  refine Run.pure (dd := some 8) rfl rfl (op_fld_ptr (by decide) rfl (Opd.tmp _ _ rfl)) ?_
  refine Run.load (dd := some 9) rfl rfl (op_load1_flat rfl (Opd.tmp _ _ rfl) tH rfl) ?_
  refine Run.pure (dd := some 10) rfl rfl (op_eql rfl (Opd.tmp _ _ rfl) (Opd.tmp _ _ rfl)) ?_
  refine Run.pure (dd := some 11) rfl rfl (op_move rfl (Opd.tmp _ _ rfl)) ?_
  refine Run.pureG (dd := some 12) rfl rfl rfl tG (op_fld_ptr (by decide) rfl (Opd.tmp _ _ rfl)) ?_
  refine Run.loadG (dd := some 13) rfl rfl rfl tG (op_load1_flat rfl (Opd.topt _ _ _ rfl tO) tH rfl) ?_
  refine Run.pureG (dd := some 14) rfl rfl rfl tG (op_fld_ptr (by decide) rfl (Opd.tmp _ _ rfl)) ?_
  refine Run.loadG (dd := some 15) rfl rfl rfl tG (op_load1_flat rfl (Opd.topt _ _ _ rfl tO) tH rfl) ?_
  refine Run.pureG (dd := some 16) rfl rfl rfl tG (op_call_pure (fun _ => equali_c _ _ (by assumption) (by assumption)) rfl (Opd.func _) (Opds.cons _ _ _ _ (Opd.topt _ _ _ rfl tO) (Opds.cons _ _ _ _ (Opd.topt _ _ _ rfl tO) Opds.nil))) ?_
  refine Run.pure (dd := some 17) rfl rfl (op_pick_and rfl (Opd.tmp _ _ rfl) (Opd.topt _ _ _ rfl tO)) ?_
  refine Run.pure (dd := some 18) rfl rfl (op_move rfl (Opd.tmp _ _ rfl)) ?_
  refine Run.pureG (dd := some 19) rfl rfl rfl tG (op_fld_ptr (by decide) rfl (Opd.tmp _ _ rfl)) ?_
  refine Run.loadG (dd := some 20) rfl rfl rfl tG (op_load1_flat rfl (Opd.topt _ _ _ rfl tO) tH rfl) ?_
  refine Run.pureG (dd := some 21) rfl rfl rfl tG (op_fld_ptr (by decide) rfl (Opd.tmp _ _ rfl)) ?_
  refine Run.loadG (dd := some 22) rfl rfl rfl tG (op_load1_flat rfl (Opd.topt _ _ _ rfl tO) tH rfl) ?_
  refine Run.pureG (dd := some 23) rfl rfl rfl tG (op_move rfl (Opd.tmp _ _ rfl)) ?_
  refine Run.pureG (dd := some 24) rfl rfl rfl tG (op_call_pure (fun _ => equalF_c _ _ (by assumption) (by assumption)) rfl (Opd.func _) (Opds.cons _ _ _ _ (Opd.topt _ _ _ rfl tO) (Opds.cons _ _ _ _ (Opd.topt _ _ _ rfl tO) (Opds.cons _ _ _ _ (Opd.topt _ _ _ rfl tO) Opds.nil)))) ?_
  refine Run.pure (dd := some 25) rfl rfl (op_pick_and rfl (Opd.tmp _ _ rfl) (Opd.topt _ _ _ rfl tO)) ?_
  refine Run.pure (dd := some 26) rfl rfl (op_move rfl (Opd.tmp _ _ rfl)) ?_
  refine Run.pureG (dd := some 27) rfl rfl rfl tG (op_fld_ptr (by decide) rfl (Opd.tmp _ _ rfl)) ?_
  refine Run.loadG (dd := some 28) rfl rfl rfl tG (op_load1_flat rfl (Opd.topt _ _ _ rfl tO) tH rfl) ?_
  refine Run.pureG (dd := some 29) rfl rfl rfl tG (op_fld_ptr (by decide) rfl (Opd.tmp _ _ rfl)) ?_
  refine Run.loadG (dd := some 30) rfl rfl rfl tG (op_load1_flat rfl (Opd.topt _ _ _ rfl tO) tH rfl) ?_
  refine Run.pureG (dd := some 31) rfl rfl rfl tG (op_move rfl (Opd.tmp _ _ rfl)) ?_
  refine Run.pureG (dd := some 32) rfl rfl rfl tG (op_call_pure (fun _ => equalF_c _ _ (by assumption) (by assumption)) rfl (Opd.func _) (Opds.cons _ _ _ _ (Opd.topt _ _ _ rfl tO) (Opds.cons _ _ _ _ (Opd.topt _ _ _ rfl tO) (Opds.cons _ _ _ _ (Opd.topt _ _ _ rfl tO) Opds.nil)))) ?_
  refine Run.pure (dd := some 33) rfl rfl (op_pick_and rfl (Opd.tmp _ _ rfl) (Opd.topt _ _ _ rfl tO)) ?_
  refine Run.pure (dd := some 4) rfl rfl (op_assign rfl (Opd.tmp _ _ rfl)) ?_
  refine Run.nil (FinR.mk ?_)
  refine nK ?_
  (first | exact s_o1 hC rfl tV | exact s_o2 hC rfl tV tV | exact s_o3 hC rfl tV tV tV | exact s_out0 hC rfl | exact s_outO hC rfl rfl rfl)
end Go.Proofs.Ytgbfkpcigipniaa
namespace Go.Proofs.Ytgbfkpcigipniaa
open Go Go.RT Go.Proofs Go.Pl
set_option linter.all false
set_option maxRecDepth 20000
set_option maxHeartbeats 2000000
theorem indexi_c (l : List Int) (x : Int) (hl : l.length ≤ 1999999) : Pure Try.prog 59 [VI l, If .i64 x] (If .i64 (idxAt (fun y => decide (x = y)) 0 l)) := by
  refine Meets.intro Try.func59 rfl (Nat.le_of_ble_eq_true rfl) fun C hC => ?_
  simp only [List.map, argEnv, Nat.reduceAdd]
  refine nK ?_
  refine s_reg rfl ?_
  refine Run.pure (dd := some 4) rfl rfl (op_assign rfl (Opd.const _)) ?_
  refine Run.nil (FinR.mk ?_)
  refine nK ?_
  refine s_reg rfl ?_
  refine Run.pure (dd := some 6) rfl rfl (op_move rfl (Opd.tmp _ _ rfl)) ?_
  refine Run.pure (dd := some 7) rfl rfl (op_len_fz rfl (by first | exact Opd.tmp _ _ rfl | exact Opd.nil _ _ (Opd.tmp _ _ rfl)) (by first | exact List.length_map _ | rfl)) ?_
  refine Run.pure (dd := some 8) rfl rfl (op_move rfl (Opd.const _)) ?_
  refine Run.nil (FinR.mk ?_)
  refine nK ?_
  refine n_loop (ι := Nat) (fun i => ([(0, .fz (VI l)), (1, IV .i64 x), (7, IV .i64 l.length), (8, IV .i64 i)], [], 0)) (fun i => i ≤ l.length ∧ idxAt (fun y => decide (x = y)) 0 l = idxAt (fun y => decide (x = y)) i (l.drop i)) (fun i => l.length - i) 0 ⟨Nat.zero_le _, rfl⟩ ?_ ?_
  · refine Next.weak [] [] (by rfl) (keeps0 hC _) (by repeat (first | exact trivial | refine ⟨⟨_, rfl, .inl ⟨rfl, rfl⟩⟩, ?_⟩)) (by repeat (first | exact trivial | refine ⟨ent_same rfl rfl rfl tL, ?_⟩ | refine ⟨ent_same rfl rfl (rfEq rfl tU) tL, ?_⟩ | refine ⟨ent_same rfl rfl (flEq rfl (by first | (simp; done) | (simp; omega) | (simp [encE, encN, encB, encT, encL, encTr]; done) | simp [maxC, minC])) trivial, ?_⟩)) (fun _ h => by simp at h) rel_intro
  · intro i ⟨hi, ho⟩ K hK
    refine nK ?_
    refine s_reg rfl ?_
    refine Run.pure (dd := some 9) rfl rfl (op_lss rfl (Opd.tmp _ _ rfl) (Opd.tmp _ _ rfl)) ?_
    refine Run.nil (FinR.mk ?_)
    refine nK ?_
    refine n_cond _ rfl (fun hb => ?_) (fun hb => ?_)
    · have hlt : i < l.length := by simp at hb; omega
      rw [List.drop_eq_getElem_cons hlt] at ho
      have hr1 := row_at' encN l i hlt
      have hK1 := fun h => hK (i + 1) ⟨by omega, h⟩ (by omega)
      generalize l[i] = y at *
      refine nK ?_
      refine s_reg rfl ?_
      refine Run.pure (dd := some 10) rfl rfl (op_move rfl (Opd.tmp _ _ rfl)) ?_
      refine Run.pure (dd := some 5) rfl rfl (op_assign rfl (Opd.tmp _ _ rfl)) ?_
      refine Run.nil (FinR.mk ?_)
      refine nK ?_
      refine s_reg rfl ?_
      refine Run.pure (dd := some 11) rfl rfl (op_move rfl (Opd.tmp _ _ rfl)) ?_
      refine Run.pure (dd := some 12) rfl rfl (op_move rfl (Opd.tmp _ _ rfl)) ?_
      refine Run.pure (dd := some 13) rfl rfl (op_move rfl (Opd.tmp _ _ rfl)) ?_
      refine Run.pure (dd := some 14) rfl rfl (op_idx_fz _ rfl (Opd.tmp _ _ rfl) (Opd.tmp _ _ rfl) tF) ?_
      refine Run.pure (dd := some 15) rfl rfl (op_load1_fz rfl (Opd.tmp _ _ rfl) rfl) ?_
      refine Run.pure (dd := some 16) rfl rfl (op_eql rfl (Opd.tmp _ _ rfl) (Opd.tmp _ _ rfl)) ?_
      refine Run.nil (FinR.mk ?_)
      refine nK ?_
      refine n_cond _ rfl (fun hb => ?_) (fun hb => ?_)
      · have e : x = y := by simpa using hb
        rw [ho, show idxAt (fun y => decide (x = y)) i (y :: l.drop (i + 1)) = (i : Int) by simp [idxAt, e]]
        refine nK ?_
        refine s_reg rfl ?_
        refine Run.pure (dd := some 17) rfl rfl (op_move rfl (Opd.tmp _ _ rfl)) ?_
        refine Run.pure (dd := some 4) rfl rfl (op_assign rfl (Opd.tmp _ _ rfl)) ?_
        refine Run.nil (FinR.mk ?_)
        refine nK ?_
        (first | exact s_o1 hC rfl tV | exact s_o2 hC rfl tV tV | exact s_o3 hC rfl tV tV tV | exact s_out0 hC rfl | exact s_outO hC rfl rfl rfl)
      · have e : ¬ x = y := by simpa using hb
        rw [show idxAt (fun y => decide (x = y)) i (y :: l.drop (i + 1)) = idxAt (fun y => decide (x = y)) (i + 1) (l.drop (i + 1)) by simp [idxAt, e]] at ho
        refine nK ?_
        refine s_reg rfl ?_
        refine Run.pure (dd := some 18) rfl rfl (op_add rfl (Opd.tmp _ _ rfl) (Opd.const _) tI) ?_
        refine Run.pure (dd := some 8) rfl rfl (op_move rfl (Opd.tmp _ _ rfl)) ?_
        refine Run.nil (FinR.mk ?_)
        refine nK ?_
        refine Next.weak [] [] (by rfl) (keeps0 hC _) (by repeat (first | exact trivial | refine ⟨⟨_, rfl, .inl ⟨rfl, rfl⟩⟩, ?_⟩)) (by repeat (first | exact trivial | refine ⟨ent_same rfl rfl rfl tL, ?_⟩ | refine ⟨ent_same rfl rfl (rfEq rfl tU) tL, ?_⟩ | refine ⟨ent_same rfl rfl (flEq rfl (by first | (simp; done) | (simp; omega) | (simp [encE, encN, encB, encT, encL, encTr]; done) | simp [maxC, minC])) trivial, ?_⟩)) (fun _ h => by simp at h) (hK1 ho)
    · have hie : i = l.length := by simp at hb; omega
      rw [hie, List.drop_length] at ho
      rw [ho]
      refine nK ?_
      refine s_reg rfl ?_
      refine Run.pure (dd := some 4) rfl rfl (op_assign rfl (Opd.const _)) ?_
      refine Run.nil (FinR.mk ?_)
      refine nK ?_
      (first | exact s_o1 hC rfl tV | exact s_o2 hC rfl tV tV | exact s_o3 hC rfl tV tV tV | exact s_out0 hC rfl | exact s_outO hC rfl rfl rfl)
theorem containsi_c (l : List Int) (x : Int) (hl : l.length ≤ 1999999) : Pure Try.prog 38 [VI l, If .i64 x] (Bf (decide (x ∈ l))) := by
  have e : decide (x ∈ l) = decide (0 ≤ idxAt (fun y => decide (x = y)) 0 l) := by
    rw [decide_eq_decide]
    have : ∀ (l : List Int) (k : Nat), x ∈ l ↔ 0 ≤ idxAt (fun y => decide (x = y)) k l := by
      intro l
      induction l with
      | nil => intro k; simp [idxAt]
      | cons y l ih =>
        intro k
        simp only [idxAt, List.mem_cons]
        by_cases e : x = y
        · simp [e]
        · simp [e, ← ih (k + 1)]
    exact this l 0
  rw [e]
  refine Meets.intro Try.func38 rfl (Nat.le_of_ble_eq_true rfl) fun C hC => ?_
  simp only [List.map, argEnv, Nat.reduceAdd]
  refine nK ?_
  refine s_reg rfl ?_
  refine Run.pure (dd := some 4) rfl rfl (op_assign rfl (Opd.const _)) ?_
  refine Run.nil (FinR.mk ?_)
  refine nK ?_
  refine s_reg rfl ?_
  refine Run.pure (dd := some 5) rfl rfl (op_move rfl (Opd.tmp _ _ rfl)) ?_
  refine Run.pure (dd := some 6) rfl rfl (op_move rfl (Opd.tmp _ _ rfl)) ?_
  refine Run.pure (dd := some 7) rfl rfl (op_call_pure (fun _ => indexi_c _ _ (by omega)) rfl (Opd.func _) (Opds.cons _ _ _ _ (Opd.tmp _ _ rfl) (Opds.cons _ _ _ _ (Opd.tmp _ _ rfl) Opds.nil))) ?_
  refine Run.pure (dd := some 8) rfl rfl (op_geq rfl (Opd.tmp _ _ rfl) (Opd.const _)) ?_
  refine Run.pure (dd := some 4) rfl rfl (op_assign rfl (Opd.tmp _ _ rfl)) ?_
  refine Run.nil (FinR.mk ?_)
  refine nK ?_
  (first | exact s_o1 hC rfl tV | exact s_o2 hC rfl tV tV | exact s_o3 hC rfl tV tV tV | exact s_out0 hC rfl | exact s_outO hC rfl rfl rfl)
end Go.Proofs.Ytgbfkpcigipniaa
namespace Go.Pl
open Go Go.RT
set_option linter.all false
/- the path, as the program finds it -/
def aboveL (par : List (List Int)) (v : Int) : List Int := if v < 0 ∨ (par.length : Int) ≤ v then [] else rowAt' par v.toNat
def push (l : List Int) (u : Int) : List Int := if u ∈ l then l else l ++ [u]
def bfsGo (ab : Int → List Int) : Nat → Nat → List Int → List Int
  | 0, _, l => l
  | f + 1, i, l => match l[i]? with
    | some x => bfsGo ab f (i + 1) ((ab x).foldl push l)
    | none => l
def needL (par : List (List Int)) (n : Nat) (to : Int) : List Int := bfsGo (aboveL par) (n + 1) 0 [to]
def nextAt (par : List (List Int)) (nd : List Int) (at_ : Int) (v : Nat) : Bool := decide ((v : Int) ∈ nd) && decide (at_ ∈ aboveL par v)
def nextG (par : List (List Int)) (nd : List Int) (at_ : Int) (n : Nat) : Nat → Nat → Int
  | 0, _ => -1
  | f + 1, v => if v < n then (if nextAt par nd at_ v = true then (v : Int) else nextG par nd at_ n f (v + 1)) else -1
def pathG (par : List (List Int)) (nd : List Int) (n : Nat) (to : Int) : Nat → Int → List Int → List Int
  | 0, _, out => out
  | f + 1, at_, out => if at_ = to then out else
    if nextG par nd at_ n n 0 < 0 ∨ (n : Int) < (out.length : Int) then [] else pathG par nd n to f (nextG par nd at_ n n 0) (out ++ [nextG par nd at_ n n 0])
def pathL (t : Tr) (to : Int) : List Int :=
  if to < 0 ∨ (t.dist.length : Int) ≤ to ∨ gt0 t.dist to.toNat < 0 then [] else
  pathG t.par (needL t.par t.dist.length to) t.dist.length to (t.dist.length + 2) t.root [t.root]
abbrev prs (l : List Int) : List (Int × Bool) := l.map fun u => (u, true)
theorem mget_prs (l : List Int) (u : Int) : (mget (prs l) u).getD false = decide (u ∈ l) := by
  induction l with
  | nil => rfl
  | cons x l ih =>
    simp only [prs, List.map_cons, mget, List.mem_cons]
    by_cases e : x = u
    · simp [e]
    · rw [if_neg e, ih]; simp; exact fun h => absurd h.symm e
theorem mput_prs {l : List Int} {u : Int} (h : u ∉ l) : mput (prs l) u true = prs (l ++ [u]) := by
  rw [mput_new (fun p hp => by obtain ⟨x, hx, rfl⟩ := List.mem_map.1 hp; exact fun e => h (by dsimp only at e; rwa [e] at hx))]
  simp [prs]
theorem prs_nodup {l : List Int} (h : l.Nodup) : ((prs l).map (·.1)).Nodup := by simpa [prs, Function.comp_def] using h
/-- a list of nodes, each once -/
def NdL (n : Nat) (l : List Int) : Prop := l.Nodup ∧ ∀ x ∈ l, 0 ≤ x ∧ x < n
theorem NdL.len {n : Nat} {l : List Int} (h : NdL n l) : l.length ≤ n := by
  have := nodup_len n (l.map Int.toNat) (by
    rw [List.Nodup, List.pairwise_map]
    refine h.1.imp_of_mem fun ha hb hab e => hab ?_
    have := h.2 _ ha; have := h.2 _ hb; omega) (fun x hx => by
      obtain ⟨y, hy, rfl⟩ := List.mem_map.1 hx
      have := h.2 y hy; omega)
  simpa using this
theorem NdL.push {n : Nat} {l : List Int} (h : NdL n l) {u : Int} (hu : 0 ≤ u ∧ u < n) : NdL n (push l u) := by
  unfold Pl.push
  split
  · exact h
  · next hm =>
    refine ⟨List.nodup_append.2 ⟨h.1, by simp, fun a ha b hb e => hm ?_⟩, fun x hx => ?_⟩
    · have : b = u := by simpa using hb
      rw [← this, ← e]; exact ha
    · rcases List.mem_append.1 hx with h1 | h1
      · exact h.2 x h1
      · have : x = u := by simpa using h1
        rw [this]; exact hu
theorem NdL.pushs {n : Nat} : ∀ (k : List Int) {l : List Int}, NdL n l → (∀ u ∈ k, 0 ≤ u ∧ u < n) → NdL n (k.foldl Pl.push l)
  | [], _, h, _ => h
  | x :: k, _, h, hk => NdL.pushs k (h.push (hk x (by simp))) fun u hu => hk u (by simp [hu])
theorem aboveL_ok {n : Nat} {par : List (List Int)} (hup : UpOk n par) (v : Int) : (aboveL par v).length ≤ 2000 ∧ ∀ u ∈ aboveL par v, 0 ≤ u ∧ u < n := by
  unfold aboveL
  split
  · simp
  · next h =>
    have := hup.row v.toNat (by rw [← hup.len]; omega)
    exact ⟨this.1, fun u hu => by have := this.2 u hu; omega⟩
end Go.Pl
namespace Go.Pl
theorem push_le1 (l : List Int) (u : Int) : l.length ≤ (push l u).length := by unfold push; split <;> simp
theorem push_le : ∀ (k l : List Int), l.length ≤ (k.foldl push l).length
  | [], _ => Nat.le_refl _
  | x :: k, l => Nat.le_trans (push_le1 l x) (push_le k _)
end Go.Pl
namespace Go.Pl
open Go Go.RT
set_option linter.all false
theorem isD_low {es : List Edg} {a : Nat} {D : List Int} (h0 : gt0 D a = 0) (he : ∀ e ∈ es, 0 ≤ gt0 D e.f.toNat → 0 ≤ gt0 D e.t.toNat ∧ gt0 D e.t.toNat ≤ gt0 D e.f.toNat + e.c) {v : Nat} {c : Int} (w : Wk es a v c) : 0 ≤ gt0 D v ∧ gt0 D v ≤ c := by
  induction w with
  | nil => omega
  | snoc w h ih => have := he _ h ih.1; omega
theorem isD_cert {es : List Edg} {a n : Nat} {D : List Int} (h0 : gt0 D a = 0) (he : ∀ e ∈ es, 0 ≤ gt0 D e.f.toNat → 0 ≤ gt0 D e.t.toNat ∧ gt0 D e.t.toNat ≤ gt0 D e.f.toNat + e.c) (hw : ∀ v, v < n → gt0 D v = -1 ∨ Wk es a v (gt0 D v)) : ∀ v, v < n → IsD es a v (gt0 D v) := fun v hv => by
  rcases hw v hv with h | h
  · exact .inl ⟨h, fun c w => by have := isD_low h0 he w; omega⟩
  · exact .inr ⟨h, fun c w => (isD_low h0 he w).2⟩
def gr1 : Gr := ⟨4, 0, [⟨0, 1, 1⟩, ⟨0, 3, 1⟩, ⟨1, 0, 1⟩, ⟨1, 2, 1⟩, ⟨2, 1, 1⟩, ⟨2, 3, 1⟩, ⟨3, 0, 1⟩, ⟨3, 2, 1⟩]⟩
def gr2 : Gr := ⟨2, 1, [⟨0, 2, 3⟩, ⟨1, 2, 3⟩, ⟨2, 0, 0⟩, ⟨2, 1, 0⟩]⟩
def tr1 : Tr := ⟨0, [0, 1, 2, 1], [[], [1], [1, 3], [3]], [[], [0], [1, 3], [0]]⟩
def tr2 : Tr := ⟨0, [0, 3, 3], [[], [1], [2]], [[], [2], [0]]⟩
theorem Wk.one {es : List Edg} {a u v : Nat} {c k : Int} (w : Wk es a u c) (f t : Int) (hf : f.toNat = u) (ht : t.toNat = v) (h : ⟨f, t, k⟩ ∈ es) : Wk es a v (c + k) := by
  subst hf; subst ht; exact .snoc w h
theorem run1 : RunOk gr1 0 tr1 := by
  refine ⟨by decide, by decide, rfl, rfl, isD_cert (by decide) (by decide) fun v hv => ?_, by decide, [3, 1, 2], by decide, ?_, by decide +kernel⟩
  · have hv4 : v < 4 := hv
    have w1 : Wk gr1.es 0 1 1 := Wk.one .nil 0 1 rfl rfl (k := 1) (by decide)
    match v, hv4 with
    | 0, _ => exact .inr .nil
    | 1, _ => exact .inr w1
    | 2, _ => exact .inr (Wk.one w1 1 2 rfl rfl (k := 1) (by decide))
    | 3, _ => exact .inr (Wk.one .nil 0 3 rfl rfl (k := 1) (by decide))
  · simp [ltHd, tr1, gt0]
theorem run2 : RunOk gr2 0 tr2 := by
  refine ⟨by decide, by decide, rfl, rfl, isD_cert (by decide) (by decide) fun v hv => ?_, by decide, [2, 1], by decide, ?_, by decide +kernel⟩
  · have hv4 : v < 3 := hv
    have w1 : Wk gr2.es 0 2 3 := Wk.one .nil 0 2 rfl rfl (k := 3) (by decide)
    match v, hv4 with
    | 0, _ => exact .inr .nil
    | 1, _ => exact .inr (Wk.one w1 2 1 rfl rfl (k := 0) (by decide))
    | 2, _ => exact .inr w1
  · simp [ltHd, tr2, gt0]
theorem path1 : pathL tr1 2 = [0, 1, 2] := by decide +kernel
theorem gr1_ok : okG gr1 := ⟨by decide, by decide, by unfold okEs okE gr1; decide⟩
theorem gr2_ok : okG gr2 := ⟨by decide, by decide, by unfold okEs okE gr2; decide⟩
end Go.Pl
namespace Go.Pl
open Go Go.RT
set_option linter.all false
theorem merge_mem {n : Nat} {ll : List (List Int)} (h : LLok n ll) (r : Int) {v : Nat} (hv : v < n) (y x : Int) : x ∈ rowAt' (mergeL r v ll y) v ↔ x = capV r v y ∨ x ∈ rowAt' ll v := by
  have e : rowAt' (mergeL r v ll y) v = insU (rowAt' ll v) (capV r v y) := by
    unfold mergeL
    show (ll.set v _).getD v [] = _
    rw [getD_set _ _ _ _ _ (by rw [h.len]; exact hv), if_pos rfl]
  rw [e]; exact (insU_spec (h.row v hv).1 _).2 x
theorem fold_mem {n : Nat} {r : Int} {v : Nat} (hv : v < n) : ∀ (l : List Int) {ll : List (List Int)}, LLok n ll → (∀ x ∈ l, 0 ≤ x ∧ x < n) → ∀ x, x ∈ rowAt' (l.foldl (mergeL r v) ll) v ↔ (∃ h ∈ l, x = capV r v h) ∨ x ∈ rowAt' ll v
  | [], _, _, _, x => by simp
  | y :: l, ll, h, hl, x => by
    have := fold_mem (r := r) hv l (h.merge r hv (hl y (by simp))) (fun z hz => hl z (by simp [hz])) x
    rw [List.foldl_cons, this, merge_mem h r hv]
    constructor
    · rintro (⟨z, hz, e⟩ | e | e)
      · exact .inl ⟨z, by simp [hz], e⟩
      · exact .inl ⟨y, by simp, e⟩
      · exact .inr e
    · rintro (⟨z, hz, e⟩ | e)
      · rcases List.mem_cons.1 hz with rfl | hz
        · exact .inr (.inl e)
        · exact .inl ⟨z, hz, e⟩
      · exact .inr (.inr e)
def Src (r : Int) (a v : Nat) (ll : List (List Int)) (u x : Int) : Prop := (u = (a : Int) ∧ x = capV r v (v : Int)) ∨ ∃ h ∈ rowAt' ll u.toNat, x = capV r v h
theorem step_mem {n : Nat} {r : Int} {a v : Nat} (hv : v < n) {ll : List (List Int)} (h : LLok n ll) {u : Int} (hu : 0 ≤ u ∧ u < n) (x : Int) : x ∈ rowAt' (stepU r a v ll u) v ↔ Src r a v ll u x ∨ x ∈ rowAt' ll v := by
  unfold stepU Src
  by_cases e : u = (a : Int)
  · rw [if_pos e, fold_mem hv _ (h.merge r hv (by omega)) (h.row u.toNat (by omega)).2, merge_mem h r hv]
    constructor
    · rintro (h1 | h1 | h1)
      · exact .inl (.inr h1)
      · exact .inl (.inl ⟨e, h1⟩)
      · exact .inr h1
    · rintro ((⟨_, h1⟩ | h1) | h1)
      · exact .inr (.inl h1)
      · exact .inl h1
      · exact .inr (.inr h1)
  · rw [if_neg e, fold_mem hv _ h (h.row u.toNat (by omega)).2]
    constructor
    · rintro (h1 | h1)
      · exact .inl (.inr h1)
      · exact .inr h1
    · rintro ((⟨h1, _⟩ | h1) | h1)
      · exact absurd h1 e
      · exact .inl h1
      · exact .inr h1
theorem step_other {r : Int} {a v : Nat} {ll : List (List Int)} {u : Int} {w : Nat} (hw : w ≠ v) : rowAt' (stepU r a v ll u) w = rowAt' ll w := by
  unfold stepU
  rw [fold_other hw]
  split
  · exact merge_other _ _ _ _ hw
  · rfl
theorem steps_mem {n : Nat} {r : Int} {a v : Nat} (hv : v < n) : ∀ (l : List Int) {ll : List (List Int)}, LLok n ll → (∀ u ∈ l, 0 ≤ u ∧ u < n ∧ u ≠ (v : Int)) → (∀ x, x ∈ rowAt' (l.foldl (stepU r a v) ll) v ↔ (∃ u ∈ l, Src r a v ll u x) ∨ x ∈ rowAt' ll v) ∧ ∀ w, w ≠ v → rowAt' (l.foldl (stepU r a v) ll) w = rowAt' ll w
  | [], _, _, _ => ⟨fun x => by simp, fun w _ => rfl⟩
  | y :: l, ll, h, hl => by
    have hy := hl y (by simp)
    obtain ⟨i1, i2⟩ := steps_mem (r := r) (a := a) hv l (h.step r hv (u := y) (a := a) (by omega)) (fun z hz => hl z (by simp [hz]))
    refine ⟨fun x => ?_, fun w hw => (i2 w hw).trans (step_other hw)⟩
    have hs : ∀ u ∈ l, ∀ x, Src r a v (stepU r a v ll y) u x ↔ Src r a v ll u x := fun u hu x => by
      unfold Src
      rw [step_other (by have := hl u (by simp [hu]); omega)]
    rw [List.foldl_cons, i1, step_mem hv h (by omega)]
    constructor
    · rintro (⟨z, hz, e⟩ | e | e)
      · exact .inl ⟨z, by simp [hz], (hs z hz x).1 e⟩
      · exact .inl ⟨y, by simp, e⟩
      · exact .inr e
    · rintro (⟨z, hz, e⟩ | e)
      · rcases List.mem_cons.1 hz with rfl | hz
        · exact .inr (.inl e)
        · exact .inl ⟨z, hz, (hs z hz x).2 e⟩
      · exact .inr (.inr e)
structure HopInv (r : Int) (a n : Nat) (up : List (List Int)) (done : List Nat) (ll : List (List Int)) : Prop where
  ok : LLok n ll
  off : ∀ v, v < n → v ∉ done → rowAt' ll v = []
  on : ∀ v ∈ done, ∀ x, x ∈ rowAt' ll v ↔ ∃ u ∈ rowAt' up v, Src r a v ll u x
theorem hops_inv {r : Int} {a n : Nat} {up : List (List Int)} (hup : UpOk n up) : ∀ (l done : List Nat) {ll : List (List Int)}, HopInv r a n up done ll → (∀ v ∈ done, ∀ u ∈ rowAt' up v, u = (a : Int) ∨ u.toNat ∈ done) → a ∉ done → a ∉ l → (∀ v ∈ l, v < n) → (done ++ l).Nodup →
    (∀ p v q, l = p ++ v :: q → ∀ u ∈ rowAt' up v, u = (a : Int) ∨ u.toNat ∈ done ++ p) → HopInv r a n up (done ++ l) (l.foldl (hopsV r a up) ll)
  | [], done, ll, h, _, _, _, _, _, _ => by simpa using h
  | v :: l, done, ll, h, hcl, had, hal, hlt, hnd, htop => by
    have hv := hlt v (by simp)
    have hvd : v ∉ done := fun e => (List.nodup_append.1 hnd).2.2 v e v (by simp) rfl
    have hva : a ≠ v := fun e => hal (by rw [e]; simp)
    obtain ⟨q1, q2⟩ := steps_mem (r := r) (a := a) hv (rowAt' up v) h.ok (fun u hu => (hup.row v hv).2 u hu)
    have hok : LLok n (hopsV r a up ll v) := LLok.steps hv _ h.ok fun x hx => by have := (hup.row v hv).2 x hx; omega
    have hnew : HopInv r a n up (done ++ [v]) (hopsV r a up ll v) := by
      refine ⟨hok, fun w hw hwd => ?_, fun w hw x => ?_⟩
      · have hne : w ≠ v := fun e => hwd (by simp [e])
        exact (q2 w hne).trans (h.off w hw fun e => hwd (by simp [e]))
      · rcases List.mem_append.1 hw with hw | hw
        · have hne : w ≠ v := fun e => hvd (by rw [← e]; exact hw)
          show x ∈ rowAt' (hopsV r a up ll v) w ↔ _
          rw [show rowAt' (hopsV r a up ll v) w = rowAt' ll w from q2 w hne, h.on w hw x]
          refine exists_congr fun u => and_congr_right fun hu => ?_
          unfold Src
          have hut : u.toNat ≠ v := by
            rcases hcl w hw u hu with e | e
            · omega
            · exact fun e2 => hvd (by rw [← e2]; exact e)
          rw [show rowAt' (hopsV r a up ll v) u.toNat = rowAt' ll u.toNat from q2 _ hut]
        · have : w = v := by simpa using hw
          subst this
          show x ∈ rowAt' ((rowAt' up w).foldl (stepU r a w) ll) w ↔ _
          rw [q1 x, h.off w hv hvd]
          simp only [List.not_mem_nil, or_false]
          refine exists_congr fun u => and_congr_right fun hu => ?_
          unfold Src
          have hut : u.toNat ≠ w := by have := (hup.row w hv).2 u hu; omega
          rw [show rowAt' (hopsV r a up ll w) u.toNat = rowAt' ll u.toNat from q2 _ hut]
    have := hops_inv hup l (done ++ [v]) hnew (fun w hw u hu => by
      rcases List.mem_append.1 hw with hw | hw
      · rcases hcl w hw u hu with e | e
        · exact .inl e
        · exact .inr (by simp [e])
      · have : w = v := by simpa using hw
        subst this
        rcases htop [] w l rfl u hu with e | e
        · exact .inl e
        · exact .inr (by simp at e; simp [e])) (by simp [had, hva]) (fun e => hal (by simp [e])) (fun w hw => hlt w (by simp [hw])) (by simpa using hnd) (fun p w q e u hu => by
        rcases htop (v :: p) w q (by rw [e]; rfl) u hu with e2 | e2
        · exact .inl e2
        · exact .inr (by simpa using e2))
    simpa using this
end Go.Pl
namespace Go.Pl
open Go Go.RT
set_option linter.all false
abbrev Gr.m (g : Gr) : Nat := (g.r + g.n).toNat
theorem IsD.cases {es : List Edg} {r n a v : Nat} {d : Int} (vg : VG es r n) (h : IsD es a v d) : (d = -1 ∧ ∀ c, ¬ Wk es a v c) ∨ (0 ≤ d ∧ Wk es a v d ∧ ∀ c, Wk es a v c → d ≤ c) := by
  rcases h with h | h
  · exact .inl h
  · exact .inr ⟨h.1.nn vg, h⟩
end Go.Pl
namespace Go.Pl
open Go Go.RT
set_option linter.all false
theorem RunOk.vg {g : Gr} {a : Nat} {t : Tr} (h : RunOk g a t) : VG g.es g.r.toNat g.m := (checkI_vg h.ok).1
theorem RunOk.am {g : Gr} {a : Nat} {t : Tr} (h : RunOk g a t) : a < g.m := by have := (checkI_vg h.ok).2; have := h.lt; unfold Gr.m; omega
theorem RunOk.parl {g : Gr} {a : Nat} {t : Tr} (h : RunOk g a t) : t.par.length = g.m := by rw [h.par, parL_len]
theorem RunOk.up {g : Gr} {a : Nat} {t : Tr} (h : RunOk g a t) : UpOk g.m t.par := by rw [h.par]; exact parL_ok h.vg _ _
theorem RunOk.edge {g : Gr} {a : Nat} {t : Tr} (h : RunOk g a t) {e : Edg} (he : e ∈ g.es) (h0 : 0 ≤ gt0 t.dist e.f.toNat) : 0 ≤ gt0 t.dist e.t.toNat ∧ gt0 t.dist e.t.toNat ≤ gt0 t.dist e.f.toNat + e.c := by
  have vg := h.vg
  have hf := vg.f e he; have ht := vg.t e he
  rcases (h.dist e.f.toNat (by show _ < g.m; omega)).cases vg with ⟨h1, _⟩ | ⟨_, h2, _⟩
  · omega
  · have w := Wk.snoc h2 he
    rcases (h.dist e.t.toNat (by show _ < g.m; omega)).cases vg with ⟨_, h4⟩ | ⟨h3, _, h5⟩
    · exact absurd w (h4 _)
    · exact ⟨h3, h5 _ w⟩
theorem RunOk.par_mem {g : Gr} {a : Nat} {t : Tr} (h : RunOk g a t) {v : Nat} (hv : v < g.m) (u : Int) : u ∈ rowAt' t.par v ↔ v ≠ a ∧ ∃ e ∈ g.es, e.f = u ∧ e.t = (v : Int) ∧ gt0 t.dist e.f.toNat ≠ -1 ∧ gt0 t.dist e.f.toNat + e.c = gt0 t.dist v := by
  have e0 : rowAt' t.par v = parE g.es a t.dist v := by rw [h.par]; exact parL_get _ _ _ hv
  rw [e0]
  unfold parE
  simp only [List.mem_map, List.mem_filter, Bool.and_eq_true, decide_eq_true_eq, parC]
  constructor
  · rintro ⟨e, ⟨he, ⟨⟨h1, h2⟩, h3⟩, h4⟩, h5⟩
    refine ⟨by omega, e, he, h5, h4, h2, ?_⟩
    rw [h4, Int.toNat_natCast] at h3; exact h3
  · rintro ⟨hne, e, he, h5, h4, h2, h3⟩
    refine ⟨e, ⟨he, ⟨⟨by omega, h2⟩, ?_⟩, h4⟩, h5⟩
    rw [h4, Int.toNat_natCast]; exact h3
theorem RunOk.dge {g : Gr} {a : Nat} {t : Tr} (h : RunOk g a t) {v : Nat} (hv : v < g.m) : -1 ≤ gt0 t.dist v := (h.dist v hv).ge h.vg
theorem RunOk.par_ex {g : Gr} {a : Nat} {t : Tr} (h : RunOk g a t) {v : Nat} (hv : v < g.m) (hne : v ≠ a) (h0 : 0 ≤ gt0 t.dist v) : ∃ u, u ∈ rowAt' t.par v := by
  have vg := h.vg
  rcases (h.dist v hv).cases vg with ⟨h1, _⟩ | ⟨_, w, hm⟩
  · omega
  · generalize hd : gt0 t.dist v = d at w hm
    have key : ∀ {v' : Nat} {d' : Int}, Wk g.es a v' d' → v' = v → d' = d → ∃ u, u ∈ rowAt' t.par v := fun {v' d'} w' hv' hd' => by
      cases w' with
      | nil => exact absurd hv'.symm hne
      | @snoc e c w2 he =>
        have hf := vg.f e he; have ht := vg.t e he
        rcases (h.dist e.f.toNat (by show _ < g.m; omega)).cases vg with ⟨_, h4⟩ | ⟨h3, _, h5⟩
        · exact absurd w2 (h4 _)
        · have h6 := h5 _ w2
          have h7 := (h.edge he h3).2
          rw [hv'] at h7
          exact ⟨e.f, (h.par_mem hv _).2 ⟨hne, e, he, rfl, by omega, by omega, by omega⟩⟩
    exact key w rfl rfl
theorem split_before {d : List Int} {l p q : List Nat} {v u : Nat} (hs : l.Pairwise (ltHd d)) (e : l = p ++ v :: q) (hu : u ∈ l) (hlt : ltHd d u v) : u ∈ p := by
  subst e
  rcases List.mem_append.1 hu with h | h
  · exact h
  · exfalso
    have h2 := (List.pairwise_append.1 hs).2.1
    rcases List.mem_cons.1 h with rfl | h
    · unfold ltHd at hlt; omega
    · have := (List.pairwise_cons.1 h2).1 u h
      unfold ltHd at *; omega
theorem ordA_mem {d : List Int} {a i v : Nat} : v ∈ ordA d a i ↔ v < i ∧ gt0 d v ≠ -1 ∧ v ≠ a := by
  unfold ordA ordP
  simp only [List.mem_filter, List.mem_range, Bool.and_eq_true, decide_eq_true_eq]
  omega
theorem RunOk.hopInv {g : Gr} {a : Nat} {t : Tr} (h : RunOk g a t) : HopInv g.r a g.m t.par (ordA t.dist a g.m) t.hops := by
  have vg := h.vg
  obtain ⟨l2, p, q, hh⟩ := h.hops
  have hmem : ∀ v, v ∈ l2 ↔ v < g.m ∧ gt0 t.dist v ≠ -1 ∧ v ≠ a := fun v => p.mem_iff.trans ordA_mem
  have hnd : l2.Nodup := p.nodup_iff.2 (List.nodup_range.filter _)
  have hbase : HopInv g.r a g.m t.par [] (List.replicate g.m []) := ⟨LLok.nil _, fun v hv _ => getD_rep _ _ _ _ hv, fun v hv => by cases hv⟩
  have := hops_inv (r := g.r) h.up l2 [] hbase (fun v hv => by cases hv) (by simp) (fun e => ((hmem a).1 e).2.2 rfl) (fun v hv => ((hmem v).1 hv).1) (by simpa using hnd) (fun pre v suf e u hu => by
    have hv : v ∈ l2 := by rw [e]; simp
    obtain ⟨hv1, hv2, hv3⟩ := (hmem v).1 hv
    obtain ⟨_, ed, he, hf, ht, h1, h2⟩ := (h.par_mem hv1 u).1 hu
    have hfn := vg.f ed he
    have hc := vg.c ed he
    by_cases hua : u = (a : Int)
    · exact .inl hua
    · refine .inr ?_
      rw [hf] at h1 h2 hfn
      simp only [List.nil_append]
      refine split_before q e ((hmem u.toNat).2 ⟨by omega, h1, by omega⟩) ?_
      unfold ltHd
      by_cases hc0 : ed.c = 0
      · refine .inr ⟨by omega, ?_⟩
        have hr : (g.r.toNat : Int) ≤ ed.f := by
          by_cases hlt : ed.f < (g.r.toNat : Int)
          · have := vg.rt ed he hlt; omega
          · omega
        have := (vg.net ed he hr).1
        omega
      · left; omega)
  rw [hh]
  refine ⟨this.ok, fun v hv hn => this.off v hv (fun e => hn (p.mem_iff.1 (by simpa using e))), fun v hv => this.on v (by simpa using p.mem_iff.2 hv)⟩
theorem RunOk.hop_ex {g : Gr} {a : Nat} {t : Tr} (h : RunOk g a t) {v : Nat} (hv : v < g.m) (hne : v ≠ a) (h0 : 0 ≤ gt0 t.dist v) : ∃ x, x ∈ rowAt' t.hops v := by
  have hi := h.hopInv
  obtain ⟨l2, p, q, hh⟩ := h.hops
  have vg := h.vg
  -- by the order
  have key : ∀ (k : Nat) (v : Nat), v < g.m → v ≠ a → 0 ≤ gt0 t.dist v → (gt0 t.dist v).toNat * 129 + (g.m - v) ≤ k → ∃ x, x ∈ rowAt' t.hops v := by
    intro k
    induction k with
    | zero => intro v hv _ _ hk; omega
    | succ k ih =>
      intro v hv hne h0 hk
      obtain ⟨u, hu⟩ := h.par_ex hv hne h0
      obtain ⟨_, ed, he, hf, ht, h1, h2⟩ := (h.par_mem hv u).1 hu
      have hfn := vg.f ed he
      have hc := vg.c ed he
      have hon := hi.on v (ordA_mem.2 ⟨hv, by omega, hne⟩)
      by_cases hua : u = (a : Int)
      · exact ⟨_, (hon _).2 ⟨u, hu, .inl ⟨hua, rfl⟩⟩⟩
      · rw [hf] at h1 h2 hfn
        have hdu := h.dge (v := u.toNat) (by omega)
        have hm := vg.n128
        obtain ⟨x, hx⟩ := ih u.toNat (by omega) (by omega) (by omega) (by
          by_cases hc0 : ed.c = 0
          · have hr : (g.r.toNat : Int) ≤ ed.f := by
              by_cases hlt : ed.f < (g.r.toNat : Int)
              · have := vg.rt ed he hlt; omega
              · omega
            have := (vg.net ed he hr).1
            have e1 : gt0 t.dist u.toNat = gt0 t.dist v := by omega
            rw [e1]; omega
          · have e1 : (gt0 t.dist u.toNat).toNat + 1 ≤ (gt0 t.dist v).toNat := by omega
            have e2 := Nat.mul_le_mul_right 129 e1
            omega)
        exact ⟨_, (hon _).2 ⟨u, hu, .inr ⟨x, hx, rfl⟩⟩⟩
  exact key _ v hv hne h0 (Nat.le_refl _)
theorem RunOk.par_len {g : Gr} {a : Nat} {t : Tr} (h : RunOk g a t) {v : Nat} (hv : v < g.m) : 0 < (rowAt' t.par v).length ↔ v ≠ a ∧ 0 ≤ gt0 t.dist v := by
  constructor
  · intro hl
    obtain ⟨u, hu⟩ := List.exists_mem_of_length_pos hl
    obtain ⟨h1, ed, he, hf, ht, h2, h3⟩ := (h.par_mem hv u).1 hu
    have := h.vg.f ed he; have := h.vg.c ed he
    have := h.dge (v := ed.f.toNat) (by omega)
    exact ⟨h1, by omega⟩
  · rintro ⟨h1, h2⟩
    obtain ⟨u, hu⟩ := h.par_ex hv h1 h2
    exact List.length_pos_of_mem hu
theorem RunOk.hop_len {g : Gr} {a : Nat} {t : Tr} (h : RunOk g a t) {v : Nat} (hv : v < g.m) : 0 < (rowAt' t.hops v).length ↔ v ≠ a ∧ 0 ≤ gt0 t.dist v := by
  have hd := h.dge hv
  constructor
  · intro hl
    refine Classical.byContradiction fun hn => ?_
    have := h.hopInv.off v hv (fun e => by have := ordA_mem.1 e; exact hn ⟨this.2.2, by omega⟩)
    rw [this] at hl; simp at hl
  · rintro ⟨h1, h2⟩
    obtain ⟨u, hu⟩ := h.hop_ex hv h1 h2
    exact List.length_pos_of_mem hu
end Go.Pl
namespace Go.Pl
open Go Go.RT
set_option linter.all false
/- the nodes that lead to an end -/
theorem push_mem (l : List Int) (u x : Int) : x ∈ push l u ↔ x ∈ l ∨ x = u := by
  unfold push
  split
  · next h => constructor
              · exact .inl
              · rintro (h1 | rfl)
                · exact h1
                · exact h
  · simp
theorem pushs_mem : ∀ (k l : List Int) (x : Int), x ∈ k.foldl push l ↔ x ∈ l ∨ x ∈ k
  | [], l, x => by simp
  | u :: k, l, x => by rw [List.foldl_cons, pushs_mem k, push_mem, List.mem_cons, or_assoc]
theorem pushs_pre : ∀ (k l : List Int), ∃ r, k.foldl push l = l ++ r
  | [], l => ⟨[], by simp⟩
  | u :: k, l => by
    obtain ⟨r, hr⟩ := pushs_pre k (push l u)
    rw [List.foldl_cons, hr]
    unfold push
    split
    · exact ⟨r, rfl⟩
    · exact ⟨[u] ++ r, by rw [List.append_assoc]⟩
inductive Anc2 (par : List (List Int)) (to : Int) : Int → Prop where
  | here : Anc2 par to to
  | up {x u : Int} : Anc2 par to x → u ∈ aboveL par x → Anc2 par to u
theorem bfs_spec {n : Nat} {par : List (List Int)} (hup : UpOk n par) {to : Int} : ∀ (f i : Nat) (l : List Int), NdL n l → n + 1 ≤ f + i → i ≤ l.length → (∀ x ∈ l, Anc2 par to x) → (∀ k (h : k < l.length), k < i → ∀ u ∈ aboveL par l[k], u ∈ l) →
    (∀ x ∈ l, x ∈ bfsGo (aboveL par) f i l) ∧ (∀ x ∈ bfsGo (aboveL par) f i l, Anc2 par to x ∧ ∀ u ∈ aboveL par x, u ∈ bfsGo (aboveL par) f i l) ∧ NdL n (bfsGo (aboveL par) f i l)
  | 0, i, l, h, hf, hi, ha, hc => by have := h.len; omega
  | f + 1, i, l, h, hf, hi, ha, hc => by
    simp only [bfsGo]
    by_cases hlt : i < l.length
    · rw [List.getElem?_eq_getElem hlt]
      obtain ⟨r, hr⟩ := pushs_pre (aboveL par l[i]) l
      have hm := pushs_mem (aboveL par l[i]) l
      have hnd : NdL n ((aboveL par l[i]).foldl push l) := NdL.pushs _ h (aboveL_ok hup _).2
      obtain ⟨q1, q2, q3⟩ := bfs_spec hup f (i + 1) ((aboveL par l[i]).foldl push l) hnd (by omega) (by have := push_le (aboveL par l[i]) l; omega) (fun x hx => by
        rcases (hm x).1 hx with h1 | h1
        · exact ha x h1
        · exact .up (ha _ (List.getElem_mem hlt)) h1) (fun k hk hki u hu => by
        have hkl : k < l.length := by omega
        have e : ((aboveL par l[i]).foldl push l)[k] = l[k] := by
          simp only [hr]; rw [List.getElem_append_left hkl]
        rw [e] at hu
        by_cases hki2 : k = i
        · subst hki2; exact (hm u).2 (.inr hu)
        · exact (hm u).2 (.inl (hc k hkl (by omega) u hu)))
      exact ⟨fun x hx => q1 x ((hm x).2 (.inl hx)), q2, q3⟩
    · rw [List.getElem?_eq_none (by omega)]
      dsimp only
      refine ⟨fun x hx => hx, fun x hx => ⟨ha x hx, fun u hu => ?_⟩, h⟩
      obtain ⟨k, hk, rfl⟩ := List.mem_iff_getElem.1 hx
      exact hc k hk (by omega) u hu
theorem need_spec {n : Nat} {par : List (List Int)} (hup : UpOk n par) {to : Int} (ht : 0 ≤ to ∧ to < n) : (∀ x, x ∈ needL par n to ↔ Anc2 par to x) ∧ NdL n (needL par n to) := by
  obtain ⟨q1, q2, q3⟩ := bfs_spec hup (to := to) (n + 1) 0 [to] ⟨by simp, by simp; exact ht⟩ (by omega) (by simp) (fun x hx => by
    have : x = to := by simpa using hx
    rw [this]; exact .here) (fun k _ hk => by omega)
  refine ⟨fun x => ⟨fun h => (q2 x h).1, fun h => ?_⟩, q3⟩
  induction h with
  | here => exact q1 to (by simp)
  | up h hu ih => exact (q2 _ ih).2 _ hu
theorem next_spec (par : List (List Int)) (nd : List Int) (at_ : Int) (n : Nat) : ∀ (f v : Nat), n ≤ f + v → v ≤ n →
    (nextG par nd at_ n f v = -1 ∧ ∀ w, v ≤ w → w < n → nextAt par nd at_ w = false) ∨ ∃ w, v ≤ w ∧ w < n ∧ nextG par nd at_ n f v = (w : Int) ∧ nextAt par nd at_ w = true ∧ ∀ w', v ≤ w' → w' < w → nextAt par nd at_ w' = false
  | 0, v, h, hv => .inl ⟨rfl, fun w h1 h2 => by omega⟩
  | f + 1, v, h, hv => by
    simp only [nextG]
    by_cases hvn : v < n
    · rw [if_pos hvn]
      by_cases hx : nextAt par nd at_ v = true
      · rw [if_pos hx]; exact .inr ⟨v, Nat.le_refl _, hvn, rfl, hx, fun w' h1 h2 => by omega⟩
      · rw [if_neg hx]
        have hx' : nextAt par nd at_ v = false := by simpa using hx
        rcases next_spec par nd at_ n f (v + 1) (by omega) hvn with ⟨h1, h2⟩ | ⟨w, h1, h2, h3, h4, h5⟩
        · refine .inl ⟨h1, fun w h3 h4 => ?_⟩
          by_cases e : w = v
          · rw [e]; exact hx'
          · exact h2 w (by omega) h4
        · refine .inr ⟨w, by omega, h2, h3, h4, fun w' h6 h7 => ?_⟩
          by_cases e : w' = v
          · rw [e]; exact hx'
          · exact h5 w' (by omega) h7
    · rw [if_neg hvn]; exact .inl ⟨rfl, fun w h1 h2 => by omega⟩
theorem anc_next {par : List (List Int)} {to x : Int} (h : Anc2 par to x) (hne : x ≠ to) : ∃ v, Anc2 par to v ∧ x ∈ aboveL par v := by
  cases h with
  | here => exact absurd rfl hne
  | up h hu => exact ⟨_, h, hu⟩
end Go.Pl
namespace Go.Pl
open Go Go.RT
set_option linter.all false
theorem cost_of {es : List Edg} (ha : AscK es) {e : Edg} (he : e ∈ es) : costL e.f e.t es = (e.c, true) := by
  induction es with
  | nil => cases he
  | cons x l ih =>
    obtain ⟨a1, a2⟩ := List.pairwise_cons.1 ha
    simp only [costL]
    rcases List.mem_cons.1 he with rfl | he
    · rw [if_pos (by simp [isB])]
    · rw [if_neg ?_]
      · exact ih a2 he
      · have := a1 e he
        simp only [isB, Bool.and_eq_true, decide_eq_true_eq]
        unfold ltK at this; omega
theorem RunOk.above {g : Gr} {a : Nat} {t : Tr} (h : RunOk g a t) {v : Nat} (hv : v < g.m) : aboveL t.par v = rowAt' t.par v := by
  unfold aboveL
  rw [if_neg (by rw [h.parl]; omega), Int.toNat_natCast]
/-- a step of a path -/
theorem RunOk.stp {g : Gr} {a : Nat} {t : Tr} (h : RunOk g a t) {v : Nat} (hv : v < g.m) {u : Int} (hu : u ∈ rowAt' t.par v) :
    v ≠ a ∧ 0 ≤ u ∧ u < g.m ∧ 0 ≤ gt0 t.dist u.toNat ∧ (∃ c, costL u v g.es = (c, true) ∧ gt0 t.dist u.toNat + c = gt0 t.dist v ∧ 0 ≤ c ∧ c ≤ 65535) ∧ ltHd t.dist u.toNat v ∧ (g.r ≤ u → (v : Int) < g.r) := by
  have vg := h.vg
  obtain ⟨h1, e, he, hf, ht, h2, h3⟩ := (h.par_mem hv u).1 hu
  have hfn := vg.f e he
  have hc := vg.c e he
  have hg0 := (checkI_vg h.ok).2.1
  rw [hf] at hfn h2 h3
  have hd := h.dge (v := u.toNat) (by omega)
  refine ⟨h1, hfn.1, hfn.2, by omega, ⟨e.c, by rw [← hf, ← ht]; exact cost_of vg.asc he, h3, hc.1, hc.2⟩, ?_, fun hr => by have := (vg.net e he (by omega)).1; omega⟩
  unfold ltHd
  by_cases hc0 : e.c = 0
  · refine .inr ⟨by omega, ?_⟩
    have hr : (g.r.toNat : Int) ≤ e.f := by
      by_cases hlt : e.f < (g.r.toNat : Int)
      · have := vg.rt e he hlt; omega
      · omega
    have := (vg.net e he hr).1
    omega
  · left; omega
end Go.Pl
namespace Go.Pl
open Go Go.RT
set_option linter.all false
structure GoodP (g : Gr) (a to : Nat) (t : Tr) (nd : List Int) (p : List Int) : Prop where
  pos : 0 < p.length
  head : p[0]? = some (a : Int)
  last : p[p.length - 1]? = some (to : Int)
  stp : ∀ i x y, p[i]? = some x → p[i + 1]? = some y → ∃ v : Nat, y = (v : Int) ∧ v < g.m ∧ x ∈ rowAt' t.par v ∧ ∀ w : Nat, w < v → ¬ ((w : Int) ∈ nd ∧ x ∈ aboveL t.par w)
  no : NdL g.m p
structure PInv (g : Gr) (a : Nat) (t : Tr) (nd : List Int) (at_ : Nat) (pre : List Int) : Prop where
  head : (pre ++ [(at_ : Int)])[0]? = some (a : Int)
  stp : ∀ i x y, (pre ++ [(at_ : Int)])[i]? = some x → (pre ++ [(at_ : Int)])[i + 1]? = some y → ∃ v : Nat, y = (v : Int) ∧ v < g.m ∧ x ∈ rowAt' t.par v ∧ ∀ w : Nat, w < v → ¬ ((w : Int) ∈ nd ∧ x ∈ aboveL t.par w)
  no : NdL g.m (pre ++ [(at_ : Int)])
  lt : ∀ x ∈ pre, ltHd t.dist x.toNat at_
  mem : (at_ : Int) ∈ nd
theorem path_go {g : Gr} {a to : Nat} {t : Tr} (h : RunOk g a t) (hto : to < g.m) : ∀ (f : Nat) (at_ : Nat) (pre : List Int), g.m + 2 ≤ f + (pre.length + 1) → PInv g a t (needL t.par g.m to) at_ pre → GoodP g a to t (needL t.par g.m to) (pathG t.par (needL t.par g.m to) g.m to f at_ (pre ++ [(at_ : Int)]))
  | 0, at_, pre, hf, hi => by have := hi.no.len; simp at this; omega
  | f + 1, at_, pre, hf, hi => by
    have hlen := hi.no.len
    simp only [pathG]
    by_cases he : (at_ : Int) = (to : Int)
    · rw [if_pos he]
      refine ⟨by simp, hi.head, ?_, hi.stp, hi.no⟩
      rw [← he]; simp
    · rw [if_neg he]
      obtain ⟨ns1, ns2⟩ := need_spec h.up (to := (to : Int)) (by omega)
      obtain ⟨v0, hv0, hx0⟩ := anc_next ((ns1 _).1 hi.mem) he
      have hv0n := ns2.2 _ ((ns1 _).2 hv0)
      rcases next_spec t.par (needL t.par g.m to) at_ g.m g.m 0 (by omega) (Nat.zero_le _) with ⟨_, h2⟩ | ⟨w, _, hw, h3, h4, h5⟩
      · exfalso
        have := h2 v0.toNat (Nat.zero_le _) (by omega)
        have e : ((v0.toNat : Nat) : Int) = v0 := by omega
        unfold nextAt at this
        rw [e] at this
        simp [(ns1 v0).2 hv0, hx0] at this
      · rw [h3, if_neg (by omega)]
        have h4' : (w : Int) ∈ needL t.par g.m to ∧ (at_ : Int) ∈ aboveL t.par w := by simpa [nextAt] using h4
        have hat : (at_ : Int) ∈ rowAt' t.par w := by rw [← h.above hw]; exact h4'.2
        have hs := h.stp hw hat
        have hlt : ltHd t.dist at_ w := by have := hs.2.2.2.2.2.1; rwa [Int.toNat_natCast] at this
        have hlts : ∀ x ∈ pre ++ [(at_ : Int)], ltHd t.dist x.toNat w := fun x hx => by
          rcases List.mem_append.1 hx with h6 | h6
          · have := hi.lt x h6; unfold ltHd at *; omega
          · have : x = (at_ : Int) := by simpa using h6
            rw [this, Int.toNat_natCast]; exact hlt
        refine path_go h hto f w (pre ++ [(at_ : Int)]) (by simp; omega) ⟨?_, fun i x y hx hy => ?_, ⟨?_, fun x hx => ?_⟩, hlts, h4'.1⟩
        · rw [List.getElem?_append_left (by simp)]; exact hi.head
        · by_cases hil : i + 1 < (pre ++ [(at_ : Int)]).length
          · rw [List.getElem?_append_left (by omega)] at hx
            rw [List.getElem?_append_left hil] at hy
            exact hi.stp i x y hx hy
          · have hle := (List.getElem?_eq_some_iff.1 hy).1
            have hie : i = pre.length := by simp at hil hle; omega
            subst hie
            have ey : y = (w : Int) := by simpa [List.getElem?_append] using hy.symm
            have ex : x = (at_ : Int) := by
              rw [List.getElem?_append_left (by simp)] at hx
              simpa using hx.symm
            subst ey; subst ex
            refine ⟨w, rfl, hw, hat, fun w' hw' hc => ?_⟩
            have := h5 w' (Nat.zero_le _) hw'
            simp [nextAt, hc.1, hc.2] at this
        · refine List.nodup_append.2 ⟨hi.no.1, by simp, fun x hx y hy e => ?_⟩
          have : y = (w : Int) := by simpa using hy
          have h7 := hlts x hx
          rw [e, this, Int.toNat_natCast] at h7
          unfold ltHd at h7; omega
        · rcases List.mem_append.1 hx with h6 | h6
          · exact hi.no.2 x h6
          · have : x = (w : Int) := by simpa using h6
            rw [this]; omega
/-- every node that is reached leads back to the root -/
theorem RunOk.anc {g : Gr} {a to : Nat} {t : Tr} (h : RunOk g a t) (hto : to < g.m) (h0 : 0 ≤ gt0 t.dist to) : Anc2 t.par to (a : Int) := by
  have key : ∀ (k : Nat) (v : Nat), v < g.m → 0 ≤ gt0 t.dist v → (gt0 t.dist v).toNat * 129 + (g.m - v) ≤ k → Anc2 t.par to (v : Int) → Anc2 t.par to (a : Int) := by
    intro k
    induction k with
    | zero => intro v hv _ hk _; omega
    | succ k ih =>
      intro v hv h0 hk han
      by_cases hva : v = a
      · rw [← hva]; exact han
      · obtain ⟨u, hu⟩ := h.par_ex hv hva h0
        obtain ⟨_, hu0, hum, hdu, _, hlt, _⟩ := h.stp hv hu
        have hm := h.vg.n128
        change g.m ≤ 128 at hm
        have e : ((u.toNat : Nat) : Int) = u := by omega
        refine ih u.toNat (by omega) hdu ?_ (by rw [e]; exact .up han (by rw [h.above hv]; exact hu))
        unfold ltHd at hlt
        rcases hlt with h1 | ⟨h1, h2⟩
        · have e1 : (gt0 t.dist u.toNat).toNat + 1 ≤ (gt0 t.dist v).toNat := by omega
          have e2 := Nat.mul_le_mul_right 129 e1
          omega
        · rw [h1]; omega
  exact key _ to hto h0 (Nat.le_refl _) .here
theorem RunOk.path {g : Gr} {a to : Nat} {t : Tr} (h : RunOk g a t) (hto : to < g.m) (h0 : 0 ≤ gt0 t.dist to) : GoodP g a to t (needL t.par g.m to) (pathL t to) := by
  have hdl : t.dist.length = g.m := h.dl
  unfold pathL
  have hc : ¬ ((to : Int) < 0 ∨ (g.m : Int) ≤ (to : Int) ∨ gt0 t.dist (to : Int).toNat < 0) := by
    rw [Int.toNat_natCast]
    rintro (h1 | h1 | h1)
    · omega
    · exact absurd hto (Nat.not_lt.2 (Int.ofNat_le.1 h1))
    · exact absurd h0 (Int.not_le.2 h1)
  rw [hdl, if_neg hc, h.root]
  have hmem := (need_spec h.up (to := (to : Int)) (by omega)).1 (a : Int) |>.2 (h.anc hto h0)
  have ham := h.am
  exact path_go h hto (g.m + 2) a [] (by simp) ⟨rfl, fun i x y hx hy => by simp at hy, ⟨by simp, fun x hx => by
    have e : x = (a : Int) := by simpa using hx
    rw [e]; exact ⟨Int.natCast_nonneg _, Int.ofNat_lt.2 ham⟩⟩, by simp, hmem⟩
end Go.Pl
/- The reference's table of distances: passes over all nodes. -/
namespace Go.Pl
open Go Go.RT
set_option linter.all false
def fwE (es : List Edg) (i M : Nat) : List Edg := es.filter fun e => decide (e.f = (i : Int)) || decide (e.f < (M : Int))
theorem fwE_mem {es : List Edg} {i M : Nat} {e : Edg} : e ∈ fwE es i M ↔ e ∈ es ∧ (e.f = (i : Int) ∨ e.f < (M : Int)) := by
  simp [fwE]
theorem VG.sub {es es' : List Edg} {r n : Nat} (vg : VG es r n) (h : es'.Sublist es) : VG es' r n :=
  have hs : ∀ e ∈ es', e ∈ es := fun e he => h.subset he
  ⟨fun e he => vg.f e (hs e he), fun e he => vg.t e (hs e he), fun e he => vg.c e (hs e he), fun e he => vg.net e (hs e he), fun e he => vg.rt e (hs e he), fun e he => vg.ne e (hs e he),
    List.Pairwise.sublist h vg.asc, vg.le, vg.n128, Nat.le_trans h.length_le vg.e1024⟩
theorem VG.fw {es : List Edg} {r n : Nat} (vg : VG es r n) (i M : Nat) : VG (fwE es i M) r n := vg.sub List.filter_sublist
theorem wk_split {es : List Edg} {r n : Nat} (vg : VG es r n) {i M k : Nat} {c : Int} (h : Wk (fwE es i (M + 1)) i k c) :
    (∃ c', c' ≤ c ∧ Wk (fwE es i M) i k c') ∨ ∃ c1 c2, c1 + c2 ≤ c ∧ Wk (fwE es i M) i M c1 ∧ Wk (fwE es M M) M k c2 := by
  induction h with
  | nil => exact .inl ⟨0, Int.le_refl _, .nil⟩
  | @snoc e c h he ih =>
    have hc := h.nn (vg.fw _ _)
    obtain ⟨h1, h2⟩ := fwE_mem.1 he
    have hf := vg.f e h1
    by_cases hm : e.f = (i : Int) ∨ e.f < (M : Int)
    · have he' : e ∈ fwE es i M := fwE_mem.2 ⟨h1, hm⟩
      rcases ih with ⟨c', k1, k2⟩ | ⟨c1, c2, k1, k2, k3⟩
      · exact .inl ⟨c' + e.c, by omega, k2.snoc he'⟩
      · by_cases hl : e.f < (M : Int)
        · exact .inr ⟨c1, c2 + e.c, by omega, k2, k3.snoc (fwE_mem.2 ⟨h1, .inr hl⟩)⟩
        · have hi : e.f.toNat = i := by omega
          refine .inl ⟨0 + e.c, by omega, Wk.snoc ?_ he'⟩
          rw [hi]; exact .nil
    · have hM : e.f.toNat = M := by omega
      have he' : e ∈ fwE es M M := fwE_mem.2 ⟨h1, .inl (by omega)⟩
      have hw : Wk (fwE es M M) M e.t.toNat (0 + e.c) := Wk.snoc (by rw [hM]; exact .nil) he'
      rcases ih with ⟨c', k1, k2⟩ | ⟨c1, c2, k1, k2, k3⟩
      · rw [hM] at k2
        exact .inr ⟨c', 0 + e.c, by omega, k2, hw⟩
      · have := k3.nn (vg.fw _ _)
        exact .inr ⟨c1, 0 + e.c, by omega, k2, hw⟩
theorem wk_join {es : List Edg} {i M k : Nat} {c1 c2 : Int} (h : Wk (fwE es i M) i M c1) (g : Wk (fwE es M M) M k c2) : Wk (fwE es i (M + 1)) i k (c1 + c2) :=
  (h.mono fun e he => by rw [fwE_mem] at *; exact ⟨he.1, he.2.imp id fun h => by omega⟩).app (g.mono fun e he => by rw [fwE_mem] at *; exact ⟨he.1, .inr (by omega)⟩)
theorem wk_up {es : List Edg} {i M k : Nat} {c : Int} (h : Wk (fwE es i M) i k c) : Wk (fwE es i (M + 1)) i k c :=
  h.mono fun e he => by rw [fwE_mem] at *; exact ⟨he.1, he.2.imp id fun h => by omega⟩
def FwI (es : List Edg) (n M : Nat) (D : Nat → Nat → Int) : Prop := ∀ i k, i < n → k < n → IsD (fwE es i M) i k (D i k)
def fwP (m : Nat) (D : Nat → Nat → Int) : Nat → Nat → Int := fun i k => if 0 ≤ D i m ∧ 0 ≤ D m k ∧ (D i k < 0 ∨ D i m + D m k < D i k) then D i m + D m k else D i k
theorem FwI.pass {es : List Edg} {r n M : Nat} {D : Nat → Nat → Int} (vg : VG es r n) (hM : M < n) (h : FwI es n M D) : FwI es n (M + 1) (fwP M D) := by
  intro i k hi hk
  have hik := (h i k hi hk).cases (vg.fw _ _)
  have him := (h i M hi hM).cases (vg.fw _ _)
  have hmk := (h M k hM hk).cases (vg.fw _ _)
  unfold fwP
  split
  · rename_i hc
    obtain ⟨h1, h2, h3⟩ := hc
    obtain ⟨_, b1, b2⟩ := him.resolve_left (fun e => by omega)
    obtain ⟨_, c1, c2⟩ := hmk.resolve_left (fun e => by omega)
    refine .inr ⟨wk_join b1 c1, fun c w => ?_⟩
    rcases wk_split vg w with ⟨c', k1, k2⟩ | ⟨d1, d2, k1, k2, k3⟩
    · rcases hik with ⟨_, a2⟩ | ⟨a1, a2, a3⟩
      · exact absurd k2 (a2 _)
      · have := a3 _ k2; omega
    · have := b2 _ k2; have := c2 _ k3; omega
  · rename_i hc
    rcases hik with ⟨a1, a2⟩ | ⟨a1, a2, a3⟩
    · refine .inl ⟨a1, fun c w => ?_⟩
      rcases wk_split vg w with ⟨c', k1, k2⟩ | ⟨d1, d2, k1, k2, k3⟩
      · exact a2 _ k2
      · rcases him with ⟨_, b2⟩ | ⟨b0, _⟩
        · exact b2 _ k2
        · rcases hmk with ⟨_, c2⟩ | ⟨c0, _⟩
          · exact c2 _ k3
          · exact hc ⟨b0, c0, .inl (by omega)⟩
    · refine .inr ⟨wk_up a2, fun c w => ?_⟩
      rcases wk_split vg w with ⟨c', k1, k2⟩ | ⟨d1, d2, k1, k2, k3⟩
      · have := a3 _ k2; omega
      · obtain ⟨b0, _, b2⟩ := him.resolve_left (fun e => e.2 _ k2)
        obtain ⟨c0, _, c2⟩ := hmk.resolve_left (fun e => e.2 _ k3)
        have := b2 _ k2; have := c2 _ k3
        by_cases hx : D i M + D M k < D i k
        · exact absurd ⟨b0, c0, .inr hx⟩ hc
        · omega
theorem FwI.diag {es : List Edg} {r n M : Nat} {D : Nat → Nat → Int} (vg : VG es r n) (h : FwI es n M D) {i : Nat} (hi : i < n) : D i i = 0 := by
  rcases (h i i hi hi).cases (vg.fw _ _) with ⟨_, h2⟩ | ⟨h1, _, h3⟩
  · exact absurd .nil (h2 0)
  · have := h3 0 .nil; omega
theorem FwI.bnd {es : List Edg} {r n M : Nat} {D : Nat → Nat → Int} (vg : VG es r n) (h : FwI es n M D) {i k : Nat} (hi : i < n) (hk : k < n) : -1 ≤ D i k ∧ D i k ≤ 8388480 :=
  (h i k hi hk).small (vg.fw i M) hi hk
theorem FwI.done {es : List Edg} {r n : Nat} {D : Nat → Nat → Int} (vg : VG es r n) (h : FwI es n n D) {i k : Nat} (hi : i < n) (hk : k < n) : IsD es i k (D i k) := by
  have := h i k hi hk
  rwa [show fwE es i n = es by
    unfold fwE
    rw [List.filter_eq_self]
    intro e he
    have := (vg.f e he).2
    simp [this]] at this
/- the beginning -/
def iniD (es : List Edg) (i k : Nat) : Int := if i = k then 0 else if (costL i k es).2 = true then (costL i k es).1 else -1
theorem cost_mem {f t c : Int} : ∀ {es : List Edg}, costL f t es = (c, true) → ∃ e ∈ es, e.f = f ∧ e.t = t ∧ e.c = c
  | [], h => by simp [costL] at h
  | e :: l, h => by
    simp only [costL] at h
    split at h
    · rename_i hb
      simp [isB] at hb
      exact ⟨e, by simp, hb.1, hb.2, by simpa using h⟩
    · obtain ⟨x, h1, h2⟩ := cost_mem h
      exact ⟨x, by simp [h1], h2⟩
theorem cost_none {f t : Int} : ∀ {es : List Edg}, (costL f t es).2 = false ↔ ∀ e ∈ es, ¬ (e.f = f ∧ e.t = t)
  | [] => by simp [costL]
  | e :: l => by
    simp only [costL]
    split
    · rename_i hb
      simp [isB] at hb
      simp [hb]
    · rename_i hb
      simp only [isB, Bool.and_eq_true, decide_eq_true_eq] at hb
      rw [cost_none]
      constructor
      · intro h x hx
        rcases List.mem_cons.1 hx with rfl | hx
        · exact hb
        · exact h x hx
      · exact fun h x hx => h x (List.mem_cons_of_mem _ hx)
theorem cost_yes {f t : Int} {es : List Edg} (ha : AscK es) : (costL f t es).2 = true ↔ ∃ e ∈ es, e.f = f ∧ e.t = t ∧ e.c = (costL f t es).1 := by
  constructor
  · intro h
    exact cost_mem (c := (costL f t es).1) (by rw [← h])
  · rintro ⟨e, he, h1, h2, _⟩
    have := cost_of ha he
    rw [h1, h2] at this
    rw [this]
theorem iniD_nil (i k : Nat) : iniD [] i k = if i = k then 0 else -1 := by simp [iniD, costL]
theorem costL_app (f t : Int) : ∀ (l : List Edg) (e : Edg), costL f t (l ++ [e]) = if (costL f t l).2 = true then costL f t l else if isB f t e = true then (e.c, true) else (0, false)
  | [], e => by simp [costL]
  | x :: l, e => by
    simp only [List.cons_append, costL]
    split
    · simp
    · exact costL_app f t l e
theorem iniD_succ {es : List Edg} {j : Nat} (ha : AscK es) (hne : ∀ e ∈ es, e.f ≠ e.t ∧ 0 ≤ e.f ∧ 0 ≤ e.t) (h : j < es.length) (i k : Nat) :
    iniD (es.take (j + 1)) i k = if i = es[j].f.toNat ∧ k = es[j].t.toNat then es[j].c else iniD (es.take j) i k := by
  have hm := hne _ (List.getElem_mem h)
  rw [List.take_succ_eq_append_getElem h]
  unfold iniD
  rw [costL_app]
  by_cases hik : i = k
  · rw [if_pos hik, if_neg (by omega), if_pos hik]
  · rw [if_neg hik, if_neg hik]
    by_cases hb : i = es[j].f.toNat ∧ k = es[j].t.toNat
    · rw [if_pos hb]
      have hbb : isB (i : Int) (k : Int) es[j] = true := by simp [isB]; omega
      have hf : (costL (i : Int) (k : Int) (es.take j)).2 = false := by
        rw [cost_none]
        intro e he hh
        have hp := List.Pairwise.sublist (List.take_sublist (j + 1) es) ha
        rw [List.take_succ_eq_append_getElem h] at hp
        have := (List.pairwise_append.1 hp).2.2 e he es[j] (by simp)
        unfold ltK at this; omega
      rw [hf]
      simp [hbb]
    · rw [if_neg hb]
      have hbb : ¬ isB (i : Int) (k : Int) es[j] = true := by simp [isB]; omega
      by_cases hc : (costL (i : Int) (k : Int) (es.take j)).2 = true
      · simp [hc]
      · simp [hc, hbb]
theorem wk_0 {es : List Edg} {r n : Nat} (vg : VG es r n) {i k : Nat} {c : Int} (h : Wk (fwE es i 0) i k c) : k = i ∨ ∃ e ∈ es, e.f = (i : Int) ∧ e.t = (k : Int) ∧ e.c ≤ c := by
  cases h with
  | nil => exact .inl rfl
  | @snoc e c h he =>
    obtain ⟨h1, h2⟩ := fwE_mem.1 he
    have := vg.f e h1; have := vg.t e h1
    have := h.nn (vg.fw _ _)
    exact .inr ⟨e, h1, by omega, by omega, by omega⟩
theorem FwI.ini {es : List Edg} {r n : Nat} (vg : VG es r n) : FwI es n 0 (iniD es) := by
  intro i k hi hk
  unfold iniD
  by_cases hik : i = k
  · subst hik
    rw [if_pos rfl]
    exact .inr ⟨.nil, fun c w => w.nn (vg.fw _ _)⟩
  · rw [if_neg hik]
    by_cases hc : (costL (i : Int) (k : Int) es).2 = true
    · rw [if_pos hc]
      obtain ⟨e, he, h1, h2, h3⟩ := (cost_yes vg.asc).1 hc
      have hw : Wk (fwE es i 0) i e.t.toNat (0 + e.c) := Wk.snoc (by rw [h1, Int.toNat_natCast]; exact .nil) (fwE_mem.2 ⟨he, .inl h1⟩)
      rw [h2, Int.toNat_natCast, h3, Int.zero_add] at hw
      refine .inr ⟨hw, fun c w => ?_⟩
      rcases wk_0 vg w with h | ⟨e', he', g1, g2, g3⟩
      · exact absurd h.symm hik
      · have := cost_of vg.asc he'
        rw [g1, g2] at this
        rw [this]; exact g3
    · rw [if_neg hc]
      refine .inl ⟨rfl, fun c w => ?_⟩
      rcases wk_0 vg w with h | ⟨e', he', g1, g2, g3⟩
      · exact absurd h.symm hik
      · exact hc (by rw [← g1, ← g2, cost_of vg.asc he'])
def fwN (es : List Edg) : Nat → Nat → Nat → Int
  | 0 => iniD es
  | M + 1 => fwP M (fwN es M)
theorem fwN_ok {es : List Edg} {r n : Nat} (vg : VG es r n) : ∀ M, M ≤ n → FwI es n M (fwN es M)
  | 0, _ => FwI.ini vg
  | M + 1, h => (fwN_ok vg M (by omega)).pass vg h
theorem fwP_row {m k : Nat} {D : Nat → Nat → Int} (h0 : D m m = 0) : fwP m D m k = D m k := by
  unfold fwP; rw [if_neg]; rw [h0]; omega
theorem fwP_col {m i : Nat} {D : Nat → Nat → Int} (h0 : D m m = 0) : fwP m D i m = D i m := by
  unfold fwP; rw [if_neg]; rw [h0]; omega
/- rows of numbers by functions -/
abbrev rowF (n : Nat) (f : Nat → Int) : List Int := (List.range n).map f
abbrev matF (n : Nat) (D : Nat → Nat → Int) : List (List Int) := (List.range n).map fun i => rowF n (D i)
theorem rowF_get (n : Nat) (f : Nat → Int) {k : Nat} (h : k < n) : gt0 (rowF n f) k = f k := by
  simp [gt0, rowF, List.getD_eq_getElem?_getD, h]
theorem matF_get (n : Nat) (D : Nat → Nat → Int) {i : Nat} (h : i < n) : rowAt' (matF n D) i = rowF n (D i) := by
  simp [rowAt', List.getD_eq_getElem?_getD, h]
abbrev disF (es : List Edg) (n : Nat) : Nat → Nat → Int := fwN es n
theorem disF_ok {es : List Edg} {r n : Nat} (vg : VG es r n) {i k : Nat} (hi : i < n) (hk : k < n) : IsD es i k (disF es n i k) := (fwN_ok vg n (Nat.le_refl _)).done vg hi hk
end Go.Pl
/- The engine, part 33: a region that draws, where only the order of its effects is gone through. -/
namespace Go.RT
section
variable {P : Program} {ops : Array Oper} {N : Nat} {C : Cx} {Q : Exit → Act → World → Prop}
/-- what is asked of the region: no guards; slots written once; who reads a slot waits for it; edges lead back -/
def yOK (ops : Array Oper) (N : Nat) : Bool :=
  (List.range ops.size).all fun i => match ops[i]? with
    | none => true
    | some o => o.guard.isNone && (match o.dst with | some d => decide (d < N) | none => true) && (o.after.all fun e => !Region.binds .any e || decide (e.on < i)) &&
      (List.range ops.size).all fun j => match ops[j]? with
        | none => true
        | some oj => match oj.dst with
          | none => true
          | some d => (!decide (o.dst = some d) || decide (j = i)) && (!(opTmps o).contains d || o.after.any fun e => Region.binds .any e && decide (e.on = j))
structure YOk (ops : Array Oper) (N : Nat) : Prop where
  grd : ∀ (i : Nat) (o : Oper), ops[i]? = some o → o.guard = none
  dst : ∀ (i : Nat) (o : Oper) (d : Tmp), ops[i]? = some o → o.dst = some d → d < N
  back : ∀ (i : Nat) (o : Oper) (e : Edge), ops[i]? = some o → e ∈ o.after → Region.binds .any e = true → e.on < i
  once : ∀ (i j : Nat) (d : Tmp), dstOf ops i = some d → dstOf ops j = some d → i = j
  read : ∀ (i j : Nat) (o : Oper) (d : Tmp), ops[i]? = some o → dstOf ops j = some d → d ∈ opTmps o → ∃ e ∈ o.after, Region.binds .any e = true ∧ e.on = j
theorem yOK_spec (h : yOK ops N = true) : YOk ops N := by
  have hj : ∀ j o, ops[j]? = some o → _ := fun j o ho => by
    have := List.all_eq_true.1 h j (List.mem_range.2 (Array.getElem?_eq_some_iff.1 ho).1)
    rw [ho] at this
    exact this
  simp only [Bool.and_eq_true, Array.all_eq_true_iff_forall_mem, Bool.or_eq_true, Bool.not_eq_true', decide_eq_true_eq, decide_eq_false_iff_not, List.all_eq_true, List.mem_range] at hj
  have hd : ∀ {j : Nat} {d : Tmp}, dstOf ops j = some d → ∃ oj, ops[j]? = some oj ∧ oj.dst = some d ∧ j < ops.size := fun {j d} h => by
    unfold dstOf at h
    obtain ⟨oj, h1, h2⟩ := Option.bind_eq_some_iff.1 h
    exact ⟨oj, h1, h2, (Array.getElem?_eq_some_iff.1 h1).1⟩
  refine ⟨fun j o ho => ?_, fun j o d ho hd => ?_, fun j o e ho he hb => ?_, fun i j d h1 h2 => ?_, fun i j o d ho h1 h2 => ?_⟩
  · exact Option.isNone_iff_eq_none.1 (hj j o ho).1.1.1
  · have := (hj j o ho).1.1.2
    rw [hd] at this
    simpa using this
  · rcases (hj j o ho).1.2 e he with h | h
    · rw [hb] at h; cases h
    · exact h
  · obtain ⟨oi, a1, a2, a3⟩ := hd h1
    obtain ⟨oj, b1, b2, b3⟩ := hd h2
    have := (hj i oi a1).2 j b3
    rw [b1] at this
    simp only [b2, Bool.and_eq_true, Bool.or_eq_true, Bool.not_eq_true', decide_eq_false_iff_not, decide_eq_true_eq] at this
    rcases this.1 with h | h
    · exact absurd a2 h
    · exact h.symm
  · obtain ⟨oj, b1, b2, b3⟩ := hd h1
    have := (hj i o ho).2 j b3
    rw [b1] at this
    simp only [b2, Bool.and_eq_true, Bool.or_eq_true, Bool.not_eq_true', decide_eq_false_iff_not, decide_eq_true_eq] at this
    rcases this.2 with h | h
    · exact absurd h2 (by simpa using h)
    · rw [Array.any_eq_true'] at h
      obtain ⟨e, he, hb⟩ := h
      simp only [Bool.and_eq_true, decide_eq_true_eq] at hb
      exact ⟨e, he, hb⟩
/-- a pure operation that may be done at any time from now on -/
def Virt (P : Program) (ops : Array Oper) (Y : Array Bool) (G : Env) (i : Nat) : Prop :=
  ∃ o p, ops[i]? = some o ∧ (∀ H nx, OpS P o true G H nx p H nx) ∧ (∀ d, o.dst = some d → look G d = some p) ∧ ∀ t ∈ opTmps o, ∀ j, dstOf ops j = some t → Y.getD j false = true
/-- the operations Y are done, or can be done at any time -/
def AnyY (P : Program) (ops : Array Oper) (N : Nat) (C : Cx) (Q : Exit → Act → World → Prop) (Y : Array Bool) (G : Env) (H : Hp) (nx : Nat) : Prop :=
  ∀ fuel X a w, X.size = ops.size → (∀ i, X.getD i false = true → Y.getD i false = true) → (∀ i, Y.getD i false = true → X.getD i false = false → Virt P ops Y G i) → (X.toList.filter (!·)).length ≤ fuel → a.defers = [] → a.tmps.size = N →
    (∃ S m, Mem C H nx S m w ∧ ∀ t q, look G t = some q → (∀ i, Y.getD i false = true → X.getD i false = false → dstOf ops i ≠ some t) → RepAt w S m a t q) → wpAny P .any ops Q fuel X a w
theorem virt_more {Y : Array Bool} {G : Env} {i j : Nat} {d : Option Tmp} {p : PV} (hj : j < Y.size) (hd : dstOf ops j = d) (hY : Y.getD j false = false) (hG : ∀ t, d = some t → look G t = none) (h : Virt P ops Y G i) : Virt P ops (Y.setIfInBounds j true) (gput G d p) i := by
  obtain ⟨o, q, h1, h2, h3, h4⟩ := h
  have hlk : ∀ t ∈ opTmps o, look (gput G d p) t = look G t := fun t ht => by
    rw [look_gput, if_neg]
    intro e
    have := h4 t ht j (hd.trans e)
    rw [hY] at this; cases this
  refine ⟨o, q, h1, fun H nx => ⟨fun C S m a w hm hg hr => (h2 H nx).run C S m a w hm hg fun t q ht hq => hr t q ht (by rw [hlk t ht]; exact hq)⟩, fun t ht => ?_, fun t ht k hk => ?_⟩
  · rw [look_gput]
    by_cases e : d = some t
    · have := hG t e
      rw [h3 t ht] at this; cases this
    · rw [if_neg e]; exact h3 t ht
  · exact (set_iff hj).2 (.inr (h4 t ht k hk))
theorem AnyY.virt {Y : Array Bool} {G : Env} {H : Hp} {nx : Nat} (hok : yOK ops N = true) (i : Nat) {o : Oper} {p : PV} (ho : ops[i]? = some o) (hp : ∀ H nx, OpS P o true G H nx p H nx) (hs : (Region.ready .any ops Y).contains i = true) (hYs : Y.size = ops.size) (hG : ∀ t, o.dst = some t → look G t = none)
    (h : AnyY P ops N C Q (Y.setIfInBounds i true) (gput G o.dst p) H nx) : AnyY P ops N C Q Y G H nx := by
  have hgd := yOK_spec hok
  have hir : i ∈ Region.ready .any ops Y := by simpa using hs
  obtain ⟨hn0, o', ho', hrd⟩ := mem_ready.1 hir
  rw [ho] at ho'; cases ho'
  have hin : i < ops.size := (Array.getElem?_eq_some_iff.1 ho).1
  have hYi : Y.getD i false = false := by
    have : i < Y.size := by rw [hYs]; exact hin
    simpa [Array.getD, this] using hn0
  have hdi : dstOf ops i = o.dst := by unfold dstOf; rw [ho]; rfl
  intro fuel X a w hX hXY hV hf h1 h2 ⟨S, m, hm, hsl⟩
  have hset := fun j => set_iff (X := Y) (i := i) (j := j) (by rw [hYs]; exact hin)
  refine h fuel X a w hX (fun j hj => (hset j).2 (.inr (hXY j hj))) (fun j hj hx => ?_) hf h1 h2 ⟨S, m, hm, fun t q hq hn => ?_⟩
  · rcases (hset j).1 hj with rfl | hj
    · have hno : ∀ t ∈ opTmps o, look (gput G o.dst p) t = look G t := fun t ht => by
        rw [look_gput, if_neg]
        intro e
        obtain ⟨ed, he, hb, hon⟩ := hgd.read j j o t ho (hdi.trans e) ht
        have := hgd.back j o ed ho he hb
        omega
      refine ⟨o, p, ho, fun H nx => ⟨fun C S m a w hm hg hr => (hp H nx).run C S m a w hm hg fun t q ht hq => hr t q ht (by rw [hno t ht]; exact hq)⟩, fun d hd => by rw [look_gput, if_pos hd], fun t ht k hk => ?_⟩
      obtain ⟨ed, he, hb, hon⟩ := hgd.read j k o t ho hk ht
      have := hrd ed he hb
      rw [hon] at this
      exact (hset k).2 (.inr this)
    · exact virt_more (by rw [hYs]; exact hin) hdi hYi hG (hV j hj hx)
  · rw [look_gput] at hq
    by_cases e : o.dst = some t
    · exact absurd (hdi.trans e) (hn i ((hset i).2 (.inl rfl)) (by
        cases hx : X.getD i false with
        | false => rfl
        | true => rw [hXY i hx] at hYi; cases hYi))
    · rw [if_neg e] at hq
      exact hsl t q hq fun j hj hx => hn j ((hset j).2 (.inr hj)) hx
def StepY (P : Program) (ops : Array Oper) (N : Nat) (C : Cx) (Q : Exit → Act → World → Prop) (Y : Array Bool) (G : Env) (H : Hp) (nx : Nat) (j : Nat) : Prop :=
  ∃ o p H1 nx1, ops[j]? = some o ∧ OpS P o true G H nx p H1 nx1 ∧ (∀ t, o.dst = some t → look G t = none) ∧ AnyY P ops N C Q (Y.setIfInBounds j true) (gput G o.dst p) H1 nx1
theorem filt_set : ∀ (l : List Bool) (i : Nat) (h : i < l.length), l[i] = false → ((l.set i true).filter (!·)).length + 1 ≤ (l.filter (!·)).length := by
  intro l
  induction l with
  | nil => intro i h; simp at h
  | cons b l ih =>
    intro i h hb
    cases i with
    | zero => simp at hb; subst hb; simp
    | succ i =>
      simp only [List.set_cons_succ, List.filter_cons]
      have := ih i (by simpa using h) (by simpa using hb)
      cases b <;> simp <;> omega
theorem some_ready (hgd : YOk ops N) {X : Array Bool} (hX : X.size = ops.size) (hr : Region.ready .any ops X = []) : ∀ i, i < ops.size → X.getD i false = true := by
  intro i
  induction i using Nat.strongRecOn with
  | _ i ih =>
    intro hi
    cases hx : X.getD i false with
    | true => rfl
    | false =>
      have : i ∈ Region.ready .any ops X := mem_ready.2 ⟨by
        have : i < X.size := by omega
        simpa [Array.getD, this] using hx, ops[i], by simp [hi], fun e he hb => by
        have := hgd.back i ops[i] e (by simp [hi]) he hb
        exact ih e.on this (by omega)⟩
      rw [hr] at this; cases this
theorem AnyY.step {Y : Array Bool} {G : Env} {H : Hp} {nx : Nat} {L : List Nat} (hok : yOK ops N = true) (hYs : Y.size = ops.size) (hr : Region.ready .any ops Y = L) (h0 : L = [] → Next C N G H nx (Q .normal)) (h : ∀ j ∈ L, StepY P ops N C Q Y G H nx j) : AnyY P ops N C Q Y G H nx := by
  have hgd := yOK_spec hok
  intro fuel
  induction fuel with
  | zero =>
    intro X a w hX hXY hV hf h1 h2 ⟨S, m, hm, hsl⟩
    have hall : ∀ i, i < ops.size → X.getD i false = true := fun i hi => by
      have hi' : i < X.toList.length := by simpa [hX] using hi
      cases hx : X.getD i false with
      | true => rfl
      | false =>
        have hxi : X.toList[i] = false := by
          have : i < X.size := by omega
          simpa [Array.getD, this] using hx
        have := filt_set X.toList i hi' hxi
        omega
    have hrX : Region.ready .any ops X = [] := List.eq_nil_iff_forall_not_mem.2 fun i hi => by
      obtain ⟨g1, o, g2, _⟩ := mem_ready.1 hi
      have hin := (Array.getElem?_eq_some_iff.1 g2).1
      have := hall i hin
      have hi2 : i < X.size := by omega
      simp [Array.getD, hi2] at g1 this
      rw [this] at g1; cases g1
    have hL : L = [] := by
      rw [← hr]
      exact List.eq_nil_iff_forall_not_mem.2 fun i hi => by
        obtain ⟨g1, o, g2, _⟩ := mem_ready.1 hi
        have hin := (Array.getElem?_eq_some_iff.1 g2).1
        have := hXY i (hall i hin)
        have hi2 : i < Y.size := by omega
        simp [Array.getD, hi2] at g1 this
        rw [this] at g1; cases g1
    refine ⟨hrX, h0 hL a w ⟨h1, h2, S, m, hm, fun t q hq => hsl t q hq fun i hi hx => ?_⟩⟩
    intro hd
    have hin : i < ops.size := by
      unfold dstOf at hd
      obtain ⟨oj, g1, _⟩ := Option.bind_eq_some_iff.1 hd
      exact (Array.getElem?_eq_some_iff.1 g1).1
    rw [hall i hin] at hx; cases hx
  | succ fuel ih =>
    intro X a w hX hXY hV hf h1 h2 ⟨S, m, hm, hsl⟩
    refine ⟨fun hrX => ?_, fun i hi => ?_⟩
    · have hall := some_ready hgd hX hrX
      have hL : L = [] := by
        rw [← hr]
        exact List.eq_nil_iff_forall_not_mem.2 fun i hi => by
          obtain ⟨g1, o, g2, _⟩ := mem_ready.1 hi
          have hin := (Array.getElem?_eq_some_iff.1 g2).1
          have := hXY i (hall i hin)
          have hi2 : i < Y.size := by omega
          simp [Array.getD, hi2] at g1 this
          rw [this] at g1; cases g1
      refine h0 hL a w ⟨h1, h2, S, m, hm, fun t q hq => hsl t q hq fun i hi hx => ?_⟩
      intro hd
      have hin : i < ops.size := by
        unfold dstOf at hd
        obtain ⟨oj, g1, _⟩ := Option.bind_eq_some_iff.1 hd
        exact (Array.getElem?_eq_some_iff.1 g1).1
      rw [hall i hin] at hx; cases hx
    · obtain ⟨hn0, o, ho, hrd⟩ := mem_ready.1 hi
      have hin : i < ops.size := (Array.getElem?_eq_some_iff.1 ho).1
      have hiX : i < X.size := by omega
      have hx : X.getD i false = false := by simpa [Array.getD, hiX] using hn0
      have hset := fun j => set_iff (X := X) (i := i) (j := j) hiX
      have hdi : dstOf ops i = o.dst := by unfold dstOf; rw [ho]; rfl
      have hfu : ((X.setIfInBounds i true).toList.filter (!·)).length ≤ fuel := by
        rw [show (X.setIfInBounds i true).toList = X.toList.set i true by simp]
        have := filt_set X.toList i (by simpa using hiX) (by simpa [Array.getD, hiX] using hx)
        omega
      have hopd : ∀ t q, t ∈ opTmps o → look G t = some q → RepAt w S m a t q := fun t q ht hq => hsl t q hq fun j hj hxj hd => by
        obtain ⟨e, he, hb, hon⟩ := hgd.read i j o t ho hd ht
        have := hrd e he hb
        rw [hon, hxj] at this; cases this
      unfold wpOp
      simp only [ho]
      rw [if_pos (by simp [Region.wanted, hgd.grd i o ho])]
      refine .inl ?_
      by_cases hY : Y.getD i false = true
      · obtain ⟨o', p, g1, g2, g3, g4⟩ := hV i hY hx
        rw [ho] at g1; cases g1
        refine (g2 H nx).run C S m a w hm rfl hopd _ _ fun v w' S' m' hm' hle hv => ?_
        refine ih (X.setIfInBounds i true) (a.put o.dst v) w' (by rw [setSize]; exact hX) (fun j hj => ?_) (fun j hj hxj => hV j hj ?_) hfu (by rw [put_defers]; exact h1) (by rw [put_size]; exact h2) ⟨S', m', hm', fun t q hq hn => ?_⟩
        · rcases (hset j).1 hj with rfl | hj
          · exact hY
          · exact hXY j hj
        · cases hb : X.getD j false with
          | false => rfl
          | true => rw [(hset j).2 (.inr hb)] at hxj; cases hxj
        · by_cases hd : o.dst = some t
          · have := g3 t hd
            rw [hq] at this; cases this
            rw [hd]
            exact ⟨v, put_self (by rw [h2]; exact hgd.dst i o t ho hd), hv⟩
          · obtain ⟨u, hu, hr2⟩ := hsl t q hq fun j hj hxj hdj => by
              by_cases hji : j = i
              · subst hji; exact hd (hdi.symm.trans hdj)
              · refine hn j hj ?_ hdj
                cases hb : (X.setIfInBounds i true).getD j false with
                | false => rfl
                | true => rcases (hset j).1 hb with e | e
                          · exact absurd e hji
                          · rw [e] at hxj; cases hxj
            exact ⟨u, (put_at hd).trans hu, hr2.mono hle⟩
      · have hYf : Y.getD i false = false := by simpa using hY
        have hiL : i ∈ L := by
          rw [← hr]
          refine mem_ready.2 ⟨?_, o, ho, fun e he hb => hXY _ (hrd e he hb)⟩
          have : i < Y.size := by omega
          simpa [Array.getD, this] using hYf
        obtain ⟨o', p, H1, nx1, g1, g2, g3, g4⟩ := h i hiL
        rw [ho] at g1; cases g1
        refine g2.run C S m a w hm rfl hopd _ _ fun v w' S' m' hm' hle hv => ?_
        have hsetY := fun j => set_iff (X := Y) (i := i) (j := j) (by omega)
        refine g4 fuel (X.setIfInBounds i true) (a.put o.dst v) w' (by rw [setSize]; exact hX) (fun j hj => ?_) (fun j hj hxj => ?_) hfu (by rw [put_defers]; exact h1) (by rw [put_size]; exact h2) ⟨S', m', hm', fun t q hq hn => ?_⟩
        · rcases (hset j).1 hj with rfl | hj
          · exact (hsetY j).2 (.inl rfl)
          · exact (hsetY j).2 (.inr (hXY j hj))
        · have hxf : X.getD j false = false := by
            cases hb : X.getD j false with
            | false => rfl
            | true => rw [(hset j).2 (.inr hb)] at hxj; cases hxj
          rcases (hsetY j).1 hj with rfl | hj
          · rw [(hset j).2 (.inl rfl)] at hxj; cases hxj
          · exact virt_more (by omega) hdi hYf g3 (hV j hj hxf)
        · rw [look_gput] at hq
          by_cases hd : o.dst = some t
          · rw [if_pos hd] at hq; cases hq
            rw [hd]
            exact ⟨v, put_self (by rw [h2]; exact hgd.dst i o t ho hd), hv⟩
          · rw [if_neg hd] at hq
            obtain ⟨u, hu, hr2⟩ := hsl t q hq fun j hj hxj hdj => by
              by_cases hji : j = i
              · subst hji; exact hd (hdi.symm.trans hdj)
              · refine hn j ((hsetY j).2 (.inr hj)) ?_ hdj
                cases hb : (X.setIfInBounds i true).getD j false with
                | false => rfl
                | true => rcases (hset j).1 hb with e | e
                          · exact absurd e hji
                          · rw [e] at hxj; cases hxj
            exact ⟨u, (put_at hd).trans hu, hr2.mono hle⟩
theorem draw_y {id : Nat} {l : List Oper} {G : Env} {H : Hp} {nx : Nat} (G1 : Env) (H1 : Hp) (nx1 : Nat) (hm : P.follows .mixedOrders = true) (h : Next C N G1 H1 nx1 (Q .normal) → AnyY P l.toArray N C Q (Array.replicate l.toArray.size false) G H nx) (hK : Next C N G1 H1 nx1 (Q .normal)) : Next C N G H nx ((Code.region id l.toArray true).wp P Q) := by
  intro a w hR
  obtain ⟨S, m, hmem, hslots⟩ := hR.mem
  have hle : Le S m w S m { w with drawn := w.drawn + 1 } := ⟨fun _ h => h, fun _ _ => rfl, fun _ _ h => h, fun _ _ h => h⟩
  have hfalse : ∀ i, (Array.replicate (l.toArray).size false).getD i false = false := fun i => by
    by_cases h : i < l.length <;> simp [Array.getD, h]
  exact wp_region_any hm (h hK _ _ _ _ (by simp) (fun _ h => h) (fun i hi => by rw [hfalse] at hi; cases hi) (by simp) hR.defers hR.size ⟨S, m, hmem.drew, fun t q hq _ => (hslots t q hq).mono hle⟩)
theorem StepY.mk {Y : Array Bool} {G : Env} {H : Hp} {nx j : Nat} {o : Oper} {p : PV} {H1 : Hp} {nx1 : Nat} (h1 : ops[j]? = some o) (h2 : OpS P o true G H nx p H1 nx1) (h3 : ∀ t, o.dst = some t → look G t = none) (h4 : AnyY P ops N C Q (Y.setIfInBounds j true) (gput G o.dst p) H1 nx1) : StepY P ops N C Q Y G H nx j := ⟨o, p, H1, nx1, h1, h2, h3, h4⟩
theorem AnyY.nil {Y : Array Bool} {G : Env} {H : Hp} {nx : Nat} (hok : yOK ops N = true) (hYs : Y.size = ops.size) (hr : Region.ready .any ops Y = []) (h0 : Next C N G H nx (Q .normal)) : AnyY P ops N C Q Y G H nx := .step hok hYs hr (fun _ => h0) fun j hj => by cases hj
theorem AnyY.one {Y : Array Bool} {G : Env} {H : Hp} {nx : Nat} (i : Nat) (hok : yOK ops N = true) (hYs : Y.size = ops.size) (hr : Region.ready .any ops Y = [i]) (h : StepY P ops N C Q Y G H nx i) : AnyY P ops N C Q Y G H nx := .step hok hYs hr (fun e => by cases e) fun j hj => by simp at hj; subst hj; exact h
theorem AnyY.two {Y : Array Bool} {G : Env} {H : Hp} {nx : Nat} (i j : Nat) (hok : yOK ops N = true) (hYs : Y.size = ops.size) (hr : Region.ready .any ops Y = [i, j]) (h : StepY P ops N C Q Y G H nx i) (h2 : StepY P ops N C Q Y G H nx j) : AnyY P ops N C Q Y G H nx := .step hok hYs hr (fun e => by cases e) fun k hk => by
  simp at hk; rcases hk with rfl | rfl
  · exact h
  · exact h2
theorem AnyY.three {Y : Array Bool} {G : Env} {H : Hp} {nx : Nat} (i j k : Nat) (hok : yOK ops N = true) (hYs : Y.size = ops.size) (hr : Region.ready .any ops Y = [i, j, k]) (h : StepY P ops N C Q Y G H nx i) (h2 : StepY P ops N C Q Y G H nx j) (h3 : StepY P ops N C Q Y G H nx k) : AnyY P ops N C Q Y G H nx := .step hok hYs hr (fun e => by cases e) fun l hl => by
  simp at hl; rcases hl with rfl | rfl | rfl
  · exact h
  · exact h2
  · exact h3
theorem AnyY.toRefs {Y : Array Bool} {G : Env} {H : Hp} {nx : Nat} (id : Nat) {sz : Nat} {rows : List (List FV)} {rows' : List (List PV)} (hl : hlook H id = some (.flat sz rows)) (hr : (rows.map fun r => r.map PV.fz) = rows') (h : AnyY P ops N C Q Y G ((id, some (.refs sz rows')) :: H) nx) : AnyY P ops N C Q Y G H nx := by
  subst hr
  intro fuel X a w h1 h2 h3 h4 h5 h6 ⟨S, m, hm, hsl⟩
  exact h fuel X a w h1 h2 h3 h4 h5 h6 ⟨S, m, hm.retell hl ORep.toRefs (no_own plain_map), hsl⟩
end
end Go.RT
/- Rows of the table of distances while it is filled. -/
namespace Go.Pl
open Go Go.RT
set_option linter.all false
theorem rng_same {β : Type} (n : Nat) (f f' : Nat → β) (h : ∀ w, w < n → f' w = f w) : (List.range n).map f = (List.range n).map f' :=
  List.map_congr_left fun w hw => (h w (List.mem_range.1 hw)).symm
def llA (n i : Nat) : List (List Int) := (List.range n).map fun j => if j < i then rowF n (iniD [] j) else []
theorem llA_len (n i : Nat) : (llA n i).length = n := rng_len n _
theorem llA_0 (n : Nat) : llA n 0 = List.replicate n [] := by rw [rng_const]; exact rng_same n _ _ fun w _ => by simp
theorem llA_n (n : Nat) : llA n n = matF n (iniD []) := rng_same n _ _ fun w hw => by simp [hw]
theorem llA_at {n i : Nat} (h : i < n) : rowAt' (llA n i) i = [] := by
  simp [rowAt', llA, List.getD_eq_getElem?_getD, h]
theorem llA_set {n i : Nat} : (llA n i).set i (rowF n (iniD [] i)) = llA n (i + 1) :=
  rng_set n _ _ i _ (by simp) (fun w hw => by
    by_cases h : w < i
    · rw [if_pos h, if_pos (by omega)]
    · rw [if_neg h, if_neg (by omega)])
theorem fill_row {n i : Nat} : (fillN n n).set i 0 = rowF n (iniD [] i) := by
  rw [fillN_n, rng_const]
  exact rng_set n _ _ i _ (by simp [iniD_nil]) (fun w hw => by rw [iniD_nil, if_neg (fun e => hw e.symm)])
theorem matF_len (n : Nat) (D : Nat → Nat → Int) : (matF n D).length = n := rng_len n _
theorem rowF_len (n : Nat) (f : Nat → Int) : (rowF n f).length = n := rng_len n _
theorem matF_put {n f t : Nat} {c : Int} {D D' : Nat → Nat → Int} (h : ∀ i k, D' i k = if i = f ∧ k = t then c else D i k) : (matF n D).set f ((rowF n (D f)).set t c) = matF n D' := by
  refine rng_set n _ _ f _ ?_ (fun w hw => rng_same n _ _ fun k _ => by rw [h, if_neg (fun e => hw e.1)])
  exact (rng_set n _ _ t _ (by rw [h, if_pos ⟨rfl, rfl⟩]) (fun w hw => by rw [h, if_neg (fun e => hw e.2)])).symm
/-- a pass, up to row i -/
def matM (n m : Nat) (D : Nat → Nat → Int) (i : Nat) : List (List Int) := (List.range n).map fun j => rowF n (if j < i then fwP m D j else D j)
theorem matM_len (n m : Nat) (D : Nat → Nat → Int) (i : Nat) : (matM n m D i).length = n := rng_len n _
theorem matM_0 (n m : Nat) (D : Nat → Nat → Int) : matM n m D 0 = matF n D := rng_same n _ _ fun w _ => by simp
theorem matM_n (n m : Nat) (D : Nat → Nat → Int) : matM n m D n = matF n (fwP m D) := rng_same n _ _ fun w hw => by simp [hw]
theorem matM_at {n m i : Nat} {D : Nat → Nat → Int} (h : i < n) : rowAt' (matM n m D i) i = rowF n (D i) := by
  simp [rowAt', matM, List.getD_eq_getElem?_getD, h]
theorem matM_atm {n m i : Nat} {D : Nat → Nat → Int} (h : m < n) (h0 : D m m = 0) : rowAt' (matM n m D i) m = rowF n (D m) := by
  have : fwP m D m = D m := funext fun k => fwP_row h0
  simp [rowAt', matM, List.getD_eq_getElem?_getD, h, this]
theorem matM_set {n m i : Nat} {D : Nat → Nat → Int} : (matM n m D i).set i (rowF n (fwP m D i)) = matM n m D (i + 1) :=
  rng_set n _ _ i _ (by simp) (fun w hw => by
    by_cases h : w < i
    · rw [if_pos h, if_pos (by omega)]
    · rw [if_neg h, if_neg (by omega)])
theorem matM_same {n m i : Nat} {D : Nat → Nat → Int} (h : fwP m D i = D i) : matM n m D i = matM n m D (i + 1) :=
  rng_same n _ _ fun w _ => by
    by_cases h1 : w < i
    · rw [if_pos h1, if_pos (by omega)]
    · by_cases h2 : w = i
      · subst h2; rw [if_neg h1, if_pos (by omega), h]
      · rw [if_neg h1, if_neg (by omega)]
theorem fwP_skip {m i : Nat} {D : Nat → Nat → Int} (h : D i m < 0) : fwP m D i = D i := funext fun k => by
  unfold fwP; rw [if_neg]; omega
def rowK (n m : Nat) (D : Nat → Nat → Int) (i k : Nat) : List Int := rowF n fun l => if l < k then fwP m D i l else D i l
theorem rowK_len (n m : Nat) (D : Nat → Nat → Int) (i k : Nat) : (rowK n m D i k).length = n := rng_len n _
theorem rowK_0 (n m : Nat) (D : Nat → Nat → Int) (i : Nat) : rowK n m D i 0 = rowF n (D i) := rng_same n _ _ fun w _ => by simp
theorem rowK_n (n m : Nat) (D : Nat → Nat → Int) (i : Nat) : rowK n m D i n = rowF n (fwP m D i) := rng_same n _ _ fun w hw => by simp [hw]
theorem rowK_set {n m i k : Nat} {D : Nat → Nat → Int} {v : Int} (h : v = fwP m D i k) : (rowK n m D i k).set k v = rowK n m D i (k + 1) :=
  rng_set n _ _ k _ (by simp [h]) (fun w hw => by
    by_cases h : w < k
    · rw [if_pos h, if_pos (by omega)]
    · rw [if_neg h, if_neg (by omega)])
theorem rowK_same {n m i k : Nat} {D : Nat → Nat → Int} (h : fwP m D i k = D i k) : rowK n m D i k = rowK n m D i (k + 1) :=
  rng_same n _ _ fun w _ => by
    by_cases h1 : w < k
    · rw [if_pos h1, if_pos (by omega)]
    · by_cases h2 : w = k
      · subst h2; rw [if_neg h1, if_pos (by omega), h]
      · rw [if_neg h1, if_neg (by omega)]
theorem rowK_at {n m i k : Nat} {D : Nat → Nat → Int} (h : k < n) : gt0 (rowK n m D i k) k = D i k := by
  rw [rowK, rowF_get _ _ h, if_neg (by omega)]
theorem rowK_m {n m i k : Nat} {D : Nat → Nat → Int} (h : m < n) (h0 : D m m = 0) : gt0 (rowK n m D i k) m = D i m := by
  rw [rowK, rowF_get _ _ h, fwP_col h0]; split <;> rfl
theorem mat_row (n : Nat) (D : Nat → Nat → Int) {i : Nat} (h : i < n) : ((matF n D).map encL)[i]? = some [VI (rowF n (D i))] := by simp [h, encL]
theorem row_row (n : Nat) (f : Nat → Int) {k : Nat} (h : k < n) : ((rowF n f).map encN)[k]? = some [If .i64 (f k)] := by simp [h, encN]
/- two rows taken -/
theorem renO_tkG (L : List Nat) (irs : List (List (List FV))) (u k : Nat) : renO L (.refs 1 (tkL irs u k)) = .refs 1 ((ownL 1 irs).set u [PV.sl (renI L 2) 1 0 k]) := by
  have h1 := renO_own L 1 irs
  simp only [renO, Ob.refs.injEq, true_and] at h1 ⊢
  unfold tkL
  rw [List.map_set, h1]
  simp [renPs, renP]
theorem ent_tkG {L F : List Nat} {H : Hp} {id : Nat} {irs : List (List (List FV))} {u k : Nat} (h1 : Nat.blt id L.length = true) (h2 : F.contains (renI L id) = false) (hl : 2 < L.length) (h3 : hlook H (renI L id) = some (.refs 1 ((ownL 1 irs).set u [PV.sl (renI L 2) 1 0 k]))) : Nat.blt id L.length = true ∧ F.contains (renI L id) = false ∧ EntO L F H (renI L id) (.refs 1 (tkL irs u k)) :=
  ent_same h1 h2 (by rw [renO_tkG]; exact h3) (ltO_tk hl _ _ _)
def tk2 (irs : List (List (List FV))) (u m k l : Nat) : List (List PV) := (tkL irs u k).set m [PV.sl 3 1 0 l]
theorem ent_tk2 {L F : List Nat} {H : Hp} {id : Nat} {irs : List (List (List FV))} {u m k l : Nat} (h1 : Nat.blt id L.length = true) (h2 : F.contains (renI L id) = false) (hl : 3 < L.length) (hr : renI L 2 = 2) (hr3 : renI L 3 = 3) (h3 : hlook H (renI L id) = some (.refs 1 (tk2 irs u m k l))) : Nat.blt id L.length = true ∧ F.contains (renI L id) = false ∧ EntO L F H (renI L id) (.refs 1 (tk2 irs u m k l)) :=
  ent_same h1 h2 (by
    have h4 := renO_tk (L := L) hr irs u k
    simp only [renO, Ob.refs.injEq, true_and] at h4 ⊢
    rw [show (tk2 irs u m k l).map (renPs L) = tk2 irs u m k l by
      unfold tk2
      rw [List.map_set, h4]
      simp [renPs, renP, hr3]]
    exact h3) (fun r hr => by
      rcases List.mem_or_eq_of_mem_set hr with h1 | rfl
      · exact ltO_tk (by omega) irs u k r h1
      · simp [ltPs, ltP, Nat.blt_eq, hl])
end Go.Pl
namespace Go.Pl
theorem set_self {α : Type} {l : List α} {i : Nat} {x : α} (h : l[i]? = some x) : l.set i x = l := by
  apply List.ext_getElem?
  intro j
  rw [List.getElem?_set]
  by_cases e : i = j
  · subst e
    have := (List.getElem?_eq_some_iff.1 h).1
    rw [h]; simp [this]
  · simp [e]
end Go.Pl
namespace Go.Proofs.Ytgbfkpcigipniaa
open Go Go.RT Go.Proofs Go.Pl
set_option linter.all false
set_option maxRecDepth 20000
set_option maxHeartbeats 4000000
theorem rdist_c (g : Gr) (hg : checkI g = 0) : Pure Try.prog 31 [.agg (encG g)] (VLL (matF g.m (disF g.es g.m))) := by
  obtain ⟨vg, hr0, hn0⟩ := checkI_vg hg
  have hn := vg.n128
  have hel := vg.e1024
  have hrn : g.r + g.n = (g.m : Int) := by unfold Gr.m; omega
  change VG g.es g.r.toNat g.m at vg
  change g.m ≤ 128 at hn
  unfold disF
  generalize g.m = n at *
  refine Meets.intro Try.func31 rfl (Nat.le_of_ble_eq_true rfl) fun C hC => ?_
  simp only [List.map, argEnv, Nat.reduceAdd]
  refine nK2 ?_
  refine s_reg rfl ?_
  refine Run.eff (dd := some 1) rfl rfl (op_box_flat rfl (Opd.tmp _ _ rfl) tC rfl) ?_
  refine Run.pure (dd := some 2) rfl rfl (op_assign rfl (Opd.const _)) ?_
  refine Run.nil (FinR.mk ?_)
  refine nK2 ?_
  refine s_reg rfl ?_
  refine Run.pure (dd := some 11) rfl rfl (op_fld_ptr (by decide) rfl (Opd.tmp _ _ rfl)) ?_
  refine Run.load (dd := some 12) rfl rfl (op_load1_flat rfl (Opd.tmp _ _ rfl) tH rfl) ?_
  refine Run.pure (dd := some 13) rfl rfl (op_fld_ptr (by decide) rfl (Opd.tmp _ _ rfl)) ?_
  refine Run.load (dd := some 14) rfl rfl (op_load1_flat rfl (Opd.tmp _ _ rfl) tH rfl) ?_
  refine Run.pure (dd := some 15) rfl rfl (op_add rfl (Opd.tmp _ _ rfl) (Opd.tmp _ _ rfl) tI) ?_
  refine Run.pure (dd := some 3) rfl rfl (op_assign rfl (Opd.tmp _ _ rfl)) ?_
  refine Run.nil (FinR.mk ?_)
  refine nK2 ?_
  refine s_reg rfl ?_
  refine Run.pure (dd := some 16) rfl rfl (op_move rfl (Opd.tmp _ _ rfl)) ?_
  refine Run.eff (dd := some 17) rfl rfl (op_make (l := n) (c := n) rfl (Opd.tmp _ _ rfl) (Opd.tmp _ _ rfl) rfl rfl rfl rfl (by intro _; refine ⟨hrn, hrn, ?_⟩; omega)) ?_
  refine Run.pure (dd := some 4) rfl rfl (op_assign rfl (Opd.tmp _ _ rfl)) ?_
  refine Run.nil (FinR.mk ?_)
  refine nK2 ?_
  refine Next.toOwn 1 1 n rfl ?_
  refine Next.weak [0, 1] [] (by rfl) (keepsN hC _ rfl) (G' := [(1, .ptr 0 3 0 0), (3, IV .i64 n), (4, .sl 1 1 0 n)]) (H' := [(0, OG g), (1, some (.refs 1 (ownL 1 (rowsI (llA n 0)))))]) (by repeat (first | exact trivial | refine ⟨⟨_, rfl, .inl ⟨rfl, rfl⟩⟩, ?_⟩ | refine ⟨⟨_, rfl, .inl ⟨slEq rfl tN, rfl⟩⟩, ?_⟩ | refine ⟨⟨_, rfl, .inl ⟨ivEq tX, rfl⟩⟩, ?_⟩)) (by exact ⟨ent_same rfl rfl rfl tL, ⟨ent_own rfl rfl (by rw [llA_0, rowsI_nil, ← ownL_rep]; rfl), trivial⟩⟩) (fun _ h => by simp at h) ?_
  refine nK2 ?_
  refine s_reg rfl ?_
  refine Run.pure (dd := some 5) rfl rfl (op_assign rfl (Opd.const _)) ?_
  refine Run.nil (FinR.mk ?_)
  refine nK2 ?_
  refine n_loop (ι := Nat) (fun i => ([(1, .ptr 0 3 0 0), (3, IV .i64 n), (4, .sl 1 1 0 n), (5, IV .i64 i)], [(0, OG g), (1, some (.refs 1 (ownL 1 (rowsI (llA n i)))))], 2)) (fun i => i ≤ n) (fun i => n - i) 0 (Nat.zero_le _) ?_ ?_
  · refine Next.weak [0, 1] [] (by rfl) (keepsN hC _ rfl) (by repeat (first | exact trivial | refine ⟨⟨_, rfl, .inl ⟨rfl, rfl⟩⟩, ?_⟩ | refine ⟨⟨_, rfl, .inl ⟨slEq rfl tN, rfl⟩⟩, ?_⟩ | refine ⟨⟨_, rfl, .inl ⟨ivEq tX, rfl⟩⟩, ?_⟩)) (by exact ⟨ent_same rfl rfl rfl tL, ⟨ent_own rfl rfl rfl, trivial⟩⟩) (fun _ h => by simp at h) rel_intro
  · intro i hi K hK
    try dsimp only at hi hK ⊢
    refine nK2 ?_
    refine s_reg rfl ?_
    refine Run.pure (dd := some 18) rfl rfl (op_move rfl (Opd.tmp _ _ rfl)) ?_
    refine Run.pure (dd := some 19) rfl rfl (op_move rfl (Opd.tmp _ _ rfl)) ?_
    refine Run.pure (dd := some 20) rfl rfl (op_lss rfl (Opd.tmp _ _ rfl) (Opd.tmp _ _ rfl)) ?_
    refine Run.nil (FinR.mk ?_)
    refine nK2 ?_
    refine n_cond _ rfl (fun hb => ?_) (fun hb => ?_)
    · have hlt : i < n := by simpa using hb
      have hrA := rowsI_get (ll := llA n i) (v := i) (by rw [llA_len]; exact hlt)
      rw [show (llA n i).getD i [] = [] from llA_at hlt] at hrA
      have hK1 := hK (i + 1) (by omega) (by omega)
      rw [← llA_set, ← rowsI_set] at hK1
      have hll : (rowsI (llA n i)).length = n := by rw [rowsI_len, llA_len]
      generalize rowsI (llA n i) = irs at *
      refine nK2 ?_
      refine Next.take 1 i 0 rfl (ownL_get hrA) rfl rfl ?_
      have hs1 := set_get (ownL 1 irs) i [.sl 2 1 0 0] (by rw [ownL_len, hll]; omega)
      refine nK2 ?_
      refine s_reg rfl ?_
      refine Run.pure (dd := some 23) rfl rfl (op_move rfl (Opd.tmp _ _ rfl)) ?_
      refine Run.pure (dd := some 24) rfl rfl (op_move rfl (Opd.tmp _ _ rfl)) ?_
      refine Run.pure (dd := some 25) rfl rfl (op_move rfl (Opd.tmp _ _ rfl)) ?_
      refine Run.eff (dd := some 26) rfl rfl (op_make (l := n) (c := n) rfl (Opd.tmp _ _ rfl) (Opd.tmp _ _ rfl) rfl rfl rfl rfl (by intro _; refine ⟨rfl, rfl, ?_⟩; omega)) ?_
      refine Run.pure (dd := some 27) rfl rfl (op_idx_sl0 i rfl (Opd.tmp _ _ rfl) (Opd.tmp _ _ rfl) (by intro _; exact ⟨rfl, hlt⟩)) ?_
      refine Run.eff (dd := none) rfl rfl (op_store_refs rfl (Opd.tmp _ _ rfl) (Opd.tmp _ _ rfl) tP rfl rfl hs1 tS) ?_
      refine Run.nil (FinR.mk ?_)
      refine nK2 ?_
      refine Next.weak [0, 1, 3] [] (by rfl) (keepsN hC _ rfl) (G' := [(1, .ptr 0 3 0 0), (3, IV .i64 n), (4, .sl 1 1 0 n), (5, IV .i64 i)]) (H' := [(0, OG g), (1, some (.refs 1 (tkL irs i n))), (2, OI (fillN n 0))]) (by repeat (first | exact trivial | refine ⟨⟨_, rfl, .inl ⟨rfl, rfl⟩⟩, ?_⟩ | refine ⟨⟨_, rfl, .inl ⟨slEq rfl tN, rfl⟩⟩, ?_⟩ | refine ⟨⟨_, rfl, .inl ⟨ivEq tX, rfl⟩⟩, ?_⟩)) (by exact ⟨ent_same rfl rfl rfl tL, ⟨ent_tkG rfl rfl (by decide) (congrArg (fun r => some (Ob.refs 1 r)) (List.set_set ..)), ⟨ent_same rfl rfl (flEq rfl (by rw [fillN_0, List.map_replicate]; rfl)) trivial, trivial⟩⟩⟩) (fun _ h => by simp at h) ?_
      have hs2 := set_get (ownL 1 irs) i [.sl 2 1 0 n] (by rw [ownL_len, hll]; omega)
      refine nK2 ?_
      refine s_reg rfl ?_
      refine Run.pure (dd := some 6) rfl rfl (op_assign rfl (Opd.const _)) ?_
      refine Run.nil (FinR.mk ?_)
      refine nK2 ?_
      refine n_loop (ι := Nat) (fun k => ([(1, .ptr 0 3 0 0), (3, IV .i64 n), (4, .sl 1 1 0 n), (5, IV .i64 i), (6, IV .i64 k)], [(0, OG g), (1, some (.refs 1 (tkL irs i n))), (2, OI (fillN n k))], 3)) (fun k => k ≤ n) (fun k => n - k) 0 (Nat.zero_le _) ?_ ?_
      · refine Next.weak [0, 1, 2] [] (by rfl) (keepsN hC _ rfl) (by repeat (first | exact trivial | refine ⟨⟨_, rfl, .inl ⟨rfl, rfl⟩⟩, ?_⟩ | refine ⟨⟨_, rfl, .inl ⟨slEq rfl tN, rfl⟩⟩, ?_⟩ | refine ⟨⟨_, rfl, .inl ⟨ivEq tX, rfl⟩⟩, ?_⟩)) (by exact ⟨ent_same rfl rfl rfl tL, ⟨ent_tk rfl rfl rfl (by decide) rfl, ⟨ent_same rfl rfl rfl tL, trivial⟩⟩⟩) (fun _ h => by simp at h) rel_intro
      · intro k hk K2 hK2
        try dsimp only at hk hK2 ⊢
        refine nK2 ?_
        refine s_reg rfl ?_
        refine Run.pure (dd := some 28) rfl rfl (op_move rfl (Opd.tmp _ _ rfl)) ?_
        refine Run.pure (dd := some 29) rfl rfl (op_move rfl (Opd.tmp _ _ rfl)) ?_
        refine Run.pure (dd := some 30) rfl rfl (op_lss rfl (Opd.tmp _ _ rfl) (Opd.tmp _ _ rfl)) ?_
        refine Run.nil (FinR.mk ?_)
        refine nK2 ?_
        refine n_cond _ rfl (fun hb => ?_) (fun hb => ?_)
        · have hlk : k < n := by simpa using hb
          have hrow := row_of encN (fillN n k) k 0 (by rw [fillN_len _ _ hk]; exact hlk)
          refine nK2 ?_
          refine s_reg rfl ?_
          refine Run.pure (dd := some 33) rfl rfl (op_move rfl (Opd.tmp _ _ rfl)) ?_
          refine Run.pure (dd := some 34) rfl rfl (op_move rfl (Opd.tmp _ _ rfl)) ?_
          refine Run.pure (dd := some 35) rfl rfl (op_idx_sl0 i rfl (Opd.tmp _ _ rfl) (Opd.tmp _ _ rfl) (by intro _; exact ⟨rfl, hlt⟩)) ?_
          refine Run.load (dd := some 36) rfl rfl (op_load1_refs rfl (Opd.tmp _ _ rfl) (by intro _; exact ⟨rfl, hs2⟩) rfl) ?_
          refine Run.pure (dd := some 37) rfl rfl (op_move rfl (Opd.tmp _ _ rfl)) ?_
          refine Run.pure (dd := some 38) rfl rfl (op_idx_sl0 k rfl (Opd.tmp _ _ rfl) (Opd.tmp _ _ rfl) (by intro _; exact ⟨rfl, hlk⟩)) ?_
          refine Run.eff (dd := none) rfl rfl (op_store_flat rfl (Opd.tmp _ _ rfl) (Opd.const _) tC rfl rfl hrow tS) ?_
          refine Run.nil (FinR.mk ?_)
          refine nK2 ?_
          refine s_reg rfl ?_
          refine Run.pure (dd := some 31) rfl rfl (op_move rfl (Opd.tmp _ _ rfl)) ?_
          refine Run.pure (dd := some 32) rfl rfl (op_add rfl (Opd.tmp _ _ rfl) (Opd.const _) tI) ?_
          refine Run.pure (dd := some 6) rfl rfl (op_assign rfl (Opd.tmp _ _ rfl)) ?_
          refine Run.nil (FinR.mk ?_)
          refine nK2 ?_
          refine Next.weak [0, 1, 2] [] (by rfl) (keepsN hC _ rfl) (by repeat (first | exact trivial | refine ⟨⟨_, rfl, .inl ⟨rfl, rfl⟩⟩, ?_⟩ | refine ⟨⟨_, rfl, .inl ⟨slEq rfl tN, rfl⟩⟩, ?_⟩ | refine ⟨⟨_, rfl, .inl ⟨ivEq tX, rfl⟩⟩, ?_⟩)) (by exact ⟨ent_same rfl rfl rfl tL, ⟨ent_tk rfl rfl rfl (by decide) rfl, ⟨ent_same rfl rfl (flEq rfl (by rw [← fillN_set n k hlk, List.map_set]; rfl)) trivial, trivial⟩⟩⟩) (fun _ h => by simp at h) (hK2 (k + 1) (by omega) (by omega))
        · have hke : k = n := by simp at hb; omega
          subst hke
          have hrow := row_of encN (fillN k k) i 0 (by rw [fillN_len _ _ (Nat.le_refl _)]; exact hlt)
          refine nK2 ?_
          refine s_reg rfl ?_
          refine Run.pure (dd := some 39) rfl rfl (op_move rfl (Opd.tmp _ _ rfl)) ?_
          refine Run.pure (dd := some 40) rfl rfl (op_move rfl (Opd.tmp _ _ rfl)) ?_
          refine Run.pure (dd := some 41) rfl rfl (op_idx_sl0 i rfl (Opd.tmp _ _ rfl) (Opd.tmp _ _ rfl) (by intro _; exact ⟨rfl, hlt⟩)) ?_
          refine Run.load (dd := some 42) rfl rfl (op_load1_refs rfl (Opd.tmp _ _ rfl) (by intro _; exact ⟨rfl, hs2⟩) rfl) ?_
          refine Run.pure (dd := some 43) rfl rfl (op_move rfl (Opd.tmp _ _ rfl)) ?_
          refine Run.pure (dd := some 44) rfl rfl (op_idx_sl0 i rfl (Opd.tmp _ _ rfl) (Opd.tmp _ _ rfl) (by intro _; exact ⟨rfl, hlt⟩)) ?_
          refine Run.eff (dd := none) rfl rfl (op_store_flat rfl (Opd.tmp _ _ rfl) (Opd.const _) tC rfl rfl hrow tS) ?_
          refine Run.nil (FinR.mk ?_)
          refine nK2 ?_
          refine s_reg rfl ?_
          refine Run.pure (dd := some 21) rfl rfl (op_move rfl (Opd.tmp _ _ rfl)) ?_
          refine Run.pure (dd := some 22) rfl rfl (op_add rfl (Opd.tmp _ _ rfl) (Opd.const _) tI) ?_
          refine Run.pure (dd := some 5) rfl rfl (op_assign rfl (Opd.tmp _ _ rfl)) ?_
          refine Run.nil (FinR.mk ?_)
          refine nK2 ?_
          refine Next.untake 1 i 0 rfl (set_get _ _ _ (by rw [ownL_len, hll]; omega)) rfl rfl (by simp [fillN_len]) rfl ?_
          refine Next.weak [0, 1] [] (by rfl) (keepsN hC _ rfl) (by repeat (first | exact trivial | refine ⟨⟨_, rfl, .inl ⟨rfl, rfl⟩⟩, ?_⟩ | refine ⟨⟨_, rfl, .inl ⟨slEq rfl tN, rfl⟩⟩, ?_⟩ | refine ⟨⟨_, rfl, .inl ⟨ivEq tX, rfl⟩⟩, ?_⟩)) (by exact ⟨ent_same rfl rfl rfl tL, ⟨ent_own rfl rfl (congrArg (fun r => some (Ob.refs 1 r)) ((List.set_set ..).trans ((ownL_set ..).trans (congrArg (fun r => ownL 1 (irs.set i r)) (by rw [← fill_row, List.map_set]; rfl))))), trivial⟩⟩) (fun _ h => by simp at h) hK1
    · have hie : i = n := by simp at hb; omega
      subst hie
      rw [llA_n]
      refine nK2 ?_
      refine s_reg rfl ?_
      refine Run.pure (dd := some 7) rfl rfl (op_assign rfl (Opd.const _)) ?_
      refine Run.nil (FinR.mk ?_)
      refine nK2 ?_
      refine n_loop (ι := Nat) (fun j => ([(1, .ptr 0 3 0 0), (3, IV .i64 i), (4, .sl 1 1 0 i), (7, IV .i64 j)], [(0, OG g), (1, some (.refs 1 (ownL 1 (rowsI (matF i (iniD (g.es.take j)))))))], 2)) (fun j => j ≤ g.es.length) (fun j => g.es.length - j) 0 (Nat.zero_le _) ?_ ?_
      · refine Next.weak [0, 1] [] (by rfl) (keepsN hC _ rfl) (by repeat (first | exact trivial | refine ⟨⟨_, rfl, .inl ⟨rfl, rfl⟩⟩, ?_⟩ | refine ⟨⟨_, rfl, .inl ⟨slEq rfl tN, rfl⟩⟩, ?_⟩ | refine ⟨⟨_, rfl, .inl ⟨ivEq tX, rfl⟩⟩, ?_⟩)) (by exact ⟨ent_same rfl rfl rfl tL, ⟨ent_own rfl rfl rfl, trivial⟩⟩) (fun _ h => by simp at h) rel_intro
      · intro j hj K2 hK2
        try dsimp only at hj hK2 ⊢
        refine nK2 ?_
        refine s_reg rfl ?_
        refine Run.pure (dd := some 45) rfl rfl (op_move rfl (Opd.tmp _ _ rfl)) ?_
        refine Run.pure (dd := some 46) rfl rfl (op_fld_ptr (by decide) rfl (Opd.tmp _ _ rfl)) ?_
        refine Run.load (dd := some 47) rfl rfl (op_load1_flat rfl (Opd.tmp _ _ rfl) tH rfl) ?_
        refine Run.pure (dd := some 48) rfl rfl (op_len_fz rfl (by first | exact Opd.tmp _ _ rfl | exact Opd.nil _ _ (Opd.tmp _ _ rfl)) (by first | exact List.length_map _ | rfl)) ?_
        refine Run.pure (dd := some 49) rfl rfl (op_lss rfl (Opd.tmp _ _ rfl) (Opd.tmp _ _ rfl)) ?_
        refine Run.nil (FinR.mk ?_)
        refine nK2 ?_
        refine n_cond _ rfl (fun hb => ?_) (fun hb => ?_)
        · have hlj : j < g.es.length := by simp at hb; omega
          have hr1 := row_at' encE g.es j hlj
          have hef := vg.f _ (List.getElem_mem hlj)
          have het := vg.t _ (List.getElem_mem hlj)
          have hK3 := hK2 (j + 1) (by omega) (by omega)
          have hput := matF_put (n := i) (f := g.es[j].f.toNat) (t := g.es[j].t.toNat) (c := g.es[j].c) (D := iniD (g.es.take j)) (D' := iniD (g.es.take (j + 1))) (fun a b => iniD_succ vg.asc (fun e he => ⟨vg.ne e he, (vg.f e he).1, (vg.t e he).1⟩) hlj a b)
          rw [← hput, ← rowsI_set] at hK3
          generalize iniD (g.es.take j) = D at *
          clear hput
          have hrA := rowsI_get (ll := matF i D) (v := g.es[j].f.toNat) (by rw [matF_len]; omega)
          rw [show (matF i D).getD g.es[j].f.toNat [] = rowF i (D g.es[j].f.toNat) from matF_get i D (by omega)] at hrA
          have hll : (rowsI (matF i D)).length = i := by rw [rowsI_len, matF_len]
          generalize rowsI (matF i D) = irs at *
          generalize g.es[j] = e at *
          have hrl := rowF_len i (D e.f.toNat)
          generalize rowF i (D e.f.toNat) = row at *
          have hrt := row_of encN row e.t.toNat 0 (by omega)
          refine nK2 ?_
          refine Next.take 1 e.f.toNat 0 rfl (ownL_get hrA) rfl rfl ?_
          have hs1 := set_get (ownL 1 irs) e.f.toNat [.sl 2 1 0 (row.map encN).length] (by rw [ownL_len, hll]; omega)
          refine nK2 ?_
          refine s_draw mixed ?_
          refine Run.pure (dd := some 52) rfl rfl (op_move rfl (Opd.tmp _ _ rfl)) ?_
          refine Run.pure (dd := some 53) rfl rfl (op_fld_ptr (by decide) rfl (Opd.tmp _ _ rfl)) ?_
          refine Run.load (dd := some 54) rfl rfl (op_load1_flat rfl (Opd.tmp _ _ rfl) tH rfl) ?_
          refine Run.pure (dd := some 55) rfl rfl (op_move rfl (Opd.tmp _ _ rfl)) ?_
          refine Run.pure (dd := some 56) rfl rfl (op_idx_fz _ rfl (Opd.tmp _ _ rfl) (Opd.tmp _ _ rfl) tF) ?_
          refine Run.pure (dd := some 57) rfl rfl (op_fld_fz (by decide) rfl (Opd.tmp _ _ rfl) tR) ?_
          refine Run.pure (dd := some 58) rfl rfl (op_load1_fz rfl (Opd.tmp _ _ rfl) rfl) ?_
          refine Run.pure (dd := some 59) rfl rfl (op_idx_sl0 e.f.toNat rfl (Opd.tmp _ _ rfl) (Opd.tmp _ _ rfl) (by intro _; omega)) ?_
          refine Run.load (dd := some 60) rfl rfl (op_load1_refs rfl (Opd.tmp _ _ rfl) (by intro _; exact ⟨rfl, hs1⟩) rfl) ?_
          refine Run.pure (dd := some 61) rfl rfl (op_fld_ptr (by decide) rfl (Opd.tmp _ _ rfl)) ?_
          refine Run.load (dd := some 62) rfl rfl (op_load1_flat rfl (Opd.tmp _ _ rfl) tH rfl) ?_
          refine Run.pure (dd := some 63) rfl rfl (op_move rfl (Opd.tmp _ _ rfl)) ?_
          refine Run.pure (dd := some 64) rfl rfl (op_idx_fz _ rfl (Opd.tmp _ _ rfl) (Opd.tmp _ _ rfl) tF) ?_
          refine Run.pure (dd := some 65) rfl rfl (op_fld_fz (by decide) rfl (Opd.tmp _ _ rfl) tR) ?_
          refine Run.pure (dd := some 66) rfl rfl (op_load1_fz rfl (Opd.tmp _ _ rfl) rfl) ?_
          refine Run.pure (dd := some 67) rfl rfl (op_fld_ptr (by decide) rfl (Opd.tmp _ _ rfl)) ?_
          refine Run.load (dd := some 68) rfl rfl (op_load1_flat rfl (Opd.tmp _ _ rfl) tH rfl) ?_
          refine Run.pure (dd := some 69) rfl rfl (op_move rfl (Opd.tmp _ _ rfl)) ?_
          refine Run.pure (dd := some 70) rfl rfl (op_idx_fz _ rfl (Opd.tmp _ _ rfl) (Opd.tmp _ _ rfl) tF) ?_
          refine Run.pure (dd := some 71) rfl rfl (op_fld_fz (by decide) rfl (Opd.tmp _ _ rfl) tR) ?_
          refine Run.pure (dd := some 72) rfl rfl (op_load1_fz rfl (Opd.tmp _ _ rfl) rfl) ?_
          refine Run.pure (dd := some 73) rfl rfl (op_idx_sl0 e.t.toNat rfl (Opd.tmp _ _ rfl) (Opd.tmp _ _ rfl) (by intro _; rw [List.length_map]; omega)) ?_
          refine Run.effW (dd := none) rfl rfl (op_store_flat rfl (Opd.tmp _ _ rfl) (Opd.tmp _ _ rfl) tC rfl rfl hrt tS) (by first | exact ext_call | exact tE) ?_
          refine Run.nil (FinD.mk (by kernel_rfl) ?_)
          refine nK2 ?_
          refine s_reg rfl ?_
          refine Run.pure (dd := some 50) rfl rfl (op_move rfl (Opd.tmp _ _ rfl)) ?_
          refine Run.pure (dd := some 51) rfl rfl (op_add rfl (Opd.tmp _ _ rfl) (Opd.const _) tI) ?_
          refine Run.pure (dd := some 7) rfl rfl (op_assign rfl (Opd.tmp _ _ rfl)) ?_
          refine Run.nil (FinR.mk ?_)
          refine nK2 ?_
          refine Next.untake 1 e.f.toNat 0 rfl (set_get _ _ _ (by rw [ownL_len, hll]; omega)) rfl rfl (by simp) rfl ?_
          refine Next.weak [0, 1] [] (by rfl) (keepsN hC _ rfl) (by repeat (first | exact trivial | refine ⟨⟨_, rfl, .inl ⟨rfl, rfl⟩⟩, ?_⟩ | refine ⟨⟨_, rfl, .inl ⟨slEq rfl tN, rfl⟩⟩, ?_⟩ | refine ⟨⟨_, rfl, .inl ⟨ivEq tX, rfl⟩⟩, ?_⟩)) (by exact ⟨ent_same rfl rfl rfl tL, ⟨ent_own rfl rfl (congrArg (fun r => some (Ob.refs 1 r)) ((List.set_set ..).trans ((ownL_set ..).trans (congrArg (fun r => ownL 1 (irs.set e.f.toNat r)) (by rw [List.map_set]; rfl))))), trivial⟩⟩) (fun _ h => by simp at h) hK3
        · have hje : j = g.es.length := by simp at hb; omega
          subst hje
          rw [List.take_length]
          refine nK2 ?_
          refine s_reg rfl ?_
          refine Run.pure (dd := some 8) rfl rfl (op_assign rfl (Opd.const _)) ?_
          refine Run.nil (FinR.mk ?_)
          refine nK2 ?_
          refine n_loop (ι := Nat) (fun m => ([(1, .ptr 0 3 0 0), (3, IV .i64 i), (4, .sl 1 1 0 i), (8, IV .i64 m)], [(0, OG g), (1, some (.refs 1 (ownL 1 (rowsI (matF i (fwN g.es m))))))], 2)) (fun m => m ≤ i) (fun m => i - m) 0 (Nat.zero_le _) ?_ ?_
          · refine Next.weak [0, 1] [] (by rfl) (keepsN hC _ rfl) (by repeat (first | exact trivial | refine ⟨⟨_, rfl, .inl ⟨rfl, rfl⟩⟩, ?_⟩ | refine ⟨⟨_, rfl, .inl ⟨slEq rfl tN, rfl⟩⟩, ?_⟩ | refine ⟨⟨_, rfl, .inl ⟨ivEq tX, rfl⟩⟩, ?_⟩)) (by exact ⟨ent_same rfl rfl rfl tL, ⟨ent_own rfl rfl rfl, trivial⟩⟩) (fun _ h => by simp at h) rel_intro
          · intro m hm K3 hK3
            try dsimp only at hm hK3 ⊢
            refine nK2 ?_
            refine s_reg rfl ?_
            refine Run.pure (dd := some 74) rfl rfl (op_move rfl (Opd.tmp _ _ rfl)) ?_
            refine Run.pure (dd := some 75) rfl rfl (op_move rfl (Opd.tmp _ _ rfl)) ?_
            refine Run.pure (dd := some 76) rfl rfl (op_lss rfl (Opd.tmp _ _ rfl) (Opd.tmp _ _ rfl)) ?_
            refine Run.nil (FinR.mk ?_)
            refine nK2 ?_
            refine n_cond _ rfl (fun hb => ?_) (fun hb => ?_)
            · have hlm : m < i := by simpa using hb
              have hI := fwN_ok vg m hm
              have h00 : fwN g.es m m m = 0 := hI.diag vg hlm
              have hbd := fun a b (ha : a < i) (hb : b < i) => hI.bnd vg ha hb
              have hK4 := hK3 (m + 1) (by omega) (by omega)
              rw [show fwN g.es (m + 1) = fwP m (fwN g.es m) from rfl] at hK4
              rw [← matM_n] at hK4
              rw [← matM_0 i m (fwN g.es m)]
              generalize fwN g.es m = D at *
              clear hI
              refine nK2 ?_
              refine s_reg rfl ?_
              refine Run.pure (dd := some 9) rfl rfl (op_assign rfl (Opd.const _)) ?_
              refine Run.nil (FinR.mk ?_)
              refine nK2 ?_
              refine n_loop (ι := Nat) (fun a => ([(1, .ptr 0 3 0 0), (3, IV .i64 i), (4, .sl 1 1 0 i), (8, IV .i64 m), (9, IV .i64 a)], [(0, OG g), (1, some (.refs 1 (ownL 1 (rowsI (matM i m D a)))))], 2)) (fun a => a ≤ i) (fun a => i - a) 0 (Nat.zero_le _) ?_ ?_
              · refine Next.weak [0, 1] [] (by rfl) (keepsN hC _ rfl) (by repeat (first | exact trivial | refine ⟨⟨_, rfl, .inl ⟨rfl, rfl⟩⟩, ?_⟩ | refine ⟨⟨_, rfl, .inl ⟨slEq rfl tN, rfl⟩⟩, ?_⟩ | refine ⟨⟨_, rfl, .inl ⟨ivEq tX, rfl⟩⟩, ?_⟩)) (by exact ⟨ent_same rfl rfl rfl tL, ⟨ent_own rfl rfl rfl, trivial⟩⟩) (fun _ h => by simp at h) rel_intro
              · intro a ha K4 hK5
                try dsimp only at ha hK5 ⊢
                refine nK2 ?_
                refine s_reg rfl ?_
                refine Run.pure (dd := some 79) rfl rfl (op_move rfl (Opd.tmp _ _ rfl)) ?_
                refine Run.pure (dd := some 80) rfl rfl (op_move rfl (Opd.tmp _ _ rfl)) ?_
                refine Run.pure (dd := some 81) rfl rfl (op_lss rfl (Opd.tmp _ _ rfl) (Opd.tmp _ _ rfl)) ?_
                refine Run.nil (FinR.mk ?_)
                refine nK2 ?_
                refine n_cond _ rfl (fun hb => ?_) (fun hb => ?_)
                · have hla : a < i := by simpa using hb
                  have hK6 := hK5 (a + 1) (by omega) (by omega)
                  have hrA := rowsI_get (ll := matM i m D a) (v := a) (by rw [matM_len]; omega)
                  rw [show (matM i m D a).getD a [] = rowF i (D a) from matM_at hla] at hrA
                  have hrM := rowsI_get (ll := matM i m D a) (v := m) (by rw [matM_len]; omega)
                  rw [show (matM i m D a).getD m [] = rowF i (D m) from matM_atm hlm h00] at hrM
                  have hll : (rowsI (matM i m D a)).length = i := by rw [rowsI_len, matM_len]
                  have hskip := fun h => matM_same (n := i) (m := m) (i := a) (D := D) h
                  rw [← matM_set, ← rowsI_set] at hK6
                  have hrm := row_of encN (rowF i (D a)) m 0 (by rw [rowF_len]; omega)
                  rw [show (rowF i (D a)).getD m 0 = D a m from rowF_get _ _ hlm] at hrm
                  refine nK2 ?_
                  refine Next.take 1 a 0 rfl (ownL_get hrA) rfl rfl ?_
                  generalize rowsI (matM i m D a) = irs at *
                  refine Next.weak [0, 1, 2] [] (by rfl) (keepsN hC _ rfl) (G' := [(1, .ptr 0 3 0 0), (3, IV .i64 i), (4, .sl 1 1 0 i), (8, IV .i64 m), (9, IV .i64 a)]) (H' := [(0, OG g), (1, some (.refs 1 (tkL irs a i))), (2, OI (rowF i (D a)))]) (by repeat (first | exact trivial | refine ⟨⟨_, rfl, .inl ⟨rfl, rfl⟩⟩, ?_⟩ | refine ⟨⟨_, rfl, .inl ⟨slEq rfl tN, rfl⟩⟩, ?_⟩ | refine ⟨⟨_, rfl, .inl ⟨ivEq tX, rfl⟩⟩, ?_⟩)) (by exact ⟨ent_same rfl rfl rfl tL, ⟨ent_tkG rfl rfl (by decide) (congrArg (fun x => some (Ob.refs 1 ((ownL 1 irs).set a [PV.sl 2 1 0 x]))) (by simp)), ⟨ent_same rfl rfl rfl tL, trivial⟩⟩⟩) (fun _ h => by simp at h) ?_
                  have hs1 := set_get (ownL 1 irs) a [.sl 2 1 0 i] (by rw [ownL_len, hll]; omega)
                  refine nK2 ?_
                  refine s_reg rfl ?_
                  refine Run.pure (dd := some 84) rfl rfl (op_move rfl (Opd.tmp _ _ rfl)) ?_
                  refine Run.pure (dd := some 85) rfl rfl (op_move rfl (Opd.tmp _ _ rfl)) ?_
                  refine Run.pure (dd := some 86) rfl rfl (op_idx_sl0 a rfl (Opd.tmp _ _ rfl) (Opd.tmp _ _ rfl) (by intro _; exact ⟨rfl, hla⟩)) ?_
                  refine Run.load (dd := some 87) rfl rfl (op_load1_refs rfl (Opd.tmp _ _ rfl) (by intro _; exact ⟨rfl, hs1⟩) rfl) ?_
                  refine Run.pure (dd := some 88) rfl rfl (op_move rfl (Opd.tmp _ _ rfl)) ?_
                  refine Run.pure (dd := some 89) rfl rfl (op_idx_sl0 m rfl (Opd.tmp _ _ rfl) (Opd.tmp _ _ rfl) (by intro _; exact ⟨rfl, hlm⟩)) ?_
                  refine Run.load (dd := some 90) rfl rfl (op_load1_flat rfl (Opd.tmp _ _ rfl) (by intro _; exact ⟨rfl, hrm⟩) rfl) ?_
                  refine Run.pure (dd := some 91) rfl rfl (op_lss rfl (Opd.tmp _ _ rfl) (Opd.const _)) ?_
                  refine Run.nil (FinR.mk ?_)
                  refine nK2 ?_
                  refine n_cond _ rfl (fun hb => ?_) (fun hb => ?_)
                  · have hneg : D a m < 0 := by simpa using hb
                    rw [fwP_skip hneg] at hK6
                    refine nK2 ?_
                    refine s_reg rfl ?_
                    refine Run.pure (dd := some 82) rfl rfl (op_move rfl (Opd.tmp _ _ rfl)) ?_
                    refine Run.pure (dd := some 83) rfl rfl (op_add rfl (Opd.tmp _ _ rfl) (Opd.const _) tI) ?_
                    refine Run.pure (dd := some 9) rfl rfl (op_assign rfl (Opd.tmp _ _ rfl)) ?_
                    refine Run.nil (FinR.mk ?_)
                    refine nK2 ?_
                    refine Next.untake 1 a 0 rfl (set_get _ _ _ (by rw [ownL_len, hll]; omega)) rfl rfl (by simp) rfl ?_
                    refine Next.weak [0, 1] [] (by rfl) (keepsN hC _ rfl) (by repeat (first | exact trivial | refine ⟨⟨_, rfl, .inl ⟨rfl, rfl⟩⟩, ?_⟩ | refine ⟨⟨_, rfl, .inl ⟨slEq rfl tN, rfl⟩⟩, ?_⟩ | refine ⟨⟨_, rfl, .inl ⟨ivEq tX, rfl⟩⟩, ?_⟩)) (by exact ⟨ent_same rfl rfl rfl tL, ⟨ent_own rfl rfl (congrArg (fun r => some (Ob.refs 1 r)) ((List.set_set ..).trans (ownL_set ..))), trivial⟩⟩) (fun _ h => by simp at h) hK6
                  · have hpos : 0 ≤ D a m := by simpa using hb
                    by_cases ham : a = m
                    · subst ham
                      rw [show fwP a D a = D a from funext fun k => fwP_row h00] at hK6
                      refine nK2 ?_
                      refine s_reg rfl ?_
                      refine Run.pure (dd := some 10) rfl rfl (op_assign rfl (Opd.const _)) ?_
                      refine Run.nil (FinR.mk ?_)
                      refine nK2 ?_
                      refine n_loop (ι := Nat) (fun k => ([(1, .ptr 0 3 0 0), (3, IV .i64 i), (4, .sl 1 1 0 i), (8, IV .i64 a), (9, IV .i64 a), (10, IV .i64 k)], [(0, OG g), (1, some (.refs 1 (tkL irs a i))), (2, OI (rowF i (D a)))], 3)) (fun k => k ≤ i) (fun k => i - k) 0 (Nat.zero_le _) ?_ ?_
                      · refine Next.weak [0, 1, 2] [] (by rfl) (keepsN hC _ rfl) (by repeat (first | exact trivial | refine ⟨⟨_, rfl, .inl ⟨rfl, rfl⟩⟩, ?_⟩ | refine ⟨⟨_, rfl, .inl ⟨slEq rfl tN, rfl⟩⟩, ?_⟩ | refine ⟨⟨_, rfl, .inl ⟨ivEq tX, rfl⟩⟩, ?_⟩)) (by exact ⟨ent_same rfl rfl rfl tL, ⟨ent_tk rfl rfl rfl (by decide) rfl, ⟨ent_same rfl rfl rfl tL, trivial⟩⟩⟩) (fun _ h => by simp at h) rel_intro
                      · intro k hk K5 hK7
                        try dsimp only at hk hK7 ⊢
                        refine nK2 ?_
                        refine s_reg rfl ?_
                        refine Run.pure (dd := some 92) rfl rfl (op_move rfl (Opd.tmp _ _ rfl)) ?_
                        refine Run.pure (dd := some 93) rfl rfl (op_move rfl (Opd.tmp _ _ rfl)) ?_
                        refine Run.pure (dd := some 94) rfl rfl (op_lss rfl (Opd.tmp _ _ rfl) (Opd.tmp _ _ rfl)) ?_
                        refine Run.nil (FinR.mk ?_)
                        refine nK2 ?_
                        refine n_cond _ rfl (fun hb => ?_) (fun hb => ?_)
                        · have hlk : k < i := by simpa using hb
                          have hrk := row_of encN (rowF i (D a)) k 0 (by rw [rowF_len]; omega)
                          rw [show (rowF i (D a)).getD k 0 = D a k from rowF_get _ _ hlk] at hrk
                          have hb1 := hbd a k hla hlk
                          have hb2 := hbd a a hla hla
                          refine nK2 ?_
                          refine s_draw mixed ?_
                          refine Run.pure (dd := some 97) rfl rfl (op_move rfl (Opd.tmp _ _ rfl)) ?_
                          refine Run.pure (dd := some 98) rfl rfl (op_move rfl (Opd.tmp _ _ rfl)) ?_
                          refine Run.pure (dd := some 99) rfl rfl (op_idx_sl0 a rfl (Opd.tmp _ _ rfl) (Opd.tmp _ _ rfl) (by intro _; exact ⟨rfl, hla⟩)) ?_
                          refine Run.load (dd := some 100) rfl rfl (op_load1_refs rfl (Opd.tmp _ _ rfl) (by intro _; exact ⟨rfl, hs1⟩) rfl) ?_
                          refine Run.pure (dd := some 101) rfl rfl (op_move rfl (Opd.tmp _ _ rfl)) ?_
                          refine Run.pure (dd := some 102) rfl rfl (op_idx_sl0 k rfl (Opd.tmp _ _ rfl) (Opd.tmp _ _ rfl) (by intro _; exact ⟨rfl, hlk⟩)) ?_
                          refine Run.load (dd := some 103) rfl rfl (op_load1_flat rfl (Opd.tmp _ _ rfl) (by intro _; exact ⟨rfl, hrk⟩) rfl) ?_
                          refine Run.pure (dd := some 104) rfl rfl (op_geq rfl (Opd.tmp _ _ rfl) (Opd.const _)) ?_
                          refine Run.pure (dd := some 105) rfl rfl (op_move rfl (Opd.tmp _ _ rfl)) ?_
                          refine Run.pureG (dd := some 106) rfl rfl rfl tG (op_move rfl (Opd.tmp _ _ rfl)) ?_
                          refine Run.pureG (dd := some 107) rfl rfl rfl tG (op_move rfl (Opd.tmp _ _ rfl)) ?_
                          refine Run.pureG (dd := some 108) rfl rfl rfl tG (op_idx_sl0 a rfl (Opd.topt _ _ _ rfl tO) (Opd.topt _ _ _ rfl tO) (by intro _; exact ⟨rfl, hla⟩)) ?_
                          refine Run.loadG (dd := some 109) rfl rfl rfl tG (op_load1_refs rfl (Opd.topt _ _ _ rfl tO) (by intro _; exact ⟨rfl, hs1⟩) rfl) ?_
                          refine Run.pureG (dd := some 110) rfl rfl rfl tG (op_move rfl (Opd.tmp _ _ rfl)) ?_
                          refine Run.pureG (dd := some 111) rfl rfl rfl tG (op_idx_sl0 k rfl (Opd.topt _ _ _ rfl tO) (Opd.topt _ _ _ rfl tO) (by intro _; exact ⟨rfl, hlk⟩)) ?_
                          refine Run.loadG (dd := some 112) rfl rfl rfl tG (op_load1_flat rfl (Opd.topt _ _ _ rfl tO) (by intro _; exact ⟨rfl, hrk⟩) rfl) ?_
                          refine Run.pureG (dd := some 113) rfl rfl rfl tG (op_lss rfl (Opd.topt _ _ _ rfl tO) (Opd.const _)) ?_
                          refine Run.pureG (dd := some 114) rfl rfl rfl tG (op_move rfl (Opd.topt _ _ _ rfl tO)) ?_
                          refine Run.pureG (dd := some 115) rfl rfl rfl tG (op_move rfl (Opd.tmp _ _ rfl)) ?_
                          refine Run.pureG (dd := some 116) rfl rfl rfl tG (op_move rfl (Opd.tmp _ _ rfl)) ?_
                          refine Run.pureG (dd := some 117) rfl rfl rfl tG (op_idx_sl0 a rfl (Opd.topt _ _ _ rfl tO) (Opd.topt _ _ _ rfl tO) (by intro _; exact ⟨rfl, hla⟩)) ?_
                          refine Run.loadG (dd := some 118) rfl rfl rfl tG (op_load1_refs rfl (Opd.topt _ _ _ rfl tO) (by intro _; exact ⟨rfl, hs1⟩) rfl) ?_
                          refine Run.pureG (dd := some 119) rfl rfl rfl tG (op_move rfl (Opd.tmp _ _ rfl)) ?_
                          refine Run.pureG (dd := some 120) rfl rfl rfl tG (op_idx_sl0 a rfl (Opd.topt _ _ _ rfl tO) (Opd.topt _ _ _ rfl tO) (by intro _; exact ⟨rfl, hla⟩)) ?_
                          refine Run.loadG (dd := some 121) rfl rfl rfl tG (op_load1_flat rfl (Opd.topt _ _ _ rfl tO) (by intro _; exact ⟨rfl, hrm⟩) rfl) ?_
                          refine Run.pureG (dd := some 122) rfl rfl rfl tG (op_move rfl (Opd.tmp _ _ rfl)) ?_
                          refine Run.pureG (dd := some 123) rfl rfl rfl tG (op_move rfl (Opd.tmp _ _ rfl)) ?_
                          refine Run.pureG (dd := some 124) rfl rfl rfl tG (op_idx_sl0 a rfl (Opd.topt _ _ _ rfl tO) (Opd.topt _ _ _ rfl tO) (by intro _; exact ⟨rfl, hla⟩)) ?_
                          refine Run.loadG (dd := some 125) rfl rfl rfl tG (op_load1_refs rfl (Opd.topt _ _ _ rfl tO) (by intro _; exact ⟨rfl, hs1⟩) rfl) ?_
                          refine Run.pureG (dd := some 126) rfl rfl rfl tG (op_move rfl (Opd.tmp _ _ rfl)) ?_
                          refine Run.pureG (dd := some 127) rfl rfl rfl tG (op_idx_sl0 k rfl (Opd.topt _ _ _ rfl tO) (Opd.topt _ _ _ rfl tO) (by intro _; exact ⟨rfl, hlk⟩)) ?_
                          refine Run.loadG (dd := some 128) rfl rfl rfl tG (op_load1_flat rfl (Opd.topt _ _ _ rfl tO) (by intro _; exact ⟨rfl, hrk⟩) rfl) ?_
                          refine Run.pureG (dd := some 129) rfl rfl rfl tG (op_add rfl (Opd.topt _ _ _ rfl tO) (Opd.topt _ _ _ rfl tO) tI) ?_
                          refine Run.pureG (dd := some 130) rfl rfl rfl tG (op_move rfl (Opd.tmp _ _ rfl)) ?_
                          refine Run.pureG (dd := some 131) rfl rfl rfl tG (op_move rfl (Opd.tmp _ _ rfl)) ?_
                          refine Run.pureG (dd := some 132) rfl rfl rfl tG (op_idx_sl0 a rfl (Opd.topt _ _ _ rfl tO) (Opd.topt _ _ _ rfl tO) (by intro _; exact ⟨rfl, hla⟩)) ?_
                          refine Run.loadG (dd := some 133) rfl rfl rfl tG (op_load1_refs rfl (Opd.topt _ _ _ rfl tO) (by intro _; exact ⟨rfl, hs1⟩) rfl) ?_
                          refine Run.pureG (dd := some 134) rfl rfl rfl tG (op_move rfl (Opd.tmp _ _ rfl)) ?_
                          refine Run.pureG (dd := some 135) rfl rfl rfl tG (op_idx_sl0 k rfl (Opd.topt _ _ _ rfl tO) (Opd.topt _ _ _ rfl tO) (by intro _; exact ⟨rfl, hlk⟩)) ?_
                          refine Run.loadG (dd := some 136) rfl rfl rfl tG (op_load1_flat rfl (Opd.topt _ _ _ rfl tO) (by intro _; exact ⟨rfl, hrk⟩) rfl) ?_
                          refine Run.pureG (dd := some 137) rfl rfl rfl tG (op_lss rfl (Opd.topt _ _ _ rfl tO) (Opd.topt _ _ _ rfl tO)) ?_
                          refine Run.pureG (dd := some 138) rfl rfl rfl tG (op_pick_or rfl (Opd.topt _ _ _ rfl tO) (Opd.topt _ _ _ rfl tO)) ?_
                          refine Run.pure (dd := some 139) rfl rfl (op_pick_and rfl (Opd.tmp _ _ rfl) (Opd.topt _ _ _ rfl tO)) ?_
                          refine Run.nil (FinD.mk (by kernel_rfl) ?_)
                          refine nK2 ?_
                          refine n_cond _ rfl (fun hb => ?_) (fun hb => ?_)
                          · exfalso
                            rw [h00] at hb
                            simp at hb; omega
                          · refine nK2 ?_
                            refine s_reg rfl ?_
                            refine Run.pure (dd := some 95) rfl rfl (op_move rfl (Opd.tmp _ _ rfl)) ?_
                            refine Run.pure (dd := some 96) rfl rfl (op_add rfl (Opd.tmp _ _ rfl) (Opd.const _) tI) ?_
                            refine Run.pure (dd := some 10) rfl rfl (op_assign rfl (Opd.tmp _ _ rfl)) ?_
                            refine Run.nil (FinR.mk ?_)
                            refine nK2 ?_
                            refine Next.weak [0, 1, 2] [] (by rfl) (keepsN hC _ rfl) (by repeat (first | exact trivial | refine ⟨⟨_, rfl, .inl ⟨rfl, rfl⟩⟩, ?_⟩ | refine ⟨⟨_, rfl, .inl ⟨slEq rfl tN, rfl⟩⟩, ?_⟩ | refine ⟨⟨_, rfl, .inl ⟨ivEq tX, rfl⟩⟩, ?_⟩)) (by exact ⟨ent_same rfl rfl rfl tL, ⟨ent_tk rfl rfl rfl (by decide) rfl, ⟨ent_same rfl rfl rfl tL, trivial⟩⟩⟩) (fun _ h => by simp at h) (hK7 (k + 1) (by omega) (by omega))
                        · have hke : k = i := by simp at hb; omega
                          subst hke
                          refine nK2 ?_
                          refine s_reg rfl ?_
                          refine Run.pure (dd := some 82) rfl rfl (op_move rfl (Opd.tmp _ _ rfl)) ?_
                          refine Run.pure (dd := some 83) rfl rfl (op_add rfl (Opd.tmp _ _ rfl) (Opd.const _) tI) ?_
                          refine Run.pure (dd := some 9) rfl rfl (op_assign rfl (Opd.tmp _ _ rfl)) ?_
                          refine Run.nil (FinR.mk ?_)
                          refine nK2 ?_
                          refine Next.untake 1 a 0 rfl (set_get _ _ _ (by rw [ownL_len, hll]; omega)) rfl rfl (by simp) rfl ?_
                          refine Next.weak [0, 1] [] (by rfl) (keepsN hC _ rfl) (by repeat (first | exact trivial | refine ⟨⟨_, rfl, .inl ⟨rfl, rfl⟩⟩, ?_⟩ | refine ⟨⟨_, rfl, .inl ⟨slEq rfl tN, rfl⟩⟩, ?_⟩ | refine ⟨⟨_, rfl, .inl ⟨ivEq tX, rfl⟩⟩, ?_⟩)) (by exact ⟨ent_same rfl rfl rfl tL, ⟨ent_own rfl rfl (congrArg (fun r => some (Ob.refs 1 r)) ((List.set_set ..).trans (ownL_set ..))), trivial⟩⟩) (fun _ h => by simp at h) hK6
                    · refine Next.take 1 m 0 rfl (tk_get ham hrM) rfl rfl ?_
                      refine Next.weak [0, 1, 2, 3] [] (by rfl) (keepsN hC _ rfl) (G' := [(1, .ptr 0 3 0 0), (3, IV .i64 i), (4, .sl 1 1 0 i), (8, IV .i64 m), (9, IV .i64 a)]) (H' := [(0, OG g), (1, some (.refs 1 (tk2 irs a m i i))), (2, OI (rowF i (D a))), (3, OI (rowF i (D m)))]) (by repeat (first | exact trivial | refine ⟨⟨_, rfl, .inl ⟨rfl, rfl⟩⟩, ?_⟩ | refine ⟨⟨_, rfl, .inl ⟨slEq rfl tN, rfl⟩⟩, ?_⟩ | refine ⟨⟨_, rfl, .inl ⟨ivEq tX, rfl⟩⟩, ?_⟩)) (by exact ⟨ent_same rfl rfl rfl tL, ⟨ent_tk2 rfl rfl (by decide) rfl rfl (congrArg (fun x => some (Ob.refs 1 ((tkL irs a i).set m [PV.sl 3 1 0 x]))) (by simp)), ⟨ent_same rfl rfl rfl tL, ⟨ent_same rfl rfl rfl tL, trivial⟩⟩⟩⟩) (fun _ h => by simp at h) ?_
                      have hsm := set_get (tkL irs a i) m [.sl 3 1 0 i] (by rw [tk_len, hll]; omega)
                      have hsa : (tk2 irs a m i i)[a]? = some [PV.sl 2 1 0 i] := by
                        unfold tk2
                        rw [List.getElem?_set_ne (fun e => ham e.symm)]; exact hs1
                      refine nK2 ?_
                      refine s_reg rfl ?_
                      refine Run.pure (dd := some 10) rfl rfl (op_assign rfl (Opd.const _)) ?_
                      refine Run.nil (FinR.mk ?_)
                      refine nK2 ?_
                      rw [← rowK_0 i m D a]
                      refine n_loop (ι := Nat) (fun k => ([(1, .ptr 0 3 0 0), (3, IV .i64 i), (4, .sl 1 1 0 i), (8, IV .i64 m), (9, IV .i64 a), (10, IV .i64 k)], [(0, OG g), (1, some (.refs 1 (tk2 irs a m i i))), (2, OI (rowK i m D a k)), (3, OI (rowF i (D m)))], 4)) (fun k => k ≤ i) (fun k => i - k) 0 (Nat.zero_le _) ?_ ?_
                      · refine Next.weak [0, 1, 2, 3] [] (by rfl) (keepsN hC _ rfl) (by repeat (first | exact trivial | refine ⟨⟨_, rfl, .inl ⟨rfl, rfl⟩⟩, ?_⟩ | refine ⟨⟨_, rfl, .inl ⟨slEq rfl tN, rfl⟩⟩, ?_⟩ | refine ⟨⟨_, rfl, .inl ⟨ivEq tX, rfl⟩⟩, ?_⟩)) (by exact ⟨ent_same rfl rfl rfl tL, ⟨ent_tk2 rfl rfl (by decide) rfl rfl rfl, ⟨ent_same rfl rfl rfl tL, ⟨ent_same rfl rfl rfl tL, trivial⟩⟩⟩⟩) (fun _ h => by simp at h) rel_intro
                      · intro k hk K5 hK7
                        try dsimp only at hk hK7 ⊢
                        refine nK2 ?_
                        refine s_reg rfl ?_
                        refine Run.pure (dd := some 92) rfl rfl (op_move rfl (Opd.tmp _ _ rfl)) ?_
                        refine Run.pure (dd := some 93) rfl rfl (op_move rfl (Opd.tmp _ _ rfl)) ?_
                        refine Run.pure (dd := some 94) rfl rfl (op_lss rfl (Opd.tmp _ _ rfl) (Opd.tmp _ _ rfl)) ?_
                        refine Run.nil (FinR.mk ?_)
                        refine nK2 ?_
                        refine n_cond _ rfl (fun hb => ?_) (fun hb => ?_)
                        · have hlk : k < i := by simpa using hb
                          have hrk := row_of encN (rowF i (D m)) k 0 (by rw [rowF_len]; omega)
                          rw [show (rowF i (D m)).getD k 0 = D m k from rowF_get _ _ hlk] at hrk
                          have hK8 := hK7 (k + 1) (by omega) (by omega)
                          have hset := fun v h => rowK_set (n := i) (m := m) (i := a) (k := k) (D := D) (v := v) h
                          have hsame := fun h => rowK_same (n := i) (m := m) (i := a) (k := k) (D := D) h
                          have hrl := rowK_len i m D a k
                          have hxk := rowK_at (n := i) (m := m) (i := a) (k := k) (D := D) hlk
                          have hxm := rowK_m (n := i) (m := m) (i := a) (k := k) (D := D) hlm h00
                          generalize rowK i m D a k = row at *
                          have hrak := row_of encN row k 0 (by omega)
                          rw [show row.getD k 0 = D a k from hxk] at hrak
                          have hram := row_of encN row m 0 (by omega)
                          rw [show row.getD m 0 = D a m from hxm] at hram
                          have hb1 := hbd a k hla hlk
                          have hb2 := hbd a m hla hlm
                          have hb3 := hbd m k hlm hlk
                          refine nK2 ?_
                          refine s_draw mixed ?_
                          refine Run.pure (dd := some 97) rfl rfl (op_move rfl (Opd.tmp _ _ rfl)) ?_
                          refine Run.pure (dd := some 98) rfl rfl (op_move rfl (Opd.tmp _ _ rfl)) ?_
                          refine Run.pure (dd := some 99) rfl rfl (op_idx_sl0 m rfl (Opd.tmp _ _ rfl) (Opd.tmp _ _ rfl) (by intro _; exact ⟨rfl, hlm⟩)) ?_
                          refine Run.load (dd := some 100) rfl rfl (op_load1_refs rfl (Opd.tmp _ _ rfl) (by intro _; exact ⟨rfl, hsm⟩) rfl) ?_
                          refine Run.pure (dd := some 101) rfl rfl (op_move rfl (Opd.tmp _ _ rfl)) ?_
                          refine Run.pure (dd := some 102) rfl rfl (op_idx_sl0 k rfl (Opd.tmp _ _ rfl) (Opd.tmp _ _ rfl) (by intro _; exact ⟨rfl, hlk⟩)) ?_
                          refine Run.load (dd := some 103) rfl rfl (op_load1_flat rfl (Opd.tmp _ _ rfl) (by intro _; exact ⟨rfl, hrk⟩) rfl) ?_
                          refine Run.pure (dd := some 104) rfl rfl (op_geq rfl (Opd.tmp _ _ rfl) (Opd.const _)) ?_
                          refine Run.pure (dd := some 105) rfl rfl (op_move rfl (Opd.tmp _ _ rfl)) ?_
                          refine Run.pureG (dd := some 106) rfl rfl rfl tG (op_move rfl (Opd.tmp _ _ rfl)) ?_
                          refine Run.pureG (dd := some 107) rfl rfl rfl tG (op_move rfl (Opd.tmp _ _ rfl)) ?_
                          refine Run.pureG (dd := some 108) rfl rfl rfl tG (op_idx_sl0 a rfl (Opd.topt _ _ _ rfl tO) (Opd.topt _ _ _ rfl tO) (by intro _; exact ⟨rfl, hla⟩)) ?_
                          refine Run.loadG (dd := some 109) rfl rfl rfl tG (op_load1_refs rfl (Opd.topt _ _ _ rfl tO) (by intro _; exact ⟨rfl, hsa⟩) rfl) ?_
                          refine Run.pureG (dd := some 110) rfl rfl rfl tG (op_move rfl (Opd.tmp _ _ rfl)) ?_
                          refine Run.pureG (dd := some 111) rfl rfl rfl tG (op_idx_sl0 k rfl (Opd.topt _ _ _ rfl tO) (Opd.topt _ _ _ rfl tO) (by intro _; exact ⟨rfl, hlk⟩)) ?_
                          refine Run.loadG (dd := some 112) rfl rfl rfl tG (op_load1_flat rfl (Opd.topt _ _ _ rfl tO) (by intro _; exact ⟨rfl, hrak⟩) rfl) ?_
                          refine Run.pureG (dd := some 113) rfl rfl rfl tG (op_lss rfl (Opd.topt _ _ _ rfl tO) (Opd.const _)) ?_
                          refine Run.pureG (dd := some 114) rfl rfl rfl tG (op_move rfl (Opd.topt _ _ _ rfl tO)) ?_
                          refine Run.pureG (dd := some 115) rfl rfl rfl tG (op_move rfl (Opd.tmp _ _ rfl)) ?_
                          refine Run.pureG (dd := some 116) rfl rfl rfl tG (op_move rfl (Opd.tmp _ _ rfl)) ?_
                          refine Run.pureG (dd := some 117) rfl rfl rfl tG (op_idx_sl0 a rfl (Opd.topt _ _ _ rfl tO) (Opd.topt _ _ _ rfl tO) (by intro _; exact ⟨rfl, hla⟩)) ?_
                          refine Run.loadG (dd := some 118) rfl rfl rfl tG (op_load1_refs rfl (Opd.topt _ _ _ rfl tO) (by intro _; exact ⟨rfl, hsa⟩) rfl) ?_
                          refine Run.pureG (dd := some 119) rfl rfl rfl tG (op_move rfl (Opd.tmp _ _ rfl)) ?_
                          refine Run.pureG (dd := some 120) rfl rfl rfl tG (op_idx_sl0 m rfl (Opd.topt _ _ _ rfl tO) (Opd.topt _ _ _ rfl tO) (by intro _; exact ⟨rfl, hlm⟩)) ?_
                          refine Run.loadG (dd := some 121) rfl rfl rfl tG (op_load1_flat rfl (Opd.topt _ _ _ rfl tO) (by intro _; exact ⟨rfl, hram⟩) rfl) ?_
                          refine Run.pureG (dd := some 122) rfl rfl rfl tG (op_move rfl (Opd.tmp _ _ rfl)) ?_
                          refine Run.pureG (dd := some 123) rfl rfl rfl tG (op_move rfl (Opd.tmp _ _ rfl)) ?_
                          refine Run.pureG (dd := some 124) rfl rfl rfl tG (op_idx_sl0 m rfl (Opd.topt _ _ _ rfl tO) (Opd.topt _ _ _ rfl tO) (by intro _; exact ⟨rfl, hlm⟩)) ?_
                          refine Run.loadG (dd := some 125) rfl rfl rfl tG (op_load1_refs rfl (Opd.topt _ _ _ rfl tO) (by intro _; exact ⟨rfl, hsm⟩) rfl) ?_
                          refine Run.pureG (dd := some 126) rfl rfl rfl tG (op_move rfl (Opd.tmp _ _ rfl)) ?_
                          refine Run.pureG (dd := some 127) rfl rfl rfl tG (op_idx_sl0 k rfl (Opd.topt _ _ _ rfl tO) (Opd.topt _ _ _ rfl tO) (by intro _; exact ⟨rfl, hlk⟩)) ?_
                          refine Run.loadG (dd := some 128) rfl rfl rfl tG (op_load1_flat rfl (Opd.topt _ _ _ rfl tO) (by intro _; exact ⟨rfl, hrk⟩) rfl) ?_
                          refine Run.pureG (dd := some 129) rfl rfl rfl tG (op_add rfl (Opd.topt _ _ _ rfl tO) (Opd.topt _ _ _ rfl tO) tI) ?_
                          refine Run.pureG (dd := some 130) rfl rfl rfl tG (op_move rfl (Opd.tmp _ _ rfl)) ?_
                          refine Run.pureG (dd := some 131) rfl rfl rfl tG (op_move rfl (Opd.tmp _ _ rfl)) ?_
                          refine Run.pureG (dd := some 132) rfl rfl rfl tG (op_idx_sl0 a rfl (Opd.topt _ _ _ rfl tO) (Opd.topt _ _ _ rfl tO) (by intro _; exact ⟨rfl, hla⟩)) ?_
                          refine Run.loadG (dd := some 133) rfl rfl rfl tG (op_load1_refs rfl (Opd.topt _ _ _ rfl tO) (by intro _; exact ⟨rfl, hsa⟩) rfl) ?_
                          refine Run.pureG (dd := some 134) rfl rfl rfl tG (op_move rfl (Opd.tmp _ _ rfl)) ?_
                          refine Run.pureG (dd := some 135) rfl rfl rfl tG (op_idx_sl0 k rfl (Opd.topt _ _ _ rfl tO) (Opd.topt _ _ _ rfl tO) (by intro _; exact ⟨rfl, hlk⟩)) ?_
                          refine Run.loadG (dd := some 136) rfl rfl rfl tG (op_load1_flat rfl (Opd.topt _ _ _ rfl tO) (by intro _; exact ⟨rfl, hrak⟩) rfl) ?_
                          refine Run.pureG (dd := some 137) rfl rfl rfl tG (op_lss rfl (Opd.topt _ _ _ rfl tO) (Opd.topt _ _ _ rfl tO)) ?_
                          refine Run.pureG (dd := some 138) rfl rfl rfl tG (op_pick_or rfl (Opd.topt _ _ _ rfl tO) (Opd.topt _ _ _ rfl tO)) ?_
                          refine Run.pure (dd := some 139) rfl rfl (op_pick_and rfl (Opd.tmp _ _ rfl) (Opd.topt _ _ _ rfl tO)) ?_
                          refine Run.nil (FinD.mk (by kernel_rfl) ?_)
                          refine nK2 ?_
                          refine n_cond _ rfl (fun hb => ?_) (fun hb => ?_)
                          · have hc : 0 ≤ D m k ∧ (D a k < 0 ∨ D a m + D m k < D a k) := by simpa using hb
                            have hv : D a m + D m k = fwP m D a k := by unfold fwP; rw [if_pos ⟨hpos, hc⟩]
                            rw [← hset _ hv] at hK8
                            refine nK2 ?_
                            refine s_draw mixed ?_
                            refine Run.pure (dd := some 140) rfl rfl (op_move rfl (Opd.tmp _ _ rfl)) ?_
                            refine Run.pure (dd := some 141) rfl rfl (op_move rfl (Opd.tmp _ _ rfl)) ?_
                            refine Run.pure (dd := some 142) rfl rfl (op_idx_sl0 a rfl (Opd.tmp _ _ rfl) (Opd.tmp _ _ rfl) (by intro _; exact ⟨rfl, hla⟩)) ?_
                            refine Run.load (dd := some 143) rfl rfl (op_load1_refs rfl (Opd.tmp _ _ rfl) (by intro _; exact ⟨rfl, hsa⟩) rfl) ?_
                            refine Run.pure (dd := some 144) rfl rfl (op_move rfl (Opd.tmp _ _ rfl)) ?_
                            refine Run.pure (dd := some 145) rfl rfl (op_move rfl (Opd.tmp _ _ rfl)) ?_
                            refine Run.pure (dd := some 146) rfl rfl (op_move rfl (Opd.tmp _ _ rfl)) ?_
                            refine Run.pure (dd := some 147) rfl rfl (op_idx_sl0 a rfl (Opd.tmp _ _ rfl) (Opd.tmp _ _ rfl) (by intro _; exact ⟨rfl, hla⟩)) ?_
                            refine Run.load (dd := some 148) rfl rfl (op_load1_refs rfl (Opd.tmp _ _ rfl) (by intro _; exact ⟨rfl, hsa⟩) rfl) ?_
                            refine Run.pure (dd := some 149) rfl rfl (op_move rfl (Opd.tmp _ _ rfl)) ?_
                            refine Run.pure (dd := some 150) rfl rfl (op_idx_sl0 m rfl (Opd.tmp _ _ rfl) (Opd.tmp _ _ rfl) (by intro _; exact ⟨rfl, hlm⟩)) ?_
                            refine Run.load (dd := some 151) rfl rfl (op_load1_flat rfl (Opd.tmp _ _ rfl) (by intro _; exact ⟨rfl, hram⟩) rfl) ?_
                            refine Run.pure (dd := some 152) rfl rfl (op_move rfl (Opd.tmp _ _ rfl)) ?_
                            refine Run.pure (dd := some 153) rfl rfl (op_move rfl (Opd.tmp _ _ rfl)) ?_
                            refine Run.pure (dd := some 154) rfl rfl (op_idx_sl0 m rfl (Opd.tmp _ _ rfl) (Opd.tmp _ _ rfl) (by intro _; exact ⟨rfl, hlm⟩)) ?_
                            refine Run.load (dd := some 155) rfl rfl (op_load1_refs rfl (Opd.tmp _ _ rfl) (by intro _; exact ⟨rfl, hsm⟩) rfl) ?_
                            refine Run.pure (dd := some 156) rfl rfl (op_move rfl (Opd.tmp _ _ rfl)) ?_
                            refine Run.pure (dd := some 157) rfl rfl (op_idx_sl0 k rfl (Opd.tmp _ _ rfl) (Opd.tmp _ _ rfl) (by intro _; exact ⟨rfl, hlk⟩)) ?_
                            refine Run.load (dd := some 158) rfl rfl (op_load1_flat rfl (Opd.tmp _ _ rfl) (by intro _; exact ⟨rfl, hrk⟩) rfl) ?_
                            refine Run.pure (dd := some 159) rfl rfl (op_add rfl (Opd.tmp _ _ rfl) (Opd.tmp _ _ rfl) tI) ?_
                            refine Run.pure (dd := some 160) rfl rfl (op_idx_sl0 k rfl (Opd.tmp _ _ rfl) (Opd.tmp _ _ rfl) (by intro _; exact ⟨rfl, hlk⟩)) ?_
                            refine Run.effW (dd := none) rfl rfl (op_store_flat rfl (Opd.tmp _ _ rfl) (Opd.tmp _ _ rfl) tC rfl rfl hrak tS) (by first | exact ext_call | exact tE) ?_
                            refine Run.nil (FinD.mk (by kernel_rfl) ?_)
                            refine nK2 ?_
                            refine s_reg rfl ?_
                            refine Run.pure (dd := some 95) rfl rfl (op_move rfl (Opd.tmp _ _ rfl)) ?_
                            refine Run.pure (dd := some 96) rfl rfl (op_add rfl (Opd.tmp _ _ rfl) (Opd.const _) tI) ?_
                            refine Run.pure (dd := some 10) rfl rfl (op_assign rfl (Opd.tmp _ _ rfl)) ?_
                            refine Run.nil (FinR.mk ?_)
                            refine nK2 ?_
                            refine Next.weak [0, 1, 2, 3] [] (by rfl) (keepsN hC _ rfl) (by repeat (first | exact trivial | refine ⟨⟨_, rfl, .inl ⟨rfl, rfl⟩⟩, ?_⟩ | refine ⟨⟨_, rfl, .inl ⟨slEq rfl tN, rfl⟩⟩, ?_⟩ | refine ⟨⟨_, rfl, .inl ⟨ivEq tX, rfl⟩⟩, ?_⟩)) (by exact ⟨ent_same rfl rfl rfl tL, ⟨ent_tk2 rfl rfl (by decide) rfl rfl rfl, ⟨ent_same rfl rfl (flEq rfl (by rw [List.map_set]; rfl)) trivial, ⟨ent_same rfl rfl rfl tL, trivial⟩⟩⟩⟩) (fun _ h => by simp at h) hK8
                          · have hc : ¬ (0 ≤ D m k ∧ (D a k < 0 ∨ D a m + D m k < D a k)) := fun h => by rw [Bool.eq_false_iff] at hb; apply hb; simpa using h
                            have hv : fwP m D a k = D a k := by unfold fwP; rw [if_neg (fun h => hc h.2)]
                            rw [← hsame hv] at hK8
                            refine nK2 ?_
                            refine s_reg rfl ?_
                            refine Run.pure (dd := some 95) rfl rfl (op_move rfl (Opd.tmp _ _ rfl)) ?_
                            refine Run.pure (dd := some 96) rfl rfl (op_add rfl (Opd.tmp _ _ rfl) (Opd.const _) tI) ?_
                            refine Run.pure (dd := some 10) rfl rfl (op_assign rfl (Opd.tmp _ _ rfl)) ?_
                            refine Run.nil (FinR.mk ?_)
                            refine nK2 ?_
                            refine Next.weak [0, 1, 2, 3] [] (by rfl) (keepsN hC _ rfl) (by repeat (first | exact trivial | refine ⟨⟨_, rfl, .inl ⟨rfl, rfl⟩⟩, ?_⟩ | refine ⟨⟨_, rfl, .inl ⟨slEq rfl tN, rfl⟩⟩, ?_⟩ | refine ⟨⟨_, rfl, .inl ⟨ivEq tX, rfl⟩⟩, ?_⟩)) (by exact ⟨ent_same rfl rfl rfl tL, ⟨ent_tk2 rfl rfl (by decide) rfl rfl rfl, ⟨ent_same rfl rfl rfl tL, ⟨ent_same rfl rfl rfl tL, trivial⟩⟩⟩⟩) (fun _ h => by simp at h) hK8
                        · have hke : k = i := by simp at hb; omega
                          subst hke
                          rw [rowK_n]
                          refine nK2 ?_
                          refine s_reg rfl ?_
                          refine Run.pure (dd := some 82) rfl rfl (op_move rfl (Opd.tmp _ _ rfl)) ?_
                          refine Run.pure (dd := some 83) rfl rfl (op_add rfl (Opd.tmp _ _ rfl) (Opd.const _) tI) ?_
                          refine Run.pure (dd := some 9) rfl rfl (op_assign rfl (Opd.tmp _ _ rfl)) ?_
                          refine Run.nil (FinR.mk ?_)
                          refine nK2 ?_
                          refine Next.untake 1 m 0 rfl (set_get _ _ _ (by rw [tk_len, hll]; omega)) rfl rfl (by simp) (show _ = tkL irs a k from by
                            rw [show (tk2 irs a m k k).set m ([PV.sl 3 1 0 k].set 0 (.own 1 ((rowF k (D m)).map encN))) = (tkL irs a k).set m [PV.own 1 ((rowF k (D m)).map encN)] from List.set_set ..]
                            exact set_self (tk_get ham hrM)) ?_
                          refine Next.untake 1 a 0 rfl hs1 rfl rfl (by simp) rfl ?_
                          refine Next.weak [0, 1] [] (by rfl) (keepsN hC _ rfl) (by repeat (first | exact trivial | refine ⟨⟨_, rfl, .inl ⟨rfl, rfl⟩⟩, ?_⟩ | refine ⟨⟨_, rfl, .inl ⟨slEq rfl tN, rfl⟩⟩, ?_⟩ | refine ⟨⟨_, rfl, .inl ⟨ivEq tX, rfl⟩⟩, ?_⟩)) (by exact ⟨ent_same rfl rfl rfl tL, ⟨ent_own rfl rfl (congrArg (fun r => some (Ob.refs 1 r)) ((List.set_set ..).trans (ownL_set ..))), trivial⟩⟩) (fun _ h => by simp at h) hK6
                · have hae : a = i := by simp at hb; omega
                  subst hae
                  refine nK2 ?_
                  refine s_reg rfl ?_
                  refine Run.pure (dd := some 77) rfl rfl (op_move rfl (Opd.tmp _ _ rfl)) ?_
                  refine Run.pure (dd := some 78) rfl rfl (op_add rfl (Opd.tmp _ _ rfl) (Opd.const _) tI) ?_
                  refine Run.pure (dd := some 8) rfl rfl (op_assign rfl (Opd.tmp _ _ rfl)) ?_
                  refine Run.nil (FinR.mk ?_)
                  refine nK2 ?_
                  refine Next.weak [0, 1] [] (by rfl) (keepsN hC _ rfl) (by repeat (first | exact trivial | refine ⟨⟨_, rfl, .inl ⟨rfl, rfl⟩⟩, ?_⟩ | refine ⟨⟨_, rfl, .inl ⟨slEq rfl tN, rfl⟩⟩, ?_⟩ | refine ⟨⟨_, rfl, .inl ⟨ivEq tX, rfl⟩⟩, ?_⟩)) (by exact ⟨ent_same rfl rfl rfl tL, ⟨ent_own rfl rfl rfl, trivial⟩⟩) (fun _ h => by simp at h) hK4
            · have hme : m = i := by simp at hb; omega
              subst hme
              refine Next.freezeOwn 1 rfl rfl ?_
              refine nK2 ?_
              refine s_reg rfl ?_
              refine Run.pure (dd := some 161) rfl rfl (op_move rfl (Opd.tmp _ _ rfl)) ?_
              refine Run.pure (dd := some 2) rfl rfl (op_assign rfl (Opd.tmp _ _ rfl)) ?_
              refine Run.nil (FinR.mk ?_)
              refine nK2 ?_
              have hFl : (fzL 1 (rowsI (matF m (fwN g.es m)))).length = m := by rw [fzL_len, rowsI_len, matF_len]
              refine Next.weakS [] [2] (by rfl) (keeps0 hC _) (G' := [(2, .fz (VLL (matF m (fwN g.es m))))]) (H' := []) ⟨⟨_, rfl, .inr ⟨_, rfl, .sl _ _ _ _ _ _ rfl rfl ((take_all0 hFl).trans (fz_rowsI _)) (by rw [← fz_rowsI, hFl])⟩⟩, trivial⟩ trivial rfl ?_
              exact n_out1 rfl (by rfl) rfl rfl
end Go.Proofs.Ytgbfkpcigipniaa
