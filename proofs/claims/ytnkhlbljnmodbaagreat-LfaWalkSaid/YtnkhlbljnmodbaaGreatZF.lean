/- A part of the proof: Q30, Q31, Q32, Q34, Q27, Q42, Q43. -/
import Derived.Test.YtnkhlbljnmodbaaGreatZE
set_option linter.all false
namespace Go.Proofs.YtnkhlbljnmodbaaGreat
open Go Go.RT Go.Proofs Go.Pl
set_option linter.all false
set_option maxRecDepth 20000
set_option maxHeartbeats 4000000
theorem rdist_c (g : Gr) (hg : checkI g = 0) : Pure Tryz.prog 51 [.agg (encG g)] (VLL (matF g.m (disF g.es g.m))) := by
 obtain ⟨vg, hr0, hn0⟩ := checkI_vg hg
 have hn := vg.n128
 have hel := vg.e1024
 have hrn : g.r + g.n = (g.m : Int) := by unfold Gr.m; omega
 change VG g.es g.r.toNat g.m at vg
 change g.m ≤ 128 at hn
 unfold disF
 generalize g.m = n at *
 refine Meets.intro Tryz.func51 rfl (Nat.le_of_ble_eq_true rfl) fun C hC => ?_
 simp only [List.map, argEnv, Nat.reduceAdd]
 refine nK2 ?_
 refine s_reg rfl ?_
 refine Run.eff (dd := some 1) rfl rfl (op_box_flat rfl (oT rfl) tC rfl) ?_
 refine rp 2 rfl (op_assign rfl oC) ?_
 refine rn ?_
 refine nK2 ?_
 refine s_reg rfl ?_
 refine rp 11 rfl (op_fld_ptr (by decide) rfl (oT rfl)) ?_
 refine rl 12 rfl (op_load1_flat rfl (oT rfl) tH rfl) ?_
 refine rp 13 rfl (op_fld_ptr (by decide) rfl (oT rfl)) ?_
 refine rl 14 rfl (op_load1_flat rfl (oT rfl) tH rfl) ?_
 refine rp 15 rfl (op_add rfl (oT rfl) (oT rfl) tI) ?_
 refine ra 3 rfl rfl rfl ?_
 refine rn ?_
 refine nK2 ?_
 refine s_reg rfl ?_
 refine rm 16 rfl rfl rfl ?_
 refine Run.eff (dd := some 17) rfl rfl (op_make (l := n) (c := n) rfl (oT rfl) (oT rfl) rfl rfl rfl rfl (by intro _; refine ⟨hrn, hrn, ?_⟩; omega)) ?_
 refine ra 4 rfl rfl rfl ?_
 refine rn ?_
 refine nK2 ?_
 refine Next.toOwn 1 1 n rfl ?_
 refine Next.weak [0, 1] [] (by rfl) (keepsN hC _ rfl) (G' := [(1, .ptr 0 3 0 0), (3, IV .i64 n), (4, .sl 1 1 0 n)]) (H' := [(0, OG g), (1, some (.refs 1 (ownL 1 (rowsI (llA n 0)))))]) (by repeat (first | exact trivial | refine ⟨⟨_, rfl, .inl ⟨rfl, rfl⟩⟩, ?_⟩ | refine ⟨⟨_, rfl, .inl ⟨slEq rfl tN, rfl⟩⟩, ?_⟩ | refine ⟨⟨_, rfl, .inl ⟨ivEq tX, rfl⟩⟩, ?_⟩)) (by exact ⟨ent_same rfl rfl rfl tL, ⟨ent_own rfl rfl (by rw [llA_0, rowsI_nil, ← ownL_rep]; rfl), trivial⟩⟩) (fun _ h => by simp at h) ?_
 refine nK2 ?_
 refine s_reg rfl ?_
 refine rp 5 rfl (op_assign rfl oC) ?_
 refine rn ?_
 refine nK2 ?_
 refine n_loop (ι := Nat) (fun i => ([(1, .ptr 0 3 0 0), (3, IV .i64 n), (4, .sl 1 1 0 n), (5, IV .i64 i)], [(0, OG g), (1, some (.refs 1 (ownL 1 (rowsI (llA n i)))))], 2)) (fun i => i ≤ n) (fun i => n - i) 0 (Nat.zero_le _) ?_ ?_
 ·refine Next.weak [0, 1] [] (by rfl) (keepsN hC _ rfl) (by repeat (first | exact trivial | refine ⟨⟨_, rfl, .inl ⟨rfl, rfl⟩⟩, ?_⟩ | refine ⟨⟨_, rfl, .inl ⟨slEq rfl tN, rfl⟩⟩, ?_⟩ | refine ⟨⟨_, rfl, .inl ⟨ivEq tX, rfl⟩⟩, ?_⟩)) (by exact ⟨ent_same rfl rfl rfl tL, ⟨ent_own rfl rfl rfl, trivial⟩⟩) (fun _ h => by simp at h) rel_intro
 ·intro i hi K hK
  try dsimp only at hi hK ⊢
  refine nK2 ?_
  refine s_reg rfl ?_
  refine rm 18 rfl rfl rfl ?_
  refine rm 19 rfl rfl rfl ?_
  refine rp 20 rfl (op_lss rfl (oT rfl) (oT rfl)) ?_
  refine rn ?_
  refine nK2 ?_
  refine n_cond _ rfl (fun hb => ?_) (fun hb => ?_)
  ·have hlt : i < n := by simpa using hb
   have hrA := rowsI_get (ll := llA n i) (v := i) (by rw [llA_len]; exact hlt)
   rw [show (llA n i).getD i [] = [] from llA_at hlt] at hrA
   have hK1 := hK (i + 1) (by omega) (by omega)
   rw [← llA_set, ← rowsI_set] at hK1
   have hll : (rowsI (llA n i)).length = n := by rw [rowsI_len, llA_len]
   generalize rowsI (llA n i) = irs at *
   refine nK2 ?_
   refine Next.take 1 i 0 rfl (ownL_get hrA) rfl rfl ?_
   have hs1 := set_get (ownL 1 irs) i [.sl 2 1 0 0] (by rw [ownL_len, hll]; omega)
   refine nK2 ?_
   refine s_reg rfl ?_
   refine rm 23 rfl rfl rfl ?_
   refine rm 24 rfl rfl rfl ?_
   refine rm 25 rfl rfl rfl ?_
   refine Run.eff (dd := some 26) rfl rfl (op_make (l := n) (c := n) rfl (oT rfl) (oT rfl) rfl rfl rfl rfl (by intro _; refine ⟨rfl, rfl, ?_⟩; omega)) ?_
   refine rp 27 rfl (op_idx_sl0 i rfl (oT rfl) (oT rfl) (by intro _; exact ⟨rfl, hlt⟩)) ?_
   refine Run.eff (dd := none) rfl rfl (op_store_refs rfl (oT rfl) (oT rfl) tP rfl rfl hs1 tS) ?_
   refine rn ?_
   refine nK2 ?_
   refine Next.weak [0, 1, 3] [] (by rfl) (keepsN hC _ rfl) (G' := [(1, .ptr 0 3 0 0), (3, IV .i64 n), (4, .sl 1 1 0 n), (5, IV .i64 i)]) (H' := [(0, OG g), (1, some (.refs 1 (tkL irs i n))), (2, OI (fillN n 0))]) (by repeat (first | exact trivial | refine ⟨⟨_, rfl, .inl ⟨rfl, rfl⟩⟩, ?_⟩ | refine ⟨⟨_, rfl, .inl ⟨slEq rfl tN, rfl⟩⟩, ?_⟩ | refine ⟨⟨_, rfl, .inl ⟨ivEq tX, rfl⟩⟩, ?_⟩)) (by exact ⟨ent_same rfl rfl rfl tL, ⟨ent_tkG rfl rfl (by decide) (congrArg (fun r => some (Ob.refs 1 r)) (List.set_set ..)), ⟨ent_same rfl rfl (flEq rfl (by rw [fillN_0, List.map_replicate]; rfl)) trivial, trivial⟩⟩⟩) (fun _ h => by simp at h) ?_
   have hs2 := set_get (ownL 1 irs) i [.sl 2 1 0 n] (by rw [ownL_len, hll]; omega)
   refine nK2 ?_
   refine s_reg rfl ?_
   refine rp 6 rfl (op_assign rfl oC) ?_
   refine rn ?_
   refine nK2 ?_
   refine n_loop (ι := Nat) (fun k => ([(1, .ptr 0 3 0 0), (3, IV .i64 n), (4, .sl 1 1 0 n), (5, IV .i64 i), (6, IV .i64 k)], [(0, OG g), (1, some (.refs 1 (tkL irs i n))), (2, OI (fillN n k))], 3)) (fun k => k ≤ n) (fun k => n - k) 0 (Nat.zero_le _) ?_ ?_
   ·refine Next.weak [0, 1, 2] [] (by rfl) (keepsN hC _ rfl) (by repeat (first | exact trivial | refine ⟨⟨_, rfl, .inl ⟨rfl, rfl⟩⟩, ?_⟩ | refine ⟨⟨_, rfl, .inl ⟨slEq rfl tN, rfl⟩⟩, ?_⟩ | refine ⟨⟨_, rfl, .inl ⟨ivEq tX, rfl⟩⟩, ?_⟩)) (by exact ⟨ent_same rfl rfl rfl tL, ⟨ent_tk rfl rfl rfl (by decide) rfl, ⟨ent_same rfl rfl rfl tL, trivial⟩⟩⟩) (fun _ h => by simp at h) rel_intro
   ·intro k hk K2 hK2
    try dsimp only at hk hK2 ⊢
    refine nK2 ?_
    refine s_reg rfl ?_
    refine rm 28 rfl rfl rfl ?_
    refine rm 29 rfl rfl rfl ?_
    refine rp 30 rfl (op_lss rfl (oT rfl) (oT rfl)) ?_
    refine rn ?_
    refine nK2 ?_
    refine n_cond _ rfl (fun hb => ?_) (fun hb => ?_)
    ·have hlk : k < n := by simpa using hb
     have hrow := row_of encN (fillN n k) k 0 (by rw [fillN_len _ _ hk]; exact hlk)
     refine nK2 ?_
     refine s_reg rfl ?_
     refine rm 33 rfl rfl rfl ?_
     refine rm 34 rfl rfl rfl ?_
     refine rp 35 rfl (op_idx_sl0 i rfl (oT rfl) (oT rfl) (by intro _; exact ⟨rfl, hlt⟩)) ?_
     refine rl 36 rfl (op_load1_refs rfl (oT rfl) (by intro _; exact ⟨rfl, hs2⟩) rfl) ?_
     refine rm 37 rfl rfl rfl ?_
     refine rp 38 rfl (op_idx_sl0 k rfl (oT rfl) (oT rfl) (by intro _; exact ⟨rfl, hlk⟩)) ?_
     refine Run.eff (dd := none) rfl rfl (op_store_flat rfl (oT rfl) oC tC rfl rfl hrow tS) ?_
     refine rn ?_
     refine nK2 ?_
     refine s_reg rfl ?_
     refine rm 31 rfl rfl rfl ?_
     refine rp 32 rfl (op_add rfl (oT rfl) oC tI) ?_
     refine ra 6 rfl rfl rfl ?_
     refine rn ?_
     refine nK2 ?_
     refine Next.weak [0, 1, 2] [] (by rfl) (keepsN hC _ rfl) (by repeat (first | exact trivial | refine ⟨⟨_, rfl, .inl ⟨rfl, rfl⟩⟩, ?_⟩ | refine ⟨⟨_, rfl, .inl ⟨slEq rfl tN, rfl⟩⟩, ?_⟩ | refine ⟨⟨_, rfl, .inl ⟨ivEq tX, rfl⟩⟩, ?_⟩)) (by exact ⟨ent_same rfl rfl rfl tL, ⟨ent_tk rfl rfl rfl (by decide) rfl, ⟨ent_same rfl rfl (flEq rfl (by rw [← fillN_set n k hlk, List.map_set]; rfl)) trivial, trivial⟩⟩⟩) (fun _ h => by simp at h) (hK2 (k + 1) (by omega) (by omega))
    ·have hke : k = n := by simp at hb; omega
     subst hke
     have hrow := row_of encN (fillN k k) i 0 (by rw [fillN_len _ _ (Nat.le_refl _)]; exact hlt)
     refine nK2 ?_
     refine s_reg rfl ?_
     refine rm 39 rfl rfl rfl ?_
     refine rm 40 rfl rfl rfl ?_
     refine rp 41 rfl (op_idx_sl0 i rfl (oT rfl) (oT rfl) (by intro _; exact ⟨rfl, hlt⟩)) ?_
     refine rl 42 rfl (op_load1_refs rfl (oT rfl) (by intro _; exact ⟨rfl, hs2⟩) rfl) ?_
     refine rm 43 rfl rfl rfl ?_
     refine rp 44 rfl (op_idx_sl0 i rfl (oT rfl) (oT rfl) (by intro _; exact ⟨rfl, hlt⟩)) ?_
     refine Run.eff (dd := none) rfl rfl (op_store_flat rfl (oT rfl) oC tC rfl rfl hrow tS) ?_
     refine rn ?_
     refine nK2 ?_
     refine s_reg rfl ?_
     refine rm 21 rfl rfl rfl ?_
     refine rp 22 rfl (op_add rfl (oT rfl) oC tI) ?_
     refine ra 5 rfl rfl rfl ?_
     refine rn ?_
     refine nK2 ?_
     refine Next.untake 1 i 0 rfl (set_get _ _ _ (by rw [ownL_len, hll]; omega)) rfl rfl (by simp [fillN_len]) rfl ?_
     refine Next.weak [0, 1] [] (by rfl) (keepsN hC _ rfl) (by repeat (first | exact trivial | refine ⟨⟨_, rfl, .inl ⟨rfl, rfl⟩⟩, ?_⟩ | refine ⟨⟨_, rfl, .inl ⟨slEq rfl tN, rfl⟩⟩, ?_⟩ | refine ⟨⟨_, rfl, .inl ⟨ivEq tX, rfl⟩⟩, ?_⟩)) (by exact ⟨ent_same rfl rfl rfl tL, ⟨ent_own rfl rfl (congrArg (fun r => some (Ob.refs 1 r)) ((List.set_set ..).trans ((ownL_set ..).trans (congrArg (fun r => ownL 1 (irs.set i r)) (by rw [← fill_row, List.map_set]; rfl))))), trivial⟩⟩) (fun _ h => by simp at h) hK1
  ·have hie : i = n := by simp at hb; omega
   subst hie
   rw [llA_n]
   refine nK2 ?_
   refine s_reg rfl ?_
   refine rp 7 rfl (op_assign rfl oC) ?_
   refine rn ?_
   refine nK2 ?_
   refine n_loop (ι := Nat) (fun j => ([(1, .ptr 0 3 0 0), (3, IV .i64 i), (4, .sl 1 1 0 i), (7, IV .i64 j)], [(0, OG g), (1, some (.refs 1 (ownL 1 (rowsI (matF i (iniD (g.es.take j)))))))], 2)) (fun j => j ≤ g.es.length) (fun j => g.es.length - j) 0 (Nat.zero_le _) ?_ ?_
   ·refine Next.weak [0, 1] [] (by rfl) (keepsN hC _ rfl) (by repeat (first | exact trivial | refine ⟨⟨_, rfl, .inl ⟨rfl, rfl⟩⟩, ?_⟩ | refine ⟨⟨_, rfl, .inl ⟨slEq rfl tN, rfl⟩⟩, ?_⟩ | refine ⟨⟨_, rfl, .inl ⟨ivEq tX, rfl⟩⟩, ?_⟩)) (by exact ⟨ent_same rfl rfl rfl tL, ⟨ent_own rfl rfl rfl, trivial⟩⟩) (fun _ h => by simp at h) rel_intro
   ·intro j hj K2 hK2
    try dsimp only at hj hK2 ⊢
    refine nK2 ?_
    refine s_reg rfl ?_
    refine rm 45 rfl rfl rfl ?_
    refine rp 46 rfl (op_fld_ptr (by decide) rfl (oT rfl)) ?_
    refine rl 47 rfl (op_load1_flat rfl (oT rfl) tH rfl) ?_
    refine rp 48 rfl (op_len_fz rfl (by first | exact Opd.tmp _ _ rfl | exact Opd.nil _ _ (oT rfl)) (by first | exact List.length_map _ | rfl)) ?_
    refine rp 49 rfl (op_lss rfl (oT rfl) (oT rfl)) ?_
    refine rn ?_
    refine nK2 ?_
    refine n_cond _ rfl (fun hb => ?_) (fun hb => ?_)
    ·have hlj : j < g.es.length := by simp at hb; omega
     have hr1 := row_at' encE g.es j hlj
     have hef := vg.f _ (List.getElem_mem hlj)
     have het := vg.t _ (List.getElem_mem hlj)
     have hK3 := hK2 (j + 1) (by omega) (by omega)
     have hput := matF_put (n := i) (f := g.es[j].f.toNat) (t := g.es[j].t.toNat) (c := g.es[j].c) (D := iniD (g.es.take j)) (D' := iniD (g.es.take (j + 1))) (fun a b => iniD_succ vg.asc (fun e he => ⟨vg.ne e he, (vg.f e he).1, (vg.t e he).1⟩) hlj a b)
     rw [← hput, ← rowsI_set] at hK3
     generalize iniD (g.es.take j) = D at *
     clear hput
     have hrA := rowsI_get (ll := matF i D) (v := g.es[j].f.toNat) (by rw [matF_len]; omega)
     rw [show (matF i D).getD g.es[j].f.toNat [] = rowF i (D g.es[j].f.toNat) from matF_get i D (by omega)] at hrA
     have hll : (rowsI (matF i D)).length = i := by rw [rowsI_len, matF_len]
     generalize rowsI (matF i D) = irs at *
     generalize g.es[j] = e at *
     have hrl := rowF_len i (D e.f.toNat)
     generalize rowF i (D e.f.toNat) = row at *
     have hrt := row_of encN row e.t.toNat 0 (by omega)
     refine nK2 ?_
     refine Next.take 1 e.f.toNat 0 rfl (ownL_get hrA) rfl rfl ?_
     have hs1 := set_get (ownL 1 irs) e.f.toNat [.sl 2 1 0 (row.map encN).length] (by rw [ownL_len, hll]; omega)
     refine nK2 ?_
     refine s_draw mixed ?_
     refine rm 52 rfl rfl rfl ?_
     refine rp 53 rfl (op_fld_ptr (by decide) rfl (oT rfl)) ?_
     refine rl 54 rfl (op_load1_flat rfl (oT rfl) tH rfl) ?_
     refine rm 55 rfl rfl rfl ?_
     refine rp 56 rfl (op_idx_fz _ rfl (oT rfl) (oT rfl) tF) ?_
     refine rp 57 rfl (op_fld_fz (by decide) rfl (oT rfl) tR) ?_
     refine rp 58 rfl (op_load1_fz rfl (oT rfl) rfl) ?_
     refine rp 59 rfl (op_idx_sl0 e.f.toNat rfl (oT rfl) (oT rfl) (by intro _; omega)) ?_
     refine rl 60 rfl (op_load1_refs rfl (oT rfl) (by intro _; exact ⟨rfl, hs1⟩) rfl) ?_
     refine rp 61 rfl (op_fld_ptr (by decide) rfl (oT rfl)) ?_
     refine rl 62 rfl (op_load1_flat rfl (oT rfl) tH rfl) ?_
     refine rm 63 rfl rfl rfl ?_
     refine rp 64 rfl (op_idx_fz _ rfl (oT rfl) (oT rfl) tF) ?_
     refine rp 65 rfl (op_fld_fz (by decide) rfl (oT rfl) tR) ?_
     refine rp 66 rfl (op_load1_fz rfl (oT rfl) rfl) ?_
     refine rp 67 rfl (op_fld_ptr (by decide) rfl (oT rfl)) ?_
     refine rl 68 rfl (op_load1_flat rfl (oT rfl) tH rfl) ?_
     refine rm 69 rfl rfl rfl ?_
     refine rp 70 rfl (op_idx_fz _ rfl (oT rfl) (oT rfl) tF) ?_
     refine rp 71 rfl (op_fld_fz (by decide) rfl (oT rfl) tR) ?_
     refine rp 72 rfl (op_load1_fz rfl (oT rfl) rfl) ?_
     refine rp 73 rfl (op_idx_sl0 e.t.toNat rfl (oT rfl) (oT rfl) (by intro _; rw [List.length_map]; omega)) ?_
     refine Run.effW (dd := none) rfl rfl (op_store_flat rfl (oT rfl) (oT rfl) tC rfl rfl hrt tS) (by first | exact ext_call | exact tE) ?_
     refine Run.nil (FinD.mk (by kernel_rfl) ?_)
     refine nK2 ?_
     refine s_reg rfl ?_
     refine rm 50 rfl rfl rfl ?_
     refine rp 51 rfl (op_add rfl (oT rfl) oC tI) ?_
     refine ra 7 rfl rfl rfl ?_
     refine rn ?_
     refine nK2 ?_
     refine Next.untake 1 e.f.toNat 0 rfl (set_get _ _ _ (by rw [ownL_len, hll]; omega)) rfl rfl (by simp) rfl ?_
     refine Next.weak [0, 1] [] (by rfl) (keepsN hC _ rfl) (by repeat (first | exact trivial | refine ⟨⟨_, rfl, .inl ⟨rfl, rfl⟩⟩, ?_⟩ | refine ⟨⟨_, rfl, .inl ⟨slEq rfl tN, rfl⟩⟩, ?_⟩ | refine ⟨⟨_, rfl, .inl ⟨ivEq tX, rfl⟩⟩, ?_⟩)) (by exact ⟨ent_same rfl rfl rfl tL, ⟨ent_own rfl rfl (congrArg (fun r => some (Ob.refs 1 r)) ((List.set_set ..).trans ((ownL_set ..).trans (congrArg (fun r => ownL 1 (irs.set e.f.toNat r)) (by rw [List.map_set]; rfl))))), trivial⟩⟩) (fun _ h => by simp at h) hK3
    ·have hje : j = g.es.length := by simp at hb; omega
     subst hje
     rw [List.take_length]
     refine nK2 ?_
     refine s_reg rfl ?_
     refine rp 8 rfl (op_assign rfl oC) ?_
     refine rn ?_
     refine nK2 ?_
     refine n_loop (ι := Nat) (fun m => ([(1, .ptr 0 3 0 0), (3, IV .i64 i), (4, .sl 1 1 0 i), (8, IV .i64 m)], [(0, OG g), (1, some (.refs 1 (ownL 1 (rowsI (matF i (fwN g.es m))))))], 2)) (fun m => m ≤ i) (fun m => i - m) 0 (Nat.zero_le _) ?_ ?_
     ·refine Next.weak [0, 1] [] (by rfl) (keepsN hC _ rfl) (by repeat (first | exact trivial | refine ⟨⟨_, rfl, .inl ⟨rfl, rfl⟩⟩, ?_⟩ | refine ⟨⟨_, rfl, .inl ⟨slEq rfl tN, rfl⟩⟩, ?_⟩ | refine ⟨⟨_, rfl, .inl ⟨ivEq tX, rfl⟩⟩, ?_⟩)) (by exact ⟨ent_same rfl rfl rfl tL, ⟨ent_own rfl rfl rfl, trivial⟩⟩) (fun _ h => by simp at h) rel_intro
     ·intro m hm K3 hK3
      try dsimp only at hm hK3 ⊢
      refine nK2 ?_
      refine s_reg rfl ?_
      refine rm 74 rfl rfl rfl ?_
      refine rm 75 rfl rfl rfl ?_
      refine rp 76 rfl (op_lss rfl (oT rfl) (oT rfl)) ?_
      refine rn ?_
      refine nK2 ?_
      refine n_cond _ rfl (fun hb => ?_) (fun hb => ?_)
      ·have hlm : m < i := by simpa using hb
       have hI := fwN_ok vg m hm
       have h00 : fwN g.es m m m = 0 := hI.diag vg hlm
       have hbd := fun a b (ha : a < i) (hb : b < i) => hI.bnd vg ha hb
       have hK4 := hK3 (m + 1) (by omega) (by omega)
       rw [show fwN g.es (m + 1) = fwP m (fwN g.es m) from rfl] at hK4
       rw [← matM_n] at hK4
       rw [← matM_0 i m (fwN g.es m)]
       generalize fwN g.es m = D at *
       clear hI
       refine nK2 ?_
       refine s_reg rfl ?_
       refine rp 9 rfl (op_assign rfl oC) ?_
       refine rn ?_
       refine nK2 ?_
       refine n_loop (ι := Nat) (fun a => ([(1, .ptr 0 3 0 0), (3, IV .i64 i), (4, .sl 1 1 0 i), (8, IV .i64 m), (9, IV .i64 a)], [(0, OG g), (1, some (.refs 1 (ownL 1 (rowsI (matM i m D a)))))], 2)) (fun a => a ≤ i) (fun a => i - a) 0 (Nat.zero_le _) ?_ ?_
       ·refine Next.weak [0, 1] [] (by rfl) (keepsN hC _ rfl) (by repeat (first | exact trivial | refine ⟨⟨_, rfl, .inl ⟨rfl, rfl⟩⟩, ?_⟩ | refine ⟨⟨_, rfl, .inl ⟨slEq rfl tN, rfl⟩⟩, ?_⟩ | refine ⟨⟨_, rfl, .inl ⟨ivEq tX, rfl⟩⟩, ?_⟩)) (by exact ⟨ent_same rfl rfl rfl tL, ⟨ent_own rfl rfl rfl, trivial⟩⟩) (fun _ h => by simp at h) rel_intro
       ·intro a ha K4 hK5
        try dsimp only at ha hK5 ⊢
        refine nK2 ?_
        refine s_reg rfl ?_
        refine rm 79 rfl rfl rfl ?_
        refine rm 80 rfl rfl rfl ?_
        refine rp 81 rfl (op_lss rfl (oT rfl) (oT rfl)) ?_
        refine rn ?_
        refine nK2 ?_
        refine n_cond _ rfl (fun hb => ?_) (fun hb => ?_)
        ·have hla : a < i := by simpa using hb
         have hK6 := hK5 (a + 1) (by omega) (by omega)
         have hrA := rowsI_get (ll := matM i m D a) (v := a) (by rw [matM_len]; omega)
         rw [show (matM i m D a).getD a [] = rowF i (D a) from matM_at hla] at hrA
         have hrM := rowsI_get (ll := matM i m D a) (v := m) (by rw [matM_len]; omega)
         rw [show (matM i m D a).getD m [] = rowF i (D m) from matM_atm hlm h00] at hrM
         have hll : (rowsI (matM i m D a)).length = i := by rw [rowsI_len, matM_len]
         have hskip := fun h => matM_same (n := i) (m := m) (i := a) (D := D) h
         rw [← matM_set, ← rowsI_set] at hK6
         have hrm := row_of encN (rowF i (D a)) m 0 (by rw [rowF_len]; omega)
         rw [show (rowF i (D a)).getD m 0 = D a m from rowF_get _ _ hlm] at hrm
         refine nK2 ?_
         refine Next.take 1 a 0 rfl (ownL_get hrA) rfl rfl ?_
         generalize rowsI (matM i m D a) = irs at *
         refine Next.weak [0, 1, 2] [] (by rfl) (keepsN hC _ rfl) (G' := [(1, .ptr 0 3 0 0), (3, IV .i64 i), (4, .sl 1 1 0 i), (8, IV .i64 m), (9, IV .i64 a)]) (H' := [(0, OG g), (1, some (.refs 1 (tkL irs a i))), (2, OI (rowF i (D a)))]) (by repeat (first | exact trivial | refine ⟨⟨_, rfl, .inl ⟨rfl, rfl⟩⟩, ?_⟩ | refine ⟨⟨_, rfl, .inl ⟨slEq rfl tN, rfl⟩⟩, ?_⟩ | refine ⟨⟨_, rfl, .inl ⟨ivEq tX, rfl⟩⟩, ?_⟩)) (by exact ⟨ent_same rfl rfl rfl tL, ⟨ent_tkG rfl rfl (by decide) (congrArg (fun x => some (Ob.refs 1 ((ownL 1 irs).set a [PV.sl 2 1 0 x]))) (by simp)), ⟨ent_same rfl rfl rfl tL, trivial⟩⟩⟩) (fun _ h => by simp at h) ?_
         have hs1 := set_get (ownL 1 irs) a [.sl 2 1 0 i] (by rw [ownL_len, hll]; omega)
         refine nK2 ?_
         refine s_reg rfl ?_
         refine rm 84 rfl rfl rfl ?_
         refine rm 85 rfl rfl rfl ?_
         refine rp 86 rfl (op_idx_sl0 a rfl (oT rfl) (oT rfl) (by intro _; exact ⟨rfl, hla⟩)) ?_
         refine rl 87 rfl (op_load1_refs rfl (oT rfl) (by intro _; exact ⟨rfl, hs1⟩) rfl) ?_
         refine rm 88 rfl rfl rfl ?_
         refine rp 89 rfl (op_idx_sl0 m rfl (oT rfl) (oT rfl) (by intro _; exact ⟨rfl, hlm⟩)) ?_
         refine rl 90 rfl (op_load1_flat rfl (oT rfl) (by intro _; exact ⟨rfl, hrm⟩) rfl) ?_
         refine rp 91 rfl (op_lss rfl (oT rfl) oC) ?_
         refine rn ?_
         refine nK2 ?_
         refine n_cond _ rfl (fun hb => ?_) (fun hb => ?_)
         ·have hneg : D a m < 0 := by simpa using hb
          rw [fwP_skip hneg] at hK6
          refine nK2 ?_
          refine s_reg rfl ?_
          refine rm 82 rfl rfl rfl ?_
          refine rp 83 rfl (op_add rfl (oT rfl) oC tI) ?_
          refine ra 9 rfl rfl rfl ?_
          refine rn ?_
          refine nK2 ?_
          refine Next.untake 1 a 0 rfl (set_get _ _ _ (by rw [ownL_len, hll]; omega)) rfl rfl (by simp) rfl ?_
          refine Next.weak [0, 1] [] (by rfl) (keepsN hC _ rfl) (by repeat (first | exact trivial | refine ⟨⟨_, rfl, .inl ⟨rfl, rfl⟩⟩, ?_⟩ | refine ⟨⟨_, rfl, .inl ⟨slEq rfl tN, rfl⟩⟩, ?_⟩ | refine ⟨⟨_, rfl, .inl ⟨ivEq tX, rfl⟩⟩, ?_⟩)) (by exact ⟨ent_same rfl rfl rfl tL, ⟨ent_own rfl rfl (congrArg (fun r => some (Ob.refs 1 r)) ((List.set_set ..).trans (ownL_set ..))), trivial⟩⟩) (fun _ h => by simp at h) hK6
         ·have hpos : 0 ≤ D a m := by simpa using hb
          by_cases ham : a = m
          ·subst ham
           rw [show fwP a D a = D a from funext fun k => fwP_row h00] at hK6
           refine nK2 ?_
           refine s_reg rfl ?_
           refine rp 10 rfl (op_assign rfl oC) ?_
           refine rn ?_
           refine nK2 ?_
           refine n_loop (ι := Nat) (fun k => ([(1, .ptr 0 3 0 0), (3, IV .i64 i), (4, .sl 1 1 0 i), (8, IV .i64 a), (9, IV .i64 a), (10, IV .i64 k)], [(0, OG g), (1, some (.refs 1 (tkL irs a i))), (2, OI (rowF i (D a)))], 3)) (fun k => k ≤ i) (fun k => i - k) 0 (Nat.zero_le _) ?_ ?_
           ·refine Next.weak [0, 1, 2] [] (by rfl) (keepsN hC _ rfl) (by repeat (first | exact trivial | refine ⟨⟨_, rfl, .inl ⟨rfl, rfl⟩⟩, ?_⟩ | refine ⟨⟨_, rfl, .inl ⟨slEq rfl tN, rfl⟩⟩, ?_⟩ | refine ⟨⟨_, rfl, .inl ⟨ivEq tX, rfl⟩⟩, ?_⟩)) (by exact ⟨ent_same rfl rfl rfl tL, ⟨ent_tk rfl rfl rfl (by decide) rfl, ⟨ent_same rfl rfl rfl tL, trivial⟩⟩⟩) (fun _ h => by simp at h) rel_intro
           ·intro k hk K5 hK7
            try dsimp only at hk hK7 ⊢
            refine nK2 ?_
            refine s_reg rfl ?_
            refine rm 92 rfl rfl rfl ?_
            refine rm 93 rfl rfl rfl ?_
            refine rp 94 rfl (op_lss rfl (oT rfl) (oT rfl)) ?_
            refine rn ?_
            refine nK2 ?_
            refine n_cond _ rfl (fun hb => ?_) (fun hb => ?_)
            ·have hlk : k < i := by simpa using hb
             have hrk := row_of encN (rowF i (D a)) k 0 (by rw [rowF_len]; omega)
             rw [show (rowF i (D a)).getD k 0 = D a k from rowF_get _ _ hlk] at hrk
             have hb1 := hbd a k hla hlk
             have hb2 := hbd a a hla hla
             refine nK2 ?_
             refine s_draw mixed ?_
             refine rm 97 rfl rfl rfl ?_
             refine rm 98 rfl rfl rfl ?_
             refine rp 99 rfl (op_idx_sl0 a rfl (oT rfl) (oT rfl) (by intro _; exact ⟨rfl, hla⟩)) ?_
             refine rl 100 rfl (op_load1_refs rfl (oT rfl) (by intro _; exact ⟨rfl, hs1⟩) rfl) ?_
             refine rm 101 rfl rfl rfl ?_
             refine rp 102 rfl (op_idx_sl0 k rfl (oT rfl) (oT rfl) (by intro _; exact ⟨rfl, hlk⟩)) ?_
             refine rl 103 rfl (op_load1_flat rfl (oT rfl) (by intro _; exact ⟨rfl, hrk⟩) rfl) ?_
             refine rp 104 rfl (op_geq rfl (oT rfl) oC) ?_
             refine rm 105 rfl rfl rfl ?_
             refine gm 106 rfl rfl tG rfl rfl ?_
             refine gm 107 rfl rfl tG rfl rfl ?_
             refine rg 108 rfl rfl tG (op_idx_sl0 a rfl (oO rfl tO) (oO rfl tO) (by intro _; exact ⟨rfl, hla⟩)) ?_
             refine rk 109 rfl rfl tG (op_load1_refs rfl (oO rfl tO) (by intro _; exact ⟨rfl, hs1⟩) rfl) ?_
             refine gm 110 rfl rfl tG rfl rfl ?_
             refine rg 111 rfl rfl tG (op_idx_sl0 k rfl (oO rfl tO) (oO rfl tO) (by intro _; exact ⟨rfl, hlk⟩)) ?_
             refine rk 112 rfl rfl tG (op_load1_flat rfl (oO rfl tO) (by intro _; exact ⟨rfl, hrk⟩) rfl) ?_
             refine rg 113 rfl rfl tG (op_lss rfl (oO rfl tO) oC) ?_
             refine rg 114 rfl rfl tG (op_move rfl (oO rfl tO)) ?_
             refine gm 115 rfl rfl tG rfl rfl ?_
             refine gm 116 rfl rfl tG rfl rfl ?_
             refine rg 117 rfl rfl tG (op_idx_sl0 a rfl (oO rfl tO) (oO rfl tO) (by intro _; exact ⟨rfl, hla⟩)) ?_
             refine rk 118 rfl rfl tG (op_load1_refs rfl (oO rfl tO) (by intro _; exact ⟨rfl, hs1⟩) rfl) ?_
             refine gm 119 rfl rfl tG rfl rfl ?_
             refine rg 120 rfl rfl tG (op_idx_sl0 a rfl (oO rfl tO) (oO rfl tO) (by intro _; exact ⟨rfl, hla⟩)) ?_
             refine rk 121 rfl rfl tG (op_load1_flat rfl (oO rfl tO) (by intro _; exact ⟨rfl, hrm⟩) rfl) ?_
             refine gm 122 rfl rfl tG rfl rfl ?_
             refine gm 123 rfl rfl tG rfl rfl ?_
             refine rg 124 rfl rfl tG (op_idx_sl0 a rfl (oO rfl tO) (oO rfl tO) (by intro _; exact ⟨rfl, hla⟩)) ?_
             refine rk 125 rfl rfl tG (op_load1_refs rfl (oO rfl tO) (by intro _; exact ⟨rfl, hs1⟩) rfl) ?_
             refine gm 126 rfl rfl tG rfl rfl ?_
             refine rg 127 rfl rfl tG (op_idx_sl0 k rfl (oO rfl tO) (oO rfl tO) (by intro _; exact ⟨rfl, hlk⟩)) ?_
             refine rk 128 rfl rfl tG (op_load1_flat rfl (oO rfl tO) (by intro _; exact ⟨rfl, hrk⟩) rfl) ?_
             refine rg 129 rfl rfl tG (op_add rfl (oO rfl tO) (oO rfl tO) tI) ?_
             refine gm 130 rfl rfl tG rfl rfl ?_
             refine gm 131 rfl rfl tG rfl rfl ?_
             refine rg 132 rfl rfl tG (op_idx_sl0 a rfl (oO rfl tO) (oO rfl tO) (by intro _; exact ⟨rfl, hla⟩)) ?_
             refine rk 133 rfl rfl tG (op_load1_refs rfl (oO rfl tO) (by intro _; exact ⟨rfl, hs1⟩) rfl) ?_
             refine gm 134 rfl rfl tG rfl rfl ?_
             refine rg 135 rfl rfl tG (op_idx_sl0 k rfl (oO rfl tO) (oO rfl tO) (by intro _; exact ⟨rfl, hlk⟩)) ?_
             refine rk 136 rfl rfl tG (op_load1_flat rfl (oO rfl tO) (by intro _; exact ⟨rfl, hrk⟩) rfl) ?_
             refine rg 137 rfl rfl tG (op_lss rfl (oO rfl tO) (oO rfl tO)) ?_
             refine rg 138 rfl rfl tG (op_pick_or rfl (oO rfl tO) (oO rfl tO)) ?_
             refine rp 139 rfl (op_pick_and rfl (oT rfl) (oO rfl tO)) ?_
             refine Run.nil (FinD.mk (by kernel_rfl) ?_)
             refine nK2 ?_
             refine n_cond _ rfl (fun hb => ?_) (fun hb => ?_)
             ·exfalso
              rw [h00] at hb
              simp at hb; omega
             ·refine nK2 ?_
              refine s_reg rfl ?_
              refine rm 95 rfl rfl rfl ?_
              refine rp 96 rfl (op_add rfl (oT rfl) oC tI) ?_
              refine ra 10 rfl rfl rfl ?_
              refine rn ?_
              refine nK2 ?_
              refine Next.weak [0, 1, 2] [] (by rfl) (keepsN hC _ rfl) (by repeat (first | exact trivial | refine ⟨⟨_, rfl, .inl ⟨rfl, rfl⟩⟩, ?_⟩ | refine ⟨⟨_, rfl, .inl ⟨slEq rfl tN, rfl⟩⟩, ?_⟩ | refine ⟨⟨_, rfl, .inl ⟨ivEq tX, rfl⟩⟩, ?_⟩)) (by exact ⟨ent_same rfl rfl rfl tL, ⟨ent_tk rfl rfl rfl (by decide) rfl, ⟨ent_same rfl rfl rfl tL, trivial⟩⟩⟩) (fun _ h => by simp at h) (hK7 (k + 1) (by omega) (by omega))
            ·have hke : k = i := by simp at hb; omega
             subst hke
             refine nK2 ?_
             refine s_reg rfl ?_
             refine rm 82 rfl rfl rfl ?_
             refine rp 83 rfl (op_add rfl (oT rfl) oC tI) ?_
             refine ra 9 rfl rfl rfl ?_
             refine rn ?_
             refine nK2 ?_
             refine Next.untake 1 a 0 rfl (set_get _ _ _ (by rw [ownL_len, hll]; omega)) rfl rfl (by simp) rfl ?_
             refine Next.weak [0, 1] [] (by rfl) (keepsN hC _ rfl) (by repeat (first | exact trivial | refine ⟨⟨_, rfl, .inl ⟨rfl, rfl⟩⟩, ?_⟩ | refine ⟨⟨_, rfl, .inl ⟨slEq rfl tN, rfl⟩⟩, ?_⟩ | refine ⟨⟨_, rfl, .inl ⟨ivEq tX, rfl⟩⟩, ?_⟩)) (by exact ⟨ent_same rfl rfl rfl tL, ⟨ent_own rfl rfl (congrArg (fun r => some (Ob.refs 1 r)) ((List.set_set ..).trans (ownL_set ..))), trivial⟩⟩) (fun _ h => by simp at h) hK6
          ·refine Next.take 1 m 0 rfl (tk_get ham hrM) rfl rfl ?_
           refine Next.weak [0, 1, 2, 3] [] (by rfl) (keepsN hC _ rfl) (G' := [(1, .ptr 0 3 0 0), (3, IV .i64 i), (4, .sl 1 1 0 i), (8, IV .i64 m), (9, IV .i64 a)]) (H' := [(0, OG g), (1, some (.refs 1 (tk2 irs a m i i))), (2, OI (rowF i (D a))), (3, OI (rowF i (D m)))]) (by repeat (first | exact trivial | refine ⟨⟨_, rfl, .inl ⟨rfl, rfl⟩⟩, ?_⟩ | refine ⟨⟨_, rfl, .inl ⟨slEq rfl tN, rfl⟩⟩, ?_⟩ | refine ⟨⟨_, rfl, .inl ⟨ivEq tX, rfl⟩⟩, ?_⟩)) (by exact ⟨ent_same rfl rfl rfl tL, ⟨ent_tk2 rfl rfl (by decide) rfl rfl (congrArg (fun x => some (Ob.refs 1 ((tkL irs a i).set m [PV.sl 3 1 0 x]))) (by simp)), ⟨ent_same rfl rfl rfl tL, ⟨ent_same rfl rfl rfl tL, trivial⟩⟩⟩⟩) (fun _ h => by simp at h) ?_
           have hsm := set_get (tkL irs a i) m [.sl 3 1 0 i] (by rw [tk_len, hll]; omega)
           have hsa : (tk2 irs a m i i)[a]? = some [PV.sl 2 1 0 i] := by
            unfold tk2
            rw [List.getElem?_set_ne (fun e => ham e.symm)]; exact hs1
           refine nK2 ?_
           refine s_reg rfl ?_
           refine rp 10 rfl (op_assign rfl oC) ?_
           refine rn ?_
           refine nK2 ?_
           rw [← rowK_0 i m D a]
           refine n_loop (ι := Nat) (fun k => ([(1, .ptr 0 3 0 0), (3, IV .i64 i), (4, .sl 1 1 0 i), (8, IV .i64 m), (9, IV .i64 a), (10, IV .i64 k)], [(0, OG g), (1, some (.refs 1 (tk2 irs a m i i))), (2, OI (rowK i m D a k)), (3, OI (rowF i (D m)))], 4)) (fun k => k ≤ i) (fun k => i - k) 0 (Nat.zero_le _) ?_ ?_
           ·refine Next.weak [0, 1, 2, 3] [] (by rfl) (keepsN hC _ rfl) (by repeat (first | exact trivial | refine ⟨⟨_, rfl, .inl ⟨rfl, rfl⟩⟩, ?_⟩ | refine ⟨⟨_, rfl, .inl ⟨slEq rfl tN, rfl⟩⟩, ?_⟩ | refine ⟨⟨_, rfl, .inl ⟨ivEq tX, rfl⟩⟩, ?_⟩)) (by exact ⟨ent_same rfl rfl rfl tL, ⟨ent_tk2 rfl rfl (by decide) rfl rfl rfl, ⟨ent_same rfl rfl rfl tL, ⟨ent_same rfl rfl rfl tL, trivial⟩⟩⟩⟩) (fun _ h => by simp at h) rel_intro
           ·intro k hk K5 hK7
            try dsimp only at hk hK7 ⊢
            refine nK2 ?_
            refine s_reg rfl ?_
            refine rm 92 rfl rfl rfl ?_
            refine rm 93 rfl rfl rfl ?_
            refine rp 94 rfl (op_lss rfl (oT rfl) (oT rfl)) ?_
            refine rn ?_
            refine nK2 ?_
            refine n_cond _ rfl (fun hb => ?_) (fun hb => ?_)
            ·have hlk : k < i := by simpa using hb
             have hrk := row_of encN (rowF i (D m)) k 0 (by rw [rowF_len]; omega)
             rw [show (rowF i (D m)).getD k 0 = D m k from rowF_get _ _ hlk] at hrk
             have hK8 := hK7 (k + 1) (by omega) (by omega)
             have hset := fun v h => rowK_set (n := i) (m := m) (i := a) (k := k) (D := D) (v := v) h
             have hsame := fun h => rowK_same (n := i) (m := m) (i := a) (k := k) (D := D) h
             have hrl := rowK_len i m D a k
             have hxk := rowK_at (n := i) (m := m) (i := a) (k := k) (D := D) hlk
             have hxm := rowK_m (n := i) (m := m) (i := a) (k := k) (D := D) hlm h00
             generalize rowK i m D a k = row at *
             have hrak := row_of encN row k 0 (by omega)
             rw [show row.getD k 0 = D a k from hxk] at hrak
             have hram := row_of encN row m 0 (by omega)
             rw [show row.getD m 0 = D a m from hxm] at hram
             have hb1 := hbd a k hla hlk
             have hb2 := hbd a m hla hlm
             have hb3 := hbd m k hlm hlk
             refine nK2 ?_
             refine s_draw mixed ?_
             refine rm 97 rfl rfl rfl ?_
             refine rm 98 rfl rfl rfl ?_
             refine rp 99 rfl (op_idx_sl0 m rfl (oT rfl) (oT rfl) (by intro _; exact ⟨rfl, hlm⟩)) ?_
             refine rl 100 rfl (op_load1_refs rfl (oT rfl) (by intro _; exact ⟨rfl, hsm⟩) rfl) ?_
             refine rm 101 rfl rfl rfl ?_
             refine rp 102 rfl (op_idx_sl0 k rfl (oT rfl) (oT rfl) (by intro _; exact ⟨rfl, hlk⟩)) ?_
             refine rl 103 rfl (op_load1_flat rfl (oT rfl) (by intro _; exact ⟨rfl, hrk⟩) rfl) ?_
             refine rp 104 rfl (op_geq rfl (oT rfl) oC) ?_
             refine rm 105 rfl rfl rfl ?_
             refine gm 106 rfl rfl tG rfl rfl ?_
             refine gm 107 rfl rfl tG rfl rfl ?_
             refine rg 108 rfl rfl tG (op_idx_sl0 a rfl (oO rfl tO) (oO rfl tO) (by intro _; exact ⟨rfl, hla⟩)) ?_
             refine rk 109 rfl rfl tG (op_load1_refs rfl (oO rfl tO) (by intro _; exact ⟨rfl, hsa⟩) rfl) ?_
             refine gm 110 rfl rfl tG rfl rfl ?_
             refine rg 111 rfl rfl tG (op_idx_sl0 k rfl (oO rfl tO) (oO rfl tO) (by intro _; exact ⟨rfl, hlk⟩)) ?_
             refine rk 112 rfl rfl tG (op_load1_flat rfl (oO rfl tO) (by intro _; exact ⟨rfl, hrak⟩) rfl) ?_
             refine rg 113 rfl rfl tG (op_lss rfl (oO rfl tO) oC) ?_
             refine rg 114 rfl rfl tG (op_move rfl (oO rfl tO)) ?_
             refine gm 115 rfl rfl tG rfl rfl ?_
             refine gm 116 rfl rfl tG rfl rfl ?_
             refine rg 117 rfl rfl tG (op_idx_sl0 a rfl (oO rfl tO) (oO rfl tO) (by intro _; exact ⟨rfl, hla⟩)) ?_
             refine rk 118 rfl rfl tG (op_load1_refs rfl (oO rfl tO) (by intro _; exact ⟨rfl, hsa⟩) rfl) ?_
             refine gm 119 rfl rfl tG rfl rfl ?_
             refine rg 120 rfl rfl tG (op_idx_sl0 m rfl (oO rfl tO) (oO rfl tO) (by intro _; exact ⟨rfl, hlm⟩)) ?_
             refine rk 121 rfl rfl tG (op_load1_flat rfl (oO rfl tO) (by intro _; exact ⟨rfl, hram⟩) rfl) ?_
             refine gm 122 rfl rfl tG rfl rfl ?_
             refine gm 123 rfl rfl tG rfl rfl ?_
             refine rg 124 rfl rfl tG (op_idx_sl0 m rfl (oO rfl tO) (oO rfl tO) (by intro _; exact ⟨rfl, hlm⟩)) ?_
             refine rk 125 rfl rfl tG (op_load1_refs rfl (oO rfl tO) (by intro _; exact ⟨rfl, hsm⟩) rfl) ?_
             refine gm 126 rfl rfl tG rfl rfl ?_
             refine rg 127 rfl rfl tG (op_idx_sl0 k rfl (oO rfl tO) (oO rfl tO) (by intro _; exact ⟨rfl, hlk⟩)) ?_
             refine rk 128 rfl rfl tG (op_load1_flat rfl (oO rfl tO) (by intro _; exact ⟨rfl, hrk⟩) rfl) ?_
             refine rg 129 rfl rfl tG (op_add rfl (oO rfl tO) (oO rfl tO) tI) ?_
             refine gm 130 rfl rfl tG rfl rfl ?_
             refine gm 131 rfl rfl tG rfl rfl ?_
             refine rg 132 rfl rfl tG (op_idx_sl0 a rfl (oO rfl tO) (oO rfl tO) (by intro _; exact ⟨rfl, hla⟩)) ?_
             refine rk 133 rfl rfl tG (op_load1_refs rfl (oO rfl tO) (by intro _; exact ⟨rfl, hsa⟩) rfl) ?_
             refine gm 134 rfl rfl tG rfl rfl ?_
             refine rg 135 rfl rfl tG (op_idx_sl0 k rfl (oO rfl tO) (oO rfl tO) (by intro _; exact ⟨rfl, hlk⟩)) ?_
             refine rk 136 rfl rfl tG (op_load1_flat rfl (oO rfl tO) (by intro _; exact ⟨rfl, hrak⟩) rfl) ?_
             refine rg 137 rfl rfl tG (op_lss rfl (oO rfl tO) (oO rfl tO)) ?_
             refine rg 138 rfl rfl tG (op_pick_or rfl (oO rfl tO) (oO rfl tO)) ?_
             refine rp 139 rfl (op_pick_and rfl (oT rfl) (oO rfl tO)) ?_
             refine Run.nil (FinD.mk (by kernel_rfl) ?_)
             refine nK2 ?_
             refine n_cond _ rfl (fun hb => ?_) (fun hb => ?_)
             ·have hc : 0 ≤ D m k ∧ (D a k < 0 ∨ D a m + D m k < D a k) := by simpa using hb
              have hv : D a m + D m k = fwP m D a k := by unfold fwP; rw [if_pos ⟨hpos, hc⟩]
              rw [← hset _ hv] at hK8
              refine nK2 ?_
              refine s_draw mixed ?_
              refine rm 140 rfl rfl rfl ?_
              refine rm 141 rfl rfl rfl ?_
              refine rp 142 rfl (op_idx_sl0 a rfl (oT rfl) (oT rfl) (by intro _; exact ⟨rfl, hla⟩)) ?_
              refine rl 143 rfl (op_load1_refs rfl (oT rfl) (by intro _; exact ⟨rfl, hsa⟩) rfl) ?_
              refine rm 144 rfl rfl rfl ?_
              refine rm 145 rfl rfl rfl ?_
              refine rm 146 rfl rfl rfl ?_
              refine rp 147 rfl (op_idx_sl0 a rfl (oT rfl) (oT rfl) (by intro _; exact ⟨rfl, hla⟩)) ?_
              refine rl 148 rfl (op_load1_refs rfl (oT rfl) (by intro _; exact ⟨rfl, hsa⟩) rfl) ?_
              refine rm 149 rfl rfl rfl ?_
              refine rp 150 rfl (op_idx_sl0 m rfl (oT rfl) (oT rfl) (by intro _; exact ⟨rfl, hlm⟩)) ?_
              refine rl 151 rfl (op_load1_flat rfl (oT rfl) (by intro _; exact ⟨rfl, hram⟩) rfl) ?_
              refine rm 152 rfl rfl rfl ?_
              refine rm 153 rfl rfl rfl ?_
              refine rp 154 rfl (op_idx_sl0 m rfl (oT rfl) (oT rfl) (by intro _; exact ⟨rfl, hlm⟩)) ?_
              refine rl 155 rfl (op_load1_refs rfl (oT rfl) (by intro _; exact ⟨rfl, hsm⟩) rfl) ?_
              refine rm 156 rfl rfl rfl ?_
              refine rp 157 rfl (op_idx_sl0 k rfl (oT rfl) (oT rfl) (by intro _; exact ⟨rfl, hlk⟩)) ?_
              refine rl 158 rfl (op_load1_flat rfl (oT rfl) (by intro _; exact ⟨rfl, hrk⟩) rfl) ?_
              refine rp 159 rfl (op_add rfl (oT rfl) (oT rfl) tI) ?_
              refine rp 160 rfl (op_idx_sl0 k rfl (oT rfl) (oT rfl) (by intro _; exact ⟨rfl, hlk⟩)) ?_
              refine Run.effW (dd := none) rfl rfl (op_store_flat rfl (oT rfl) (oT rfl) tC rfl rfl hrak tS) (by first | exact ext_call | exact tE) ?_
              refine Run.nil (FinD.mk (by kernel_rfl) ?_)
              refine nK2 ?_
              refine s_reg rfl ?_
              refine rm 95 rfl rfl rfl ?_
              refine rp 96 rfl (op_add rfl (oT rfl) oC tI) ?_
              refine ra 10 rfl rfl rfl ?_
              refine rn ?_
              refine nK2 ?_
              refine Next.weak [0, 1, 2, 3] [] (by rfl) (keepsN hC _ rfl) (by repeat (first | exact trivial | refine ⟨⟨_, rfl, .inl ⟨rfl, rfl⟩⟩, ?_⟩ | refine ⟨⟨_, rfl, .inl ⟨slEq rfl tN, rfl⟩⟩, ?_⟩ | refine ⟨⟨_, rfl, .inl ⟨ivEq tX, rfl⟩⟩, ?_⟩)) (by exact ⟨ent_same rfl rfl rfl tL, ⟨ent_tk2 rfl rfl (by decide) rfl rfl rfl, ⟨ent_same rfl rfl (flEq rfl (by rw [List.map_set]; rfl)) trivial, ⟨ent_same rfl rfl rfl tL, trivial⟩⟩⟩⟩) (fun _ h => by simp at h) hK8
             ·have hc : ¬ (0 ≤ D m k ∧ (D a k < 0 ∨ D a m + D m k < D a k)) := fun h => by rw [Bool.eq_false_iff] at hb; apply hb; simpa using h
              have hv : fwP m D a k = D a k := by unfold fwP; rw [if_neg (fun h => hc h.2)]
              rw [← hsame hv] at hK8
              refine nK2 ?_
              refine s_reg rfl ?_
              refine rm 95 rfl rfl rfl ?_
              refine rp 96 rfl (op_add rfl (oT rfl) oC tI) ?_
              refine ra 10 rfl rfl rfl ?_
              refine rn ?_
              refine nK2 ?_
              refine Next.weak [0, 1, 2, 3] [] (by rfl) (keepsN hC _ rfl) (by repeat (first | exact trivial | refine ⟨⟨_, rfl, .inl ⟨rfl, rfl⟩⟩, ?_⟩ | refine ⟨⟨_, rfl, .inl ⟨slEq rfl tN, rfl⟩⟩, ?_⟩ | refine ⟨⟨_, rfl, .inl ⟨ivEq tX, rfl⟩⟩, ?_⟩)) (by exact ⟨ent_same rfl rfl rfl tL, ⟨ent_tk2 rfl rfl (by decide) rfl rfl rfl, ⟨ent_same rfl rfl rfl tL, ⟨ent_same rfl rfl rfl tL, trivial⟩⟩⟩⟩) (fun _ h => by simp at h) hK8
            ·have hke : k = i := by simp at hb; omega
             subst hke
             rw [rowK_n]
             refine nK2 ?_
             refine s_reg rfl ?_
             refine rm 82 rfl rfl rfl ?_
             refine rp 83 rfl (op_add rfl (oT rfl) oC tI) ?_
             refine ra 9 rfl rfl rfl ?_
             refine rn ?_
             refine nK2 ?_
             refine Next.untake 1 m 0 rfl (set_get _ _ _ (by rw [tk_len, hll]; omega)) rfl rfl (by simp) (show _ = tkL irs a k from by
              rw [show (tk2 irs a m k k).set m ([PV.sl 3 1 0 k].set 0 (.own 1 ((rowF k (D m)).map encN))) = (tkL irs a k).set m [PV.own 1 ((rowF k (D m)).map encN)] from List.set_set ..]
              exact set_self (tk_get ham hrM)) ?_
             refine Next.untake 1 a 0 rfl hs1 rfl rfl (by simp) rfl ?_
             refine Next.weak [0, 1] [] (by rfl) (keepsN hC _ rfl) (by repeat (first | exact trivial | refine ⟨⟨_, rfl, .inl ⟨rfl, rfl⟩⟩, ?_⟩ | refine ⟨⟨_, rfl, .inl ⟨slEq rfl tN, rfl⟩⟩, ?_⟩ | refine ⟨⟨_, rfl, .inl ⟨ivEq tX, rfl⟩⟩, ?_⟩)) (by exact ⟨ent_same rfl rfl rfl tL, ⟨ent_own rfl rfl (congrArg (fun r => some (Ob.refs 1 r)) ((List.set_set ..).trans (ownL_set ..))), trivial⟩⟩) (fun _ h => by simp at h) hK6
        ·have hae : a = i := by simp at hb; omega
         subst hae
         refine nK2 ?_
         refine s_reg rfl ?_
         refine rm 77 rfl rfl rfl ?_
         refine rp 78 rfl (op_add rfl (oT rfl) oC tI) ?_
         refine ra 8 rfl rfl rfl ?_
         refine rn ?_
         refine nK2 ?_
         refine Next.weak [0, 1] [] (by rfl) (keepsN hC _ rfl) (by repeat (first | exact trivial | refine ⟨⟨_, rfl, .inl ⟨rfl, rfl⟩⟩, ?_⟩ | refine ⟨⟨_, rfl, .inl ⟨slEq rfl tN, rfl⟩⟩, ?_⟩ | refine ⟨⟨_, rfl, .inl ⟨ivEq tX, rfl⟩⟩, ?_⟩)) (by exact ⟨ent_same rfl rfl rfl tL, ⟨ent_own rfl rfl rfl, trivial⟩⟩) (fun _ h => by simp at h) hK4
      ·have hme : m = i := by simp at hb; omega
       subst hme
       refine Next.freezeOwn 1 rfl rfl ?_
       refine nK2 ?_
       refine s_reg rfl ?_
       refine rm 161 rfl rfl rfl ?_
       refine ra 2 rfl rfl rfl ?_
       refine rn ?_
       refine nK2 ?_
       have hFl : (fzL 1 (rowsI (matF m (fwN g.es m)))).length = m := by rw [fzL_len, rowsI_len, matF_len]
       refine Next.weakS [] [2] (by rfl) (keeps0 hC _) (G' := [(2, .fz (VLL (matF m (fwN g.es m))))]) (H' := []) ⟨⟨_, rfl, .inr ⟨_, rfl, .sl _ _ _ _ _ _ rfl rfl ((take_all0 hFl).trans (fz_rowsI _)) (by rw [← fz_rowsI, hFl])⟩⟩, trivial⟩ trivial rfl ?_
       exact n_out1 rfl (by rfl) rfl rfl
end Go.Proofs.YtnkhlbljnmodbaaGreat
namespace Go.Proofs.YtnkhlbljnmodbaaGreat
open Go Go.RT Go.Proofs Go.Pl
set_option linter.all false
set_option maxRecDepth 20000
set_option maxHeartbeats 4000000
def dirP (g : Gr) (D : Nat → Nat → Int) (a v w : Nat) : Bool := decide (g.r ≤ (w : Int)) && ((costL a w g.es).2 && (costL w v g.es).2 && decide ((costL a w g.es).1 = D a w) && decide ((costL a w g.es).1 = D a v))
theorem direct_c (g : Gr) (D : Nat → Nat → Int) (a v : Nat) (d : Dst g D) (ha : a < g.m) (hv : v < g.m) : Pure Tryz.prog 63 [.agg (encG g), VLL (matF g.m D), If .i64 a, If .i64 v] (Bf (dirB g D a v)) := by
 have hl : g.es.length ≤ 2000000 := by have := d.vg.e1024; omega
 have hr0 := d.r0
 have h128 := d.vg.n128
 have hle := d.vg.le
 have hr : g.r = (g.r.toNat : Int) := by omega
 have hma := mat_row g.m D ha
 have hrv := row_row g.m (D a) hv
 have hca := rcost_c g a v hl
 have hml := matF_len g.m D
 refine Meets.intro Tryz.func63 rfl (Nat.le_of_ble_eq_true rfl) fun C hC => ?_
 simp only [List.map, argEnv, Nat.reduceAdd]
 refine nK ?_
 refine s_reg rfl ?_
 refine Run.eff (dd := some 4) rfl rfl (op_box_flat rfl (oT rfl) tC rfl) ?_
 refine rp 8 rfl (op_assign rfl oC) ?_
 refine rn ?_
 refine nK ?_
 refine s_reg rfl ?_
 refine rl 17 rfl (op_loadw_flat rfl (oT rfl) tH rfl) ?_
 refine rm 18 rfl rfl rfl ?_
 refine rm 19 rfl rfl rfl ?_
 refine rp 20 rfl (op_call_pure (fun _ => hca) rfl (Opd.func _) (oS (oT rfl) (oS (oT rfl) (oS (oT rfl) Opds.nil)))) ?_
 refine rm 16 rfl rfl rfl ?_
 refine rp 21 rfl (op_extract_fz rfl (oT rfl) rfl) ?_
 refine rp 22 rfl (op_extract_fz rfl (oT rfl) rfl) ?_
 refine ra 9 rfl rfl rfl ?_
 refine ra 10 rfl rfl rfl ?_
 refine rn ?_
 refine nK ?_
 refine s_reg rfl ?_
 refine rm 23 rfl rfl rfl ?_
 refine rm 24 rfl rfl rfl ?_
 refine gm 25 rfl rfl tG rfl rfl ?_
 refine gm 26 rfl rfl tG rfl rfl ?_
 refine gm 27 rfl rfl tG rfl rfl ?_
 refine rg 28 rfl rfl tG (op_idx_fz a rfl (oO rfl tO) (oO rfl tO) (by intro _; exact ⟨rfl, hma⟩)) ?_
 refine rg 29 rfl rfl tG (op_load1_fz rfl (oO rfl tO) rfl) ?_
 refine gm 30 rfl rfl tG rfl rfl ?_
 refine rg 31 rfl rfl tG (op_idx_fz v rfl (oO rfl tO) (oO rfl tO) (by intro _; exact ⟨rfl, hrv⟩)) ?_
 refine rg 32 rfl rfl tG (op_load1_fz rfl (oO rfl tO) rfl) ?_
 refine rg 33 rfl rfl tG (op_eql rfl (oO rfl tO) (oO rfl tO)) ?_
 refine rp 34 rfl (op_pick_and rfl (oT rfl) (oO rfl tO)) ?_
 refine rn ?_
 refine nK ?_
 refine n_cond _ rfl (fun hb => ?_) (fun hb => ?_)
 ·rw [show dirB g D a v = true from by unfold dirB; exact Bool.or_eq_true_iff.2 (.inl hb)]
  refine nK ?_
  refine s_reg rfl ?_
  refine rp 8 rfl (op_assign rfl oC) ?_
  refine rn ?_
  refine nK ?_
  (first | exact s_o1 hC rfl tV | exact s_o2 hC rfl tV tV | exact s_o3 hC rfl tV tV tV | exact s_out0 hC rfl | exact s_outO hC rfl rfl rfl)
 ·have hb1 := hb
  refine nK ?_
  refine s_reg rfl ?_
  refine rm 35 rfl rfl rfl ?_
  refine rp 36 rfl (op_fld_ptr (by decide) rfl (oT rfl)) ?_
  refine rl 37 rfl (op_load1_flat rfl (oT rfl) tH rfl) ?_
  refine rp 38 rfl (op_geq rfl (oT rfl) (oT rfl)) ?_
  refine rn ?_
  refine nK ?_
  refine n_cond _ rfl (fun hb => ?_) (fun hb => ?_)
  ·rw [show dirB g D a v = false from by
    unfold dirB
    have : decide ((v : Int) < g.r) = false := by simp at hb ⊢; omega
    rw [this, Bool.false_and, Bool.or_false]; exact hb1]
   refine nK ?_
   refine s_reg rfl ?_
   refine rp 8 rfl (op_assign rfl oC) ?_
   refine rn ?_
   refine nK ?_
   (first | exact s_o1 hC rfl tV | exact s_o2 hC rfl tV tV | exact s_o3 hC rfl tV tV tV | exact s_out0 hC rfl | exact s_outO hC rfl rfl rfl)
  ·have hvr : (v : Int) < g.r := by simp at hb; omega
   have hdir : dirB g D a v = (List.range g.m).any (dirP g D a v) := by
    unfold dirB
    rw [show decide ((v : Int) < g.r) = true by simpa using hvr, Bool.true_and]
    exact (congrArg (fun x => x || _) hb1).trans (Bool.false_or _)
   clear hb hb1
   rw [hdir]
   refine nK ?_
   refine s_reg rfl ?_
   refine rp 39 rfl (op_fld_ptr (by decide) rfl (oT rfl)) ?_
   refine rl 40 rfl (op_load1_flat rfl (oT rfl) tH rfl) ?_
   refine ra 11 rfl rfl rfl ?_
   refine rn ?_
   refine nK ?_
   refine n_loop (ι := Nat) (fun w => ([(1, .fz (VLL (matF g.m D))), (2, IV .i64 a), (3, IV .i64 v), (4, .ptr 0 3 0 0), (11, IV .i64 w)], [(0, OG g)], 1)) (fun w => g.r.toNat ≤ w ∧ w ≤ g.m ∧ ∀ x, x < w → dirP g D a v x = false) (fun w => g.m - w) g.r.toNat ⟨Nat.le_refl _, hle, fun x hx => by
    unfold dirP
    rw [show decide (g.r ≤ (x : Int)) = false by simp; omega, Bool.false_and]⟩ ?_ ?_
   ·refine Next.weak [0] [] (by rfl) (keepsN hC _ rfl) (by repeat (first | exact trivial | refine ⟨⟨_, rfl, .inl ⟨rfl, rfl⟩⟩, ?_⟩ | refine ⟨⟨_, rfl, .inl ⟨slEq rfl tN, rfl⟩⟩, ?_⟩ | refine ⟨⟨_, rfl, .inl ⟨ivEq tX, rfl⟩⟩, ?_⟩)) (by exact ⟨ent_same rfl rfl rfl tL, trivial⟩) (fun _ h => by simp at h) rel_intro
   ·intro w ⟨hw1, hw2, hno⟩ K hK
    try dsimp only at hw1 hw2 hno hK ⊢
    refine nK ?_
    refine s_reg rfl ?_
    refine rm 41 rfl rfl rfl ?_
    refine rm 42 rfl rfl rfl ?_
    refine rp 43 rfl (op_len_fz rfl (by first | exact Opd.tmp _ _ rfl | exact Opd.nil _ _ (oT rfl)) (by first | exact List.length_map _ | rfl)) ?_
    refine rp 44 rfl (op_lss rfl (oT rfl) (oT rfl)) ?_
    refine rn ?_
    refine nK ?_
    refine n_cond _ rfl (fun hb => ?_) (fun hb => ?_)
    ·have hlw : w < g.m := by rw [hml] at hb; have := of_decide_eq_true hb; omega
     have hrw := row_row g.m (D a) hlw
     have hc1 := rcost_c g a w hl
     have hc2 := rcost_c g w v hl
     have hK1 := fun (h : dirP g D a v w = false) => hK (w + 1) ⟨by omega, by omega, fun x hx => by
      rcases Nat.lt_or_ge x w with h1 | h1
      ·exact hno x h1
      ·rw [show x = w by omega]; exact h⟩ (by omega)
     clear hK hb
     have hgr : decide (g.r ≤ (w : Int)) = true := by simp; omega
     refine nK ?_
     refine s_reg rfl ?_
     refine rl 48 rfl (op_loadw_flat rfl (oT rfl) tH rfl) ?_
     refine rm 49 rfl rfl rfl ?_
     refine rm 50 rfl rfl rfl ?_
     refine rp 51 rfl (op_call_pure (fun _ => hc1) rfl (Opd.func _) (oS (oT rfl) (oS (oT rfl) (oS (oT rfl) Opds.nil)))) ?_
     refine rm 47 rfl rfl rfl ?_
     refine rp 52 rfl (op_extract_fz rfl (oT rfl) rfl) ?_
     refine rp 53 rfl (op_extract_fz rfl (oT rfl) rfl) ?_
     refine ra 12 rfl rfl rfl ?_
     refine ra 13 rfl rfl rfl ?_
     refine rn ?_
     refine nK ?_
     refine s_reg rfl ?_
     refine rl 55 rfl (op_loadw_flat rfl (oT rfl) tH rfl) ?_
     refine rm 56 rfl rfl rfl ?_
     refine rm 57 rfl rfl rfl ?_
     refine rp 58 rfl (op_call_pure (fun _ => hc2) rfl (Opd.func _) (oS (oT rfl) (oS (oT rfl) (oS (oT rfl) Opds.nil)))) ?_
     refine rm 54 rfl rfl rfl ?_
     refine rp 59 rfl (op_extract_fz rfl (oT rfl) rfl) ?_
     refine rp 60 rfl (op_extract_fz rfl (oT rfl) rfl) ?_
     refine ra 14 rfl rfl rfl ?_
     refine ra 15 rfl rfl rfl ?_
     refine rn ?_
     refine nK ?_
     refine s_reg rfl ?_
     refine rm 61 rfl rfl rfl ?_
     refine rm 62 rfl rfl rfl ?_
     refine gm 63 rfl rfl tG rfl rfl ?_
     refine rp 64 rfl (op_pick_and rfl (oT rfl) (oO rfl tO)) ?_
     refine rm 65 rfl rfl rfl ?_
     refine gm 66 rfl rfl tG rfl rfl ?_
     refine gm 67 rfl rfl tG rfl rfl ?_
     refine gm 68 rfl rfl tG rfl rfl ?_
     refine rg 69 rfl rfl tG (op_idx_fz a rfl (oO rfl tO) (oO rfl tO) (by intro _; exact ⟨rfl, hma⟩)) ?_
     refine rg 70 rfl rfl tG (op_load1_fz rfl (oO rfl tO) rfl) ?_
     refine gm 71 rfl rfl tG rfl rfl ?_
     refine rg 72 rfl rfl tG (op_idx_fz w rfl (oO rfl tO) (oO rfl tO) (by intro _; exact ⟨rfl, hrw⟩)) ?_
     refine rg 73 rfl rfl tG (op_load1_fz rfl (oO rfl tO) rfl) ?_
     refine rg 74 rfl rfl tG (op_eql rfl (oO rfl tO) (oO rfl tO)) ?_
     refine rp 75 rfl (op_pick_and rfl (oT rfl) (oO rfl tO)) ?_
     refine rm 76 rfl rfl rfl ?_
     refine gm 77 rfl rfl tG rfl rfl ?_
     refine gm 78 rfl rfl tG rfl rfl ?_
     refine gm 79 rfl rfl tG rfl rfl ?_
     refine rg 80 rfl rfl tG (op_idx_fz a rfl (oO rfl tO) (oO rfl tO) (by intro _; exact ⟨rfl, hma⟩)) ?_
     refine rg 81 rfl rfl tG (op_load1_fz rfl (oO rfl tO) rfl) ?_
     refine gm 82 rfl rfl tG rfl rfl ?_
     refine rg 83 rfl rfl tG (op_idx_fz v rfl (oO rfl tO) (oO rfl tO) (by intro _; exact ⟨rfl, hrv⟩)) ?_
     refine rg 84 rfl rfl tG (op_load1_fz rfl (oO rfl tO) rfl) ?_
     refine rg 85 rfl rfl tG (op_eql rfl (oO rfl tO) (oO rfl tO)) ?_
     refine rp 86 rfl (op_pick_and rfl (oT rfl) (oO rfl tO)) ?_
     refine rn ?_
     refine nK ?_
     refine n_cond _ rfl (fun hb => ?_) (fun hb => ?_)
     ·rw [show (List.range g.m).any (dirP g D a v) = true from List.any_eq_true.2 ⟨w, List.mem_range.2 hlw, by unfold dirP; rw [hgr]; exact hb⟩]
      refine nK ?_
      refine s_reg rfl ?_
      refine rp 8 rfl (op_assign rfl oC) ?_
      refine rn ?_
      refine nK ?_
      (first | exact s_o1 hC rfl tV | exact s_o2 hC rfl tV tV | exact s_o3 hC rfl tV tV tV | exact s_out0 hC rfl | exact s_outO hC rfl rfl rfl)
     ·refine nK ?_
      refine s_reg rfl ?_
      refine rm 45 rfl rfl rfl ?_
      refine rp 46 rfl (op_add rfl (oT rfl) oC tI) ?_
      refine ra 11 rfl rfl rfl ?_
      refine rn ?_
      refine nK ?_
      refine Next.weak [0] [] (by rfl) (keepsN hC _ rfl) (by repeat (first | exact trivial | refine ⟨⟨_, rfl, .inl ⟨rfl, rfl⟩⟩, ?_⟩ | refine ⟨⟨_, rfl, .inl ⟨slEq rfl tN, rfl⟩⟩, ?_⟩ | refine ⟨⟨_, rfl, .inl ⟨ivEq tX, rfl⟩⟩, ?_⟩)) (by exact ⟨ent_same rfl rfl rfl tL, trivial⟩) (fun _ h => by simp at h) (hK1 (by unfold dirP; rw [hgr]; exact hb))
    ·have hwe : w = g.m := by rw [hml] at hb; have := of_decide_eq_false hb; omega
     rw [show (List.range g.m).any (dirP g D a v) = false from by
      rw [List.any_eq_false]
      intro x hx
      rw [hno x (by have := List.mem_range.1 hx; omega)]; simp]
     refine nK ?_
     refine s_reg rfl ?_
     refine rp 8 rfl (op_assign rfl oC) ?_
     refine rn ?_
     refine nK ?_
     (first | exact s_o1 hC rfl tV | exact s_o2 hC rfl tV tV | exact s_o3 hC rfl tV tV tV | exact s_out0 hC rfl | exact s_outO hC rfl rfl rfl)
end Go.Proofs.YtnkhlbljnmodbaaGreat
namespace Go.Proofs.YtnkhlbljnmodbaaGreat
open Go Go.RT Go.Proofs Go.Pl
set_option linter.all false
set_option maxRecDepth 20000
set_option maxHeartbeats 4000000
/-- rows up to the v-th -/
def preL (n : Nat) (f : Nat → List Int) (v : Nat) : List (List Int) := (List.range n).map fun w => if w < v then f w else []
theorem preL_len (n : Nat) (f : Nat → List Int) (v : Nat) : (preL n f v).length = n := rng_len n _
theorem preL_0 (n : Nat) (f : Nat → List Int) : preL n f 0 = List.replicate n [] := by rw [rng_const]; exact rng_same n _ _ fun w _ => by simp
theorem preL_n (n : Nat) (f : Nat → List Int) : preL n f n = (List.range n).map f := rng_same n _ _ fun w hw => by simp [hw]
theorem preL_set (n : Nat) (f : Nat → List Int) (v : Nat) : (preL n f v).set v (f v) = preL n f (v + 1) := rng_set n _ _ v _ (by simp) (fun w hw => by
  by_cases h : w < v
  ·rw [if_pos h, if_pos (by omega)]
  ·rw [if_neg h, if_neg (by omega)])
theorem preL_skip {n : Nat} {f : Nat → List Int} {v : Nat} (h : f v = []) : preL n f v = preL n f (v + 1) := rng_same n _ _ fun w _ => by
 by_cases h1 : w < v
 ·rw [if_pos h1, if_pos (by omega)]
 ·by_cases h2 : w = v
  ·subst h2; rw [if_neg h1, if_pos (by omega), h]
  ·rw [if_neg h1, if_neg (by omega)]
theorem preL_nil {n : Nat} {f : Nat → List Int} {v : Nat} (h : v < n) : (preL n f v).set v [] = preL n f v := set_self (by simp [preL, h])
theorem set_at {ll : List (List Int)} {v : Nat} {l : List Int} (h : v < ll.length) : (ll.set v l).getD v [] = l := by simp [List.getD_eq_getElem?_getD, h]
theorem setI_set {ll : List (List Int)} {v : Nat} {l l' : List Int} : (rowsI (ll.set v l)).set v (l'.map encN) = rowsI (ll.set v l') := by rw [rowsI_set, List.set_set]
theorem cost_bnd {es : List Edg} {r n : Nat} (vg : VG es r n) (f t : Int) : 0 ≤ (costL f t es).1 ∧ (costL f t es).1 ≤ 65535 := by
 cases h : (costL f t es).2 with
 | true =>
  obtain ⟨e, he, _, _, h3⟩ := (cost_yes vg.asc).1 h
  rw [← h3]; exact vg.c e he
 | false =>
  have : ∀ l : List Edg, (costL f t l).2 = false → (costL f t l).1 = 0 := fun l => by
   induction l with
   | nil => intro _; rfl
   | cons x l ih =>
    simp only [costL]
    split
    ·simp
    ·exact ih
  rw [this es h]; omega
theorem take_filter {α : Type} (p : α → Bool) (l : List α) (i : Nat) (h : i < l.length) : (l.take (i + 1)).filter p = (l.take i).filter p ++ if p l[i] = true then [l[i]] else [] := by
 rw [List.take_succ_eq_append_getElem h, List.filter_append]
 congr 1
 by_cases h1 : p l[i] = true <;> simp [h1]
theorem rrun_c (g : Gr) (a : Nat) (hok : okG g) (hg : checkI g = 0) (har : (a : Int) < g.r) : Pure Tryz.prog 39 [.agg (encG g), If .i64 a] (.tup [.agg (encTr (refT g (disF g.es g.m) a)), If .i64 0]) := by
 have d := dst_of hg
 have hdc := rdist_c g hg
 have hm : g.m = (g.r + g.n).toNat := rfl
 have hn0 := (checkI_vg hg).2.2
 have hr0 := d.r0
 have h128 := d.vg.n128
 have hel := d.vg.e1024
 have ha : a < g.m := by omega
 generalize hDD : disF g.es g.m = D at *
 clear hDD hm
 have hma := mat_row g.m D ha
 have hml := matF_len g.m D
 have hrl := rowF_len g.m (D a)
 have hcb := fun f t => cost_bnd d.vg f t
 have hdb := fun i k (hi : i < g.m) (hk : k < g.m) => d.bnd hi hk
 have hel2 : g.es.length ≤ 2000000 := by omega
 refine Meets.intro Tryz.func39 rfl (Nat.le_of_ble_eq_true rfl) fun C hC => ?_
 simp only [List.map, argEnv, Nat.reduceAdd]
 refine nK2 ?_
 refine s_reg rfl ?_
 refine Run.eff (dd := some 2) rfl rfl (op_box_flat rfl (oT rfl) tC rfl) ?_
 refine Run.eff (dd := some 4) rfl rfl (op_alloc rfl rfl rfl rfl) ?_
 refine rp 5 rfl (op_assign rfl oC) ?_
 refine rn ?_
 refine nK2 ?_
 refine s_reg rfl ?_
 refine rl 18 rfl (op_loadw_flat rfl (oT rfl) tH rfl) ?_
 refine rp 19 rfl (op_call_pure (fun _ => rcheck_c _ (by assumption)) rfl (Opd.func _) (oS (oT rfl) Opds.nil)) ?_
 refine ra 6 rfl rfl rfl ?_
 refine rn ?_
 refine nK2 ?_
 refine s_reg rfl ?_
 refine rm 20 rfl rfl rfl ?_
 refine rp 21 rfl (op_neq rfl (oT rfl) oC) ?_
 refine rn ?_
 refine nK2 ?_
 refine n_cond _ rfl (fun hb => ?_) (fun hb => ?_)
 ·simp at hb; omega
 ·refine nK2 ?_
  refine s_reg rfl ?_
  refine rm 24 rfl rfl rfl ?_
  refine rp 25 rfl (op_lss rfl (oT rfl) oC) ?_
  refine rm 26 rfl rfl rfl ?_
  refine gm 27 rfl rfl tG rfl rfl ?_
  refine rg 28 rfl rfl tG (op_fld_ptr (by decide) rfl (oT rfl)) ?_
  refine rk 29 rfl rfl tG (op_load1_flat rfl (oO rfl tO) tH rfl) ?_
  refine rg 30 rfl rfl tG (op_geq rfl (oO rfl tO) (oO rfl tO)) ?_
  refine rp 31 rfl (op_pick_or rfl (oT rfl) (oO rfl tO)) ?_
  refine rn ?_
  refine nK2 ?_
  refine n_cond _ rfl (fun hb => ?_) (fun hb => ?_)
  ·simp at hb; omega
  ·clear hb
   refine nK2 ?_
   refine s_reg rfl ?_
   refine rl 33 rfl (op_loadw_flat rfl (oT rfl) tH rfl) ?_
   refine rp 34 rfl (op_call_pure (fun _ => hdc) rfl (Opd.func _) (oS (oT rfl) Opds.nil)) ?_
   refine ra 7 rfl rfl rfl ?_
   refine rn ?_
   refine nK2 ?_
   refine s_reg rfl ?_
   refine rm 35 rfl rfl rfl ?_
   refine rp 36 rfl (op_len_fz rfl (by first | exact Opd.tmp _ _ rfl | exact Opd.nil _ _ (oT rfl)) (by first | exact List.length_map _ | rfl)) ?_
   refine ra 8 rfl rfl rfl ?_
   refine rn ?_
   refine nK2 ?_
   refine Next.weak [0, 1] [] (by rfl) (keepsN hC _ rfl) (G' := [(1, IV .i64 a), (2, .ptr 0 3 0 0), (4, .ptr 1 4 0 0), (7, .fz (VLL (matF g.m D))), (8, IV .i64 g.m)]) (H' := [(0, OG g), (1, OTr zeroT)]) (by exact ⟨⟨_, rfl, .inl ⟨rfl, rfl⟩⟩, ⟨_, rfl, .inl ⟨rfl, rfl⟩⟩, ⟨_, rfl, .inl ⟨rfl, rfl⟩⟩, ⟨_, rfl, .inl ⟨rfl, rfl⟩⟩, ⟨_, rfl, .inl ⟨ivEq (by rw [hml]), rfl⟩⟩, trivial⟩) (by exact ⟨ent_same rfl rfl rfl tL, ⟨⟨rfl, rfl, .fflat _ _ _ rfl tW⟩, trivial⟩⟩) (fun _ h => by simp at h) ?_
   refine nK2 ?_
   refine draw_y [(1, IV .i64 a), (2, .ptr 0 3 0 0), (4, .ptr 1 4 0 0), (7, .fz (VLL (matF g.m D))), (8, IV .i64 g.m), (9, .ptr 2 4 0 0)] [(0, OG g), (1, OTr zeroT), (2, some (.refs 4 [[.fz (If .i64 a), .fz (VI (rowF g.m (D a))), .sl 3 1 0 g.m, .sl 4 1 0 g.m]])), (3, some (.flat 1 (List.replicate g.m [.lit (.slice none 0 0)]))), (4, some (.flat 1 (List.replicate g.m [.lit (.slice none 0 0)])))] 5 mixed (fun hK => ?_) ?_
   ·skip
    refine AnyY.virt (by kernel_rfl) 0 rfl (op_move rfl (oT rfl)) (by kernel_rfl) rfl (fun t h => by cases h; rfl) ?_
    refine AnyY.virt (by kernel_rfl) 1 rfl (op_move rfl (oT rfl)) (by kernel_rfl) rfl (fun t h => by cases h; rfl) ?_
    refine AnyY.virt (by kernel_rfl) 2 rfl (op_move rfl (oT rfl)) (by kernel_rfl) rfl (fun t h => by cases h; rfl) ?_
    refine AnyY.virt (by kernel_rfl) 3 rfl (op_idx_fz a rfl (oT rfl) (oT rfl) (by intro _; exact ⟨rfl, hma⟩)) (by kernel_rfl) rfl (fun t h => by cases h; rfl) ?_
    refine AnyY.virt (by kernel_rfl) 4 rfl (op_load1_fz rfl (oT rfl) rfl) (by kernel_rfl) rfl (fun t h => by cases h; rfl) ?_
    refine AnyY.virt (by kernel_rfl) 5 rfl (op_move rfl (oT rfl)) (by kernel_rfl) rfl (fun t h => by cases h; rfl) ?_
    refine AnyY.virt (by kernel_rfl) 7 rfl (op_move rfl (oT rfl)) (by kernel_rfl) rfl (fun t h => by cases h; rfl) ?_
    refine AnyY.three 6 8 10 (by kernel_rfl) rfl (by kernel_rfl) (StepY.mk rfl (op_make (l := g.m) (c := g.m) rfl (oT rfl) (oT rfl) rfl rfl rfl rfl (by intro _; refine ⟨rfl, rfl, ?_⟩; omega)) (fun t h => by cases h; rfl) ?_) (StepY.mk rfl (op_make (l := g.m) (c := g.m) rfl (oT rfl) (oT rfl) rfl rfl rfl rfl (by intro _; refine ⟨rfl, rfl, ?_⟩; omega)) (fun t h => by cases h; rfl) ?_) (StepY.mk rfl (op_alloc rfl rfl rfl rfl) (fun t h => by cases h; rfl) ?_)
    ·skip
     refine AnyY.two 8 10 (by kernel_rfl) rfl (by kernel_rfl) (StepY.mk rfl (op_make (l := g.m) (c := g.m) rfl (oT rfl) (oT rfl) rfl rfl rfl rfl (by intro _; refine ⟨rfl, rfl, ?_⟩; omega)) (fun t h => by cases h; rfl) ?_) (StepY.mk rfl (op_alloc rfl rfl rfl rfl) (fun t h => by cases h; rfl) ?_)
     ·skip
      refine AnyY.virt (by kernel_rfl) 9 rfl (op_buildP rfl rfl rfl rfl (FillP.cons _ _ _ _ _ _ _ _ _ _ (by rfl) (oT rfl) tP (by rfl) tR (FillP.cons _ _ _ _ _ _ _ _ _ _ (by rfl) (oT rfl) tP (by rfl) tR (FillP.cons _ _ _ _ _ _ _ _ _ _ (by rfl) (oT rfl) tP (by rfl) tR (FillP.cons _ _ _ _ _ _ _ _ _ _ (by rfl) (oT rfl) tP (by rfl) tR (FillP.nil _)))))) (by kernel_rfl) rfl (fun t h => by cases h; rfl) ?_
      refine AnyY.one 10 (by kernel_rfl) rfl (by kernel_rfl) (StepY.mk rfl (op_alloc rfl rfl rfl rfl) (fun t h => by cases h; rfl) ?_)
      refine AnyY.toRefs 4 rfl rfl ?_
      refine AnyY.one 11 (by kernel_rfl) rfl (by kernel_rfl) (StepY.mk rfl (op_store_refs rfl (oT rfl) (oT rfl) tP rfl rfl rfl tS) (fun t h => by cases h) ?_)
      refine AnyY.nil (by kernel_rfl) rfl (by kernel_rfl) ?_
      exact Next.weak [0, 1, 4, 2, 3] [] (by rfl) (keepsN hC _ rfl) (by repeat (first | exact trivial | refine ⟨⟨_, rfl, .inl ⟨rfl, rfl⟩⟩, ?_⟩ | refine ⟨⟨_, rfl, .inl ⟨slEq rfl tN, rfl⟩⟩, ?_⟩ | refine ⟨⟨_, rfl, .inl ⟨ivEq tX, rfl⟩⟩, ?_⟩)) (by exact ⟨ent_same rfl rfl rfl tL, ⟨ent_same rfl rfl rfl tL, ⟨ent_same rfl rfl rfl tL, ⟨ent_same rfl rfl rfl tL, ⟨ent_same rfl rfl rfl tL, trivial⟩⟩⟩⟩⟩) (fun _ h => by simp at h) hK
     ·skip
      refine AnyY.one 8 (by kernel_rfl) rfl (by kernel_rfl) (StepY.mk rfl (op_make (l := g.m) (c := g.m) rfl (oT rfl) (oT rfl) rfl rfl rfl rfl (by intro _; refine ⟨rfl, rfl, ?_⟩; omega)) (fun t h => by cases h; rfl) ?_)
      refine AnyY.virt (by kernel_rfl) 9 rfl (op_buildP rfl rfl rfl rfl (FillP.cons _ _ _ _ _ _ _ _ _ _ (by rfl) (oT rfl) tP (by rfl) tR (FillP.cons _ _ _ _ _ _ _ _ _ _ (by rfl) (oT rfl) tP (by rfl) tR (FillP.cons _ _ _ _ _ _ _ _ _ _ (by rfl) (oT rfl) tP (by rfl) tR (FillP.cons _ _ _ _ _ _ _ _ _ _ (by rfl) (oT rfl) tP (by rfl) tR (FillP.nil _)))))) (by kernel_rfl) rfl (fun t h => by cases h; rfl) ?_
      refine AnyY.toRefs 3 rfl rfl ?_
      refine AnyY.one 11 (by kernel_rfl) rfl (by kernel_rfl) (StepY.mk rfl (op_store_refs rfl (oT rfl) (oT rfl) tP rfl rfl rfl tS) (fun t h => by cases h) ?_)
      refine AnyY.nil (by kernel_rfl) rfl (by kernel_rfl) ?_
      exact Next.weak [0, 1, 3, 2, 4] [] (by rfl) (keepsN hC _ rfl) (by repeat (first | exact trivial | refine ⟨⟨_, rfl, .inl ⟨rfl, rfl⟩⟩, ?_⟩ | refine ⟨⟨_, rfl, .inl ⟨slEq rfl tN, rfl⟩⟩, ?_⟩ | refine ⟨⟨_, rfl, .inl ⟨ivEq tX, rfl⟩⟩, ?_⟩)) (by exact ⟨ent_same rfl rfl rfl tL, ⟨ent_same rfl rfl rfl tL, ⟨ent_same rfl rfl rfl tL, ⟨ent_same rfl rfl rfl tL, ⟨ent_same rfl rfl rfl tL, trivial⟩⟩⟩⟩⟩) (fun _ h => by simp at h) hK
    ·skip
     refine AnyY.two 6 10 (by kernel_rfl) rfl (by kernel_rfl) (StepY.mk rfl (op_make (l := g.m) (c := g.m) rfl (oT rfl) (oT rfl) rfl rfl rfl rfl (by intro _; refine ⟨rfl, rfl, ?_⟩; omega)) (fun t h => by cases h; rfl) ?_) (StepY.mk rfl (op_alloc rfl rfl rfl rfl) (fun t h => by cases h; rfl) ?_)
     ·skip
      refine AnyY.virt (by kernel_rfl) 9 rfl (op_buildP rfl rfl rfl rfl (FillP.cons _ _ _ _ _ _ _ _ _ _ (by rfl) (oT rfl) tP (by rfl) tR (FillP.cons _ _ _ _ _ _ _ _ _ _ (by rfl) (oT rfl) tP (by rfl) tR (FillP.cons _ _ _ _ _ _ _ _ _ _ (by rfl) (oT rfl) tP (by rfl) tR (FillP.cons _ _ _ _ _ _ _ _ _ _ (by rfl) (oT rfl) tP (by rfl) tR (FillP.nil _)))))) (by kernel_rfl) rfl (fun t h => by cases h; rfl) ?_
      refine AnyY.one 10 (by kernel_rfl) rfl (by kernel_rfl) (StepY.mk rfl (op_alloc rfl rfl rfl rfl) (fun t h => by cases h; rfl) ?_)
      refine AnyY.toRefs 4 rfl rfl ?_
      refine AnyY.one 11 (by kernel_rfl) rfl (by kernel_rfl) (StepY.mk rfl (op_store_refs rfl (oT rfl) (oT rfl) tP rfl rfl rfl tS) (fun t h => by cases h) ?_)
      refine AnyY.nil (by kernel_rfl) rfl (by kernel_rfl) ?_
      exact Next.weak [0, 1, 4, 3, 2] [] (by rfl) (keepsN hC _ rfl) (by repeat (first | exact trivial | refine ⟨⟨_, rfl, .inl ⟨rfl, rfl⟩⟩, ?_⟩ | refine ⟨⟨_, rfl, .inl ⟨slEq rfl tN, rfl⟩⟩, ?_⟩ | refine ⟨⟨_, rfl, .inl ⟨ivEq tX, rfl⟩⟩, ?_⟩)) (by exact ⟨ent_same rfl rfl rfl tL, ⟨ent_same rfl rfl rfl tL, ⟨ent_same rfl rfl rfl tL, ⟨ent_same rfl rfl rfl tL, ⟨ent_same rfl rfl rfl tL, trivial⟩⟩⟩⟩⟩) (fun _ h => by simp at h) hK
     ·skip
      refine AnyY.one 6 (by kernel_rfl) rfl (by kernel_rfl) (StepY.mk rfl (op_make (l := g.m) (c := g.m) rfl (oT rfl) (oT rfl) rfl rfl rfl rfl (by intro _; refine ⟨rfl, rfl, ?_⟩; omega)) (fun t h => by cases h; rfl) ?_)
      refine AnyY.virt (by kernel_rfl) 9 rfl (op_buildP rfl rfl rfl rfl (FillP.cons _ _ _ _ _ _ _ _ _ _ (by rfl) (oT rfl) tP (by rfl) tR (FillP.cons _ _ _ _ _ _ _ _ _ _ (by rfl) (oT rfl) tP (by rfl) tR (FillP.cons _ _ _ _ _ _ _ _ _ _ (by rfl) (oT rfl) tP (by rfl) tR (FillP.cons _ _ _ _ _ _ _ _ _ _ (by rfl) (oT rfl) tP (by rfl) tR (FillP.nil _)))))) (by kernel_rfl) rfl (fun t h => by cases h; rfl) ?_
      refine AnyY.toRefs 3 rfl rfl ?_
      refine AnyY.one 11 (by kernel_rfl) rfl (by kernel_rfl) (StepY.mk rfl (op_store_refs rfl (oT rfl) (oT rfl) tP rfl rfl rfl tS) (fun t h => by cases h) ?_)
      refine AnyY.nil (by kernel_rfl) rfl (by kernel_rfl) ?_
      exact Next.weak [0, 1, 3, 4, 2] [] (by rfl) (keepsN hC _ rfl) (by repeat (first | exact trivial | refine ⟨⟨_, rfl, .inl ⟨rfl, rfl⟩⟩, ?_⟩ | refine ⟨⟨_, rfl, .inl ⟨slEq rfl tN, rfl⟩⟩, ?_⟩ | refine ⟨⟨_, rfl, .inl ⟨ivEq tX, rfl⟩⟩, ?_⟩)) (by exact ⟨ent_same rfl rfl rfl tL, ⟨ent_same rfl rfl rfl tL, ⟨ent_same rfl rfl rfl tL, ⟨ent_same rfl rfl rfl tL, ⟨ent_same rfl rfl rfl tL, trivial⟩⟩⟩⟩⟩) (fun _ h => by simp at h) hK
    ·skip
     refine AnyY.two 6 8 (by kernel_rfl) rfl (by kernel_rfl) (StepY.mk rfl (op_make (l := g.m) (c := g.m) rfl (oT rfl) (oT rfl) rfl rfl rfl rfl (by intro _; refine ⟨rfl, rfl, ?_⟩; omega)) (fun t h => by cases h; rfl) ?_) (StepY.mk rfl (op_make (l := g.m) (c := g.m) rfl (oT rfl) (oT rfl) rfl rfl rfl rfl (by intro _; refine ⟨rfl, rfl, ?_⟩; omega)) (fun t h => by cases h; rfl) ?_)
     ·skip
      refine AnyY.one 8 (by kernel_rfl) rfl (by kernel_rfl) (StepY.mk rfl (op_make (l := g.m) (c := g.m) rfl (oT rfl) (oT rfl) rfl rfl rfl rfl (by intro _; refine ⟨rfl, rfl, ?_⟩; omega)) (fun t h => by cases h; rfl) ?_)
      refine AnyY.virt (by kernel_rfl) 9 rfl (op_buildP rfl rfl rfl rfl (FillP.cons _ _ _ _ _ _ _ _ _ _ (by rfl) (oT rfl) tP (by rfl) tR (FillP.cons _ _ _ _ _ _ _ _ _ _ (by rfl) (oT rfl) tP (by rfl) tR (FillP.cons _ _ _ _ _ _ _ _ _ _ (by rfl) (oT rfl) tP (by rfl) tR (FillP.cons _ _ _ _ _ _ _ _ _ _ (by rfl) (oT rfl) tP (by rfl) tR (FillP.nil _)))))) (by kernel_rfl) rfl (fun t h => by cases h; rfl) ?_
      refine AnyY.toRefs 2 rfl rfl ?_
      refine AnyY.one 11 (by kernel_rfl) rfl (by kernel_rfl) (StepY.mk rfl (op_store_refs rfl (oT rfl) (oT rfl) tP rfl rfl rfl tS) (fun t h => by cases h) ?_)
      refine AnyY.nil (by kernel_rfl) rfl (by kernel_rfl) ?_
      exact Next.weak [0, 1, 2, 3, 4] [] (by rfl) (keepsN hC _ rfl) (by repeat (first | exact trivial | refine ⟨⟨_, rfl, .inl ⟨rfl, rfl⟩⟩, ?_⟩ | refine ⟨⟨_, rfl, .inl ⟨slEq rfl tN, rfl⟩⟩, ?_⟩ | refine ⟨⟨_, rfl, .inl ⟨ivEq tX, rfl⟩⟩, ?_⟩)) (by exact ⟨ent_same rfl rfl rfl tL, ⟨ent_same rfl rfl rfl tL, ⟨ent_same rfl rfl rfl tL, ⟨ent_same rfl rfl rfl tL, ⟨ent_same rfl rfl rfl tL, trivial⟩⟩⟩⟩⟩) (fun _ h => by simp at h) hK
     ·skip
      refine AnyY.one 6 (by kernel_rfl) rfl (by kernel_rfl) (StepY.mk rfl (op_make (l := g.m) (c := g.m) rfl (oT rfl) (oT rfl) rfl rfl rfl rfl (by intro _; refine ⟨rfl, rfl, ?_⟩; omega)) (fun t h => by cases h; rfl) ?_)
      refine AnyY.virt (by kernel_rfl) 9 rfl (op_buildP rfl rfl rfl rfl (FillP.cons _ _ _ _ _ _ _ _ _ _ (by rfl) (oT rfl) tP (by rfl) tR (FillP.cons _ _ _ _ _ _ _ _ _ _ (by rfl) (oT rfl) tP (by rfl) tR (FillP.cons _ _ _ _ _ _ _ _ _ _ (by rfl) (oT rfl) tP (by rfl) tR (FillP.cons _ _ _ _ _ _ _ _ _ _ (by rfl) (oT rfl) tP (by rfl) tR (FillP.nil _)))))) (by kernel_rfl) rfl (fun t h => by cases h; rfl) ?_
      refine AnyY.toRefs 2 rfl rfl ?_
      refine AnyY.one 11 (by kernel_rfl) rfl (by kernel_rfl) (StepY.mk rfl (op_store_refs rfl (oT rfl) (oT rfl) tP rfl rfl rfl tS) (fun t h => by cases h) ?_)
      refine AnyY.nil (by kernel_rfl) rfl (by kernel_rfl) ?_
      exact Next.weak [0, 1, 2, 4, 3] [] (by rfl) (keepsN hC _ rfl) (by repeat (first | exact trivial | refine ⟨⟨_, rfl, .inl ⟨rfl, rfl⟩⟩, ?_⟩ | refine ⟨⟨_, rfl, .inl ⟨slEq rfl tN, rfl⟩⟩, ?_⟩ | refine ⟨⟨_, rfl, .inl ⟨ivEq tX, rfl⟩⟩, ?_⟩)) (by exact ⟨ent_same rfl rfl rfl tL, ⟨ent_same rfl rfl rfl tL, ⟨ent_same rfl rfl rfl tL, ⟨ent_same rfl rfl rfl tL, ⟨ent_same rfl rfl rfl tL, trivial⟩⟩⟩⟩⟩) (fun _ h => by simp at h) hK
   ·refine Next.toOwn 3 1 g.m rfl ?_
    refine Next.toOwn 4 1 g.m rfl ?_
    refine Next.weak [0, 1, 2, 3, 4] [] (by rfl) (keepsN hC _ rfl) (G' := [(1, IV .i64 a), (2, .ptr 0 3 0 0), (4, .ptr 1 4 0 0), (7, .fz (VLL (matF g.m D))), (8, IV .i64 g.m), (9, .ptr 2 4 0 0)]) (H' := [(0, OG g), (1, OTr zeroT), (2, some (.refs 4 [[.fz (If .i64 a), .fz (VI (rowF g.m (D a))), .sl 3 1 0 g.m, .sl 4 1 0 g.m]])), (3, some (.refs 1 (ownL 1 (rowsI (preL g.m (hopR g D a) 0))))), (4, some (.refs 1 (ownL 1 (rowsI (preL g.m (parR g D a) 0)))))]) (by repeat (first | exact trivial | refine ⟨⟨_, rfl, .inl ⟨rfl, rfl⟩⟩, ?_⟩ | refine ⟨⟨_, rfl, .inl ⟨slEq rfl tN, rfl⟩⟩, ?_⟩ | refine ⟨⟨_, rfl, .inl ⟨ivEq tX, rfl⟩⟩, ?_⟩)) (by exact ⟨ent_same rfl rfl rfl tL, ⟨ent_same rfl rfl rfl tL, ⟨ent_same rfl rfl rfl tL, ⟨ent_own rfl rfl (by rw [preL_0, rowsI_nil, ← ownL_rep]; rfl), ⟨ent_own rfl rfl (by rw [preL_0, rowsI_nil, ← ownL_rep]; rfl), trivial⟩⟩⟩⟩⟩) (fun _ h => by simp at h) ?_
    refine nK2 ?_
    refine s_reg rfl ?_
    refine Run.eff (dd := some 47) rfl rfl (op_buildSlice_own rfl (RowsF.nil _) rfl rfl rfl) ?_
    refine ra 10 rfl rfl rfl ?_
    refine rn ?_
    refine nK2 ?_
    refine s_reg rfl ?_
    refine rp 11 rfl (op_assign rfl oC) ?_
    refine rn ?_
    refine nK2 ?_
    refine n_loop (ι := Nat) (fun i => ([(1, IV .i64 a), (2, .ptr 0 3 0 0), (4, .ptr 1 4 0 0), (7, .fz (VLL (matF g.m D))), (8, IV .i64 g.m), (9, .ptr 2 4 0 0), (10, .sl 5 1 0 (fil (fstB g D a) i).length), (11, IV .i64 i)], [(0, OG g), (1, OTr zeroT), (2, some (.refs 4 [[.fz (If .i64 a), .fz (VI (rowF g.m (D a))), .sl 3 1 0 g.m, .sl 4 1 0 g.m]])), (3, some (.refs 1 (ownL 1 (rowsI (preL g.m (hopR g D a) 0))))), (4, some (.refs 1 (ownL 1 (rowsI (preL g.m (parR g D a) 0))))), (5, OI (fil (fstB g D a) i))], 6)) (fun i => i ≤ g.m) (fun i => g.m - i) 0 (Nat.zero_le _) ?_ ?_
    ·refine Next.weak [0, 1, 2, 3, 4, 5] [] (by rfl) (keepsN hC _ rfl) (by repeat (first | exact trivial | refine ⟨⟨_, rfl, .inl ⟨rfl, rfl⟩⟩, ?_⟩ | refine ⟨⟨_, rfl, .inl ⟨slEq rfl tN, rfl⟩⟩, ?_⟩ | refine ⟨⟨_, rfl, .inl ⟨ivEq tX, rfl⟩⟩, ?_⟩)) (by exact ⟨ent_same rfl rfl rfl tL, ⟨ent_same rfl rfl rfl tL, ⟨ent_same rfl rfl rfl tL, ⟨ent_own rfl rfl rfl, ⟨ent_own rfl rfl rfl, ⟨ent_same rfl rfl rfl tL, trivial⟩⟩⟩⟩⟩⟩) (fun _ h => by simp at h) rel_intro
    ·intro i hi K hK
     try dsimp only at hi hK ⊢
     have hfl := fil_len (fstB g D a) i
     refine nK2 ?_
     refine s_reg rfl ?_
     refine rm 48 rfl rfl rfl ?_
     refine rm 49 rfl rfl rfl ?_
     refine rp 50 rfl (op_lss rfl (oT rfl) (oT rfl)) ?_
     refine rn ?_
     refine nK2 ?_
     refine n_cond _ rfl (fun hb => ?_) (fun hb => ?_)
     ·have hlt : i < g.m := by have := of_decide_eq_true hb; omega
      have hri := row_row g.m (D a) hlt
      have hdir := direct_c g D a i d ha hlt
      have hK1 := hK (i + 1) (by omega) (by omega)
      rw [fil_succ] at hK1
      generalize fil (fstB g D a) i = F at *
      refine nK2 ?_
      refine s_reg rfl ?_
      refine rm 53 rfl rfl rfl ?_
      refine rm 54 rfl rfl rfl ?_
      refine rp 55 rfl (op_neq rfl (oT rfl) (oT rfl)) ?_
      refine rm 56 rfl rfl rfl ?_
      refine gm 57 rfl rfl tG rfl rfl ?_
      refine gm 58 rfl rfl tG rfl rfl ?_
      refine rg 59 rfl rfl tG (op_idx_fz a rfl (oO rfl tO) (oO rfl tO) (by intro _; exact ⟨rfl, hma⟩)) ?_
      refine rg 60 rfl rfl tG (op_load1_fz rfl (oO rfl tO) rfl) ?_
      refine gm 61 rfl rfl tG rfl rfl ?_
      refine rg 62 rfl rfl tG (op_idx_fz i rfl (oO rfl tO) (oO rfl tO) (by intro _; exact ⟨rfl, hri⟩)) ?_
      refine rg 63 rfl rfl tG (op_load1_fz rfl (oO rfl tO) rfl) ?_
      refine rg 64 rfl rfl tG (op_geq rfl (oO rfl tO) oC) ?_
      refine rp 65 rfl (op_pick_and rfl (oT rfl) (oO rfl tO)) ?_
      refine rm 66 rfl rfl rfl ?_
      refine rk 67 rfl rfl tG (op_loadw_flat rfl (oT rfl) tH rfl) ?_
      refine gm 68 rfl rfl tG rfl rfl ?_
      refine gm 69 rfl rfl tG rfl rfl ?_
      refine gm 70 rfl rfl tG rfl rfl ?_
      refine rg 71 rfl rfl tG (op_call_pure (fun _ => hdir) rfl (Opd.func _) (oS (oO rfl tO) (oS (oO rfl tO) (oS (oO rfl tO) (oS (oO rfl tO) Opds.nil))))) ?_
      refine rp 72 rfl (op_pick_and rfl (oT rfl) (oO rfl tO)) ?_
      refine rn ?_
      refine nK2 ?_
      refine n_cond _ rfl (fun hb => ?_) (fun hb => ?_)
      ·have hc : fstB g D a i = true := by unfold fstB; simpa [Int.natCast_inj] using hb
       rw [if_pos hc] at hK1
       refine nK2 ?_
       refine s_reg rfl ?_
       refine rm 73 rfl rfl rfl ?_
       refine rm 74 rfl rfl rfl ?_
       refine rp 75 rfl (op_buildSlice_fz rfl (RowsF.cons _ _ _ _ _ _ (oT rfl) tC (by rfl) (RowsF.nil _)) rfl rfl) ?_
       refine Run.eff (dd := some 76) rfl rfl (op_append rfl (oT rfl) (by first | exact Opd.tmp _ _ rfl | exact Opd.nil _ _ (oT rfl)) rfl (by first | rfl | simp) rfl rfl tB tB) ?_
       refine ra 10 rfl rfl rfl ?_
       refine rn ?_
       refine nK2 ?_
       refine s_reg rfl ?_
       refine rm 51 rfl rfl rfl ?_
       refine rp 52 rfl (op_add rfl (oT rfl) oC tI) ?_
       refine ra 11 rfl rfl rfl ?_
       refine rn ?_
       refine nK2 ?_
       refine Next.weak [0, 1, 2, 3, 4, 6] [] (by rfl) (keepsN hC _ rfl) (by repeat (first | exact trivial | refine ⟨⟨_, rfl, .inl ⟨rfl, rfl⟩⟩, ?_⟩ | refine ⟨⟨_, rfl, .inl ⟨slEq rfl tN, rfl⟩⟩, ?_⟩ | refine ⟨⟨_, rfl, .inl ⟨ivEq tX, rfl⟩⟩, ?_⟩)) (by exact ⟨ent_same rfl rfl rfl tL, ⟨ent_same rfl rfl rfl tL, ⟨ent_same rfl rfl rfl tL, ⟨ent_own rfl rfl rfl, ⟨ent_own rfl rfl rfl, ⟨ent_same rfl rfl (flEq rfl (by rw [List.map_append]; rfl)) trivial, trivial⟩⟩⟩⟩⟩⟩) (fun _ h => by simp at h) hK1
      ·have hc : ¬ fstB g D a i = true := fun h => by rw [Bool.eq_false_iff] at hb; apply hb; unfold fstB at h; simpa [Int.natCast_inj] using h
       rw [if_neg hc, List.append_nil] at hK1
       refine nK2 ?_
       refine s_reg rfl ?_
       refine rm 51 rfl rfl rfl ?_
       refine rp 52 rfl (op_add rfl (oT rfl) oC tI) ?_
       refine ra 11 rfl rfl rfl ?_
       refine rn ?_
       refine nK2 ?_
       refine Next.weak [0, 1, 2, 3, 4, 5] [] (by rfl) (keepsN hC _ rfl) (by repeat (first | exact trivial | refine ⟨⟨_, rfl, .inl ⟨rfl, rfl⟩⟩, ?_⟩ | refine ⟨⟨_, rfl, .inl ⟨slEq rfl tN, rfl⟩⟩, ?_⟩ | refine ⟨⟨_, rfl, .inl ⟨ivEq tX, rfl⟩⟩, ?_⟩)) (by exact ⟨ent_same rfl rfl rfl tL, ⟨ent_same rfl rfl rfl tL, ⟨ent_same rfl rfl rfl tL, ⟨ent_own rfl rfl rfl, ⟨ent_own rfl rfl rfl, ⟨ent_same rfl rfl rfl tL, trivial⟩⟩⟩⟩⟩⟩) (fun _ h => by simp at h) hK1
     ·have hie : i = g.m := by have := of_decide_eq_false hb; omega
      subst hie
      have hFm : ∀ x ∈ fil (fstB g D a) g.m, ∃ w : Nat, x = w ∧ w < g.m := fun x hx => by
       obtain ⟨w, h1, h2, _⟩ := fil_mem.1 hx
       exact ⟨w, h1, h2⟩
      have hHR : ∀ v, hopR g D a v = if offB D a v = true then [] else (fil (fstB g D a) g.m).filter fun y => hopB g D a v y.toNat := fun v => rfl
      generalize fil (fstB g D a) g.m = F1 at *
      refine Next.weak [0, 1, 2, 3, 4] [5] (by rfl) (keepsN hC _ rfl) (G' := [(1, IV .i64 a), (2, .ptr 0 3 0 0), (4, .ptr 1 4 0 0), (7, .fz (VLL (matF g.m D))), (8, IV .i64 g.m), (9, .ptr 2 4 0 0), (10, .fz (VI F1))]) (H' := [(0, OG g), (1, OTr zeroT), (2, some (.refs 4 [[.fz (If .i64 a), .fz (VI (rowF g.m (D a))), .sl 3 1 0 g.m, .sl 4 1 0 g.m]])), (3, some (.refs 1 (ownL 1 (rowsI (preL g.m (hopR g D a) 0))))), (4, some (.refs 1 (ownL 1 (rowsI (preL g.m (parR g D a) 0)))))]) (by exact ⟨⟨_, rfl, .inl ⟨rfl, rfl⟩⟩, ⟨⟨_, rfl, .inl ⟨rfl, rfl⟩⟩, ⟨⟨_, rfl, .inl ⟨rfl, rfl⟩⟩, ⟨⟨_, rfl, .inl ⟨rfl, rfl⟩⟩, ⟨⟨_, rfl, .inl ⟨rfl, rfl⟩⟩, ⟨⟨_, rfl, .inl ⟨rfl, rfl⟩⟩, ⟨⟨_, rfl, .inr ⟨_, rfl, .sl _ _ _ _ _ _ rfl rfl (take_all0 (List.length_map _)) (List.length_map _)⟩⟩, trivial⟩⟩⟩⟩⟩⟩⟩) (by exact ⟨ent_same rfl rfl rfl tL, ⟨ent_same rfl rfl rfl tL, ⟨ent_same rfl rfl rfl tL, ⟨ent_own rfl rfl rfl, ⟨ent_own rfl rfl rfl, trivial⟩⟩⟩⟩⟩) (fun id h => by simp at h; subst h; exact ⟨_, rfl⟩) ?_
      refine nK2 ?_
      refine s_reg rfl ?_
      refine rp 12 rfl (op_assign rfl oC) ?_
      refine rn ?_
      refine nK2 ?_
      refine n_loop (ι := Nat) (fun v => ([(1, IV .i64 a), (2, .ptr 0 3 0 0), (4, .ptr 1 4 0 0), (7, .fz (VLL (matF g.m D))), (8, IV .i64 g.m), (9, .ptr 2 4 0 0), (10, .fz (VI F1)), (12, IV .i64 v)], [(0, OG g), (1, OTr zeroT), (2, some (.refs 4 [[.fz (If .i64 a), .fz (VI (rowF g.m (D a))), .sl 3 1 0 g.m, .sl 4 1 0 g.m]])), (3, some (.refs 1 (ownL 1 (rowsI (preL g.m (hopR g D a) v))))), (4, some (.refs 1 (ownL 1 (rowsI (preL g.m (parR g D a) v)))))], 5)) (fun v => v ≤ g.m) (fun v => g.m - v) 0 (Nat.zero_le _) ?_ ?_
      ·refine Next.weak [0, 1, 2, 3, 4] [] (by rfl) (keepsN hC _ rfl) (by repeat (first | exact trivial | refine ⟨⟨_, rfl, .inl ⟨rfl, rfl⟩⟩, ?_⟩ | refine ⟨⟨_, rfl, .inl ⟨slEq rfl tN, rfl⟩⟩, ?_⟩ | refine ⟨⟨_, rfl, .inl ⟨ivEq tX, rfl⟩⟩, ?_⟩)) (by exact ⟨ent_same rfl rfl rfl tL, ⟨ent_same rfl rfl rfl tL, ⟨ent_same rfl rfl rfl tL, ⟨ent_own rfl rfl rfl, ⟨ent_own rfl rfl rfl, trivial⟩⟩⟩⟩⟩) (fun _ h => by simp at h) rel_intro
      ·intro v hv K hK
       try dsimp only at hv hK ⊢
       refine nK2 ?_
       refine s_reg rfl ?_
       refine rm 77 rfl rfl rfl ?_
       refine rm 78 rfl rfl rfl ?_
       refine rp 79 rfl (op_lss rfl (oT rfl) (oT rfl)) ?_
       refine rn ?_
       refine nK2 ?_
       refine n_cond _ rfl (fun hb => ?_) (fun hb => ?_)
       ·have hlv : v < g.m := by have := of_decide_eq_true hb; omega
        have hrv := row_row g.m (D a) hlv
        have hK1 := hK (v + 1) (by omega) (by omega)
        clear hK
        refine nK2 ?_
        refine s_reg rfl ?_
        refine rm 82 rfl rfl rfl ?_
        refine rm 83 rfl rfl rfl ?_
        refine rp 84 rfl (op_eql rfl (oT rfl) (oT rfl)) ?_
        refine rm 85 rfl rfl rfl ?_
        refine gm 86 rfl rfl tG rfl rfl ?_
        refine gm 87 rfl rfl tG rfl rfl ?_
        refine rg 88 rfl rfl tG (op_idx_fz a rfl (oO rfl tO) (oO rfl tO) (by intro _; exact ⟨rfl, hma⟩)) ?_
        refine rg 89 rfl rfl tG (op_load1_fz rfl (oO rfl tO) rfl) ?_
        refine gm 90 rfl rfl tG rfl rfl ?_
        refine rg 91 rfl rfl tG (op_idx_fz v rfl (oO rfl tO) (oO rfl tO) (by intro _; exact ⟨rfl, hrv⟩)) ?_
        refine rg 92 rfl rfl tG (op_load1_fz rfl (oO rfl tO) rfl) ?_
        refine rg 93 rfl rfl tG (op_lss rfl (oO rfl tO) oC) ?_
        refine rp 94 rfl (op_pick_or rfl (oT rfl) (oO rfl tO)) ?_
        refine rn ?_
        refine nK2 ?_
        refine n_cond _ rfl (fun hb => ?_) (fun hb => ?_)
        ·have hc : offB D a v = true := by unfold offB; simpa [Int.natCast_inj] using hb
         rw [← preL_skip (f := hopR g D a) (by rw [hHR, if_pos hc]), ← preL_skip (f := parR g D a) (by unfold parR; rw [if_pos hc])] at hK1
         refine nK2 ?_
         refine s_reg rfl ?_
         refine rm 80 rfl rfl rfl ?_
         refine rp 81 rfl (op_add rfl (oT rfl) oC tI) ?_
         refine ra 12 rfl rfl rfl ?_
         refine rn ?_
         refine nK2 ?_
         refine Next.weak [0, 1, 2, 3, 4] [] (by rfl) (keepsN hC _ rfl) (by repeat (first | exact trivial | refine ⟨⟨_, rfl, .inl ⟨rfl, rfl⟩⟩, ?_⟩ | refine ⟨⟨_, rfl, .inl ⟨slEq rfl tN, rfl⟩⟩, ?_⟩ | refine ⟨⟨_, rfl, .inl ⟨ivEq tX, rfl⟩⟩, ?_⟩)) (by exact ⟨ent_same rfl rfl rfl tL, ⟨ent_same rfl rfl rfl tL, ⟨ent_same rfl rfl rfl tL, ⟨ent_own rfl rfl rfl, ⟨ent_own rfl rfl rfl, trivial⟩⟩⟩⟩⟩) (fun _ h => by simp at h) hK1
        ·have hc : ¬ offB D a v = true := fun h => by rw [Bool.eq_false_iff] at hb; apply hb; unfold offB at h; simpa [Int.natCast_inj] using h
         have hpr : parR g D a v = fil (parB g D a v) g.m := by unfold parR; rw [if_neg hc]
         have hhr := hHR v
         rw [if_neg hc] at hhr
         have hpl := preL_len g.m (parR g D a) v
         have hhl := preL_len g.m (hopR g D a) v
         have hp0 := preL_nil (f := parR g D a) hlv
         have hh0 := preL_nil (f := hopR g D a) hlv
         rw [← preL_set g.m (hopR g D a) v, ← preL_set g.m (parR g D a) v, hpr, hhr] at hK1
         generalize preL g.m (parR g D a) v = LP at *
         generalize preL g.m (hopR g D a) v = LH at *
         clear hb hpr hhr hHR
         refine nK2 ?_
         refine s_reg rfl ?_
         refine rp 13 rfl (op_assign rfl oC) ?_
         refine rn ?_
         refine nK2 ?_
         refine n_loop (ι := Nat) (fun u => ([(1, IV .i64 a), (2, .ptr 0 3 0 0), (4, .ptr 1 4 0 0), (7, .fz (VLL (matF g.m D))), (8, IV .i64 g.m), (9, .ptr 2 4 0 0), (10, .fz (VI F1)), (12, IV .i64 v), (13, IV .i64 u)], [(0, OG g), (1, OTr zeroT), (2, some (.refs 4 [[.fz (If .i64 a), .fz (VI (rowF g.m (D a))), .sl 3 1 0 g.m, .sl 4 1 0 g.m]])), (3, some (.refs 1 (ownL 1 (rowsI LH)))), (4, some (.refs 1 (ownL 1 (rowsI (LP.set v (fil (parB g D a v) u))))))], 5)) (fun u => u ≤ g.m) (fun u => g.m - u) 0 (Nat.zero_le _) ?_ ?_
         ·refine Next.weak [0, 1, 2, 3, 4] [] (by rfl) (keepsN hC _ rfl) (by repeat (first | exact trivial | refine ⟨⟨_, rfl, .inl ⟨rfl, rfl⟩⟩, ?_⟩ | refine ⟨⟨_, rfl, .inl ⟨slEq rfl tN, rfl⟩⟩, ?_⟩ | refine ⟨⟨_, rfl, .inl ⟨ivEq tX, rfl⟩⟩, ?_⟩)) (by exact ⟨ent_same rfl rfl rfl tL, ⟨ent_same rfl rfl rfl tL, ⟨ent_same rfl rfl rfl tL, ⟨ent_own rfl rfl rfl, ⟨ent_own rfl rfl (congrArg (fun l => some (Ob.refs 1 (ownL 1 (rowsI l)))) hp0.symm), trivial⟩⟩⟩⟩⟩) (fun _ h => by simp at h) rel_intro
         ·intro u hu K2 hK2
          try dsimp only at hu hK2 ⊢
          have hfu := fil_len (parB g D a v) u
          refine nK2 ?_
          refine s_reg rfl ?_
          refine rm 95 rfl rfl rfl ?_
          refine rm 96 rfl rfl rfl ?_
          refine rp 97 rfl (op_lss rfl (oT rfl) (oT rfl)) ?_
          refine rn ?_
          refine nK2 ?_
          refine n_cond _ rfl (fun hb => ?_) (fun hb => ?_)
          ·have hlu : u < g.m := by have := of_decide_eq_true hb; omega
           have hru := row_row g.m (D a) hlu
           have hcu := rcost_c g u v hel2
           have hcb1 := hcb u v
           have hdb1 := hdb a u ha hlu
           have hK3 := hK2 (u + 1) (by omega) (by omega)
           clear hK2
           rw [fil_succ] at hK3
           have hPB : parB g D a v u = ((costL u v g.es).2 && decide (0 ≤ D a u) && decide (D a u + (costL u v g.es).1 = D a v)) := rfl
           generalize parB g D a v u = pb at *
           generalize fil (parB g D a v) u = row at *
           have hrg := rowsI_get (ll := LP.set v row) (v := v) (by rw [List.length_set]; omega)
           rw [set_at (by omega)] at hrg
           have hll : (rowsI (LP.set v row)).length = g.m := by rw [rowsI_len, List.length_set]; omega
           refine nK2 ?_
           refine s_reg rfl ?_
           refine rl 101 rfl (op_loadw_flat rfl (oT rfl) tH rfl) ?_
           refine rm 102 rfl rfl rfl ?_
           refine rm 103 rfl rfl rfl ?_
           refine rp 104 rfl (op_call_pure (fun _ => hcu) rfl (Opd.func _) (oS (oT rfl) (oS (oT rfl) (oS (oT rfl) Opds.nil)))) ?_
           refine rm 100 rfl rfl rfl ?_
           refine rp 105 rfl (op_extract_fz rfl (oT rfl) rfl) ?_
           refine rp 106 rfl (op_extract_fz rfl (oT rfl) rfl) ?_
           refine ra 14 rfl rfl rfl ?_
           refine ra 15 rfl rfl rfl ?_
           refine rn ?_
           refine nK2 ?_
           refine s_draw mixed ?_
           refine rm 107 rfl rfl rfl ?_
           refine rm 108 rfl rfl rfl ?_
           refine gm 109 rfl rfl tG rfl rfl ?_
           refine gm 110 rfl rfl tG rfl rfl ?_
           refine rg 111 rfl rfl tG (op_idx_fz a rfl (oO rfl tO) (oO rfl tO) (by intro _; exact ⟨rfl, hma⟩)) ?_
           refine rg 112 rfl rfl tG (op_load1_fz rfl (oO rfl tO) rfl) ?_
           refine gm 113 rfl rfl tG rfl rfl ?_
           refine rg 114 rfl rfl tG (op_idx_fz u rfl (oO rfl tO) (oO rfl tO) (by intro _; exact ⟨rfl, hru⟩)) ?_
           refine rg 115 rfl rfl tG (op_load1_fz rfl (oO rfl tO) rfl) ?_
           refine rg 116 rfl rfl tG (op_geq rfl (oO rfl tO) oC) ?_
           refine rp 117 rfl (op_pick_and rfl (oT rfl) (oO rfl tO)) ?_
           refine rm 118 rfl rfl rfl ?_
           refine gm 119 rfl rfl tG rfl rfl ?_
           refine gm 120 rfl rfl tG rfl rfl ?_
           refine rg 121 rfl rfl tG (op_idx_fz a rfl (oO rfl tO) (oO rfl tO) (by intro _; exact ⟨rfl, hma⟩)) ?_
           refine rg 122 rfl rfl tG (op_load1_fz rfl (oO rfl tO) rfl) ?_
           refine gm 123 rfl rfl tG rfl rfl ?_
           refine rg 124 rfl rfl tG (op_idx_fz u rfl (oO rfl tO) (oO rfl tO) (by intro _; exact ⟨rfl, hru⟩)) ?_
           refine rg 125 rfl rfl tG (op_load1_fz rfl (oO rfl tO) rfl) ?_
           refine gm 126 rfl rfl tG rfl rfl ?_
           refine rg 127 rfl rfl tG (op_add rfl (oO rfl tO) (oO rfl tO) tI) ?_
           refine gm 128 rfl rfl tG rfl rfl ?_
           refine gm 129 rfl rfl tG rfl rfl ?_
           refine rg 130 rfl rfl tG (op_idx_fz a rfl (oO rfl tO) (oO rfl tO) (by intro _; exact ⟨rfl, hma⟩)) ?_
           refine rg 131 rfl rfl tG (op_load1_fz rfl (oO rfl tO) rfl) ?_
           refine gm 132 rfl rfl tG rfl rfl ?_
           refine rg 133 rfl rfl tG (op_idx_fz v rfl (oO rfl tO) (oO rfl tO) (by intro _; exact ⟨rfl, hrv⟩)) ?_
           refine rg 134 rfl rfl tG (op_load1_fz rfl (oO rfl tO) rfl) ?_
           refine rg 135 rfl rfl tG (op_eql rfl (oO rfl tO) (oO rfl tO)) ?_
           refine rp 136 rfl (op_pick_and rfl (oT rfl) (oO rfl tO)) ?_
           refine Run.nil (FinD.mk (by kernel_rfl) ?_)
           refine nK2 ?_
           refine n_cond _ rfl (fun hb => ?_) (fun hb => ?_)
           ·rw [show pb = true from hPB.trans hb, if_pos rfl, ← setI_set (l := row), List.map_append] at hK3
            generalize rowsI (LP.set v row) = irs at *
            refine nK2 ?_
            refine Next.take 4 v 0 rfl (ownL_get hrg) rfl rfl ?_
            have hs1 := set_get (ownL 1 irs) v [.sl 5 1 0 (row.map encN).length] (by rw [ownL_len, hll]; omega)
            refine nK2 ?_
            refine s_draw mixed ?_
            refine rp 137 rfl (op_fld_ptr (by decide) rfl (oT rfl)) ?_
            refine rl 138 rfl (op_load1_refs rfl (oT rfl) tH rfl) ?_
            refine rm 139 rfl rfl rfl ?_
            refine rp 140 rfl (op_fld_ptr (by decide) rfl (oT rfl)) ?_
            refine rl 141 rfl (op_load1_refs rfl (oT rfl) tH rfl) ?_
            refine rm 142 rfl rfl rfl ?_
            refine rp 143 rfl (op_idx_sl0 v rfl (oT rfl) (oT rfl) (by intro _; exact ⟨rfl, hlv⟩)) ?_
            refine rl 144 rfl (op_load1_refs rfl (oT rfl) (by intro _; exact ⟨rfl, hs1⟩) rfl) ?_
            refine rm 145 rfl rfl rfl ?_
            refine rp 146 rfl (op_buildSlice_fz rfl (RowsF.cons _ _ _ _ _ _ (oT rfl) tC (by rfl) (RowsF.nil _)) rfl rfl) ?_
            refine Run.effW (dd := some 147) rfl rfl (op_append rfl (oT rfl) (by first | exact Opd.tmp _ _ rfl | exact Opd.nil _ _ (oT rfl)) rfl (by first | rfl | simp) rfl rfl tB tB) (by first | exact ext_call | exact tE) ?_
            refine rp 148 rfl (op_idx_sl0 v rfl (oT rfl) (oT rfl) (by intro _; exact ⟨rfl, hlv⟩)) ?_
            refine Run.effW (dd := none) rfl rfl (op_store_refs rfl (oT rfl) (oT rfl) tP rfl rfl hs1 tS) (by first | exact ext_call | exact tE) ?_
            refine Run.nil (FinD.mk (by kernel_rfl) ?_)
            refine nK2 ?_
            refine s_reg rfl ?_
            refine rm 98 rfl rfl rfl ?_
            refine rp 99 rfl (op_add rfl (oT rfl) oC tI) ?_
            refine ra 13 rfl rfl rfl ?_
            refine rn ?_
            refine nK2 ?_
            refine Next.untake 4 v 0 rfl (set_get _ _ _ (by rw [List.length_set, ownL_len, hll]; omega)) rfl rfl (by simp) rfl ?_
            refine Next.weak [0, 1, 2, 3, 4] [] (by rfl) (keepsN hC _ rfl) (by repeat (first | exact trivial | refine ⟨⟨_, rfl, .inl ⟨rfl, rfl⟩⟩, ?_⟩ | refine ⟨⟨_, rfl, .inl ⟨slEq rfl tN, rfl⟩⟩, ?_⟩ | refine ⟨⟨_, rfl, .inl ⟨ivEq tX, rfl⟩⟩, ?_⟩)) (by exact ⟨ent_same rfl rfl rfl tL, ⟨ent_same rfl rfl rfl tL, ⟨ent_same rfl rfl rfl tL, ⟨ent_own rfl rfl rfl, ⟨ent_own rfl rfl (congrArg (fun r => some (Ob.refs 1 r)) own_back), trivial⟩⟩⟩⟩⟩) (fun _ h => by simp at h) hK3
           ·rw [show pb = false from hPB.trans hb, if_neg (by simp), List.append_nil] at hK3
            refine nK2 ?_
            refine s_reg rfl ?_
            refine rm 98 rfl rfl rfl ?_
            refine rp 99 rfl (op_add rfl (oT rfl) oC tI) ?_
            refine ra 13 rfl rfl rfl ?_
            refine rn ?_
            refine nK2 ?_
            refine Next.weak [0, 1, 2, 3, 4] [] (by rfl) (keepsN hC _ rfl) (by repeat (first | exact trivial | refine ⟨⟨_, rfl, .inl ⟨rfl, rfl⟩⟩, ?_⟩ | refine ⟨⟨_, rfl, .inl ⟨slEq rfl tN, rfl⟩⟩, ?_⟩ | refine ⟨⟨_, rfl, .inl ⟨ivEq tX, rfl⟩⟩, ?_⟩)) (by exact ⟨ent_same rfl rfl rfl tL, ⟨ent_same rfl rfl rfl tL, ⟨ent_same rfl rfl rfl tL, ⟨ent_own rfl rfl rfl, ⟨ent_own rfl rfl rfl, trivial⟩⟩⟩⟩⟩) (fun _ h => by simp at h) hK3
          ·have hue : u = g.m := by have := of_decide_eq_false hb; omega
           subst hue
           clear hK2
           generalize LP.set v (fil (parB g D a v) g.m) = LP2 at *
           refine nK2 ?_
           refine s_reg rfl ?_
           refine rp 16 rfl (op_assign rfl oC) ?_
           refine rn ?_
           refine nK2 ?_
           refine n_loop (ι := Nat) (fun i => ([(1, IV .i64 a), (2, .ptr 0 3 0 0), (4, .ptr 1 4 0 0), (7, .fz (VLL (matF g.m D))), (8, IV .i64 g.m), (9, .ptr 2 4 0 0), (10, .fz (VI F1)), (12, IV .i64 v), (16, IV .i64 i)], [(0, OG g), (1, OTr zeroT), (2, some (.refs 4 [[.fz (If .i64 a), .fz (VI (rowF g.m (D a))), .sl 3 1 0 g.m, .sl 4 1 0 g.m]])), (3, some (.refs 1 (ownL 1 (rowsI (LH.set v ((F1.take i).filter fun y => hopB g D a v y.toNat)))))), (4, some (.refs 1 (ownL 1 (rowsI LP2))))], 5)) (fun i => i ≤ F1.length) (fun i => F1.length - i) 0 (Nat.zero_le _) ?_ ?_
           ·refine Next.weak [0, 1, 2, 3, 4] [] (by rfl) (keepsN hC _ rfl) (by repeat (first | exact trivial | refine ⟨⟨_, rfl, .inl ⟨rfl, rfl⟩⟩, ?_⟩ | refine ⟨⟨_, rfl, .inl ⟨slEq rfl tN, rfl⟩⟩, ?_⟩ | refine ⟨⟨_, rfl, .inl ⟨ivEq tX, rfl⟩⟩, ?_⟩)) (by exact ⟨ent_same rfl rfl rfl tL, ⟨ent_same rfl rfl rfl tL, ⟨ent_same rfl rfl rfl tL, ⟨ent_own rfl rfl (congrArg (fun l => some (Ob.refs 1 (ownL 1 (rowsI l)))) hh0.symm), ⟨ent_own rfl rfl rfl, trivial⟩⟩⟩⟩⟩) (fun _ h => by simp at h) rel_intro
           ·intro i hi K2 hK2
            try dsimp only at hi hK2 ⊢
            refine nK2 ?_
            refine s_reg rfl ?_
            refine rm 149 rfl rfl rfl ?_
            refine rm 150 rfl rfl rfl ?_
            refine rp 151 rfl (op_len_fz rfl (by first | exact Opd.tmp _ _ rfl | exact Opd.nil _ _ (oT rfl)) (by first | exact List.length_map _ | rfl)) ?_
            refine rp 152 rfl (op_lss rfl (oT rfl) (oT rfl)) ?_
            refine rn ?_
            refine nK2 ?_
            refine n_cond _ rfl (fun hb => ?_) (fun hb => ?_)
            ·have hli : i < F1.length := by simp at hb; omega
             have hrF := row_at' encN F1 i hli
             obtain ⟨w, hw, hwn⟩ := hFm _ (List.getElem_mem hli)
             have hK3 := hK2 (i + 1) (by omega) (by omega)
             clear hK2
             rw [take_filter _ _ _ hli, hw, Int.toNat_natCast] at hK3
             rw [hw] at hrF
             have hfl : ((F1.take i).filter fun y => hopB g D a v y.toNat).length ≤ g.m := by
              have h1 := List.length_filter_le (fun y => hopB g D a v y.toNat) (F1.take i)
              have h2 : (F1.take i).length ≤ F1.length := List.length_take_le' _ _
              omega
             have hrw := row_row g.m (D w) hlv
             have hraw := row_row g.m (D a) hwn
             have hmw := mat_row g.m D hwn
             have hdb1 := hdb a w ha hwn
             have hdb2 := hdb w v hwn hlv
             have hPB : hopB g D a v w = (decide (w = v) || (decide ((w : Int) < g.r) && decide (0 ≤ D w v) && decide (D a w + D w v = D a v))) := rfl
             generalize hopB g D a v w = pb at *
             generalize (F1.take i).filter (fun y => hopB g D a v y.toNat) = row at *
             have hrg := rowsI_get (ll := LH.set v row) (v := v) (by rw [List.length_set]; omega)
             rw [set_at (by omega)] at hrg
             have hll : (rowsI (LH.set v row)).length = g.m := by rw [rowsI_len, List.length_set]; omega
             refine nK2 ?_
             refine s_reg rfl ?_
             refine rm 155 rfl rfl rfl ?_
             refine rm 156 rfl rfl rfl ?_
             refine rp 157 rfl (op_idx_fz i rfl (oT rfl) (oT rfl) (by intro _; exact ⟨rfl, hrF⟩)) ?_
             refine rp 158 rfl (op_load1_fz rfl (oT rfl) rfl) ?_
             refine ra 17 rfl rfl rfl ?_
             refine rn ?_
             refine nK2 ?_
             refine s_draw mixed ?_
             refine rm 159 rfl rfl rfl ?_
             refine rm 160 rfl rfl rfl ?_
             refine rp 161 rfl (op_eql rfl (oT rfl) (oT rfl)) ?_
             refine rm 162 rfl rfl rfl ?_
             refine gm 163 rfl rfl tG rfl rfl ?_
             refine rg 164 rfl rfl tG (op_fld_ptr (by decide) rfl (oT rfl)) ?_
             refine rk 165 rfl rfl tG (op_load1_flat rfl (oO rfl tO) tH rfl) ?_
             refine rg 166 rfl rfl tG (op_lss rfl (oO rfl tO) (oO rfl tO)) ?_
             refine rg 167 rfl rfl tG (op_move rfl (oO rfl tO)) ?_
             refine gm 168 rfl rfl tG rfl rfl ?_
             refine gm 169 rfl rfl tG rfl rfl ?_
             refine rg 170 rfl rfl tG (op_idx_fz w rfl (oO rfl tO) (oO rfl tO) (by intro _; exact ⟨rfl, hmw⟩)) ?_
             refine rg 171 rfl rfl tG (op_load1_fz rfl (oO rfl tO) rfl) ?_
             refine gm 172 rfl rfl tG rfl rfl ?_
             refine rg 173 rfl rfl tG (op_idx_fz v rfl (oO rfl tO) (oO rfl tO) (by intro _; exact ⟨rfl, hrw⟩)) ?_
             refine rg 174 rfl rfl tG (op_load1_fz rfl (oO rfl tO) rfl) ?_
             refine rg 175 rfl rfl tG (op_geq rfl (oO rfl tO) oC) ?_
             refine rg 176 rfl rfl tG (op_pick_and rfl (oO rfl tO) (oO rfl tO)) ?_
             refine rg 177 rfl rfl tG (op_move rfl (oO rfl tO)) ?_
             refine gm 178 rfl rfl tG rfl rfl ?_
             refine gm 179 rfl rfl tG rfl rfl ?_
             refine rg 180 rfl rfl tG (op_idx_fz a rfl (oO rfl tO) (oO rfl tO) (by intro _; exact ⟨rfl, hma⟩)) ?_
             refine rg 181 rfl rfl tG (op_load1_fz rfl (oO rfl tO) rfl) ?_
             refine gm 182 rfl rfl tG rfl rfl ?_
             refine rg 183 rfl rfl tG (op_idx_fz w rfl (oO rfl tO) (oO rfl tO) (by intro _; exact ⟨rfl, hraw⟩)) ?_
             refine rg 184 rfl rfl tG (op_load1_fz rfl (oO rfl tO) rfl) ?_
             refine gm 185 rfl rfl tG rfl rfl ?_
             refine gm 186 rfl rfl tG rfl rfl ?_
             refine rg 187 rfl rfl tG (op_idx_fz w rfl (oO rfl tO) (oO rfl tO) (by intro _; exact ⟨rfl, hmw⟩)) ?_
             refine rg 188 rfl rfl tG (op_load1_fz rfl (oO rfl tO) rfl) ?_
             refine gm 189 rfl rfl tG rfl rfl ?_
             refine rg 190 rfl rfl tG (op_idx_fz v rfl (oO rfl tO) (oO rfl tO) (by intro _; exact ⟨rfl, hrw⟩)) ?_
             refine rg 191 rfl rfl tG (op_load1_fz rfl (oO rfl tO) rfl) ?_
             refine rg 192 rfl rfl tG (op_add rfl (oO rfl tO) (oO rfl tO) tI) ?_
             refine gm 193 rfl rfl tG rfl rfl ?_
             refine gm 194 rfl rfl tG rfl rfl ?_
             refine rg 195 rfl rfl tG (op_idx_fz a rfl (oO rfl tO) (oO rfl tO) (by intro _; exact ⟨rfl, hma⟩)) ?_
             refine rg 196 rfl rfl tG (op_load1_fz rfl (oO rfl tO) rfl) ?_
             refine gm 197 rfl rfl tG rfl rfl ?_
             refine rg 198 rfl rfl tG (op_idx_fz v rfl (oO rfl tO) (oO rfl tO) (by intro _; exact ⟨rfl, hrv⟩)) ?_
             refine rg 199 rfl rfl tG (op_load1_fz rfl (oO rfl tO) rfl) ?_
             refine rg 200 rfl rfl tG (op_eql rfl (oO rfl tO) (oO rfl tO)) ?_
             refine rg 201 rfl rfl tG (op_pick_and rfl (oO rfl tO) (oO rfl tO)) ?_
             refine rp 202 rfl (op_pick_or rfl (oT rfl) (oO rfl tO)) ?_
             refine Run.nil (FinD.mk (by kernel_rfl) ?_)
             refine nK2 ?_
             refine n_cond _ rfl (fun hb => ?_) (fun hb => ?_)
             ·have hp1 : pb = true := hPB.trans (by simpa [Int.natCast_inj] using hb)
              rw [hp1, if_pos rfl, ← setI_set (l := row), List.map_append] at hK3
              generalize rowsI (LH.set v row) = irs at *
              refine nK2 ?_
              refine Next.take 3 v 0 rfl (ownL_get hrg) rfl rfl ?_
              have hs1 := set_get (ownL 1 irs) v [.sl 5 1 0 (row.map encN).length] (by rw [ownL_len, hll]; omega)
              refine nK2 ?_
              refine s_draw mixed ?_
              refine rp 203 rfl (op_fld_ptr (by decide) rfl (oT rfl)) ?_
              refine rl 204 rfl (op_load1_refs rfl (oT rfl) tH rfl) ?_
              refine rm 205 rfl rfl rfl ?_
              refine rp 206 rfl (op_fld_ptr (by decide) rfl (oT rfl)) ?_
              refine rl 207 rfl (op_load1_refs rfl (oT rfl) tH rfl) ?_
              refine rm 208 rfl rfl rfl ?_
              refine rp 209 rfl (op_idx_sl0 v rfl (oT rfl) (oT rfl) (by intro _; exact ⟨rfl, hlv⟩)) ?_
              refine rl 210 rfl (op_load1_refs rfl (oT rfl) (by intro _; exact ⟨rfl, hs1⟩) rfl) ?_
              refine rm 211 rfl rfl rfl ?_
              refine rp 212 rfl (op_buildSlice_fz rfl (RowsF.cons _ _ _ _ _ _ (oT rfl) tC (by rfl) (RowsF.nil _)) rfl rfl) ?_
              refine Run.effW (dd := some 213) rfl rfl (op_append rfl (oT rfl) (by first | exact Opd.tmp _ _ rfl | exact Opd.nil _ _ (oT rfl)) rfl (by first | rfl | simp) rfl rfl tB tB) (by first | exact ext_call | exact tE) ?_
              refine rp 214 rfl (op_idx_sl0 v rfl (oT rfl) (oT rfl) (by intro _; exact ⟨rfl, hlv⟩)) ?_
              refine Run.effW (dd := none) rfl rfl (op_store_refs rfl (oT rfl) (oT rfl) tP rfl rfl hs1 tS) (by first | exact ext_call | exact tE) ?_
              refine Run.nil (FinD.mk (by kernel_rfl) ?_)
              refine nK2 ?_
              refine s_reg rfl ?_
              refine rm 153 rfl rfl rfl ?_
              refine rp 154 rfl (op_add rfl (oT rfl) oC tI) ?_
              refine ra 16 rfl rfl rfl ?_
              refine rn ?_
              refine nK2 ?_
              refine Next.untake 3 v 0 rfl (set_get _ _ _ (by rw [List.length_set, ownL_len, hll]; omega)) rfl rfl (by simp) rfl ?_
              refine Next.weak [0, 1, 2, 3, 4] [] (by rfl) (keepsN hC _ rfl) (by repeat (first | exact trivial | refine ⟨⟨_, rfl, .inl ⟨rfl, rfl⟩⟩, ?_⟩ | refine ⟨⟨_, rfl, .inl ⟨slEq rfl tN, rfl⟩⟩, ?_⟩ | refine ⟨⟨_, rfl, .inl ⟨ivEq tX, rfl⟩⟩, ?_⟩)) (by exact ⟨ent_same rfl rfl rfl tL, ⟨ent_same rfl rfl rfl tL, ⟨ent_same rfl rfl rfl tL, ⟨ent_own rfl rfl (congrArg (fun r => some (Ob.refs 1 r)) own_back), ⟨ent_own rfl rfl rfl, trivial⟩⟩⟩⟩⟩) (fun _ h => by simp at h) hK3
             ·have hp1 : ¬ pb = true := fun h => by rw [Bool.eq_false_iff] at hb; apply hb; rw [hPB] at h; simpa [Int.natCast_inj] using h
              rw [if_neg hp1, List.append_nil] at hK3
              refine nK2 ?_
              refine s_reg rfl ?_
              refine rm 153 rfl rfl rfl ?_
              refine rp 154 rfl (op_add rfl (oT rfl) oC tI) ?_
              refine ra 16 rfl rfl rfl ?_
              refine rn ?_
              refine nK2 ?_
              refine Next.weak [0, 1, 2, 3, 4] [] (by rfl) (keepsN hC _ rfl) (by repeat (first | exact trivial | refine ⟨⟨_, rfl, .inl ⟨rfl, rfl⟩⟩, ?_⟩ | refine ⟨⟨_, rfl, .inl ⟨slEq rfl tN, rfl⟩⟩, ?_⟩ | refine ⟨⟨_, rfl, .inl ⟨ivEq tX, rfl⟩⟩, ?_⟩)) (by exact ⟨ent_same rfl rfl rfl tL, ⟨ent_same rfl rfl rfl tL, ⟨ent_same rfl rfl rfl tL, ⟨ent_own rfl rfl rfl, ⟨ent_own rfl rfl rfl, trivial⟩⟩⟩⟩⟩) (fun _ h => by simp at h) hK3
            ·have hie : i = F1.length := by simp at hb; omega
             subst hie
             rw [List.take_length]
             refine nK2 ?_
             refine s_reg rfl ?_
             refine rm 80 rfl rfl rfl ?_
             refine rp 81 rfl (op_add rfl (oT rfl) oC tI) ?_
             refine ra 12 rfl rfl rfl ?_
             refine rn ?_
             refine nK2 ?_
             refine Next.weak [0, 1, 2, 3, 4] [] (by rfl) (keepsN hC _ rfl) (by repeat (first | exact trivial | refine ⟨⟨_, rfl, .inl ⟨rfl, rfl⟩⟩, ?_⟩ | refine ⟨⟨_, rfl, .inl ⟨slEq rfl tN, rfl⟩⟩, ?_⟩ | refine ⟨⟨_, rfl, .inl ⟨ivEq tX, rfl⟩⟩, ?_⟩)) (by exact ⟨ent_same rfl rfl rfl tL, ⟨ent_same rfl rfl rfl tL, ⟨ent_same rfl rfl rfl tL, ⟨ent_own rfl rfl rfl, ⟨ent_own rfl rfl rfl, trivial⟩⟩⟩⟩⟩) (fun _ h => by simp at h) hK1
       ·have hve : v = g.m := by have := of_decide_eq_false hb; omega
        subst hve
        rw [preL_n, preL_n]
        refine nK2 ?_
        refine Next.freezeOwn 3 rfl rfl ?_
        refine Next.freezeOwn 4 rfl rfl ?_
        have hF3 : (fzL 1 (rowsI ((List.range g.m).map (hopR g D a)))).length = g.m := by rw [fzL_len, rowsI_len]; exact rng_len _ _
        have hF4 : (fzL 1 (rowsI ((List.range g.m).map (parR g D a)))).length = g.m := by rw [fzL_len, rowsI_len]; exact rng_len _ _
        refine Next.weak [0, 1, 2] [3, 4] (by rfl) (keepsN hC _ rfl) (G' := [(2, .ptr 0 3 0 0), (4, .ptr 1 4 0 0), (9, .ptr 2 4 0 0)]) (H' := [(0, OG g), (1, OTr zeroT), (2, OTr (refT g D a))]) (by repeat (first | exact trivial | refine ⟨⟨_, rfl, .inl ⟨rfl, rfl⟩⟩, ?_⟩ | refine ⟨⟨_, rfl, .inl ⟨slEq rfl tN, rfl⟩⟩, ?_⟩ | refine ⟨⟨_, rfl, .inl ⟨ivEq tX, rfl⟩⟩, ?_⟩)) (by exact ⟨ent_same rfl rfl rfl tL, ⟨ent_same rfl rfl rfl tL, ⟨⟨rfl, rfl, .flat _ _ _ rfl (AsRs.cons _ _ _ _ (AsR.cons _ _ _ _ (.fz _) (AsR.cons _ _ _ _ (.fz _) (AsR.cons _ _ _ _ (.sl _ _ _ _ _ _ rfl rfl ((take_all0 hF3).trans (fz_rowsI _)) (by rw [← fz_rowsI]; exact hF3)) (AsR.cons _ _ _ _ (.sl _ _ _ _ _ _ rfl rfl ((take_all0 hF4).trans (fz_rowsI _)) (by rw [← fz_rowsI]; exact hF4)) .nil)))) .nil)⟩, trivial⟩⟩⟩) (fun id h => by simp at h; rcases h with rfl | rfl <;> exact ⟨_, rfl⟩) ?_
        refine nK2 ?_
        refine s_reg rfl ?_
        refine rl 215 rfl (op_loadw_flat rfl (oT rfl) tH rfl) ?_
        refine Run.eff (dd := none) rfl rfl (op_store_flat rfl (oT rfl) (oT rfl) tC rfl rfl (by first | rfl | assumption) tS) ?_
        refine rp 5 rfl (op_assign rfl oC) ?_
        refine rn ?_
        refine nK2 ?_
        refine Next.weakS [4] [] (by rfl) (keeps0 hC _) (G' := [(4, .ptr 0 4 0 0), (5, .fz _)]) (H' := [(0, OTr (refT g D a))]) (by repeat (first | exact trivial | refine ⟨⟨_, rfl, .inl ⟨rfl, rfl⟩⟩, ?_⟩ | refine ⟨⟨_, rfl, .inl ⟨slEq rfl tN, rfl⟩⟩, ?_⟩ | refine ⟨⟨_, rfl, .inl ⟨ivEq tX, rfl⟩⟩, ?_⟩)) (by exact ⟨ent_same rfl rfl rfl tL, trivial⟩) rfl ?_
        (first | exact s_o1 hC rfl tV | exact s_o2 hC rfl tV tV | exact s_o3 hC rfl tV tV tV | exact s_out0 hC rfl | exact s_outO hC rfl rfl rfl)
end Go.Proofs.YtnkhlbljnmodbaaGreat
namespace Go.Proofs.YtnkhlbljnmodbaaGreat
open Go Go.RT Go.Proofs Go.Pl
set_option linter.all false
set_option maxRecDepth 20000
set_option maxHeartbeats 4000000
def rowA (g : Gr) (D : Nat → Nat → Int) (i : Nat) : List Int := (rowF g.m (D i)).take g.r.toNat
theorem rallL_eq (g : Gr) (D : Nat → Nat → Int) : allL g (fun i => rowF g.m (D i)) = (List.range g.r.toNat).map (rowA g D) := rfl
theorem allOk_of {g : Gr} {D : Nat → Nat → Int} (d : Dst g D) : AllOk g (fun i => rowF g.m (D i)) := by
 have hle := d.vg.le
 refine ⟨fun i _ => rowF_len _ _, fun i hi v hv => ?_⟩
 rw [rowF_get _ _ hv]
 exact d.ok i v (by omega) hv
theorem rall_c (g : Gr) (hok : okG g) (hg : checkI g = 0) : Pure Tryz.prog 21 [.agg (encG g)] (.tup [VLL (allL g (fun i => rowF g.m (disF g.es g.m i))), If .i64 0]) := by
 have d := dst_of hg
 have hdc := rdist_c g hg
 have h128 := d.vg.n128
 have hle := d.vg.le
 have hr0 := d.r0
 have hr : g.r = (g.r.toNat : Int) := by omega
 rw [rallL_eq]
 generalize disF g.es g.m = D at *
 generalize hR : g.r.toNat = R at *
 refine Meets.intro Tryz.func21 rfl (Nat.le_of_ble_eq_true rfl) fun C hC => ?_
 simp only [List.map, argEnv, Nat.reduceAdd]
 refine nK ?_
 refine s_reg rfl ?_
 refine Run.eff (dd := some 1) rfl rfl (op_box_flat rfl (oT rfl) tC rfl) ?_
 refine rp 2 rfl (op_assign rfl oC) ?_
 refine rp 3 rfl (op_assign rfl oC) ?_
 refine rn ?_
 refine nK ?_
 refine s_reg rfl ?_
 refine rl 8 rfl (op_loadw_flat rfl (oT rfl) tH rfl) ?_
 refine rp 9 rfl (op_call_pure (fun _ => rcheck_c _ (by assumption)) rfl (Opd.func _) (oS (oT rfl) Opds.nil)) ?_
 refine ra 4 rfl rfl rfl ?_
 refine rn ?_
 refine nK ?_
 refine s_reg rfl ?_
 refine rm 10 rfl rfl rfl ?_
 refine rp 11 rfl (op_neq rfl (oT rfl) oC) ?_
 refine rn ?_
 refine nK ?_
 refine n_cond _ rfl (fun hb => ?_) (fun hb => ?_)
 ·simp at hb; omega
 ·clear hb
  refine nK ?_
  refine s_reg rfl ?_
  refine rl 13 rfl (op_loadw_flat rfl (oT rfl) tH rfl) ?_
  refine rp 14 rfl (op_call_pure (fun _ => hdc) rfl (Opd.func _) (oS (oT rfl) Opds.nil)) ?_
  refine ra 5 rfl rfl rfl ?_
  refine rn ?_
  refine nK ?_
  refine s_reg rfl ?_
  refine Run.eff (dd := some 15) rfl rfl (op_buildSlice_own rfl (RowsF.nil _) rfl rfl rfl) ?_
  refine ra 6 rfl rfl rfl ?_
  refine rn ?_
  refine nK ?_
  refine s_reg rfl ?_
  refine rp 7 rfl (op_assign rfl oC) ?_
  refine rn ?_
  refine nK ?_
  refine n_loop (ι := Nat) (fun i => ([(1, .ptr 0 3 0 0), (5, .fz (VLL (matF g.m D))), (6, .sl 1 1 0 i), (7, IV .i64 i)], [(0, OG g), (1, some (.flat 1 (((List.range i).map (rowA g D)).map encL)))], 2)) (fun i => i ≤ R) (fun i => R - i) 0 (Nat.zero_le _) ?_ ?_
  ·refine Next.weak [0, 1] [] (by rfl) (keepsN hC _ rfl) (by repeat (first | exact trivial | refine ⟨⟨_, rfl, .inl ⟨rfl, rfl⟩⟩, ?_⟩ | refine ⟨⟨_, rfl, .inl ⟨slEq rfl tN, rfl⟩⟩, ?_⟩ | refine ⟨⟨_, rfl, .inl ⟨ivEq tX, rfl⟩⟩, ?_⟩)) (by exact ⟨ent_same rfl rfl rfl tL, ⟨ent_same rfl rfl rfl tL, trivial⟩⟩) (fun _ h => by simp at h) rel_intro
  ·intro i hi K hK
   try dsimp only at hi hK ⊢
   refine nK ?_
   refine s_reg rfl ?_
   refine rm 16 rfl rfl rfl ?_
   refine rp 17 rfl (op_fld_ptr (by decide) rfl (oT rfl)) ?_
   refine rl 18 rfl (op_load1_flat rfl (oT rfl) tH rfl) ?_
   refine rp 19 rfl (op_lss rfl (oT rfl) (oT rfl)) ?_
   refine rn ?_
   refine nK ?_
   refine n_cond _ rfl (fun hb => ?_) (fun hb => ?_)
   ·have hlt : i < R := by have := of_decide_eq_true hb; omega
    have him : i < g.m := by omega
    have hmi := mat_row g.m D him
    have hK1 := hK (i + 1) (by omega) (by omega)
    rw [List.range_succ, List.map_append, List.map_append] at hK1
    have hll : (((List.range i).map (rowA g D)).map encL).length = i := by simp
    generalize ((List.range i).map (rowA g D)).map encL = rows at *
    refine nK ?_
    refine s_draw mixed ?_
    refine rm 22 rfl rfl rfl ?_
    refine rm 23 rfl rfl rfl ?_
    refine rm 24 rfl rfl rfl ?_
    refine rp 25 rfl (op_idx_fz i rfl (oT rfl) (oT rfl) (by intro _; exact ⟨rfl, hmi⟩)) ?_
    refine rp 26 rfl (op_load1_fz rfl (oT rfl) rfl) ?_
    refine rp 27 rfl (op_fld_ptr (by decide) rfl (oT rfl)) ?_
    refine rl 28 rfl (op_load1_flat rfl (oT rfl) tH rfl) ?_
    refine rp 29 rfl (op_slice_fz (l := 0) (h := R) (rs := (rowA g D i).map encN) rfl (oT rfl) (Bnd.no _) (Bnd.yes _ _ _ _ _ (oT rfl) (by intro _; exact hr)) (by intro _; exact ⟨Nat.zero_le _, by rw [List.length_map, rowF_len]; omega, by unfold rowA; rw [hR, List.map_take]; rfl⟩)) ?_
    refine rp 30 rfl (op_buildSlice_fz rfl (RowsF.cons _ _ _ _ _ _ (oT rfl) tC (by rfl) (RowsF.nil _)) rfl rfl) ?_
    refine Run.effW (dd := some 31) rfl rfl (op_append rfl (oT rfl) (oT rfl) rfl (by exact hll) rfl rfl tB tB) tE ?_
    refine ra 6 rfl rfl rfl ?_
    refine Run.nil (FinD.mk (by kernel_rfl) ?_)
    refine nK ?_
    refine s_reg rfl ?_
    refine rm 20 rfl rfl rfl ?_
    refine rp 21 rfl (op_add rfl (oT rfl) oC tI) ?_
    refine ra 7 rfl rfl rfl ?_
    refine rn ?_
    refine nK ?_
    refine Next.weak [0, 2] [] (by rfl) (keepsN hC _ rfl) (by exact ⟨⟨_, rfl, .inl ⟨rfl, rfl⟩⟩, ⟨⟨_, rfl, .inl ⟨rfl, rfl⟩⟩, ⟨⟨_, rfl, .inl ⟨slEq rfl (by simp [hll]), rfl⟩⟩, ⟨⟨_, rfl, .inl ⟨rfl, rfl⟩⟩, trivial⟩⟩⟩⟩) (by exact ⟨ent_same rfl rfl rfl tL, ⟨ent_same rfl rfl (flEq rfl rfl) trivial, trivial⟩⟩) (fun _ h => by simp at h) hK1
   ·have hie : i = R := by have := of_decide_eq_false hb; omega
    subst hie
    refine nK ?_
    refine s_reg rfl ?_
    refine rm 32 rfl rfl rfl ?_
    refine ra 2 rfl rfl rfl ?_
    refine rp 3 rfl (op_assign rfl oC) ?_
    refine rn ?_
    refine nK ?_
    refine Next.weakS [] [2] (by rfl) (keeps0 hC _) (G' := [(2, .fz (VLL ((List.range i).map (rowA g D)))), (3, IV .i64 0)]) (H' := []) ⟨⟨_, rfl, .inr ⟨_, rfl, .sl _ _ _ _ _ _ rfl rfl (take_all0 (by simp)) (by simp)⟩⟩, ⟨_, rfl, .inl ⟨rfl, rfl⟩⟩, trivial⟩ trivial rfl ?_
    (first | exact s_o1 hC rfl tV | exact s_o2 hC rfl tV tV | exact s_o3 hC rfl tV tV tV | exact s_out0 hC rfl | exact s_outO hC rfl rfl rfl)
end Go.Proofs.YtnkhlbljnmodbaaGreat
namespace Go.Proofs.YtnkhlbljnmodbaaGreat
open Go Go.RT Go.Proofs Go.Pl
set_option linter.all false
set_option maxRecDepth 20000
set_option maxHeartbeats 4000000
theorem clip_c (l : List Int) (hl : l.length ≤ 1999999) : Pure Tryz.prog 58 [VI l] (VI l) := by
 refine Meets.intro Tryz.func58 rfl (Nat.le_of_ble_eq_true rfl) fun C hC => ?_
 simp only [List.map, argEnv, Nat.reduceAdd]
 refine nK ?_
 refine s_reg rfl ?_
 refine rp 2 rfl (op_assign rfl oC) ?_
 refine rn ?_
 refine nK ?_
 refine s_reg rfl ?_
 refine rm 3 rfl rfl rfl ?_
 refine rm 4 rfl rfl rfl ?_
 refine rp 5 rfl (op_len_fz rfl (by first | exact Opd.tmp _ _ rfl | exact Opd.nil _ _ (oT rfl)) (by first | exact List.length_map _ | rfl)) ?_
 refine rm 6 rfl rfl rfl ?_
 refine rp 7 rfl (op_len_fz rfl (by first | exact Opd.tmp _ _ rfl | exact Opd.nil _ _ (oT rfl)) (by first | exact List.length_map _ | rfl)) ?_
 refine rp 8 rfl (op_slice_clip (h := l.length) (mx := l.length) rfl (oT rfl) (Bnd.yes _ _ _ _ _ (oT rfl) (by intro _; rfl)) (Bnd.yes _ _ _ _ _ (oT rfl) (by intro _; rfl)) (by intro _; rw [List.length_map]; exact ⟨rfl, rfl⟩)) ?_
 refine ra 2 rfl rfl rfl ?_
 refine rn ?_
 refine nK ?_
 (first | exact s_o1 hC rfl tV | exact s_o2 hC rfl tV tV | exact s_o3 hC rfl tV tV tV | exact s_out0 hC rfl | exact s_outO hC rfl rfl rfl)
theorem all_c (g : Gr) (D : Nat → List Int) (hok : okG g) (hg : checkI g = 0) (hD : AllOk g D) : Pure Tryz.prog 31 [.agg (encG g)] (.tup [VLL (allL g D), If .i64 0]) := by
 obtain ⟨h128, h0, h1⟩ := checkI_sz hg
 have hdc := fun (a : Nat) (ha : a < g.r.toNat) => dist_c g a (D a) hg hok (by omega) (hD.len a ha) (hD.dist a ha)
 have hlen := hD.len
 have hr : g.r = (g.r.toNat : Int) := by omega
 refine Meets.intro Tryz.func31 rfl (Nat.le_of_ble_eq_true rfl) fun C hC => ?_
 simp only [List.map, argEnv, Nat.reduceAdd]
 refine nK ?_
 refine s_reg rfl ?_
 refine Run.eff (dd := some 1) rfl rfl (op_box_flat rfl (oT rfl) tC rfl) ?_
 refine rp 2 rfl (op_assign rfl oC) ?_
 refine rp 3 rfl (op_assign rfl oC) ?_
 refine rn ?_
 refine nK ?_
 refine s_reg rfl ?_
 refine rl 7 rfl (op_loadw_flat rfl (oT rfl) tH rfl) ?_
 refine rp 8 rfl (op_call_pure (fun _ => check_c _ (by assumption)) rfl (Opd.func _) (oS (oT rfl) Opds.nil)) ?_
 refine ra 4 rfl rfl rfl ?_
 refine rn ?_
 refine nK ?_
 refine s_reg rfl ?_
 refine rm 9 rfl rfl rfl ?_
 refine rp 10 rfl (op_neq rfl (oT rfl) oC) ?_
 refine rn ?_
 refine nK ?_
 refine n_cond _ rfl (fun hb => ?_) (fun hb => ?_)
 ·simp at hb; omega
 ·clear hb
  refine nK ?_
  refine s_reg rfl ?_
  refine rp 12 rfl (op_fld_ptr (by decide) rfl (oT rfl)) ?_
  refine rl 13 rfl (op_load1_flat rfl (oT rfl) tH rfl) ?_
  refine Run.eff (dd := some 14) rfl rfl (op_make (l := g.r.toNat) (c := g.r.toNat) rfl (oT rfl) (oT rfl) rfl rfl rfl rfl (by intro _; refine ⟨hr, hr, ?_⟩; omega)) ?_
  refine ra 5 rfl rfl rfl ?_
  refine rn ?_
  refine nK ?_
  refine Next.weak [0, 1] [] (by rfl) (keepsN hC _ rfl) (G' := [(1, .ptr 0 3 0 0), (5, .sl 1 1 0 g.r.toNat)]) (H' := [(0, OG g), (1, some (.flat 1 (allP g D 0)))]) (by repeat (first | exact trivial | refine ⟨⟨_, rfl, .inl ⟨rfl, rfl⟩⟩, ?_⟩ | refine ⟨⟨_, rfl, .inl ⟨slEq rfl tN, rfl⟩⟩, ?_⟩ | refine ⟨⟨_, rfl, .inl ⟨ivEq tX, rfl⟩⟩, ?_⟩)) (by exact ⟨ent_same rfl rfl rfl tL, ⟨ent_same rfl rfl (flEq rfl (by rw [allP_0]; rfl)) trivial, trivial⟩⟩) (fun _ h => by simp at h) ?_
  refine nK ?_
  refine s_reg rfl ?_
  refine rm 15 rfl rfl rfl ?_
  refine rp 16 rfl (op_len_sl rfl (oT rfl)) ?_
  refine rp 17 rfl (op_move rfl oC) ?_
  refine rn ?_
  refine nK ?_
  refine n_loop (ι := Nat) (fun k => ([(1, .ptr 0 3 0 0), (5, .sl 1 1 0 g.r.toNat), (16, IV .i64 g.r.toNat), (17, IV .i64 k)], [(0, OG g), (1, some (.flat 1 (allP g D k)))], 2)) (fun k => k ≤ g.r.toNat) (fun k => g.r.toNat - k) 0 (Nat.zero_le _) ?_ ?_
  ·refine Next.weak [0, 1] [] (by rfl) (keepsN hC _ rfl) (by repeat (first | exact trivial | refine ⟨⟨_, rfl, .inl ⟨rfl, rfl⟩⟩, ?_⟩ | refine ⟨⟨_, rfl, .inl ⟨slEq rfl tN, rfl⟩⟩, ?_⟩ | refine ⟨⟨_, rfl, .inl ⟨ivEq tX, rfl⟩⟩, ?_⟩)) (by exact ⟨ent_same rfl rfl rfl tL, ⟨ent_same rfl rfl rfl tL, trivial⟩⟩) (fun _ h => by simp at h) rel_intro
  ·intro k hk K hK
   try dsimp only at hk hK ⊢
   refine nK ?_
   refine s_reg rfl ?_
   refine rp 18 rfl (op_lss rfl (oT rfl) (oT rfl)) ?_
   refine rn ?_
   refine nK ?_
   refine n_cond _ rfl (fun hb => ?_) (fun hb => ?_)
   ·have hlt : k < g.r.toNat := Int.ofNat_lt.1 (of_decide_eq_true hb)
    have hK1 := hK (k + 1) (by omega) (by omega)
    rw [← allP_set] at hK1
    have hrow : (allP g D k)[k]? = some [.lit (.slice none 0 0)] := by unfold allP; rw [rng_get _ _ _ hlt, if_neg (by omega)]
    have hdk := hdc k hlt
    have hlk := hlen k hlt
    have hmm : g.m = (g.r + g.n).toNat := rfl
    generalize D k = dk at *
    have hcl := clip_c (dk.take g.r.toNat) (by have := List.length_take_le' g.r.toNat dk; omega)
    refine nK ?_
    refine s_reg rfl ?_
    refine rm 19 rfl rfl rfl ?_
    refine ra 6 rfl rfl rfl ?_
    refine rn ?_
    refine nK ?_
    refine s_draw mixed ?_
    refine rm 20 rfl rfl rfl ?_
    refine rm 21 rfl rfl rfl ?_
    refine rl 22 rfl (op_loadw_flat rfl (oT rfl) tH rfl) ?_
    refine rm 23 rfl rfl rfl ?_
    refine rp 24 rfl (op_call_pure (fun _ => hdk) rfl (Opd.func _) (oS (oT rfl) (oS (oT rfl) Opds.nil))) ?_
    refine rp 25 rfl (op_fld_ptr (by decide) rfl (oT rfl)) ?_
    refine rl 26 rfl (op_load1_flat rfl (oT rfl) tH rfl) ?_
    refine rp 27 rfl (op_slice_fz (l := 0) (h := g.r.toNat) (rs := (dk.take g.r.toNat).map encN) rfl (oT rfl) (Bnd.no _) (Bnd.yes _ _ _ _ _ (oT rfl) (by intro _; exact hr)) (by intro _; exact ⟨Nat.zero_le _, by simp; omega, by simp [List.map_take]⟩)) ?_
    refine rp 28 rfl (op_call_pure (fun _ => hcl) rfl (Opd.func _) (oS (oT rfl) Opds.nil)) ?_
    refine rp 29 rfl (op_idx_sl0 k rfl (oT rfl) (oT rfl) (by intro _; exact ⟨rfl, hlt⟩)) ?_
    refine Run.effW (dd := none) rfl rfl (op_store_flat rfl (oT rfl) (oT rfl) tC rfl rfl hrow tS) tE ?_
    refine Run.nil (FinD.mk (by kernel_rfl) ?_)
    refine nK ?_
    refine s_reg rfl ?_
    refine rp 30 rfl (op_add rfl (oT rfl) oC tI) ?_
    refine rm 17 rfl rfl rfl ?_
    refine rn ?_
    refine nK ?_
    refine Next.weak [0, 1] [] (by rfl) (keepsN hC _ rfl) (by repeat (first | exact trivial | refine ⟨⟨_, rfl, .inl ⟨rfl, rfl⟩⟩, ?_⟩ | refine ⟨⟨_, rfl, .inl ⟨slEq rfl tN, rfl⟩⟩, ?_⟩ | refine ⟨⟨_, rfl, .inl ⟨ivEq tX, rfl⟩⟩, ?_⟩)) (by exact ⟨ent_same rfl rfl rfl tL, ⟨ent_same rfl rfl rfl tL, trivial⟩⟩) (fun _ h => by simp at h) hK1
   ·have hke : k = g.r.toNat := by
     have := of_decide_eq_false hb; omega
    subst hke
    refine nK ?_
    refine s_reg rfl ?_
    refine rm 31 rfl rfl rfl ?_
    refine ra 2 rfl rfl rfl ?_
    refine rp 3 rfl (op_assign rfl oC) ?_
    refine rn ?_
    refine nK ?_
    refine Next.weakS [] [2] (by rfl) (keeps0 hC _) (G' := [(2, .fz (VLL (allL g D))), (3, IV .i64 0)]) (H' := []) ⟨⟨_, rfl, .inr ⟨_, rfl, .sl _ _ _ _ _ _ rfl rfl ((take_all0 (allP_len _ _ _)).trans (allP_n _ _)) (by rw [← allP_n, allP_len])⟩⟩, ⟨_, rfl, .inl ⟨rfl, rfl⟩⟩, trivial⟩ trivial rfl ?_
    (first | exact s_o1 hC rfl tV | exact s_o2 hC rfl tV tV | exact s_o3 hC rfl tV tV tV | exact s_out0 hC rfl | exact s_outO hC rfl rfl rfl)
end Go.Proofs.YtnkhlbljnmodbaaGreat
namespace Go.Proofs.YtnkhlbljnmodbaaGreat
open Go Go.RT Go.Proofs Go.Pl
set_option linter.all false
set_option maxRecDepth 20000
set_option maxHeartbeats 4000000
def plainI (g : Gr) : Int := if checkI g ≠ 0 then checkI g else if 0 < g.n then 15 else 0
theorem plainI_ok {g : Gr} (h : plainI g = 0) : checkI g = 0 ∧ g.n = 0 := by
 unfold plainI at h
 split at h
 ·rename_i h1; exact absurd h h1
 ·rename_i h1
  have h2 : checkI g = 0 := by omega
  have := (checkI_sz h2).2.2
  split at h
  ·cases h
  ·exact ⟨h2, by omega⟩
abbrev OAl (l : List Alt) : Option Ob := some (.flat 5 (l.map encAl))
theorem okT_tab {g : Gr} {D : Nat → Nat → Int} (d : Dst g D) : okT (tabL g D) := fun l hl x hx => by
 have hle := d.vg.le
 obtain ⟨i, hi, rfl⟩ := List.mem_map.1 hl
 have hi' := List.mem_range.1 hi
 have h1 := List.mem_of_mem_take hx
 obtain ⟨k, hk, rfl⟩ := List.mem_map.1 h1
 have := d.bnd (i := i) (k := k) (by omega) (List.mem_range.1 hk)
 simp only [inr]; omega
theorem tab_rows {g : Gr} {D : Nat → Nat → Int} (hN : g.n = 0) {x : Nat} (hx : x < g.m) : ((tabL g D).map encL)[x]? = some [VI (rowF g.m (D x))] := by
 have h1 := row_of encL (tabL g D) x [] (by rw [tab_len, ← plain_m hN]; exact hx)
 rw [show (tabL g D).getD x [] = rowF g.m (D x) from tab_row hN hx] at h1
 exact h1
theorem lplain_c (g : Gr) (hok : okG g) : Pure Tryz.prog 29 [.agg (encG g)] (If .i64 (plainI g)) := by
 unfold plainI
 refine Meets.intro Tryz.func29 rfl (Nat.le_of_ble_eq_true rfl) fun C hC => ?_
 simp only [List.map, argEnv, Nat.reduceAdd]
 refine nK ?_
 refine s_reg rfl ?_
 refine Run.eff (dd := some 1) rfl rfl (op_box_flat rfl (oT rfl) tC rfl) ?_
 refine rp 2 rfl (op_assign rfl oC) ?_
 refine rn ?_
 refine nK ?_
 refine s_reg rfl ?_
 refine rl 4 rfl (op_loadw_flat rfl (oT rfl) tH rfl) ?_
 refine rp 5 rfl (op_call_pure (fun _ => check_c _ (by assumption)) rfl (Opd.func _) (oS (oT rfl) Opds.nil)) ?_
 refine ra 3 rfl rfl rfl ?_
 refine rn ?_
 refine nK ?_
 refine s_reg rfl ?_
 refine rm 6 rfl rfl rfl ?_
 refine rp 7 rfl (op_neq rfl (oT rfl) oC) ?_
 refine rn ?_
 refine nK ?_
 refine n_cond _ rfl (fun hb => ?_) (fun hb => ?_)
 ·rw [if_pos (by simpa using hb)]
  refine nK ?_
  refine s_reg rfl ?_
  refine rm 8 rfl rfl rfl ?_
  refine ra 2 rfl rfl rfl ?_
  refine rn ?_
  refine nK ?_
  (first | exact s_o1 hC rfl tV | exact s_o2 hC rfl tV tV | exact s_o3 hC rfl tV tV tV | exact s_out0 hC rfl | exact s_outO hC rfl rfl rfl)
 ·rw [if_neg (by simpa using hb)]
  refine nK ?_
  refine s_reg rfl ?_
  refine rp 9 rfl (op_fld_ptr (by decide) rfl (oT rfl)) ?_
  refine rl 10 rfl (op_load1_flat rfl (oT rfl) tH rfl) ?_
  refine rp 11 rfl (op_gtr rfl (oT rfl) oC) ?_
  refine rn ?_
  refine nK ?_
  refine n_cond _ rfl (fun hb => ?_) (fun hb => ?_)
  ·rw [if_pos (by simpa using hb)]
   refine nK ?_
   refine s_reg rfl ?_
   refine rp 2 rfl (op_assign rfl oC) ?_
   refine rn ?_
   refine nK ?_
   (first | exact s_o1 hC rfl tV | exact s_o2 hC rfl tV tV | exact s_o3 hC rfl tV tV tV | exact s_out0 hC rfl | exact s_outO hC rfl rfl rfl)
  ·rw [if_neg (by simp at hb; omega)]
   refine nK ?_
   refine s_reg rfl ?_
   refine rp 2 rfl (op_assign rfl oC) ?_
   refine rn ?_
   refine nK ?_
   (first | exact s_o1 hC rfl tV | exact s_o2 hC rfl tV tV | exact s_o3 hC rfl tV tV tV | exact s_out0 hC rfl | exact s_outO hC rfl rfl rfl)
theorem rplain_c (g : Gr) (hok : okG g) : Pure Tryz.prog 38 [.agg (encG g)] (If .i64 (plainI g)) := by
 unfold plainI
 refine Meets.intro Tryz.func38 rfl (Nat.le_of_ble_eq_true rfl) fun C hC => ?_
 simp only [List.map, argEnv, Nat.reduceAdd]
 refine nK ?_
 refine s_reg rfl ?_
 refine Run.eff (dd := some 1) rfl rfl (op_box_flat rfl (oT rfl) tC rfl) ?_
 refine rp 2 rfl (op_assign rfl oC) ?_
 refine rn ?_
 refine nK ?_
 refine s_reg rfl ?_
 refine rl 4 rfl (op_loadw_flat rfl (oT rfl) tH rfl) ?_
 refine rp 5 rfl (op_call_pure (fun _ => rcheck_c _ (by assumption)) rfl (Opd.func _) (oS (oT rfl) Opds.nil)) ?_
 refine ra 3 rfl rfl rfl ?_
 refine rn ?_
 refine nK ?_
 refine s_reg rfl ?_
 refine rm 6 rfl rfl rfl ?_
 refine rp 7 rfl (op_neq rfl (oT rfl) oC) ?_
 refine rn ?_
 refine nK ?_
 refine n_cond _ rfl (fun hb => ?_) (fun hb => ?_)
 ·rw [if_pos (by simpa using hb)]
  refine nK ?_
  refine s_reg rfl ?_
  refine rm 8 rfl rfl rfl ?_
  refine ra 2 rfl rfl rfl ?_
  refine rn ?_
  refine nK ?_
  (first | exact s_o1 hC rfl tV | exact s_o2 hC rfl tV tV | exact s_o3 hC rfl tV tV tV | exact s_out0 hC rfl | exact s_outO hC rfl rfl rfl)
 ·rw [if_neg (by simpa using hb)]
  refine nK ?_
  refine s_reg rfl ?_
  refine rp 9 rfl (op_fld_ptr (by decide) rfl (oT rfl)) ?_
  refine rl 10 rfl (op_load1_flat rfl (oT rfl) tH rfl) ?_
  refine rp 11 rfl (op_gtr rfl (oT rfl) oC) ?_
  refine rn ?_
  refine nK ?_
  refine n_cond _ rfl (fun hb => ?_) (fun hb => ?_)
  ·rw [if_pos (by simpa using hb)]
   refine nK ?_
   refine s_reg rfl ?_
   refine rp 2 rfl (op_assign rfl oC) ?_
   refine rn ?_
   refine nK ?_
   (first | exact s_o1 hC rfl tV | exact s_o2 hC rfl tV tV | exact s_o3 hC rfl tV tV tV | exact s_out0 hC rfl | exact s_outO hC rfl rfl rfl)
  ·rw [if_neg (by simp at hb; omega)]
   refine nK ?_
   refine s_reg rfl ?_
   refine rp 2 rfl (op_assign rfl oC) ?_
   refine rn ?_
   refine nK ?_
   (first | exact s_o1 hC rfl tV | exact s_o2 hC rfl tV tV | exact s_o3 hC rfl tV tV tV | exact s_out0 hC rfl | exact s_outO hC rfl rfl rfl)
theorem better_c (x : Alt) (c : Int) (s : BSt) : Meets Tryz.prog 33 [.fz (.agg (encAl x)), IV .i64 c, .ptr 0 1 0 0, .ptr 1 5 0 0, .ptr 2 1 0 0] 3 [(0, some (.flat 1 [[Bf s.found]])), (1, some (.flat 5 [encAl s.best])), (2, some (.flat 1 [[If .i64 s.least]]))] (.fz (Bf (betA x c s))) [(0, some (.flat 1 [[Bf s.found]])), (1, some (.flat 5 [encAl s.best])), (2, some (.flat 1 [[If .i64 s.least]]))] 3 := by
 have hbe : betA x c s = ((!s.found || decide (s.best.kind < x.kind)) || (decide (x.kind = s.best.kind) && decide (c < s.least))) := by unfold betA; rw [Bool.or_assoc]
 rw [hbe]
 refine Meets.intro Tryz.func33 rfl (Nat.le_of_ble_eq_true rfl) fun C hC => ?_
 simp only [List.map, argEnv, Nat.reduceAdd]
 refine nK ?_
 refine s_reg rfl ?_
 refine Run.eff (dd := some 5) rfl rfl (op_box_flat rfl (oT rfl) tC rfl) ?_
 refine rp 7 rfl (op_assign rfl oC) ?_
 refine rn ?_
 refine nK ?_
 refine s_reg rfl ?_
 refine rl 8 rfl (op_load1_flat rfl (oT rfl) tH rfl) ?_
 refine rp 9 rfl (op_not rfl (oT rfl)) ?_
 refine rm 10 rfl rfl rfl ?_
 refine rg 11 rfl rfl tG (op_fld_ptr (by decide) rfl (oT rfl)) ?_
 refine rk 12 rfl rfl tG (op_load1_flat rfl (oO rfl tO) tH rfl) ?_
 refine rg 13 rfl rfl tG (op_fld_ptr (by decide) rfl (oT rfl)) ?_
 refine rk 14 rfl rfl tG (op_load1_flat rfl (oO rfl tO) tH rfl) ?_
 refine rg 15 rfl rfl tG (op_gtr rfl (oO rfl tO) (oO rfl tO)) ?_
 refine rp 16 rfl (op_pick_or rfl (oT rfl) (oO rfl tO)) ?_
 refine rm 17 rfl rfl rfl ?_
 refine rg 18 rfl rfl tG (op_fld_ptr (by decide) rfl (oT rfl)) ?_
 refine rk 19 rfl rfl tG (op_load1_flat rfl (oO rfl tO) tH rfl) ?_
 refine rg 20 rfl rfl tG (op_fld_ptr (by decide) rfl (oT rfl)) ?_
 refine rk 21 rfl rfl tG (op_load1_flat rfl (oO rfl tO) tH rfl) ?_
 refine rg 22 rfl rfl tG (op_eql rfl (oO rfl tO) (oO rfl tO)) ?_
 refine rg 23 rfl rfl tG (op_move rfl (oO rfl tO)) ?_
 refine gm 24 rfl rfl tG rfl rfl ?_
 refine rk 25 rfl rfl tG (op_load1_flat rfl (oT rfl) tH rfl) ?_
 refine rg 26 rfl rfl tG (op_lss rfl (oO rfl tO) (oO rfl tO)) ?_
 refine rg 27 rfl rfl tG (op_pick_and rfl (oO rfl tO) (oO rfl tO)) ?_
 refine rp 28 rfl (op_pick_or rfl (oT rfl) (oO rfl tO)) ?_
 refine ra 7 rfl rfl rfl ?_
 refine rn ?_
 refine nK ?_
 refine Next.weak [0, 1, 2] [] (by rfl) (keepsN hC _ rfl) (G' := [(7, .fz (Bf ((!s.found || decide (s.best.kind < x.kind)) || (decide (x.kind = s.best.kind) && decide (c < s.least)))))]) (H' := [(0, some (.flat 1 [[Bf s.found]])), (1, some (.flat 5 [encAl s.best])), (2, some (.flat 1 [[If .i64 s.least]]))]) (by repeat (first | exact trivial | refine ⟨⟨_, rfl, .inl ⟨rfl, rfl⟩⟩, ?_⟩ | refine ⟨⟨_, rfl, .inl ⟨slEq rfl tN, rfl⟩⟩, ?_⟩ | refine ⟨⟨_, rfl, .inl ⟨ivEq tX, rfl⟩⟩, ?_⟩)) (by exact ⟨ent_same rfl rfl rfl tL, ⟨ent_same rfl rfl rfl tL, ⟨ent_same rfl rfl rfl tL, trivial⟩⟩⟩) (fun _ h => by simp at h) ?_
 exact n_out1 rfl (by rfl) rfl rfl
theorem lall_bad (g : Gr) (a : Int) (hok : okG g) (hg : plainI g ≠ 0) : Pure Tryz.prog 10 [.agg (encG g), If .i64 a] (.tup [VAl [], If .i64 (plainI g)]) := by
 refine Meets.intro Tryz.func10 rfl (Nat.le_of_ble_eq_true rfl) fun C hC => ?_
 simp only [List.map, argEnv, Nat.reduceAdd]
 refine nK ?_
 refine s_reg rfl ?_
 refine Run.eff (dd := some 2) rfl rfl (op_box_flat rfl (oT rfl) tC rfl) ?_
 refine rp 4 rfl (op_assign rfl oC) ?_
 refine rp 5 rfl (op_assign rfl oC) ?_
 refine rn ?_
 refine nK ?_
 refine s_reg rfl ?_
 refine rl 25 rfl (op_loadw_flat rfl (oT rfl) tH rfl) ?_
 refine rp 26 rfl (op_call_pure (fun _ => lplain_c _ (by assumption)) rfl (Opd.func _) (oS (oT rfl) Opds.nil)) ?_
 refine ra 6 rfl rfl rfl ?_
 refine rn ?_
 refine nK ?_
 refine s_reg rfl ?_
 refine rm 27 rfl rfl rfl ?_
 refine rp 28 rfl (op_neq rfl (oT rfl) oC) ?_
 refine rn ?_
 refine nK ?_
 refine n_cond _ rfl (fun hb => ?_) (fun hb => ?_)
 ·refine nK ?_
  refine s_reg rfl ?_
  refine rm 29 rfl rfl rfl ?_
  refine rp 4 rfl (op_assign rfl oC) ?_
  refine ra 5 rfl rfl rfl ?_
  refine rn ?_
  refine nK ?_
  refine Next.weakS [] [] (by rfl) (keeps0 hC _) (G' := [(4, .fz (VAl [])), (5, .fz _)]) (H' := []) (by repeat (first | exact trivial | refine ⟨⟨_, rfl, .inl ⟨rfl, rfl⟩⟩, ?_⟩ | refine ⟨⟨_, rfl, .inl ⟨slEq rfl tN, rfl⟩⟩, ?_⟩ | refine ⟨⟨_, rfl, .inl ⟨ivEq tX, rfl⟩⟩, ?_⟩ | refine ⟨⟨_, rfl, .inr ⟨_, rfl, tW⟩⟩, ?_⟩)) trivial rfl ?_
  (first | exact s_o1 hC rfl tV | exact s_o2 hC rfl tV tV | exact s_o3 hC rfl tV tV tV | exact s_out0 hC rfl | exact s_outO hC rfl rfl rfl)
 ·exfalso; simp at hb; exact hg hb
theorem lall_out (g : Gr) (a : Int) (hok : okG g) (hg : plainI g = 0) (ha : a < 0 ∨ g.r ≤ a) : Pure Tryz.prog 10 [.agg (encG g), If .i64 a] (.tup [VAl [], If .i64 5]) := by
 have hrc := run_out g a hok (plainI_ok hg).1 ha
 refine Meets.intro Tryz.func10 rfl (Nat.le_of_ble_eq_true rfl) fun C hC => ?_
 simp only [List.map, argEnv, Nat.reduceAdd]
 refine nK ?_
 refine s_reg rfl ?_
 refine Run.eff (dd := some 2) rfl rfl (op_box_flat rfl (oT rfl) tC rfl) ?_
 refine rp 4 rfl (op_assign rfl oC) ?_
 refine rp 5 rfl (op_assign rfl oC) ?_
 refine rn ?_
 refine nK ?_
 refine s_reg rfl ?_
 refine rl 25 rfl (op_loadw_flat rfl (oT rfl) tH rfl) ?_
 refine rp 26 rfl (op_call_pure (fun _ => lplain_c _ (by assumption)) rfl (Opd.func _) (oS (oT rfl) Opds.nil)) ?_
 refine ra 6 rfl rfl rfl ?_
 refine rn ?_
 refine nK ?_
 refine s_reg rfl ?_
 refine rm 27 rfl rfl rfl ?_
 refine rp 28 rfl (op_neq rfl (oT rfl) oC) ?_
 refine rn ?_
 refine nK ?_
 refine n_cond _ rfl (fun hb => ?_) (fun hb => ?_)
 ·exfalso; simp at hb; exact hb hg
 ·refine nK ?_
  refine s_reg rfl ?_
  refine rl 31 rfl (op_loadw_flat rfl (oT rfl) tH rfl) ?_
  refine rm 32 rfl rfl rfl ?_
  refine rp 33 rfl (op_call_pure (fun _ => hrc) rfl (Opd.func _) (oS (oT rfl) (oS (oT rfl) Opds.nil))) ?_
  refine rm 30 rfl rfl rfl ?_
  refine rp 34 rfl (op_extract_fz rfl (oT rfl) rfl) ?_
  refine rp 35 rfl (op_extract_fz rfl (oT rfl) rfl) ?_
  refine Run.eff (dd := some 7) rfl rfl (op_alloc rfl rfl rfl rfl) ?_
  refine Run.eff (dd := none) rfl rfl (op_store_flat rfl (oT rfl) (oT rfl) tC rfl rfl (by first | rfl | assumption) tS) ?_
  refine ra 8 rfl rfl rfl ?_
  refine rn ?_
  refine nK ?_
  refine s_reg rfl ?_
  refine rm 36 rfl rfl rfl ?_
  refine rp 37 rfl (op_neq rfl (oT rfl) oC) ?_
  refine rn ?_
  refine nK ?_
  refine n_cond _ rfl (fun hb => ?_) (fun hb => ?_)
  ·refine nK ?_
   refine s_reg rfl ?_
   refine rm 38 rfl rfl rfl ?_
   refine rp 4 rfl (op_assign rfl oC) ?_
   refine ra 5 rfl rfl rfl ?_
   refine rn ?_
   refine nK ?_
   refine Next.weakS [] [] (by rfl) (keeps0 hC _) (G' := [(4, .fz (VAl [])), (5, .fz _)]) (H' := []) (by repeat (first | exact trivial | refine ⟨⟨_, rfl, .inl ⟨rfl, rfl⟩⟩, ?_⟩ | refine ⟨⟨_, rfl, .inl ⟨slEq rfl tN, rfl⟩⟩, ?_⟩ | refine ⟨⟨_, rfl, .inl ⟨ivEq tX, rfl⟩⟩, ?_⟩ | refine ⟨⟨_, rfl, .inr ⟨_, rfl, tW⟩⟩, ?_⟩)) trivial rfl ?_
   (first | exact s_o1 hC rfl tV | exact s_o2 hC rfl tV tV | exact s_o3 hC rfl tV tV tV | exact s_out0 hC rfl | exact s_outO hC rfl rfl rfl)
  ·exfalso; simp at hb
theorem lall_c (g : Gr) (a : Nat) (t : Tr) (hok : okG g) (hN : g.n = 0) (h : RunOk g a t) : Pure Tryz.prog 10 [.agg (encG g), If .i64 a] (.tup [VAl (allA g (tabL g (disF g.es g.m)) a (nextI a g.es) t.hops g.r.toNat), If .i64 0]) := by
 have hg := h.ok
 have d := dst_of hg
 have hac := all_c g _ hok hg (allOk_of d)
 have hrc := run_c g a t hok h
 have h128 := d.vg.n128
 have hel := d.vg.e1024
 have hnc := next_c g a (by omega)
 have hns := (nextI_spec (a : Int) g.es)
 have hnl := nextI_len (a : Int) g.es
 have hll := okT_tab d
 have hm := plain_m hN
 have hr : g.r = (g.r.toNat : Int) := by have := d.r0; omega
 have hpl : plainI g = 0 := by unfold plainI; rw [if_neg (by simp [hg]), if_neg (by omega)]
 have hhl := h.hopInv.ok.len
 have hhr := fun v (hv : v < g.m) => (h.hopInv.ok.row v hv)
 have hcb := fun f t => cost_bnd d.vg f t
 have hdb := fun i k (hi : i < g.m) (hk : k < g.m) => d.bnd hi hk
 have htr := fun x (hx : x < g.m) => tab_rows (D := disF g.es g.m) hN hx
 have htg := fun x y (hx : x < g.m) (hy : y < g.m) => tab_get (D := disF g.es g.m) hN hx hy
 have hnn : ∀ n ∈ nextI (a : Int) g.es, 0 ≤ n ∧ n < (g.m : Int) := fun n hn => by
  obtain ⟨e, he, h1, h2⟩ := (hns.2 n).1 hn
  have := d.vg.t e he; omega
 generalize disF g.es g.m = D at *
 clear hns
 generalize nextI (a : Int) g.es = ns at *
 change RT.Pure _ _ _ (.tup [.vals 1 ((tabL g D).map encL), If .i64 0]) at hac
 refine Meets.intro Tryz.func10 rfl (Nat.le_of_ble_eq_true rfl) fun C hC => ?_
 simp only [List.map, argEnv, Nat.reduceAdd]
 refine nK ?_
 refine s_reg rfl ?_
 refine Run.eff (dd := some 2) rfl rfl (op_box_flat rfl (oT rfl) tC rfl) ?_
 refine rp 4 rfl (op_assign rfl oC) ?_
 refine rp 5 rfl (op_assign rfl oC) ?_
 refine rn ?_
 refine nK ?_
 refine s_reg rfl ?_
 refine rl 25 rfl (op_loadw_flat rfl (oT rfl) tH rfl) ?_
 refine rp 26 rfl (op_call_pure (fun _ => lplain_c _ (by assumption)) rfl (Opd.func _) (oS (oT rfl) Opds.nil)) ?_
 refine ra 6 rfl rfl rfl ?_
 refine rn ?_
 refine nK ?_
 refine s_reg rfl ?_
 refine rm 27 rfl rfl rfl ?_
 refine rp 28 rfl (op_neq rfl (oT rfl) oC) ?_
 refine rn ?_
 refine nK ?_
 refine n_cond _ rfl (fun hb => ?_) (fun hb => ?_)
 ·exfalso; simp at hb; exact hb hpl
 ·clear hb
  refine nK ?_
  refine s_reg rfl ?_
  refine rl 31 rfl (op_loadw_flat rfl (oT rfl) tH rfl) ?_
  refine rm 32 rfl rfl rfl ?_
  refine rp 33 rfl (op_call_pure (fun _ => hrc) rfl (Opd.func _) (oS (oT rfl) (oS (oT rfl) Opds.nil))) ?_
  refine rm 30 rfl rfl rfl ?_
  refine rp 34 rfl (op_extract_fz rfl (oT rfl) rfl) ?_
  refine rp 35 rfl (op_extract_fz rfl (oT rfl) rfl) ?_
  refine Run.eff (dd := some 7) rfl rfl (op_alloc rfl rfl rfl rfl) ?_
  refine Run.eff (dd := none) rfl rfl (op_store_flat rfl (oT rfl) (oT rfl) tC rfl rfl (by first | rfl | assumption) tS) ?_
  refine ra 8 rfl rfl rfl ?_
  refine rn ?_
  refine nK ?_
  refine s_reg rfl ?_
  refine rm 36 rfl rfl rfl ?_
  refine rp 37 rfl (op_neq rfl (oT rfl) oC) ?_
  refine rn ?_
  refine nK ?_
  refine n_cond _ rfl (fun hb => ?_) (fun hb => ?_)
  ·exfalso; simp at hb
  ·clear hb
   refine nK ?_
   refine s_reg rfl ?_
   refine rl 40 rfl (op_loadw_flat rfl (oT rfl) tH rfl) ?_
   refine rp 41 rfl (op_call_pure (fun _ => hac) rfl (Opd.func _) (oS (oT rfl) Opds.nil)) ?_
   refine rm 39 rfl rfl rfl ?_
   refine rp 42 rfl (op_extract_fz rfl (oT rfl) rfl) ?_
   refine rp 43 rfl (op_extract_fz rfl (oT rfl) rfl) ?_
   refine ra 9 rfl rfl rfl ?_
   refine ra 10 rfl rfl rfl ?_
   refine rn ?_
   refine nK ?_
   refine s_reg rfl ?_
   refine rl 44 rfl (op_loadw_flat rfl (oT rfl) tH rfl) ?_
   refine rm 45 rfl rfl rfl ?_
   refine rp 46 rfl (op_call_pure (fun _ => hnc) rfl (Opd.func _) (oS (oT rfl) (oS (oT rfl) Opds.nil))) ?_
   refine ra 11 rfl rfl rfl ?_
   refine rn ?_
   refine nK ?_
   refine s_reg rfl ?_
   refine rp 12 rfl (op_assign rfl oC) ?_
   refine rn ?_
   refine nK ?_
   refine Next.adopt 12 5 rfl ?_
   refine Next.weak [0, 1, 2] [] (by rfl) (keepsN hC _ rfl) (G' := [(1, IV .i64 a), (2, .ptr 0 3 0 0), (7, .ptr 1 4 0 0), (9, .fz (VLL (tabL g D))), (11, .fz (VI ns)), (12, .sl 2 5 0 0)]) (H' := [(0, OG g), (1, OTr t), (2, OAl [])]) (by repeat (first | exact trivial | refine ⟨⟨_, rfl, .inl ⟨rfl, rfl⟩⟩, ?_⟩ | refine ⟨⟨_, rfl, .inl ⟨slEq rfl tN, rfl⟩⟩, ?_⟩ | refine ⟨⟨_, rfl, .inl ⟨ivEq tX, rfl⟩⟩, ?_⟩)) (by exact ⟨ent_same rfl rfl rfl tL, ⟨ent_same rfl rfl rfl tL, ⟨ent_same rfl rfl rfl tL, trivial⟩⟩⟩) (fun _ h => by simp at h) ?_
   refine nK ?_
   refine s_reg rfl ?_
   refine rp 47 rfl (op_fld_ptr (by decide) rfl (oT rfl)) ?_
   refine rl 48 rfl (op_load1_flat rfl (oT rfl) tH rfl) ?_
   refine rp 49 rfl (op_move rfl oC) ?_
   refine rn ?_
   refine nK ?_
   refine n_loop (ι := Nat) (fun k => ([(1, IV .i64 a), (2, .ptr 0 3 0 0), (7, .ptr 1 4 0 0), (9, .fz (VLL (tabL g D))), (11, .fz (VI ns)), (12, .sl 2 5 0 (allA g (tabL g D) a ns t.hops k).length), (48, IV .i64 g.r.toNat), (49, IV .i64 k)], [(0, OG g), (1, OTr t), (2, OAl (allA g (tabL g D) a ns t.hops k))], 3)) (fun k => k ≤ g.r.toNat ∧ (allA g (tabL g D) a ns t.hops k).length ≤ k * 128) (fun k => g.r.toNat - k) 0 ⟨Nat.zero_le _, Nat.le_refl _⟩ ?_ ?_
   ·refine Next.weak [0, 1, 2] [] (by rfl) (keepsN hC _ rfl) (by repeat (first | exact trivial | refine ⟨⟨_, rfl, .inl ⟨rfl, rfl⟩⟩, ?_⟩ | refine ⟨⟨_, rfl, .inl ⟨slEq rfl tN, rfl⟩⟩, ?_⟩ | refine ⟨⟨_, rfl, .inl ⟨ivEq tX, rfl⟩⟩, ?_⟩)) (by exact ⟨ent_same rfl rfl rfl tL, ⟨ent_same rfl rfl rfl tL, ⟨ent_same rfl rfl rfl tL, trivial⟩⟩⟩) (fun _ h => by simp at h) rel_intro
   ·intro k ⟨hk, hkl⟩ K hK
    try dsimp only at hk hkl hK ⊢
    refine nK ?_
    refine s_reg rfl ?_
    refine rp 50 rfl (op_lss rfl (oT rfl) (oT rfl)) ?_
    refine rn ?_
    refine nK ?_
    refine n_cond _ rfl (fun hb => ?_) (fun hb => ?_)
    ·have hlt : k < g.r.toNat := by have := of_decide_eq_true hb; omega
     have hkm : k < g.m := by omega
     have hrk := row_of encL t.hops k [] (by omega)
     change (t.hops.map encL)[k]? = some [VI (rowAt' t.hops k)] at hrk
     have hrok := hhr k hkm
     have hrl := hrok.len
     have hK1 := hK (k + 1)
     rw [allA_succ] at hK1
     unfold Pl.rowA at hK1
     clear hK hb
     generalize allA g (tabL g D) a ns t.hops k = out0 at *
     generalize rowAt' t.hops k = row at *
     refine nK ?_
     refine s_reg rfl ?_
     refine rm 51 rfl rfl rfl ?_
     refine ra 13 rfl rfl rfl ?_
     refine rn ?_
     refine nK ?_
     refine s_reg rfl ?_
     refine rp 52 rfl (op_fld_ptr (by decide) rfl (oT rfl)) ?_
     refine rl 53 rfl (op_load1_flat rfl (oT rfl) tH rfl) ?_
     refine rm 54 rfl rfl rfl ?_
     refine rp 55 rfl (op_idx_fz k rfl (oT rfl) (oT rfl) (by intro _; exact ⟨rfl, hrk⟩)) ?_
     refine rp 56 rfl (op_load1_fz rfl (oT rfl) rfl) ?_
     refine rp 57 rfl (op_len_fz rfl (by first | exact Opd.tmp _ _ rfl | exact Opd.nil _ _ (oT rfl)) (by first | exact List.length_map _ | rfl)) ?_
     refine rp 58 rfl (op_move rfl oC) ?_
     refine rn ?_
     refine nK ?_
     refine n_loop (ι := Nat) (fun j => ([(1, IV .i64 a), (2, .ptr 0 3 0 0), (7, .ptr 1 4 0 0), (9, .fz (VLL (tabL g D))), (11, .fz (VI ns)), (12, .sl 2 5 0 (out0 ++ (row.take j).flatMap (oneA g (tabL g D) a k ns)).length), (13, IV .i64 k), (48, IV .i64 g.r.toNat), (49, IV .i64 k), (56, .fz (VI row)), (57, IV .i64 row.length), (58, IV .i64 j)], [(0, OG g), (1, OTr t), (2, OAl (out0 ++ (row.take j).flatMap (oneA g (tabL g D) a k ns)))], 3)) (fun j => j ≤ row.length ∧ (out0 ++ (row.take j).flatMap (oneA g (tabL g D) a k ns)).length ≤ k * 128 + j) (fun j => row.length - j) 0 ⟨Nat.zero_le _, by simpa using hkl⟩ ?_ ?_
     ·refine Next.weak [0, 1, 2] [] (by rfl) (keepsN hC _ rfl) (by repeat (first | exact trivial | refine ⟨⟨_, rfl, .inl ⟨rfl, rfl⟩⟩, ?_⟩ | refine ⟨⟨_, rfl, .inl ⟨slEq rfl (by simp), rfl⟩⟩, ?_⟩ | refine ⟨⟨_, rfl, .inl ⟨ivEq tX, rfl⟩⟩, ?_⟩ | refine ⟨⟨_, rfl, .inl ⟨ivEq (by rw [List.length_map]), rfl⟩⟩, ?_⟩)) (by exact ⟨ent_same rfl rfl rfl tL, ⟨ent_same rfl rfl rfl tL, ⟨ent_same rfl rfl (flEq rfl (by simp)) trivial, trivial⟩⟩⟩) (fun _ h => by simp at h) rel_intro
     ·intro j ⟨hj, hjl⟩ K2 hK2
      try dsimp only at hj hjl hK2 ⊢
      refine nK ?_
      refine s_reg rfl ?_
      refine rp 59 rfl (op_lss rfl (oT rfl) (oT rfl)) ?_
      refine rn ?_
      refine nK ?_
      refine n_cond _ rfl (fun hb => ?_) (fun hb => ?_)
      ·have hlj : j < row.length := by have := of_decide_eq_true hb; omega
       have hrj := row_at' encN row j hlj
       have hpn : 0 ≤ row[j] ∧ row[j] < (g.m : Int) := hrok.2 _ (List.getElem_mem hlj)
       have hK3 := hK2 (j + 1)
       rw [flat_succ _ _ _ hlj, ← List.append_assoc] at hK3
       clear hK2 hb
       generalize out0 ++ (row.take j).flatMap (oneA g (tabL g D) a k ns) = out at *
       generalize row[j] = p at *
       refine nK ?_
       refine s_reg rfl ?_
       refine rp 60 rfl (op_idx_fz j rfl (oT rfl) (oT rfl) (by intro _; exact ⟨rfl, hrj⟩)) ?_
       refine rp 61 rfl (op_load1_fz rfl (oT rfl) rfl) ?_
       refine ra 15 rfl rfl rfl ?_
       refine rn ?_
       refine nK ?_
       refine s_reg rfl ?_
       refine Run.eff (dd := some 16) rfl rfl (op_alloc rfl rfl rfl rfl) ?_
       refine rn ?_
       refine nK ?_
       refine s_reg rfl ?_
       refine Run.eff (dd := some 17) rfl rfl (op_alloc rfl rfl rfl rfl) ?_
       refine Run.eff (dd := some 18) rfl rfl (op_alloc rfl rfl rfl rfl) ?_
       refine Run.eff (dd := none) rfl rfl (op_store_flat rfl (oT rfl) oC tC rfl rfl (by first | rfl | assumption) tS) ?_
       refine Run.eff (dd := none) rfl rfl (op_store_flat rfl (oT rfl) oC tC rfl rfl (by first | rfl | assumption) tS) ?_
       refine rn ?_
       refine nK ?_
       refine s_reg rfl ?_
       refine rp 62 rfl (op_makeFunc rfl Opds.nil (oS (oT rfl) (oS (oT rfl) (oS (oT rfl) Opds.nil)))) ?_
       refine ra 19 rfl rfl rfl ?_
       refine rn ?_
       refine nK ?_
       refine nK ?_
       refine s_reg rfl ?_
       refine rm 63 rfl rfl rfl ?_
       refine rp 64 rfl (op_len_fz rfl (by first | exact Opd.tmp _ _ rfl | exact Opd.nil _ _ (oT rfl)) (by first | exact List.length_map _ | rfl)) ?_
       refine rp 65 rfl (op_move rfl oC) ?_
       refine rn ?_
       refine nK ?_
       refine n_loop (ι := Nat) (fun i => ([(1, IV .i64 a), (2, .ptr 0 3 0 0), (7, .ptr 1 4 0 0), (9, .fz (VLL (tabL g D))), (11, .fz (VI ns)), (12, .sl 2 5 0 out.length), (13, IV .i64 k), (15, IV .i64 p), (16, .ptr 3 5 0 0), (17, .ptr 4 1 0 0), (18, .ptr 5 1 0 0), (19, .clo 33 [] [.ptr 5 1 0 0, .ptr 3 5 0 0, .ptr 4 1 0 0]), (48, IV .i64 g.r.toNat), (49, IV .i64 k), (56, .fz (VI row)), (57, IV .i64 row.length), (58, IV .i64 j), (63, .fz (VI ns)), (64, IV .i64 ns.length), (65, IV .i64 i)], [(0, OG g), (1, OTr t), (2, OAl out), (3, some (.flat 5 [encAl (foldA g (tabL g D) a k p (ns.take i)).best])), (4, some (.flat 1 [[If .i64 (foldA g (tabL g D) a k p (ns.take i)).least]])), (5, some (.flat 1 [[Bf (foldA g (tabL g D) a k p (ns.take i)).found]]))], 6)) (fun i => i ≤ ns.length) (fun i => ns.length - i) 0 (Nat.zero_le _) ?_ ?_
       ·refine Next.weak [0, 1, 2, 3, 4, 5] [] (by rfl) (keepsN hC _ rfl) (by repeat (first | exact trivial | refine ⟨⟨_, rfl, .inl ⟨rfl, rfl⟩⟩, ?_⟩ | refine ⟨⟨_, rfl, .inl ⟨ivEq (by rw [List.length_map]), rfl⟩⟩, ?_⟩)) (by exact ⟨ent_same rfl rfl rfl tL, ⟨ent_same rfl rfl rfl tL, ⟨ent_same rfl rfl rfl tL, ⟨ent_same rfl rfl rfl tL, ⟨ent_same rfl rfl rfl tL, ⟨ent_same rfl rfl rfl tL, trivial⟩⟩⟩⟩⟩⟩) (fun _ h => by simp at h) rel_intro
       ·intro i hi K4 hK4
        try dsimp only at hi hK4 ⊢
        refine nK ?_
        refine s_reg rfl ?_
        refine rp 66 rfl (op_lss rfl (oT rfl) (oT rfl)) ?_
        refine rn ?_
        refine nK ?_
        refine n_cond _ rfl (fun hb => ?_) (fun hb => ?_)
        ·have hli : i < ns.length := by have := of_decide_eq_true hb; omega
         have hri := row_at' encN ns i hli
         have hn := hnn _ (List.getElem_mem hli)
         have hK5 := hK4 (i + 1) (by omega) (by omega)
         rw [foldA_succ _ _ _ _ _ _ _ hli] at hK5
         clear hK4 hb
         generalize foldA g (tabL g D) a k p (ns.take i) = s at *
         generalize ns[i] = n at *
         unfold stepA at hK5
         have hlf := lloop_c (tabL g D) a n k hll
         have hdn := ldown_c (tabL g D) a n k
         have hpr := lprot_c (tabL g D) n p k hll
         refine nK ?_
         refine s_reg rfl ?_
         refine rp 67 rfl (op_idx_fz i rfl (oT rfl) (oT rfl) (by intro _; exact ⟨rfl, hri⟩)) ?_
         refine rp 68 rfl (op_load1_fz rfl (oT rfl) rfl) ?_
         refine ra 21 rfl rfl rfl ?_
         refine rn ?_
         refine nK ?_
         refine s_reg rfl ?_
         refine rm 69 rfl rfl rfl ?_
         refine rm 70 rfl rfl rfl ?_
         refine rp 71 rfl (op_eql rfl (oT rfl) (oT rfl)) ?_
         refine rm 72 rfl rfl rfl ?_
         refine gm 73 rfl rfl tG rfl rfl ?_
         refine gm 74 rfl rfl tG rfl rfl ?_
         refine gm 75 rfl rfl tG rfl rfl ?_
         refine gm 76 rfl rfl tG rfl rfl ?_
         refine rg 77 rfl rfl tG (op_call_pure (fun _ => hlf) rfl (Opd.func _) (oS (oO rfl tO) (oS (oO rfl tO) (oS (oO rfl tO) (oS (oO rfl tO) Opds.nil))))) ?_
         refine rg 78 rfl rfl tG (op_not rfl (oO rfl tO)) ?_
         refine rp 79 rfl (op_pick_or rfl (oT rfl) (oO rfl tO)) ?_
         refine rn ?_
         refine nK ?_
         refine n_cond _ rfl (fun hb => ?_) (fun hb => ?_)
         ·have hsk : skipA (tabL g D) a k p n = true := hb
          rw [if_pos hsk] at hK5
          refine nK ?_
          refine s_reg rfl ?_
          refine rp 122 rfl (op_add rfl (oT rfl) oC tI) ?_
          refine rm 65 rfl rfl rfl ?_
          refine rn ?_
          refine nK ?_
          refine Next.weak [0, 1, 2, 3, 4, 5] [] (by rfl) (keepsN hC _ rfl) (by repeat (first | exact trivial | refine ⟨⟨_, rfl, .inl ⟨rfl, rfl⟩⟩, ?_⟩ | refine ⟨⟨_, rfl, .inl ⟨slEq rfl tN, rfl⟩⟩, ?_⟩ | refine ⟨⟨_, rfl, .inl ⟨ivEq tX, rfl⟩⟩, ?_⟩)) (by exact ⟨ent_same rfl rfl rfl tL, ⟨ent_same rfl rfl rfl tL, ⟨ent_same rfl rfl rfl tL, ⟨ent_same rfl rfl rfl tL, ⟨ent_same rfl rfl rfl tL, ⟨ent_same rfl rfl rfl tL, trivial⟩⟩⟩⟩⟩⟩) (fun _ h => by simp at h) hK5
         ·have hsk : ¬ skipA (tabL g D) a k p n = true := by
           rw [Bool.not_eq_true]; exact hb
          rw [if_neg hsk] at hK5
          clear hb hsk
          have hco := cost_c g a n (by omega)
          have hcb1 := hcb a n
          have hdb1 := hdb n.toNat k (by omega) hkm
          have hrn := htr n.toNat (by omega)
          have hrk2 := row_row g.m (D n.toNat) hkm
          have hgt := htg n.toNat k (by omega) hkm
          have hcst : cstA g (tabL g D) a k n = (costL a n g.es).1 + D n.toNat k := by unfold cstA; rw [Int.toNat_natCast, hgt]
          have hbet := better_c (newA (tabL g D) a k p n) (cstA g (tabL g D) a k n) s
          rw [hcst] at hbet hK5
          refine nK ?_
          refine s_reg rfl ?_
          refine rm 80 rfl rfl rfl ?_
          refine rm 81 rfl rfl rfl ?_
          refine rm 82 rfl rfl rfl ?_
          refine rm 83 rfl rfl rfl ?_
          refine rm 84 rfl rfl rfl ?_
          refine rm 85 rfl rfl rfl ?_
          refine rm 86 rfl rfl rfl ?_
          refine rp 87 rfl (op_call_pure (fun _ => hdn) rfl (Opd.func _) (oS (oT rfl) (oS (oT rfl) (oS (oT rfl) (oS (oT rfl) Opds.nil))))) ?_
          refine rp 88 rfl (op_build rfl rfl rfl (FillF.cons _ _ _ _ _ _ _ _ _ _ (by rfl) (oT rfl) tC (by rfl) tR (FillF.cons _ _ _ _ _ _ _ _ _ _ (by rfl) (oT rfl) tC (by rfl) tR (FillF.cons _ _ _ _ _ _ _ _ _ _ (by rfl) (oT rfl) tC (by rfl) tR (FillF.cons _ _ _ _ _ _ _ _ _ _ (by rfl) oC tC (by rfl) tR (FillF.cons _ _ _ _ _ _ _ _ _ _ (by rfl) (oT rfl) tC (by rfl) tR (FillF.nil _))))))) ?_
          refine Run.eff (dd := some 22) rfl rfl (op_alloc rfl rfl rfl rfl) ?_
          refine Run.eff (dd := none) rfl rfl (op_store_flat rfl (oT rfl) (oT rfl) tC rfl rfl (by first | rfl | assumption) tS) ?_
          refine rn ?_
          refine nK ?_
          refine s_reg rfl ?_
          refine rm 89 rfl rfl rfl ?_
          refine rm 90 rfl rfl rfl ?_
          refine rp 91 rfl (op_neq rfl (oT rfl) (oT rfl)) ?_
          refine rm 92 rfl rfl rfl ?_
          refine gm 93 rfl rfl tG rfl rfl ?_
          refine gm 94 rfl rfl tG rfl rfl ?_
          refine gm 95 rfl rfl tG rfl rfl ?_
          refine gm 96 rfl rfl tG rfl rfl ?_
          refine rg 97 rfl rfl tG (op_call_pure (fun _ => hpr) rfl (Opd.func _) (oS (oO rfl tO) (oS (oO rfl tO) (oS (oO rfl tO) (oS (oO rfl tO) Opds.nil))))) ?_
          refine rp 98 rfl (op_pick_and rfl (oT rfl) (oO rfl tO)) ?_
          refine rn ?_
          refine nK ?_
          refine n_cond _ rfl (fun hb => ?_) (fun hb => ?_)
          ·have hkd : newA (tabL g D) a k p n = ⟨k, p, n, 2, dwnL (tabL g D) a n k⟩ := by
            unfold newA
            first | rw [if_pos hb] | rw [if_neg (by rw [Bool.not_eq_true]; exact hb)]
           rw [hkd] at hbet hK5
           clear hb hkd
           refine nK ?_
           refine s_reg rfl ?_
           refine rp 99 rfl (op_fld_ptr (by decide) rfl (oT rfl)) ?_
           refine Run.eff (dd := none) rfl rfl (op_store_flat rfl (oT rfl) oC tC rfl rfl (by first | rfl | assumption) tS) ?_
           refine rn ?_
           refine nK ?_
           refine s_reg rfl ?_
           refine rl 101 rfl (op_loadw_flat rfl (oT rfl) tH rfl) ?_
           refine rm 102 rfl rfl rfl ?_
           refine rm 103 rfl rfl rfl ?_
           refine rp 104 rfl (op_call_pure (fun _ => hco) rfl (Opd.func _) (oS (oT rfl) (oS (oT rfl) (oS (oT rfl) Opds.nil)))) ?_
           refine rm 100 rfl rfl rfl ?_
           refine rp 105 rfl (op_extract_fz rfl (oT rfl) rfl) ?_
           refine rp 106 rfl (op_extract_fz rfl (oT rfl) rfl) ?_
           refine ra 23 rfl rfl rfl ?_
           refine ra 24 rfl rfl rfl ?_
           refine rn ?_
           refine nK ?_
           refine s_reg rfl ?_
           refine rm 107 rfl rfl rfl ?_
           refine rm 108 rfl rfl rfl ?_
           refine rm 109 rfl rfl rfl ?_
           refine rp 110 rfl (op_idx_fz n.toNat rfl (oT rfl) (oT rfl) (by intro _; exact ⟨by omega, hrn⟩)) ?_
           refine rp 111 rfl (op_load1_fz rfl (oT rfl) rfl) ?_
           refine rm 112 rfl rfl rfl ?_
           refine rp 113 rfl (op_idx_fz k rfl (oT rfl) (oT rfl) (by intro _; exact ⟨rfl, hrk2⟩)) ?_
           refine rp 114 rfl (op_load1_fz rfl (oT rfl) rfl) ?_
           refine rp 115 rfl (op_add rfl (oT rfl) (oT rfl) tI) ?_
           refine ra 23 rfl rfl rfl ?_
           refine rn ?_
           refine nK ?_
           refine s_reg rfl ?_
           refine rm 116 rfl rfl rfl ?_
           refine rl 117 rfl (op_loadw_flat rfl (oT rfl) tH rfl) ?_
           refine rm 118 rfl rfl rfl ?_
           refine rl 119 rfl (op_call_read (n := 3) [5, 3, 4] (fun _ => hbet) rfl (oT rfl) (oS (oT rfl) (oS (oT rfl) Opds.nil)) rfl rfl (Lent.of rfl rfl (by exact ⟨⟨rfl, rfl, rfl, trivial⟩, ⟨rfl, rfl, rfl, trivial⟩, ⟨rfl, rfl, rfl, trivial⟩, trivial⟩) rfl) rfl) ?_
           refine rn ?_
           refine nK ?_
           refine n_cond _ rfl (fun hb => ?_) (fun hb => ?_)
           ·rw [if_pos hb] at hK5
            refine nK ?_
            refine s_reg rfl ?_
            refine rl 120 rfl (op_loadw_flat rfl (oT rfl) tH rfl) ?_
            refine rm 121 rfl rfl rfl ?_
            refine Run.eff (dd := none) rfl rfl (op_store_flat rfl (oT rfl) (oT rfl) tC rfl rfl (by first | rfl | assumption) tS) ?_
            refine Run.eff (dd := none) rfl rfl (op_store_flat rfl (oT rfl) (oT rfl) tC rfl rfl (by first | rfl | assumption) tS) ?_
            refine Run.eff (dd := none) rfl rfl (op_store_flat rfl (oT rfl) oC tC rfl rfl (by first | rfl | assumption) tS) ?_
            refine rn ?_
            refine nK ?_
            refine s_reg rfl ?_
            refine rp 122 rfl (op_add rfl (oT rfl) oC tI) ?_
            refine rm 65 rfl rfl rfl ?_
            refine rn ?_
            refine nK ?_
            refine Next.weak [0, 1, 2, 3, 4, 5] [] (by rfl) (keepsN hC _ rfl) (by repeat (first | exact trivial | refine ⟨⟨_, rfl, .inl ⟨rfl, rfl⟩⟩, ?_⟩ | refine ⟨⟨_, rfl, .inl ⟨slEq rfl tN, rfl⟩⟩, ?_⟩ | refine ⟨⟨_, rfl, .inl ⟨ivEq tX, rfl⟩⟩, ?_⟩)) (by exact ⟨ent_same rfl rfl rfl tL, ⟨ent_same rfl rfl rfl tL, ⟨ent_same rfl rfl rfl tL, ⟨ent_same rfl rfl rfl tL, ⟨ent_same rfl rfl rfl tL, ⟨ent_same rfl rfl rfl tL, trivial⟩⟩⟩⟩⟩⟩) (fun _ h => by simp at h) hK5
           ·rw [if_neg (by rw [hb]; simp)] at hK5
            refine nK ?_
            refine s_reg rfl ?_
            refine rp 122 rfl (op_add rfl (oT rfl) oC tI) ?_
            refine rm 65 rfl rfl rfl ?_
            refine rn ?_
            refine nK ?_
            refine Next.weak [0, 1, 2, 3, 4, 5] [] (by rfl) (keepsN hC _ rfl) (by repeat (first | exact trivial | refine ⟨⟨_, rfl, .inl ⟨rfl, rfl⟩⟩, ?_⟩ | refine ⟨⟨_, rfl, .inl ⟨slEq rfl tN, rfl⟩⟩, ?_⟩ | refine ⟨⟨_, rfl, .inl ⟨ivEq tX, rfl⟩⟩, ?_⟩)) (by exact ⟨ent_same rfl rfl rfl tL, ⟨ent_same rfl rfl rfl tL, ⟨ent_same rfl rfl rfl tL, ⟨ent_same rfl rfl rfl tL, ⟨ent_same rfl rfl rfl tL, ⟨ent_same rfl rfl rfl tL, trivial⟩⟩⟩⟩⟩⟩) (fun _ h => by simp at h) hK5
          ·have hkd : newA (tabL g D) a k p n = ⟨k, p, n, 1, dwnL (tabL g D) a n k⟩ := by
            unfold newA
            first | rw [if_pos hb] | rw [if_neg (by rw [Bool.not_eq_true]; exact hb)]
           rw [hkd] at hbet hK5
           clear hb hkd
           refine nK ?_
           refine s_reg rfl ?_
           refine rl 101 rfl (op_loadw_flat rfl (oT rfl) tH rfl) ?_
           refine rm 102 rfl rfl rfl ?_
           refine rm 103 rfl rfl rfl ?_
           refine rp 104 rfl (op_call_pure (fun _ => hco) rfl (Opd.func _) (oS (oT rfl) (oS (oT rfl) (oS (oT rfl) Opds.nil)))) ?_
           refine rm 100 rfl rfl rfl ?_
           refine rp 105 rfl (op_extract_fz rfl (oT rfl) rfl) ?_
           refine rp 106 rfl (op_extract_fz rfl (oT rfl) rfl) ?_
           refine ra 23 rfl rfl rfl ?_
           refine ra 24 rfl rfl rfl ?_
           refine rn ?_
           refine nK ?_
           refine s_reg rfl ?_
           refine rm 107 rfl rfl rfl ?_
           refine rm 108 rfl rfl rfl ?_
           refine rm 109 rfl rfl rfl ?_
           refine rp 110 rfl (op_idx_fz n.toNat rfl (oT rfl) (oT rfl) (by intro _; exact ⟨by omega, hrn⟩)) ?_
           refine rp 111 rfl (op_load1_fz rfl (oT rfl) rfl) ?_
           refine rm 112 rfl rfl rfl ?_
           refine rp 113 rfl (op_idx_fz k rfl (oT rfl) (oT rfl) (by intro _; exact ⟨rfl, hrk2⟩)) ?_
           refine rp 114 rfl (op_load1_fz rfl (oT rfl) rfl) ?_
           refine rp 115 rfl (op_add rfl (oT rfl) (oT rfl) tI) ?_
           refine ra 23 rfl rfl rfl ?_
           refine rn ?_
           refine nK ?_
           refine s_reg rfl ?_
           refine rm 116 rfl rfl rfl ?_
           refine rl 117 rfl (op_loadw_flat rfl (oT rfl) tH rfl) ?_
           refine rm 118 rfl rfl rfl ?_
           refine rl 119 rfl (op_call_read (n := 3) [5, 3, 4] (fun _ => hbet) rfl (oT rfl) (oS (oT rfl) (oS (oT rfl) Opds.nil)) rfl rfl (Lent.of rfl rfl (by exact ⟨⟨rfl, rfl, rfl, trivial⟩, ⟨rfl, rfl, rfl, trivial⟩, ⟨rfl, rfl, rfl, trivial⟩, trivial⟩) rfl) rfl) ?_
           refine rn ?_
           refine nK ?_
           refine n_cond _ rfl (fun hb => ?_) (fun hb => ?_)
           ·rw [if_pos hb] at hK5
            refine nK ?_
            refine s_reg rfl ?_
            refine rl 120 rfl (op_loadw_flat rfl (oT rfl) tH rfl) ?_
            refine rm 121 rfl rfl rfl ?_
            refine Run.eff (dd := none) rfl rfl (op_store_flat rfl (oT rfl) (oT rfl) tC rfl rfl (by first | rfl | assumption) tS) ?_
            refine Run.eff (dd := none) rfl rfl (op_store_flat rfl (oT rfl) (oT rfl) tC rfl rfl (by first | rfl | assumption) tS) ?_
            refine Run.eff (dd := none) rfl rfl (op_store_flat rfl (oT rfl) oC tC rfl rfl (by first | rfl | assumption) tS) ?_
            refine rn ?_
            refine nK ?_
            refine s_reg rfl ?_
            refine rp 122 rfl (op_add rfl (oT rfl) oC tI) ?_
            refine rm 65 rfl rfl rfl ?_
            refine rn ?_
            refine nK ?_
            refine Next.weak [0, 1, 2, 3, 4, 5] [] (by rfl) (keepsN hC _ rfl) (by repeat (first | exact trivial | refine ⟨⟨_, rfl, .inl ⟨rfl, rfl⟩⟩, ?_⟩ | refine ⟨⟨_, rfl, .inl ⟨slEq rfl tN, rfl⟩⟩, ?_⟩ | refine ⟨⟨_, rfl, .inl ⟨ivEq tX, rfl⟩⟩, ?_⟩)) (by exact ⟨ent_same rfl rfl rfl tL, ⟨ent_same rfl rfl rfl tL, ⟨ent_same rfl rfl rfl tL, ⟨ent_same rfl rfl rfl tL, ⟨ent_same rfl rfl rfl tL, ⟨ent_same rfl rfl rfl tL, trivial⟩⟩⟩⟩⟩⟩) (fun _ h => by simp at h) hK5
           ·rw [if_neg (by rw [hb]; simp)] at hK5
            refine nK ?_
            refine s_reg rfl ?_
            refine rp 122 rfl (op_add rfl (oT rfl) oC tI) ?_
            refine rm 65 rfl rfl rfl ?_
            refine rn ?_
            refine nK ?_
            refine Next.weak [0, 1, 2, 3, 4, 5] [] (by rfl) (keepsN hC _ rfl) (by repeat (first | exact trivial | refine ⟨⟨_, rfl, .inl ⟨rfl, rfl⟩⟩, ?_⟩ | refine ⟨⟨_, rfl, .inl ⟨slEq rfl tN, rfl⟩⟩, ?_⟩ | refine ⟨⟨_, rfl, .inl ⟨ivEq tX, rfl⟩⟩, ?_⟩)) (by exact ⟨ent_same rfl rfl rfl tL, ⟨ent_same rfl rfl rfl tL, ⟨ent_same rfl rfl rfl tL, ⟨ent_same rfl rfl rfl tL, ⟨ent_same rfl rfl rfl tL, ⟨ent_same rfl rfl rfl tL, trivial⟩⟩⟩⟩⟩⟩) (fun _ h => by simp at h) hK5
        ·have hie : i = ns.length := by have := of_decide_eq_false hb; omega
         subst hie
         rw [List.take_length]
         have hone : oneA g (tabL g D) a k ns p = if (foldA g (tabL g D) a k p ns).found = true then [(foldA g (tabL g D) a k p ns).best] else [] := rfl
         clear hb hK4
         generalize foldA g (tabL g D) a k p ns = s at *
         refine nK ?_
         refine s_reg rfl ?_
         refine rl 123 rfl (op_load1_flat rfl (oT rfl) tH rfl) ?_
         refine rn ?_
         refine nK ?_
         refine n_cond _ rfl (fun hb => ?_) (fun hb => ?_)
         ·rw [hone, if_pos hb] at hK3
          refine nK ?_
          refine s_reg rfl ?_
          refine rm 124 rfl rfl rfl ?_
          refine rl 125 rfl (op_loadw_flat rfl (oT rfl) tH rfl) ?_
          refine rp 126 rfl (op_buildSlice_fz rfl (RowsF.cons _ _ _ _ _ _ (oT rfl) tC (by rfl) (RowsF.nil _)) rfl rfl) ?_
          refine Run.eff (dd := some 127) rfl rfl (op_append rfl (oT rfl) (by first | exact Opd.tmp _ _ rfl | exact Opd.nil _ _ (oT rfl)) rfl (by first | rfl | simp) rfl rfl tB tB) ?_
          refine ra 12 rfl rfl rfl ?_
          refine rn ?_
          refine nK ?_
          refine s_reg rfl ?_
          refine rp 128 rfl (op_add rfl (oT rfl) oC tI) ?_
          refine rm 58 rfl rfl rfl ?_
          refine rn ?_
          refine nK ?_
          refine Next.weak [0, 1, 6] [] (by rfl) (keepsN hC _ rfl) (by repeat (first | exact trivial | refine ⟨⟨_, rfl, .inl ⟨rfl, rfl⟩⟩, ?_⟩ | refine ⟨⟨_, rfl, .inl ⟨slEq rfl (by simp), rfl⟩⟩, ?_⟩)) (by exact ⟨ent_same rfl rfl rfl tL, ⟨ent_same rfl rfl rfl tL, ⟨ent_same rfl rfl (flEq rfl (by rw [List.map_append]; rfl)) trivial, trivial⟩⟩⟩) (fun _ h => by simp at h) (hK3 ⟨by omega, by simp; omega⟩ (by omega))
         ·rw [hone, if_neg (by rw [hb]; simp), List.append_nil] at hK3
          refine nK ?_
          refine s_reg rfl ?_
          refine rp 128 rfl (op_add rfl (oT rfl) oC tI) ?_
          refine rm 58 rfl rfl rfl ?_
          refine rn ?_
          refine nK ?_
          refine Next.weak [0, 1, 2] [] (by rfl) (keepsN hC _ rfl) (by repeat (first | exact trivial | refine ⟨⟨_, rfl, .inl ⟨rfl, rfl⟩⟩, ?_⟩ | refine ⟨⟨_, rfl, .inl ⟨slEq rfl tN, rfl⟩⟩, ?_⟩ | refine ⟨⟨_, rfl, .inl ⟨ivEq tX, rfl⟩⟩, ?_⟩)) (by exact ⟨ent_same rfl rfl rfl tL, ⟨ent_same rfl rfl rfl tL, ⟨ent_same rfl rfl rfl tL, trivial⟩⟩⟩) (fun _ h => by simp at h) (hK3 ⟨by omega, by omega⟩ (by omega))
      ·have hje : j = row.length := by have := of_decide_eq_false hb; omega
       subst hje
       rw [List.take_length] at *
       refine nK ?_
       refine s_reg rfl ?_
       refine rp 129 rfl (op_add rfl (oT rfl) oC tI) ?_
       refine rm 49 rfl rfl rfl ?_
       refine rn ?_
       refine nK ?_
       refine Next.weak [0, 1, 2] [] (by rfl) (keepsN hC _ rfl) (by repeat (first | exact trivial | refine ⟨⟨_, rfl, .inl ⟨rfl, rfl⟩⟩, ?_⟩ | refine ⟨⟨_, rfl, .inl ⟨slEq rfl tN, rfl⟩⟩, ?_⟩ | refine ⟨⟨_, rfl, .inl ⟨ivEq tX, rfl⟩⟩, ?_⟩)) (by exact ⟨ent_same rfl rfl rfl tL, ⟨ent_same rfl rfl rfl tL, ⟨ent_same rfl rfl rfl tL, trivial⟩⟩⟩) (fun _ h => by simp at h) (hK1 ⟨by omega, by omega⟩ (by omega))
    ·have hke : k = g.r.toNat := by have := of_decide_eq_false hb; omega
     subst hke
     refine nK ?_
     refine s_reg rfl ?_
     refine rm 130 rfl rfl rfl ?_
     refine ra 4 rfl rfl rfl ?_
     refine rp 5 rfl (op_assign rfl oC) ?_
     refine rn ?_
     refine nK ?_
     refine Next.weakS [] [4] (by rfl) (keeps0 hC _) (G' := [(4, .fz (VAl (allA g (tabL g D) a ns t.hops g.r.toNat))), (5, IV .i64 0)]) (H' := []) ⟨⟨_, rfl, .inr ⟨_, rfl, .sl _ _ _ _ _ _ rfl rfl (take_all0 (List.length_map _)) (List.length_map _)⟩⟩, ⟨_, rfl, .inl ⟨rfl, rfl⟩⟩, trivial⟩ trivial rfl ?_
     (first | exact s_o1 hC rfl tV | exact s_o2 hC rfl tV tV | exact s_o3 hC rfl tV tV tV | exact s_out0 hC rfl | exact s_outO hC rfl rfl rfl)
end Go.Proofs.YtnkhlbljnmodbaaGreat
namespace Go.Proofs.YtnkhlbljnmodbaaGreat
open Go Go.RT Go.Proofs Go.Pl
set_option linter.all false
set_option maxRecDepth 20000
set_option maxHeartbeats 4000000
theorem rbetter_c (x b : Alt) (c l : Int) : Pure Tryz.prog 44 [.agg (encAl x), .agg (encAl b), If .i64 c, If .i64 l] (Bf (betR x c b l)) := by
 unfold betR
 refine Meets.intro Tryz.func44 rfl (Nat.le_of_ble_eq_true rfl) fun C hC => ?_
 simp only [List.map, argEnv, Nat.reduceAdd]
 refine nK ?_
 refine s_reg rfl ?_
 refine Run.eff (dd := some 4) rfl rfl (op_box_flat rfl (oT rfl) tC rfl) ?_
 refine Run.eff (dd := some 5) rfl rfl (op_box_flat rfl (oT rfl) tC rfl) ?_
 refine rp 8 rfl (op_assign rfl oC) ?_
 refine rn ?_
 refine nK ?_
 refine s_reg rfl ?_
 refine rp 9 rfl (op_fld_ptr (by decide) rfl (oT rfl)) ?_
 refine rl 10 rfl (op_load1_flat rfl (oT rfl) tH rfl) ?_
 refine rp 11 rfl (op_fld_ptr (by decide) rfl (oT rfl)) ?_
 refine rl 12 rfl (op_load1_flat rfl (oT rfl) tH rfl) ?_
 refine rp 13 rfl (op_neq rfl (oT rfl) (oT rfl)) ?_
 refine rn ?_
 refine nK ?_
 refine n_cond _ rfl (fun hb => ?_) (fun hb => ?_)
 ·rw [if_pos (by simpa using hb)]
  refine nK ?_
  refine s_reg rfl ?_
  refine rp 14 rfl (op_fld_ptr (by decide) rfl (oT rfl)) ?_
  refine rl 15 rfl (op_load1_flat rfl (oT rfl) tH rfl) ?_
  refine rp 16 rfl (op_eql rfl (oT rfl) oC) ?_
  refine ra 8 rfl rfl rfl ?_
  refine rn ?_
  refine nK ?_
  (first | exact s_o1 hC rfl tV | exact s_o2 hC rfl tV tV | exact s_o3 hC rfl tV tV tV | exact s_out0 hC rfl | exact s_outO hC rfl rfl rfl)
 ·rw [if_neg (by simpa using hb)]
  refine nK ?_
  refine s_reg rfl ?_
  refine rm 17 rfl rfl rfl ?_
  refine rm 18 rfl rfl rfl ?_
  refine rp 19 rfl (op_neq rfl (oT rfl) (oT rfl)) ?_
  refine rn ?_
  refine nK ?_
  refine n_cond _ rfl (fun hb => ?_) (fun hb => ?_)
  ·rw [if_pos (by simpa using hb)]
   refine nK ?_
   refine s_reg rfl ?_
   refine rm 20 rfl rfl rfl ?_
   refine rm 21 rfl rfl rfl ?_
   refine rp 22 rfl (op_lss rfl (oT rfl) (oT rfl)) ?_
   refine ra 8 rfl rfl rfl ?_
   refine rn ?_
   refine nK ?_
   (first | exact s_o1 hC rfl tV | exact s_o2 hC rfl tV tV | exact s_o3 hC rfl tV tV tV | exact s_out0 hC rfl | exact s_outO hC rfl rfl rfl)
  ·rw [if_neg (by simpa using hb)]
   refine nK ?_
   refine s_reg rfl ?_
   refine rp 23 rfl (op_fld_ptr (by decide) rfl (oT rfl)) ?_
   refine rl 24 rfl (op_load1_flat rfl (oT rfl) tH rfl) ?_
   refine rp 25 rfl (op_fld_ptr (by decide) rfl (oT rfl)) ?_
   refine rl 26 rfl (op_load1_flat rfl (oT rfl) tH rfl) ?_
   refine rp 27 rfl (op_lss rfl (oT rfl) (oT rfl)) ?_
   refine ra 8 rfl rfl rfl ?_
   refine rn ?_
   refine nK ?_
   (first | exact s_o1 hC rfl tV | exact s_o2 hC rfl tV tV | exact s_o3 hC rfl tV tV tV | exact s_out0 hC rfl | exact s_outO hC rfl rfl rfl)
theorem asc_take {l : List Int} (h : Asc l) {i : Nat} (hi : i < l.length) : ∀ y ∈ l.take i, y < l[i] := fun y hy => by
 obtain ⟨j, hj, rfl⟩ := List.mem_iff_getElem.1 hy
 rw [List.length_take] at hj
 rw [List.getElem_take]
 exact List.pairwise_iff_getElem.1 h j i (by omega) hi (by omega)
theorem rlall_bad (g : Gr) (a : Int) (hok : okG g) (hg : plainI g ≠ 0) : Pure Tryz.prog 11 [.agg (encG g), If .i64 a] (.tup [VAl [], If .i64 (plainI g)]) := by
 refine Meets.intro Tryz.func11 rfl (Nat.le_of_ble_eq_true rfl) fun C hC => ?_
 simp only [List.map, argEnv, Nat.reduceAdd]
 refine nK ?_
 refine s_reg rfl ?_
 refine Run.eff (dd := some 2) rfl rfl (op_box_flat rfl (oT rfl) tC rfl) ?_
 refine rp 4 rfl (op_assign rfl oC) ?_
 refine rp 5 rfl (op_assign rfl oC) ?_
 refine rn ?_
 refine nK ?_
 refine s_reg rfl ?_
 refine rl 22 rfl (op_loadw_flat rfl (oT rfl) tH rfl) ?_
 refine rp 23 rfl (op_call_pure (fun _ => rplain_c _ (by assumption)) rfl (Opd.func _) (oS (oT rfl) Opds.nil)) ?_
 refine ra 6 rfl rfl rfl ?_
 refine rn ?_
 refine nK ?_
 refine s_reg rfl ?_
 refine rm 24 rfl rfl rfl ?_
 refine rp 25 rfl (op_neq rfl (oT rfl) oC) ?_
 refine rn ?_
 refine nK ?_
 refine n_cond _ rfl (fun hb => ?_) (fun hb => ?_)
 ·refine nK ?_
  refine s_reg rfl ?_
  refine rm 26 rfl rfl rfl ?_
  refine rp 4 rfl (op_assign rfl oC) ?_
  refine ra 5 rfl rfl rfl ?_
  refine rn ?_
  refine nK ?_
  refine Next.weakS [] [] (by rfl) (keeps0 hC _) (G' := [(4, .fz (VAl [])), (5, .fz _)]) (H' := []) (by repeat (first | exact trivial | refine ⟨⟨_, rfl, .inl ⟨rfl, rfl⟩⟩, ?_⟩ | refine ⟨⟨_, rfl, .inl ⟨slEq rfl tN, rfl⟩⟩, ?_⟩ | refine ⟨⟨_, rfl, .inl ⟨ivEq tX, rfl⟩⟩, ?_⟩ | refine ⟨⟨_, rfl, .inr ⟨_, rfl, tW⟩⟩, ?_⟩)) trivial rfl ?_
  (first | exact s_o1 hC rfl tV | exact s_o2 hC rfl tV tV | exact s_o3 hC rfl tV tV tV | exact s_out0 hC rfl | exact s_outO hC rfl rfl rfl)
 ·exfalso; simp at hb; exact hg hb
theorem rlall_out (g : Gr) (a : Int) (hok : okG g) (hg : plainI g = 0) (ha : a < 0 ∨ g.r ≤ a) : Pure Tryz.prog 11 [.agg (encG g), If .i64 a] (.tup [VAl [], If .i64 5]) := by
 refine Meets.intro Tryz.func11 rfl (Nat.le_of_ble_eq_true rfl) fun C hC => ?_
 simp only [List.map, argEnv, Nat.reduceAdd]
 refine nK ?_
 refine s_reg rfl ?_
 refine Run.eff (dd := some 2) rfl rfl (op_box_flat rfl (oT rfl) tC rfl) ?_
 refine rp 4 rfl (op_assign rfl oC) ?_
 refine rp 5 rfl (op_assign rfl oC) ?_
 refine rn ?_
 refine nK ?_
 refine s_reg rfl ?_
 refine rl 22 rfl (op_loadw_flat rfl (oT rfl) tH rfl) ?_
 refine rp 23 rfl (op_call_pure (fun _ => rplain_c _ (by assumption)) rfl (Opd.func _) (oS (oT rfl) Opds.nil)) ?_
 refine ra 6 rfl rfl rfl ?_
 refine rn ?_
 refine nK ?_
 refine s_reg rfl ?_
 refine rm 24 rfl rfl rfl ?_
 refine rp 25 rfl (op_neq rfl (oT rfl) oC) ?_
 refine rn ?_
 refine nK ?_
 refine n_cond _ rfl (fun hb => ?_) (fun hb => ?_)
 ·exfalso; simp at hb; exact hb hg
 ·refine nK ?_
  refine s_reg rfl ?_
  refine rm 27 rfl rfl rfl ?_
  refine rp 28 rfl (op_lss rfl (oT rfl) oC) ?_
  refine rm 29 rfl rfl rfl ?_
  refine gm 30 rfl rfl tG rfl rfl ?_
  refine rg 31 rfl rfl tG (op_fld_ptr (by decide) rfl (oT rfl)) ?_
  refine rk 32 rfl rfl tG (op_load1_flat rfl (oO rfl tO) tH rfl) ?_
  refine rg 33 rfl rfl tG (op_geq rfl (oO rfl tO) (oO rfl tO)) ?_
  refine rp 34 rfl (op_pick_or rfl (oT rfl) (oO rfl tO)) ?_
  refine rn ?_
  refine nK ?_
  refine n_cond _ rfl (fun hb => ?_) (fun hb => ?_)
  ·refine nK ?_
   refine s_reg rfl ?_
   refine rp 4 rfl (op_assign rfl oC) ?_
   refine rp 5 rfl (op_assign rfl oC) ?_
   refine rn ?_
   refine nK ?_
   refine Next.weakS [] [] (by rfl) (keeps0 hC _) (G' := [(4, .fz (VAl [])), (5, .fz _)]) (H' := []) (by repeat (first | exact trivial | refine ⟨⟨_, rfl, .inl ⟨rfl, rfl⟩⟩, ?_⟩ | refine ⟨⟨_, rfl, .inl ⟨slEq rfl tN, rfl⟩⟩, ?_⟩ | refine ⟨⟨_, rfl, .inl ⟨ivEq tX, rfl⟩⟩, ?_⟩ | refine ⟨⟨_, rfl, .inr ⟨_, rfl, tW⟩⟩, ?_⟩)) trivial rfl ?_
   (first | exact s_o1 hC rfl tV | exact s_o2 hC rfl tV tV | exact s_o3 hC rfl tV tV tV | exact s_out0 hC rfl | exact s_outO hC rfl rfl rfl)
  ·exfalso; simp at hb; omega
theorem rlall_c (g : Gr) (a : Nat) (t : Tr) (hok : okG g) (hN : g.n = 0) (h : RunOk g a t) : Pure Tryz.prog 11 [.agg (encG g), If .i64 a] (.tup [VAl (allA g (tabL g (disF g.es g.m)) a (nextI a g.es) t.hops g.r.toNat), If .i64 0]) := by
 have hg := h.ok
 have d := dst_of hg
 have hac := rall_c g hok hg
 have hrc := rrun_c g a hok hg h.lt
 rw [← h.refT d] at hrc
 have h128 := d.vg.n128
 have hel := d.vg.e1024
 have hnc := rnext_c g a (by omega)
 have hns := (nextI_spec (a : Int) g.es)
 have hnl := nextI_len (a : Int) g.es
 have hll := okT_tab d
 have hm := plain_m hN
 have hr : g.r = (g.r.toNat : Int) := by have := d.r0; omega
 have hpl : plainI g = 0 := by unfold plainI; rw [if_neg (by simp [hg]), if_neg (by omega)]
 have hhl := h.hopInv.ok.len
 have hhr := fun v (hv : v < g.m) => (h.hopInv.ok.row v hv)
 have hcb := fun f t => cost_bnd d.vg f t
 have hdb := fun i k (hi : i < g.m) (hk : k < g.m) => d.bnd hi hk
 have htr := fun x (hx : x < g.m) => tab_rows (D := disF g.es g.m) hN hx
 have htg := fun x y (hx : x < g.m) (hy : y < g.m) => tab_get (D := disF g.es g.m) hN hx hy
 have hnn : ∀ n ∈ nextI (a : Int) g.es, 0 ≤ n ∧ n < (g.m : Int) := fun n hn => by
  obtain ⟨e, he, h1, h2⟩ := (hns.2 n).1 hn
  have := d.vg.t e he; omega
 generalize disF g.es g.m = D at *
 have hasc := hns.1
 clear hns
 generalize nextI (a : Int) g.es = ns at *
 change RT.Pure _ _ _ (.tup [.vals 1 ((tabL g D).map encL), If .i64 0]) at hac
 refine Meets.intro Tryz.func11 rfl (Nat.le_of_ble_eq_true rfl) fun C hC => ?_
 simp only [List.map, argEnv, Nat.reduceAdd]
 refine nK ?_
 refine s_reg rfl ?_
 refine Run.eff (dd := some 2) rfl rfl (op_box_flat rfl (oT rfl) tC rfl) ?_
 refine rp 4 rfl (op_assign rfl oC) ?_
 refine rp 5 rfl (op_assign rfl oC) ?_
 refine rn ?_
 refine nK ?_
 refine s_reg rfl ?_
 refine rl 22 rfl (op_loadw_flat rfl (oT rfl) tH rfl) ?_
 refine rp 23 rfl (op_call_pure (fun _ => rplain_c _ (by assumption)) rfl (Opd.func _) (oS (oT rfl) Opds.nil)) ?_
 refine ra 6 rfl rfl rfl ?_
 refine rn ?_
 refine nK ?_
 refine s_reg rfl ?_
 refine rm 24 rfl rfl rfl ?_
 refine rp 25 rfl (op_neq rfl (oT rfl) oC) ?_
 refine rn ?_
 refine nK ?_
 refine n_cond _ rfl (fun hb => ?_) (fun hb => ?_)
 ·exfalso; simp at hb; exact hb hpl
 ·clear hb
  refine nK ?_
  refine s_reg rfl ?_
  refine rm 27 rfl rfl rfl ?_
  refine rp 28 rfl (op_lss rfl (oT rfl) oC) ?_
  refine rm 29 rfl rfl rfl ?_
  refine gm 30 rfl rfl tG rfl rfl ?_
  refine rg 31 rfl rfl tG (op_fld_ptr (by decide) rfl (oT rfl)) ?_
  refine rk 32 rfl rfl tG (op_load1_flat rfl (oO rfl tO) tH rfl) ?_
  refine rg 33 rfl rfl tG (op_geq rfl (oO rfl tO) (oO rfl tO)) ?_
  refine rp 34 rfl (op_pick_or rfl (oT rfl) (oO rfl tO)) ?_
  refine rn ?_
  refine nK ?_
  refine n_cond _ rfl (fun hb => ?_) (fun hb => ?_)
  ·exfalso; have := h.lt; simp at hb; omega
  ·clear hb
   refine nK ?_
   refine s_reg rfl ?_
   refine rl 36 rfl (op_loadw_flat rfl (oT rfl) tH rfl) ?_
   refine rp 37 rfl (op_call_pure (fun _ => hac) rfl (Opd.func _) (oS (oT rfl) Opds.nil)) ?_
   refine rm 35 rfl rfl rfl ?_
   refine rp 38 rfl (op_extract_fz rfl (oT rfl) rfl) ?_
   refine rp 39 rfl (op_extract_fz rfl (oT rfl) rfl) ?_
   refine ra 7 rfl rfl rfl ?_
   refine ra 8 rfl rfl rfl ?_
   refine rn ?_
   refine nK ?_
   refine s_reg rfl ?_
   refine rl 41 rfl (op_loadw_flat rfl (oT rfl) tH rfl) ?_
   refine rm 42 rfl rfl rfl ?_
   refine rp 43 rfl (op_call_pure (fun _ => hrc) rfl (Opd.func _) (oS (oT rfl) (oS (oT rfl) Opds.nil))) ?_
   refine rm 40 rfl rfl rfl ?_
   refine rp 44 rfl (op_extract_fz rfl (oT rfl) rfl) ?_
   refine rp 45 rfl (op_extract_fz rfl (oT rfl) rfl) ?_
   refine Run.eff (dd := some 9) rfl rfl (op_alloc rfl rfl rfl rfl) ?_
   refine Run.eff (dd := none) rfl rfl (op_store_flat rfl (oT rfl) (oT rfl) tC rfl rfl (by first | rfl | assumption) tS) ?_
   refine ra 10 rfl rfl rfl ?_
   refine rn ?_
   refine nK ?_
   refine s_reg rfl ?_
   refine rp 11 rfl (op_assign rfl oC) ?_
   refine rn ?_
   refine nK ?_
   refine Next.adopt 11 5 rfl ?_
   refine Next.weak [0, 1, 2] [] (by rfl) (keepsN hC _ rfl) (G' := [(1, IV .i64 a), (2, .ptr 0 3 0 0), (7, .fz (VLL (tabL g D))), (9, .ptr 1 4 0 0), (11, .sl 2 5 0 0)]) (H' := [(0, OG g), (1, OTr t), (2, OAl [])]) (by repeat (first | exact trivial | refine ⟨⟨_, rfl, .inl ⟨rfl, rfl⟩⟩, ?_⟩ | refine ⟨⟨_, rfl, .inl ⟨slEq rfl tN, rfl⟩⟩, ?_⟩ | refine ⟨⟨_, rfl, .inl ⟨ivEq tX, rfl⟩⟩, ?_⟩)) (by exact ⟨ent_same rfl rfl rfl tL, ⟨ent_same rfl rfl rfl tL, ⟨ent_same rfl rfl rfl tL, trivial⟩⟩⟩) (fun _ h => by simp at h) ?_
   refine nK ?_
   refine s_reg rfl ?_
   refine rp 12 rfl (op_assign rfl oC) ?_
   refine rn ?_
   refine nK ?_
   refine n_loop (ι := Nat) (fun k => ([(1, IV .i64 a), (2, .ptr 0 3 0 0), (7, .fz (VLL (tabL g D))), (9, .ptr 1 4 0 0), (11, .sl 2 5 0 (allA g (tabL g D) a ns t.hops k).length), (12, IV .i64 k)], [(0, OG g), (1, OTr t), (2, OAl (allA g (tabL g D) a ns t.hops k))], 3)) (fun k => k ≤ g.r.toNat ∧ (allA g (tabL g D) a ns t.hops k).length ≤ k * 128) (fun k => g.r.toNat - k) 0 ⟨Nat.zero_le _, Nat.le_refl _⟩ ?_ ?_
   ·refine Next.weak [0, 1, 2] [] (by rfl) (keepsN hC _ rfl) (by repeat (first | exact trivial | refine ⟨⟨_, rfl, .inl ⟨rfl, rfl⟩⟩, ?_⟩ | refine ⟨⟨_, rfl, .inl ⟨slEq rfl tN, rfl⟩⟩, ?_⟩ | refine ⟨⟨_, rfl, .inl ⟨ivEq tX, rfl⟩⟩, ?_⟩)) (by exact ⟨ent_same rfl rfl rfl tL, ⟨ent_same rfl rfl rfl tL, ⟨ent_same rfl rfl rfl tL, trivial⟩⟩⟩) (fun _ h => by simp at h) rel_intro
   ·intro k ⟨hk, hkl⟩ K hK
    try dsimp only at hk hkl hK ⊢
    refine nK ?_
    refine s_reg rfl ?_
    refine rm 46 rfl rfl rfl ?_
    refine rp 47 rfl (op_fld_ptr (by decide) rfl (oT rfl)) ?_
    refine rl 48 rfl (op_load1_flat rfl (oT rfl) tH rfl) ?_
    refine rp 49 rfl (op_lss rfl (oT rfl) (oT rfl)) ?_
    refine rn ?_
    refine nK ?_
    refine n_cond _ rfl (fun hb => ?_) (fun hb => ?_)
    ·have hlt : k < g.r.toNat := by have := of_decide_eq_true hb; omega
     have hkm : k < g.m := by omega
     have hrk := row_of encL t.hops k [] (by omega)
     change (t.hops.map encL)[k]? = some [VI (rowAt' t.hops k)] at hrk
     have hrok := hhr k hkm
     have hrl := hrok.len
     have hK1 := hK (k + 1)
     rw [allA_succ] at hK1
     unfold Pl.rowA at hK1
     clear hK hb
     generalize allA g (tabL g D) a ns t.hops k = out0 at *
     generalize rowAt' t.hops k = row at *
     refine nK ?_
     refine s_reg rfl ?_
     refine rp 52 rfl (op_fld_ptr (by decide) rfl (oT rfl)) ?_
     refine rl 53 rfl (op_load1_flat rfl (oT rfl) tH rfl) ?_
     refine rm 54 rfl rfl rfl ?_
     refine rp 55 rfl (op_idx_fz k rfl (oT rfl) (oT rfl) (by intro _; exact ⟨rfl, hrk⟩)) ?_
     refine rp 56 rfl (op_load1_fz rfl (oT rfl) rfl) ?_
     refine rp 57 rfl (op_len_fz rfl (by first | exact Opd.tmp _ _ rfl | exact Opd.nil _ _ (oT rfl)) (by first | exact List.length_map _ | rfl)) ?_
     refine rp 58 rfl (op_move rfl oC) ?_
     refine rn ?_
     refine nK ?_
     refine n_loop (ι := Nat) (fun j => ([(1, IV .i64 a), (2, .ptr 0 3 0 0), (7, .fz (VLL (tabL g D))), (9, .ptr 1 4 0 0), (11, .sl 2 5 0 (out0 ++ (row.take j).flatMap (oneA g (tabL g D) a k ns)).length), (12, IV .i64 k), (56, .fz (VI row)), (57, IV .i64 row.length), (58, IV .i64 j)], [(0, OG g), (1, OTr t), (2, OAl (out0 ++ (row.take j).flatMap (oneA g (tabL g D) a k ns)))], 3)) (fun j => j ≤ row.length ∧ (out0 ++ (row.take j).flatMap (oneA g (tabL g D) a k ns)).length ≤ k * 128 + j) (fun j => row.length - j) 0 ⟨Nat.zero_le _, by simpa using hkl⟩ ?_ ?_
     ·refine Next.weak [0, 1, 2] [] (by rfl) (keepsN hC _ rfl) (by repeat (first | exact trivial | refine ⟨⟨_, rfl, .inl ⟨rfl, rfl⟩⟩, ?_⟩ | refine ⟨⟨_, rfl, .inl ⟨slEq rfl (by simp), rfl⟩⟩, ?_⟩ | refine ⟨⟨_, rfl, .inl ⟨ivEq tX, rfl⟩⟩, ?_⟩ | refine ⟨⟨_, rfl, .inl ⟨ivEq (by rw [List.length_map]), rfl⟩⟩, ?_⟩)) (by exact ⟨ent_same rfl rfl rfl tL, ⟨ent_same rfl rfl rfl tL, ⟨ent_same rfl rfl (flEq rfl (by simp)) trivial, trivial⟩⟩⟩) (fun _ h => by simp at h) rel_intro
     ·intro j ⟨hj, hjl⟩ K2 hK2
      try dsimp only at hj hjl hK2 ⊢
      refine nK ?_
      refine s_reg rfl ?_
      refine rp 59 rfl (op_lss rfl (oT rfl) (oT rfl)) ?_
      refine rn ?_
      refine nK ?_
      refine n_cond _ rfl (fun hb => ?_) (fun hb => ?_)
      ·have hlj : j < row.length := by have := of_decide_eq_true hb; omega
       have hrj := row_at' encN row j hlj
       have hpn : 0 ≤ row[j] ∧ row[j] < (g.m : Int) := hrok.2 _ (List.getElem_mem hlj)
       have hK3 := hK2 (j + 1)
       rw [flat_succ _ _ _ hlj, ← List.append_assoc] at hK3
       clear hK2 hb
       generalize out0 ++ (row.take j).flatMap (oneA g (tabL g D) a k ns) = out at *
       generalize row[j] = p at *
       refine nK ?_
       refine s_reg rfl ?_
       refine rp 60 rfl (op_idx_fz j rfl (oT rfl) (oT rfl) (by intro _; exact ⟨rfl, hrj⟩)) ?_
       refine rp 61 rfl (op_load1_fz rfl (oT rfl) rfl) ?_
       refine ra 14 rfl rfl rfl ?_
       refine rn ?_
       refine nK ?_
       refine s_reg rfl ?_
       refine rp 62 rfl (op_build rfl rfl rfl (FillF.nil _)) ?_
       refine Run.eff (dd := some 15) rfl rfl (op_alloc rfl rfl rfl rfl) ?_
       refine Run.eff (dd := none) rfl rfl (op_store_flat rfl (oT rfl) (oT rfl) tC rfl rfl (by first | rfl | assumption) tS) ?_
       refine rp 16 rfl (op_assign rfl oC) ?_
       refine rn ?_
       refine nK ?_
       refine s_reg rfl ?_
       refine rl 63 rfl (op_loadw_flat rfl (oT rfl) tH rfl) ?_
       refine rm 64 rfl rfl rfl ?_
       refine rp 65 rfl (op_call_pure (fun _ => hnc) rfl (Opd.func _) (oS (oT rfl) (oS (oT rfl) Opds.nil))) ?_
       refine rp 66 rfl (op_len_fz rfl (by first | exact Opd.tmp _ _ rfl | exact Opd.nil _ _ (oT rfl)) (by first | exact List.length_map _ | rfl)) ?_
       refine rp 67 rfl (op_move rfl oC) ?_
       refine rn ?_
       refine nK ?_
       refine n_loop (ι := Nat) (fun i => ([(1, IV .i64 a), (2, .ptr 0 3 0 0), (7, .fz (VLL (tabL g D))), (9, .ptr 1 4 0 0), (11, .sl 2 5 0 out.length), (12, IV .i64 k), (14, IV .i64 p), (15, .ptr 3 5 0 0), (56, .fz (VI row)), (57, IV .i64 row.length), (58, IV .i64 j), (65, .fz (VI ns)), (66, IV .i64 ns.length), (16, IV .i64 (foldA g (tabL g D) a k p (ns.take i)).least), (67, IV .i64 i)], [(0, OG g), (1, OTr t), (2, OAl out), (3, some (.flat 5 [encAl (foldA g (tabL g D) a k p (ns.take i)).best]))], 4)) (fun i => i ≤ ns.length) (fun i => ns.length - i) 0 (Nat.zero_le _) ?_ ?_
       ·refine Next.weak [0, 1, 2, 3] [] (by rfl) (keepsN hC _ rfl) (by repeat (first | exact trivial | refine ⟨⟨_, rfl, .inl ⟨rfl, rfl⟩⟩, ?_⟩ | refine ⟨⟨_, rfl, .inl ⟨ivEq (by rw [List.length_map]), rfl⟩⟩, ?_⟩)) (by exact ⟨ent_same rfl rfl rfl tL, ⟨ent_same rfl rfl rfl tL, ⟨ent_same rfl rfl rfl tL, ⟨ent_same rfl rfl rfl tL, trivial⟩⟩⟩⟩) (fun _ h => by simp at h) rel_intro
       ·intro i hi K4 hK4
        try dsimp only at hi hK4 ⊢
        have hst := StA.fold g (tabL g D) a k p ns i hi
        refine nK ?_
        refine s_reg rfl ?_
        refine rp 68 rfl (op_lss rfl (oT rfl) (oT rfl)) ?_
        refine rn ?_
        refine nK ?_
        refine n_cond _ rfl (fun hb => ?_) (fun hb => ?_)
        ·have hli : i < ns.length := by have := of_decide_eq_true hb; omega
         have hri := row_at' encN ns i hli
         have hn := hnn _ (List.getElem_mem hli)
         have hvi := asc_take hasc hli
         have hK5 := hK4 (i + 1) (by omega) (by omega)
         rw [foldA_succ _ _ _ _ _ _ _ hli] at hK5
         clear hK4 hb
         generalize foldA g (tabL g D) a k p (ns.take i) = s at *
         generalize ns[i] = n at *
         unfold stepA at hK5
         have hlf := rloop_c (tabL g D) a n k hll
         have hdn := rdown_c (tabL g D) a n k
         have hpr := rprot_c (tabL g D) n p k hll
         refine nK ?_
         refine s_reg rfl ?_
         refine rp 69 rfl (op_idx_fz i rfl (oT rfl) (oT rfl) (by intro _; exact ⟨rfl, hri⟩)) ?_
         refine rp 70 rfl (op_load1_fz rfl (oT rfl) rfl) ?_
         refine ra 18 rfl rfl rfl ?_
         refine rn ?_
         refine nK ?_
         refine s_reg rfl ?_
         refine rm 71 rfl rfl rfl ?_
         refine rm 72 rfl rfl rfl ?_
         refine rp 73 rfl (op_eql rfl (oT rfl) (oT rfl)) ?_
         refine rm 74 rfl rfl rfl ?_
         refine gm 75 rfl rfl tG rfl rfl ?_
         refine gm 76 rfl rfl tG rfl rfl ?_
         refine gm 77 rfl rfl tG rfl rfl ?_
         refine gm 78 rfl rfl tG rfl rfl ?_
         refine rg 79 rfl rfl tG (op_call_pure (fun _ => hlf) rfl (Opd.func _) (oS (oO rfl tO) (oS (oO rfl tO) (oS (oO rfl tO) (oS (oO rfl tO) Opds.nil))))) ?_
         refine rg 80 rfl rfl tG (op_not rfl (oO rfl tO)) ?_
         refine rp 81 rfl (op_pick_or rfl (oT rfl) (oO rfl tO)) ?_
         refine rn ?_
         refine nK ?_
         refine n_cond _ rfl (fun hb => ?_) (fun hb => ?_)
         ·have hsk : skipA (tabL g D) a k p n = true := hb
          rw [if_pos hsk] at hK5
          refine nK ?_
          refine s_reg rfl ?_
          refine rp 130 rfl (op_add rfl (oT rfl) oC tI) ?_
          refine rm 67 rfl rfl rfl ?_
          refine rn ?_
          refine nK ?_
          refine Next.weak [0, 1, 2, 3] [] (by rfl) (keepsN hC _ rfl) (by repeat (first | exact trivial | refine ⟨⟨_, rfl, .inl ⟨rfl, rfl⟩⟩, ?_⟩ | refine ⟨⟨_, rfl, .inl ⟨slEq rfl tN, rfl⟩⟩, ?_⟩ | refine ⟨⟨_, rfl, .inl ⟨ivEq tX, rfl⟩⟩, ?_⟩)) (by exact ⟨ent_same rfl rfl rfl tL, ⟨ent_same rfl rfl rfl tL, ⟨ent_same rfl rfl rfl tL, ⟨ent_same rfl rfl rfl tL, trivial⟩⟩⟩⟩) (fun _ h => by simp at h) hK5
         ·have hsk : ¬ skipA (tabL g D) a k p n = true := by
           rw [Bool.not_eq_true]; exact hb
          rw [if_neg hsk] at hK5
          clear hb hsk
          have hco := rcost_c g a n (by omega)
          have hcb1 := hcb a n
          have hdb1 := hdb n.toNat k (by omega) hkm
          have hrn := htr n.toNat (by omega)
          have hrk2 := row_row g.m (D n.toNat) hkm
          have hgt := htg n.toNat k (by omega) hkm
          have hcst : cstA g (tabL g D) a k n = (costL a n g.es).1 + D n.toNat k := by unfold cstA; rw [Int.toNat_natCast, hgt]
          have hbe := betR_eq hst (newA_kind (tabL g D) a k p n) (c := (costL a n g.es).1 + D n.toNat k) hvi
          have hbet := rbetter_c (newA (tabL g D) a k p n) s.best ((costL a n g.es).1 + D n.toNat k) s.least
          rw [hcst, ← hbe] at hK5
          refine nK ?_
          refine s_reg rfl ?_
          refine rm 82 rfl rfl rfl ?_
          refine rm 83 rfl rfl rfl ?_
          refine rm 84 rfl rfl rfl ?_
          refine rm 85 rfl rfl rfl ?_
          refine rm 86 rfl rfl rfl ?_
          refine rm 87 rfl rfl rfl ?_
          refine rm 88 rfl rfl rfl ?_
          refine rp 89 rfl (op_call_pure (fun _ => hdn) rfl (Opd.func _) (oS (oT rfl) (oS (oT rfl) (oS (oT rfl) (oS (oT rfl) Opds.nil))))) ?_
          refine rp 90 rfl (op_build rfl rfl rfl (FillF.cons _ _ _ _ _ _ _ _ _ _ (by rfl) (oT rfl) tC (by rfl) tR (FillF.cons _ _ _ _ _ _ _ _ _ _ (by rfl) (oT rfl) tC (by rfl) tR (FillF.cons _ _ _ _ _ _ _ _ _ _ (by rfl) (oT rfl) tC (by rfl) tR (FillF.cons _ _ _ _ _ _ _ _ _ _ (by rfl) oC tC (by rfl) tR (FillF.cons _ _ _ _ _ _ _ _ _ _ (by rfl) (oT rfl) tC (by rfl) tR (FillF.nil _))))))) ?_
          refine Run.eff (dd := some 19) rfl rfl (op_alloc rfl rfl rfl rfl) ?_
          refine Run.eff (dd := none) rfl rfl (op_store_flat rfl (oT rfl) (oT rfl) tC rfl rfl (by first | rfl | assumption) tS) ?_
          refine rn ?_
          refine nK ?_
          refine s_reg rfl ?_
          refine rm 91 rfl rfl rfl ?_
          refine rm 92 rfl rfl rfl ?_
          refine rp 93 rfl (op_neq rfl (oT rfl) (oT rfl)) ?_
          refine rm 94 rfl rfl rfl ?_
          refine gm 95 rfl rfl tG rfl rfl ?_
          refine gm 96 rfl rfl tG rfl rfl ?_
          refine gm 97 rfl rfl tG rfl rfl ?_
          refine gm 98 rfl rfl tG rfl rfl ?_
          refine rg 99 rfl rfl tG (op_call_pure (fun _ => hpr) rfl (Opd.func _) (oS (oO rfl tO) (oS (oO rfl tO) (oS (oO rfl tO) (oS (oO rfl tO) Opds.nil))))) ?_
          refine rp 100 rfl (op_pick_and rfl (oT rfl) (oO rfl tO)) ?_
          refine rn ?_
          refine nK ?_
          refine n_cond _ rfl (fun hb => ?_) (fun hb => ?_)
          ·have hkd : newA (tabL g D) a k p n = ⟨k, p, n, 2, dwnL (tabL g D) a n k⟩ := by
            unfold newA
            first | rw [if_pos hb] | rw [if_neg (by rw [Bool.not_eq_true]; exact hb)]
           rw [hkd] at hbet hK5
           clear hb hkd
           refine nK ?_
           refine s_reg rfl ?_
           refine rp 101 rfl (op_fld_ptr (by decide) rfl (oT rfl)) ?_
           refine Run.eff (dd := none) rfl rfl (op_store_flat rfl (oT rfl) oC tC rfl rfl (by first | rfl | assumption) tS) ?_
           refine rn ?_
           refine nK ?_
           refine s_reg rfl ?_
           refine rl 103 rfl (op_loadw_flat rfl (oT rfl) tH rfl) ?_
           refine rm 104 rfl rfl rfl ?_
           refine rm 105 rfl rfl rfl ?_
           refine rp 106 rfl (op_call_pure (fun _ => hco) rfl (Opd.func _) (oS (oT rfl) (oS (oT rfl) (oS (oT rfl) Opds.nil)))) ?_
           refine rm 102 rfl rfl rfl ?_
           refine rp 107 rfl (op_extract_fz rfl (oT rfl) rfl) ?_
           refine rp 108 rfl (op_extract_fz rfl (oT rfl) rfl) ?_
           refine ra 20 rfl rfl rfl ?_
           refine ra 21 rfl rfl rfl ?_
           refine rn ?_
           refine nK ?_
           refine s_reg rfl ?_
           refine rm 109 rfl rfl rfl ?_
           refine rm 110 rfl rfl rfl ?_
           refine rm 111 rfl rfl rfl ?_
           refine rp 112 rfl (op_idx_fz n.toNat rfl (oT rfl) (oT rfl) (by intro _; exact ⟨by omega, hrn⟩)) ?_
           refine rp 113 rfl (op_load1_fz rfl (oT rfl) rfl) ?_
           refine rm 114 rfl rfl rfl ?_
           refine rp 115 rfl (op_idx_fz k rfl (oT rfl) (oT rfl) (by intro _; exact ⟨rfl, hrk2⟩)) ?_
           refine rp 116 rfl (op_load1_fz rfl (oT rfl) rfl) ?_
           refine rp 117 rfl (op_add rfl (oT rfl) (oT rfl) tI) ?_
           refine ra 20 rfl rfl rfl ?_
           refine rn ?_
           refine nK ?_
           refine s_reg rfl ?_
           refine rp 118 rfl (op_fld_ptr (by decide) rfl (oT rfl)) ?_
           refine rl 119 rfl (op_load1_flat rfl (oT rfl) tH rfl) ?_
           refine rp 120 rfl (op_eql rfl (oT rfl) oC) ?_
           refine rm 121 rfl rfl rfl ?_
           refine rk 122 rfl rfl tG (op_loadw_flat rfl (oT rfl) tH rfl) ?_
           refine rk 123 rfl rfl tG (op_loadw_flat rfl (oT rfl) tH rfl) ?_
           refine gm 124 rfl rfl tG rfl rfl ?_
           refine gm 125 rfl rfl tG rfl rfl ?_
           refine rg 126 rfl rfl tG (op_call_pure (fun _ => hbet) rfl (Opd.func _) (oS (oO rfl tO) (oS (oO rfl tO) (oS (oO rfl tO) (oS (oO rfl tO) Opds.nil))))) ?_
           refine rp 127 rfl (op_pick_or rfl (oT rfl) (oO rfl tO)) ?_
           refine rn ?_
           refine nK ?_
           refine n_cond _ rfl (fun hb => ?_) (fun hb => ?_)
           ·rw [if_pos hb] at hK5
            refine nK ?_
            refine s_reg rfl ?_
            refine rl 128 rfl (op_loadw_flat rfl (oT rfl) tH rfl) ?_
            refine rm 129 rfl rfl rfl ?_
            refine Run.eff (dd := none) rfl rfl (op_store_flat rfl (oT rfl) (oT rfl) tC rfl rfl (by first | rfl | assumption) tS) ?_
            refine ra 16 rfl rfl rfl ?_
            refine rn ?_
            refine nK ?_
            refine s_reg rfl ?_
            refine rp 130 rfl (op_add rfl (oT rfl) oC tI) ?_
            refine rm 67 rfl rfl rfl ?_
            refine rn ?_
            refine nK ?_
            refine Next.weak [0, 1, 2, 3] [] (by rfl) (keepsN hC _ rfl) (by repeat (first | exact trivial | refine ⟨⟨_, rfl, .inl ⟨rfl, rfl⟩⟩, ?_⟩ | refine ⟨⟨_, rfl, .inl ⟨slEq rfl tN, rfl⟩⟩, ?_⟩ | refine ⟨⟨_, rfl, .inl ⟨ivEq tX, rfl⟩⟩, ?_⟩)) (by exact ⟨ent_same rfl rfl rfl tL, ⟨ent_same rfl rfl rfl tL, ⟨ent_same rfl rfl rfl tL, ⟨ent_same rfl rfl rfl tL, trivial⟩⟩⟩⟩) (fun _ h => by simp at h) hK5
           ·rw [if_neg (by rw [hb]; simp)] at hK5
            refine nK ?_
            refine s_reg rfl ?_
            refine rp 130 rfl (op_add rfl (oT rfl) oC tI) ?_
            refine rm 67 rfl rfl rfl ?_
            refine rn ?_
            refine nK ?_
            refine Next.weak [0, 1, 2, 3] [] (by rfl) (keepsN hC _ rfl) (by repeat (first | exact trivial | refine ⟨⟨_, rfl, .inl ⟨rfl, rfl⟩⟩, ?_⟩ | refine ⟨⟨_, rfl, .inl ⟨slEq rfl tN, rfl⟩⟩, ?_⟩ | refine ⟨⟨_, rfl, .inl ⟨ivEq tX, rfl⟩⟩, ?_⟩)) (by exact ⟨ent_same rfl rfl rfl tL, ⟨ent_same rfl rfl rfl tL, ⟨ent_same rfl rfl rfl tL, ⟨ent_same rfl rfl rfl tL, trivial⟩⟩⟩⟩) (fun _ h => by simp at h) hK5
          ·have hkd : newA (tabL g D) a k p n = ⟨k, p, n, 1, dwnL (tabL g D) a n k⟩ := by
            unfold newA
            first | rw [if_pos hb] | rw [if_neg (by rw [Bool.not_eq_true]; exact hb)]
           rw [hkd] at hbet hK5
           clear hb hkd
           refine nK ?_
           refine s_reg rfl ?_
           refine rl 103 rfl (op_loadw_flat rfl (oT rfl) tH rfl) ?_
           refine rm 104 rfl rfl rfl ?_
           refine rm 105 rfl rfl rfl ?_
           refine rp 106 rfl (op_call_pure (fun _ => hco) rfl (Opd.func _) (oS (oT rfl) (oS (oT rfl) (oS (oT rfl) Opds.nil)))) ?_
           refine rm 102 rfl rfl rfl ?_
           refine rp 107 rfl (op_extract_fz rfl (oT rfl) rfl) ?_
           refine rp 108 rfl (op_extract_fz rfl (oT rfl) rfl) ?_
           refine ra 20 rfl rfl rfl ?_
           refine ra 21 rfl rfl rfl ?_
           refine rn ?_
           refine nK ?_
           refine s_reg rfl ?_
           refine rm 109 rfl rfl rfl ?_
           refine rm 110 rfl rfl rfl ?_
           refine rm 111 rfl rfl rfl ?_
           refine rp 112 rfl (op_idx_fz n.toNat rfl (oT rfl) (oT rfl) (by intro _; exact ⟨by omega, hrn⟩)) ?_
           refine rp 113 rfl (op_load1_fz rfl (oT rfl) rfl) ?_
           refine rm 114 rfl rfl rfl ?_
           refine rp 115 rfl (op_idx_fz k rfl (oT rfl) (oT rfl) (by intro _; exact ⟨rfl, hrk2⟩)) ?_
           refine rp 116 rfl (op_load1_fz rfl (oT rfl) rfl) ?_
           refine rp 117 rfl (op_add rfl (oT rfl) (oT rfl) tI) ?_
           refine ra 20 rfl rfl rfl ?_
           refine rn ?_
           refine nK ?_
           refine s_reg rfl ?_
           refine rp 118 rfl (op_fld_ptr (by decide) rfl (oT rfl)) ?_
           refine rl 119 rfl (op_load1_flat rfl (oT rfl) tH rfl) ?_
           refine rp 120 rfl (op_eql rfl (oT rfl) oC) ?_
           refine rm 121 rfl rfl rfl ?_
           refine rk 122 rfl rfl tG (op_loadw_flat rfl (oT rfl) tH rfl) ?_
           refine rk 123 rfl rfl tG (op_loadw_flat rfl (oT rfl) tH rfl) ?_
           refine gm 124 rfl rfl tG rfl rfl ?_
           refine gm 125 rfl rfl tG rfl rfl ?_
           refine rg 126 rfl rfl tG (op_call_pure (fun _ => hbet) rfl (Opd.func _) (oS (oO rfl tO) (oS (oO rfl tO) (oS (oO rfl tO) (oS (oO rfl tO) Opds.nil))))) ?_
           refine rp 127 rfl (op_pick_or rfl (oT rfl) (oO rfl tO)) ?_
           refine rn ?_
           refine nK ?_
           refine n_cond _ rfl (fun hb => ?_) (fun hb => ?_)
           ·rw [if_pos hb] at hK5
            refine nK ?_
            refine s_reg rfl ?_
            refine rl 128 rfl (op_loadw_flat rfl (oT rfl) tH rfl) ?_
            refine rm 129 rfl rfl rfl ?_
            refine Run.eff (dd := none) rfl rfl (op_store_flat rfl (oT rfl) (oT rfl) tC rfl rfl (by first | rfl | assumption) tS) ?_
            refine ra 16 rfl rfl rfl ?_
            refine rn ?_
            refine nK ?_
            refine s_reg rfl ?_
            refine rp 130 rfl (op_add rfl (oT rfl) oC tI) ?_
            refine rm 67 rfl rfl rfl ?_
            refine rn ?_
            refine nK ?_
            refine Next.weak [0, 1, 2, 3] [] (by rfl) (keepsN hC _ rfl) (by repeat (first | exact trivial | refine ⟨⟨_, rfl, .inl ⟨rfl, rfl⟩⟩, ?_⟩ | refine ⟨⟨_, rfl, .inl ⟨slEq rfl tN, rfl⟩⟩, ?_⟩ | refine ⟨⟨_, rfl, .inl ⟨ivEq tX, rfl⟩⟩, ?_⟩)) (by exact ⟨ent_same rfl rfl rfl tL, ⟨ent_same rfl rfl rfl tL, ⟨ent_same rfl rfl rfl tL, ⟨ent_same rfl rfl rfl tL, trivial⟩⟩⟩⟩) (fun _ h => by simp at h) hK5
           ·rw [if_neg (by rw [hb]; simp)] at hK5
            refine nK ?_
            refine s_reg rfl ?_
            refine rp 130 rfl (op_add rfl (oT rfl) oC tI) ?_
            refine rm 67 rfl rfl rfl ?_
            refine rn ?_
            refine nK ?_
            refine Next.weak [0, 1, 2, 3] [] (by rfl) (keepsN hC _ rfl) (by repeat (first | exact trivial | refine ⟨⟨_, rfl, .inl ⟨rfl, rfl⟩⟩, ?_⟩ | refine ⟨⟨_, rfl, .inl ⟨slEq rfl tN, rfl⟩⟩, ?_⟩ | refine ⟨⟨_, rfl, .inl ⟨ivEq tX, rfl⟩⟩, ?_⟩)) (by exact ⟨ent_same rfl rfl rfl tL, ⟨ent_same rfl rfl rfl tL, ⟨ent_same rfl rfl rfl tL, ⟨ent_same rfl rfl rfl tL, trivial⟩⟩⟩⟩) (fun _ h => by simp at h) hK5
        ·have hie : i = ns.length := by have := of_decide_eq_false hb; omega
         subst hie
         rw [List.take_length] at *
         have hone : oneA g (tabL g D) a k ns p = if (foldA g (tabL g D) a k p ns).found = true then [(foldA g (tabL g D) a k p ns).best] else [] := rfl
         clear hb hK4
         generalize foldA g (tabL g D) a k p ns = s at *
         have hfd : s.found = true ↔ s.best.kind ≠ 0 := by
          rcases hst with ⟨h1, h2, _⟩ | ⟨h1, h2, _⟩
          ·rw [h1, h2]; simp [zeroA]
          ·rw [h1]; simp; omega
         refine nK ?_
         refine s_reg rfl ?_
         refine rp 131 rfl (op_fld_ptr (by decide) rfl (oT rfl)) ?_
         refine rl 132 rfl (op_load1_flat rfl (oT rfl) tH rfl) ?_
         refine rp 133 rfl (op_neq rfl (oT rfl) oC) ?_
         refine rn ?_
         refine nK ?_
         refine n_cond _ rfl (fun hb => ?_) (fun hb => ?_)
         ·rw [hone, if_pos (hfd.2 (by simpa using hb))] at hK3
          refine nK ?_
          refine s_reg rfl ?_
          refine rm 134 rfl rfl rfl ?_
          refine rl 135 rfl (op_loadw_flat rfl (oT rfl) tH rfl) ?_
          refine rp 136 rfl (op_buildSlice_fz rfl (RowsF.cons _ _ _ _ _ _ (oT rfl) tC (by rfl) (RowsF.nil _)) rfl rfl) ?_
          refine Run.eff (dd := some 137) rfl rfl (op_append rfl (oT rfl) (by first | exact Opd.tmp _ _ rfl | exact Opd.nil _ _ (oT rfl)) rfl (by first | rfl | simp) rfl rfl tB tB) ?_
          refine ra 11 rfl rfl rfl ?_
          refine rn ?_
          refine nK ?_
          refine s_reg rfl ?_
          refine rp 138 rfl (op_add rfl (oT rfl) oC tI) ?_
          refine rm 58 rfl rfl rfl ?_
          refine rn ?_
          refine nK ?_
          refine Next.weak [0, 1, 4] [] (by rfl) (keepsN hC _ rfl) (by repeat (first | exact trivial | refine ⟨⟨_, rfl, .inl ⟨rfl, rfl⟩⟩, ?_⟩ | refine ⟨⟨_, rfl, .inl ⟨slEq rfl (by simp), rfl⟩⟩, ?_⟩)) (by exact ⟨ent_same rfl rfl rfl tL, ⟨ent_same rfl rfl rfl tL, ⟨ent_same rfl rfl (flEq rfl (by rw [List.map_append]; rfl)) trivial, trivial⟩⟩⟩) (fun _ h => by simp at h) (hK3 ⟨by omega, by simp; omega⟩ (by omega))
         ·rw [hone, if_neg (fun h => (hfd.1 h) (by simpa using hb)), List.append_nil] at hK3
          refine nK ?_
          refine s_reg rfl ?_
          refine rp 138 rfl (op_add rfl (oT rfl) oC tI) ?_
          refine rm 58 rfl rfl rfl ?_
          refine rn ?_
          refine nK ?_
          refine Next.weak [0, 1, 2] [] (by rfl) (keepsN hC _ rfl) (by repeat (first | exact trivial | refine ⟨⟨_, rfl, .inl ⟨rfl, rfl⟩⟩, ?_⟩ | refine ⟨⟨_, rfl, .inl ⟨slEq rfl tN, rfl⟩⟩, ?_⟩ | refine ⟨⟨_, rfl, .inl ⟨ivEq tX, rfl⟩⟩, ?_⟩)) (by exact ⟨ent_same rfl rfl rfl tL, ⟨ent_same rfl rfl rfl tL, ⟨ent_same rfl rfl rfl tL, trivial⟩⟩⟩) (fun _ h => by simp at h) (hK3 ⟨by omega, by omega⟩ (by omega))
      ·have hje : j = row.length := by have := of_decide_eq_false hb; omega
       subst hje
       rw [List.take_length] at *
       refine nK ?_
       refine s_reg rfl ?_
       refine rm 50 rfl rfl rfl ?_
       refine rp 51 rfl (op_add rfl (oT rfl) oC tI) ?_
       refine ra 12 rfl rfl rfl ?_
       refine rn ?_
       refine nK ?_
       refine Next.weak [0, 1, 2] [] (by rfl) (keepsN hC _ rfl) (by repeat (first | exact trivial | refine ⟨⟨_, rfl, .inl ⟨rfl, rfl⟩⟩, ?_⟩ | refine ⟨⟨_, rfl, .inl ⟨slEq rfl tN, rfl⟩⟩, ?_⟩ | refine ⟨⟨_, rfl, .inl ⟨ivEq tX, rfl⟩⟩, ?_⟩)) (by exact ⟨ent_same rfl rfl rfl tL, ⟨ent_same rfl rfl rfl tL, ⟨ent_same rfl rfl rfl tL, trivial⟩⟩⟩) (fun _ h => by simp at h) (hK1 ⟨by omega, by omega⟩ (by omega))
    ·have hke : k = g.r.toNat := by have := of_decide_eq_false hb; omega
     subst hke
     refine nK ?_
     refine s_reg rfl ?_
     refine rm 139 rfl rfl rfl ?_
     refine ra 4 rfl rfl rfl ?_
     refine rp 5 rfl (op_assign rfl oC) ?_
     refine rn ?_
     refine nK ?_
     refine Next.weakS [] [4] (by rfl) (keeps0 hC _) (G' := [(4, .fz (VAl (allA g (tabL g D) a ns t.hops g.r.toNat))), (5, IV .i64 0)]) (H' := []) ⟨⟨_, rfl, .inr ⟨_, rfl, .sl _ _ _ _ _ _ rfl rfl (take_all0 (List.length_map _)) (List.length_map _)⟩⟩, ⟨_, rfl, .inl ⟨rfl, rfl⟩⟩, trivial⟩ trivial rfl ?_
     (first | exact s_o1 hC rfl tV | exact s_o2 hC rfl tV tV | exact s_o3 hC rfl tV tV tV | exact s_out0 hC rfl | exact s_outO hC rfl rfl rfl)
end Go.Proofs.YtnkhlbljnmodbaaGreat
