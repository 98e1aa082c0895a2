/- A part of the proof: A23, AP3, RT37, A24, GP8, A25, AP4, AP5, AP6, AP7, AP8, A26, A27. -/
import Derived.Test.YtdhkioocjgpocaaZD
set_option linter.all false
namespace Go.Proofs.Ytdhkioocjgpocaa
open Go Go.RT Go.Proofs Go.Pl
set_option linter.all false
set_option maxRecDepth 20000
theorem bodyP_c (l : Lsa) (ho : okA l) (hl1 : l.ls.length ≤ 64) (hl2 : l.att.length ≤ 64) : Pure Try.prog 86 [.agg (encA l)] (VY (bodyB l)) := (body_c l ho hl1 hl2).freeze (by simp)
theorem bytes_f (l : Lsa) (ho : okA l) (hl1 : l.ls.length ≤ 64) (hl2 : l.att.length ≤ 64) : Meets Try.prog 70 ([.agg (encA l)].map PV.fz) 0 [] (.sl 0 1 0 (bytesB l).length) [(0, OY (bytesB l))] 1 := by
  have hbl := bodyB_len hl1 hl2
  have e : (bytesB l).length = 18 + 2 + (bodyB l).length := by rw [bytesB_len]
  rw [e]
  refine Meets.intro Try.func70 rfl (Nat.le_of_ble_eq_true rfl) fun C hC => ?_
  simp only [List.map, argEnv, Nat.reduceAdd]
  refine nK ?_
  refine s_reg rfl ?_
  refine Run.eff (dd := some 1) rfl rfl (op_box_flat rfl (Opd.tmp _ _ rfl) tC rfl) ?_
  refine Run.pure (dd := some 2) rfl rfl (op_assign rfl (Opd.const _)) ?_
  refine Run.nil (FinR.mk ?_)
  refine nK ?_
  refine s_reg rfl ?_
  refine Run.load (dd := some 5) rfl rfl (op_loadw_flat rfl (Opd.tmp _ _ rfl) tH rfl) ?_
  refine Run.pure (dd := some 6) rfl rfl (op_call_pure (fun _ => bodyP_c _ (by assumption) (by assumption) (by assumption)) rfl (Opd.func _) (Opds.cons _ _ _ _ (Opd.tmp _ _ rfl) Opds.nil)) ?_
  refine Run.pure (dd := some 3) rfl rfl (op_assign rfl (Opd.tmp _ _ rfl)) ?_
  refine Run.nil (FinR.mk ?_)
  refine nK ?_
  refine s_reg rfl ?_
  refine Run.pure (dd := some 7) rfl rfl (op_fld_ptr (by decide) rfl (Opd.tmp _ _ rfl)) ?_
  refine Run.load (dd := some 8) rfl rfl (op_loadn_flat rfl (Opd.tmp _ _ rfl) tH tR tR) ?_
  refine Run.eff (dd := some 9) rfl rfl (op_call_fresh (fun _ => hdr_c _ ho.1) rfl (Opd.func _) (Opds.cons _ _ _ _ (Opd.tmp _ _ rfl) Opds.nil)) ?_
  refine Run.pure (dd := some 10) rfl rfl (op_move rfl (Opd.tmp _ _ rfl)) ?_
  refine Run.pure (dd := some 11) rfl rfl (op_len_fz rfl (by first | exact Opd.tmp _ _ rfl | exact Opd.nil _ _ (Opd.tmp _ _ rfl)) (by first | exact List.length_map _ | rfl)) ?_
  refine Run.pure (dd := some 12) rfl rfl (op_convw rfl (Opd.tmp _ _ rfl)) ?_
  refine Run.eff (dd := some 13) rfl rfl (op_call (n := 1) (n' := 2) [1] (fun _ => put_c (hdrB l.h) 18 2 (w64 ((bodyB l).length : Int)) (hdrB_len _) (by omega) (by omega) (w64_ok _)) rfl (Opd.func _) (Opds.cons _ _ _ _ (Opd.tmp _ _ rfl) (Opds.cons _ _ _ _ (Opd.const _) (Opds.cons _ _ _ _ (Opd.tmp _ _ rfl) Opds.nil))) rfl rfl (Lent.of rfl rfl (by repeat (first | exact trivial | refine ⟨⟨rfl, rfl, rfl, tL⟩, ?_⟩)) rfl) rfl rfl rfl rfl rfl) ?_
  refine Run.pure (dd := some 4) rfl rfl (op_assign rfl (Opd.tmp _ _ rfl)) ?_
  refine Run.nil (FinR.mk ?_)
  refine nK ?_
  refine s_reg rfl ?_
  refine Run.pure (dd := some 14) rfl rfl (op_move rfl (Opd.tmp _ _ rfl)) ?_
  refine Run.pure (dd := some 15) rfl rfl (op_move rfl (Opd.tmp _ _ rfl)) ?_
  refine Run.eff (dd := some 16) rfl rfl (op_append rfl (Opd.tmp _ _ rfl) (Opd.tmp _ _ rfl) rfl (by simp [hdrB_len, putB_len]) rfl rfl (by rw [List.length_map]; omega) (by rw [List.length_map]; omega)) ?_
  refine Run.pure (dd := some 4) rfl rfl (op_assign rfl (Opd.tmp _ _ rfl)) ?_
  refine Run.nil (FinR.mk ?_)
  refine nK ?_
  refine s_reg rfl ?_
  refine Run.pure (dd := some 17) rfl rfl (op_move rfl (Opd.tmp _ _ rfl)) ?_
  refine Run.pure (dd := some 2) rfl rfl (op_assign rfl (Opd.tmp _ _ rfl)) ?_
  refine Run.nil (FinR.mk ?_)
  refine nK ?_
  refine Next.weakS [2] [] (by rfl) (keeps0 hC _) (G' := [(2, .sl 0 1 0 (18 + 2 + (bodyB l).length))]) (H' := [(0, OY (bytesB l))]) (by exact ⟨⟨_, rfl, .inl ⟨slEq rfl (by simp), rfl⟩⟩, trivial⟩) (by exact ⟨ent_same rfl rfl (by simp only [bytesB, List.map_append]; rfl) trivial, trivial⟩) rfl ?_
  (first | exact s_o1 hC rfl tV | exact s_o2 hC rfl tV tV | exact s_o3 hC rfl tV tV tV | exact s_o4 hC rfl tV tV tV tV | exact s_out0 hC rfl | exact s_outO hC rfl rfl rfl)
theorem sums_c (b : List Int) (hy : okY b) (hn : b.length ≤ 4000000) : Pure Try.prog 84 [VY b] (.tup [If .i64 (sumsP b).1, If .i64 (sumsP b).2]) := by
  refine Meets.intro Try.func84 rfl (Nat.le_of_ble_eq_true rfl) fun C hC => ?_
  simp only [List.map, argEnv, Nat.reduceAdd]
  refine nK ?_
  refine s_reg rfl ?_
  refine Run.pure (dd := some 2) rfl rfl (op_assign rfl (Opd.const _)) ?_
  refine Run.pure (dd := some 3) rfl rfl (op_assign rfl (Opd.const _)) ?_
  refine Run.nil (FinR.mk ?_)
  refine nK ?_
  refine s_reg rfl ?_
  refine Run.pure (dd := some 4) rfl rfl (op_assign rfl (Opd.const _)) ?_
  refine Run.pure (dd := some 5) rfl rfl (op_assign rfl (Opd.const _)) ?_
  refine Run.nil (FinR.mk ?_)
  refine nK ?_
  refine s_reg rfl ?_
  refine Run.pure (dd := some 6) rfl rfl (op_assign rfl (Opd.const _)) ?_
  refine Run.nil (FinR.mk ?_)
  refine nK ?_
  refine n_loop (ι := Nat × (Int × Int)) (fun p => ([(0, .fz (VY b)), (4, IV .i64 p.2.1), (5, IV .i64 p.2.2), (6, IV .i64 p.1)], [], 0)) (fun p => p.1 ≤ b.length ∧ ((0 ≤ p.2.1 ∧ p.2.1 < 255) ∧ (0 ≤ p.2.2 ∧ p.2.2 < 255)) ∧ sumsG b.length p.1 (b.drop p.1) p.2 = sumsP b) (fun p => b.length - p.1) (0, (0, 0)) ⟨Nat.zero_le _, ⟨⟨by decide, by decide⟩, by decide, by decide⟩, rfl⟩ ?_ ?_
  · refine Next.weak [] [] (by rfl) (keeps0 hC _) (by repeat (first | exact trivial | refine ⟨⟨_, rfl, .inl ⟨rfl, rfl⟩⟩, ?_⟩)) (by repeat (first | exact trivial | refine ⟨ent_same rfl rfl rfl tL, ?_⟩ | refine ⟨ent_same rfl rfl (rfEq rfl tU) tL, ?_⟩ | refine ⟨ent_same rfl rfl (flEq rfl (by first | (simp; done) | (simp; omega) | (simp [encA, encH, encL, encU, encK, encV, encY]; done) | simp [maxC, minC])) trivial, ?_⟩)) (fun _ h => by simp at h) rel_intro
  · intro ⟨i, s, t⟩ ⟨hi, ⟨⟨hs1, hs2⟩, ht1, ht2⟩, hS⟩ K hK
    dsimp only at hi hs1 hs2 ht1 ht2 hS ⊢
    refine nK ?_
    refine s_reg rfl ?_
    refine Run.pure (dd := some 7) rfl rfl (op_move rfl (Opd.tmp _ _ rfl)) ?_
    refine Run.pure (dd := some 8) rfl rfl (op_move rfl (Opd.tmp _ _ rfl)) ?_
    refine Run.pure (dd := some 9) rfl rfl (op_len_fz rfl (by first | exact Opd.tmp _ _ rfl | exact Opd.nil _ _ (Opd.tmp _ _ rfl)) (by first | exact List.length_map _ | rfl)) ?_
    refine Run.pure (dd := some 10) rfl rfl (op_lss rfl (Opd.tmp _ _ rfl) (Opd.tmp _ _ rfl)) ?_
    refine Run.nil (FinR.mk ?_)
    refine nK ?_
    refine n_cond _ rfl (fun hb => ?_) (fun hb => ?_)
    · have hlt : i < b.length := by simp at hb; omega
      have hr1 := row_at' encY b i hlt
      have hyi := hy b[i] (List.getElem_mem hlt)
      simp only [inr] at hyi
      rw [sums_step hlt] at hS
      have hw1 : 0 ≤ ((b.length : Int) - i) % 255 := Int.emod_nonneg _ (by decide)
      have hw2 : ((b.length : Int) - i) % 255 < 255 := Int.emod_lt_of_pos _ (by decide)
      have hm1 : 0 ≤ ((b.length : Int) - i) % 255 * b[i] := Int.mul_nonneg hw1 hyi.1
      have hm2 : ((b.length : Int) - i) % 255 * b[i] ≤ 255 * 255 := Int.mul_le_mul (by omega) hyi.2 hyi.1 (by decide)
      have hK1 := hK (i + 1, ((s + b[i]) % 255, (t + ((b.length : Int) - i) % 255 * b[i]) % 255)) ⟨by omega, ⟨⟨Int.emod_nonneg _ (by decide), Int.emod_lt_of_pos _ (by decide)⟩, ⟨Int.emod_nonneg _ (by decide), Int.emod_lt_of_pos _ (by decide)⟩⟩, hS⟩ (by dsimp only; omega)
      refine nK ?_
      refine s_reg rfl ?_
      refine Run.pure (dd := some 13) rfl rfl (op_move rfl (Opd.tmp _ _ rfl)) ?_
      refine Run.pure (dd := some 14) rfl rfl (op_move rfl (Opd.tmp _ _ rfl)) ?_
      refine Run.pure (dd := some 15) rfl rfl (op_move rfl (Opd.tmp _ _ rfl)) ?_
      refine Run.pure (dd := some 16) rfl rfl (op_idx_fz _ rfl (Opd.tmp _ _ rfl) (Opd.tmp _ _ rfl) tF) ?_
      refine Run.pure (dd := some 17) rfl rfl (op_load1_fz rfl (Opd.tmp _ _ rfl) rfl) ?_
      refine Run.pure (dd := some 18) rfl rfl (op_conv rfl (Opd.tmp _ _ rfl) tI) ?_
      refine Run.pure (dd := some 19) rfl rfl (op_add rfl (Opd.tmp _ _ rfl) (Opd.tmp _ _ rfl) tI) ?_
      refine Run.pure (dd := some 20) rfl rfl (op_rem rfl (Opd.tmp _ _ rfl) (Opd.const _) tM) ?_
      refine Run.pure (dd := some 4) rfl rfl (op_assign rfl (Opd.tmp _ _ rfl)) ?_
      refine Run.nil (FinR.mk ?_)
      refine nK ?_
      refine s_reg rfl ?_
      refine Run.pure (dd := some 21) rfl rfl (op_move rfl (Opd.tmp _ _ rfl)) ?_
      refine Run.pure (dd := some 22) rfl rfl (op_move rfl (Opd.tmp _ _ rfl)) ?_
      refine Run.pure (dd := some 23) rfl rfl (op_len_fz rfl (by first | exact Opd.tmp _ _ rfl | exact Opd.nil _ _ (Opd.tmp _ _ rfl)) (by first | exact List.length_map _ | rfl)) ?_
      refine Run.pure (dd := some 24) rfl rfl (op_move rfl (Opd.tmp _ _ rfl)) ?_
      refine Run.pure (dd := some 25) rfl rfl (op_sub rfl (Opd.tmp _ _ rfl) (Opd.tmp _ _ rfl) tI) ?_
      refine Run.pure (dd := some 26) rfl rfl (op_rem rfl (Opd.tmp _ _ rfl) (Opd.const _) tM) ?_
      refine Run.pure (dd := some 27) rfl rfl (op_move rfl (Opd.tmp _ _ rfl)) ?_
      refine Run.pure (dd := some 28) rfl rfl (op_move rfl (Opd.tmp _ _ rfl)) ?_
      refine Run.pure (dd := some 29) rfl rfl (op_idx_fz _ rfl (Opd.tmp _ _ rfl) (Opd.tmp _ _ rfl) tF) ?_
      refine Run.pure (dd := some 30) rfl rfl (op_load1_fz rfl (Opd.tmp _ _ rfl) rfl) ?_
      refine Run.pure (dd := some 31) rfl rfl (op_conv rfl (Opd.tmp _ _ rfl) tI) ?_
      refine Run.pure (dd := some 32) rfl rfl (op_mul rfl (Opd.tmp _ _ rfl) (Opd.tmp _ _ rfl) tI) ?_
      refine Run.pure (dd := some 33) rfl rfl (op_add rfl (Opd.tmp _ _ rfl) (Opd.tmp _ _ rfl) tI) ?_
      refine Run.pure (dd := some 34) rfl rfl (op_rem rfl (Opd.tmp _ _ rfl) (Opd.const _) tM) ?_
      refine Run.pure (dd := some 5) rfl rfl (op_assign rfl (Opd.tmp _ _ rfl)) ?_
      refine Run.nil (FinR.mk ?_)
      refine nK ?_
      refine s_reg rfl ?_
      refine Run.pure (dd := some 11) rfl rfl (op_move rfl (Opd.tmp _ _ rfl)) ?_
      refine Run.pure (dd := some 12) rfl rfl (op_add rfl (Opd.tmp _ _ rfl) (Opd.const _) tI) ?_
      refine Run.pure (dd := some 6) rfl rfl (op_assign rfl (Opd.tmp _ _ rfl)) ?_
      refine Run.nil (FinR.mk ?_)
      refine nK ?_
      refine Next.weak [] [] (by rfl) (keeps0 hC _) (by repeat (first | exact trivial | refine ⟨⟨_, rfl, .inl ⟨rfl, rfl⟩⟩, ?_⟩)) (by repeat (first | exact trivial | refine ⟨ent_same rfl rfl rfl tL, ?_⟩ | refine ⟨ent_same rfl rfl (rfEq rfl tU) tL, ?_⟩ | refine ⟨ent_same rfl rfl (flEq rfl (by first | (simp; done) | (simp; omega) | (simp [encA, encH, encL, encU, encK, encV, encY]; done) | simp [maxC, minC])) trivial, ?_⟩)) (fun _ h => by simp at h) hK1
    · have hie : i = b.length := by simp at hb; omega
      rw [hie, List.drop_length] at hS
      rw [← hS]
      refine nK ?_
      refine s_reg rfl ?_
      refine Run.pure (dd := some 35) rfl rfl (op_move rfl (Opd.tmp _ _ rfl)) ?_
      refine Run.pure (dd := some 36) rfl rfl (op_move rfl (Opd.tmp _ _ rfl)) ?_
      refine Run.pure (dd := some 2) rfl rfl (op_assign rfl (Opd.tmp _ _ rfl)) ?_
      refine Run.pure (dd := some 3) rfl rfl (op_assign rfl (Opd.tmp _ _ rfl)) ?_
      refine Run.nil (FinR.mk ?_)
      refine nK ?_
      (first | exact s_o1 hC rfl tV | exact s_o2 hC rfl tV tV | exact s_o3 hC rfl tV tV tV | exact s_o4 hC rfl tV tV tV tV | exact s_out0 hC rfl | exact s_outO hC rfl rfl rfl)
theorem with_c (b : List Int) (i : Nat) (hi : i + 1 < b.length) (hn : b.length ≤ 4000000) : Pure Try.prog 85 [VY b, If .i64 i, If .i64 0] (VY ((b.set i 0).set (i + 1) 0)) := by
  refine Meets.freeze (len := b.length) (by simp) ?_
  have h1 := row_at' encY b i (by omega)
  refine Meets.intro Try.func85 rfl (Nat.le_of_ble_eq_true rfl) fun C hC => ?_
  simp only [List.map, argEnv, Nat.reduceAdd]
  refine nK ?_
  refine s_reg rfl ?_
  refine Run.pure (dd := some 6) rfl rfl (op_assign rfl (Opd.const _)) ?_
  refine Run.nil (FinR.mk ?_)
  refine nK ?_
  refine s_reg rfl ?_
  refine Run.eff (dd := some 8) rfl rfl (op_buildSlice_own rfl (RowsF.nil _) rfl rfl rfl) ?_
  refine Run.pure (dd := some 9) rfl rfl (op_move rfl (Opd.tmp _ _ rfl)) ?_
  refine Run.eff (dd := some 10) rfl rfl (op_append rfl (Opd.tmp _ _ rfl) (Opd.tmp _ _ rfl) rfl rfl rfl rfl tB tB) ?_
  refine Run.pure (dd := some 7) rfl rfl (op_assign rfl (Opd.tmp _ _ rfl)) ?_
  refine Run.nil (FinR.mk ?_)
  refine nK ?_
  refine Next.weakS [7] [] (by rfl) (keeps0 hC _) (G' := [(1, IV .i64 i), (2, IV .i64 0), (7, .sl 0 1 0 b.length)]) (H' := [(0, OY b)]) (by repeat (first | exact trivial | refine ⟨⟨_, rfl, .inl ⟨rfl, rfl⟩⟩, ?_⟩ | refine ⟨⟨_, rfl, .inl ⟨slEq rfl tN, rfl⟩⟩, ?_⟩ | refine ⟨⟨_, rfl, .inl ⟨ivEq tX, rfl⟩⟩, ?_⟩)) (by repeat (first | exact trivial | refine ⟨ent_same rfl rfl rfl tL, ?_⟩ | refine ⟨ent_same rfl rfl (rfEq rfl tU) tL, ?_⟩ | refine ⟨ent_same rfl rfl (flEq rfl (by first | (simp; done) | (simp; omega) | (simp [encA, encH, encL, encU, encK, encV, encY]; done) | simp [maxC, minC])) trivial, ?_⟩)) rfl ?_
  refine nK ?_
  refine s_reg rfl ?_
  refine Run.pure (dd := some 11) rfl rfl (op_move rfl (Opd.tmp _ _ rfl)) ?_
  refine Run.pure (dd := some 12) rfl rfl (op_move rfl (Opd.tmp _ _ rfl)) ?_
  refine Run.pure (dd := some 13) rfl rfl (op_move rfl (Opd.tmp _ _ rfl)) ?_
  refine Run.pure (dd := some 14) rfl rfl (op_quo rfl (Opd.tmp _ _ rfl) (Opd.const _) tM) ?_
  refine Run.pure (dd := some 15) rfl rfl (op_conv rfl (Opd.tmp _ _ rfl) tI) ?_
  refine Run.pure (dd := some 16) rfl rfl (op_idx_sl0 i rfl (Opd.tmp _ _ rfl) (Opd.tmp _ _ rfl) (by intro _; constructor <;> omega)) ?_
  refine Run.eff (dd := none) rfl rfl (op_store_flat rfl (Opd.tmp _ _ rfl) (Opd.tmp _ _ rfl) tC rfl rfl h1 tS) ?_
  refine Run.nil (FinR.mk ?_)
  refine nK ?_
  refine Next.weakS [7] [] (by rfl) (keeps0 hC _) (G' := [(1, IV .i64 i), (2, IV .i64 0), (7, .sl 0 1 0 b.length)]) (H' := [(0, OY (b.set i 0))]) (by repeat (first | exact trivial | refine ⟨⟨_, rfl, .inl ⟨rfl, rfl⟩⟩, ?_⟩ | refine ⟨⟨_, rfl, .inl ⟨slEq rfl tN, rfl⟩⟩, ?_⟩ | refine ⟨⟨_, rfl, .inl ⟨ivEq tX, rfl⟩⟩, ?_⟩)) (by exact ⟨ent_same rfl rfl (by rw [List.map_set]; rfl) trivial, trivial⟩) rfl ?_
  have h2 := row_at' encY (b.set i 0) (i + 1) (by simp; omega)
  have hset : ((b.set i 0).map encY).set (i + 1) [If .u8 (0 % 256)] = ((b.set i 0).set (i + 1) 0).map encY := by simp only [List.map_set]; rfl
  refine nK ?_
  refine s_reg rfl ?_
  refine Run.pure (dd := some 17) rfl rfl (op_move rfl (Opd.tmp _ _ rfl)) ?_
  refine Run.pure (dd := some 18) rfl rfl (op_move rfl (Opd.tmp _ _ rfl)) ?_
  refine Run.pure (dd := some 19) rfl rfl (op_add rfl (Opd.tmp _ _ rfl) (Opd.const _) tI) ?_
  refine Run.pure (dd := some 20) rfl rfl (op_move rfl (Opd.tmp _ _ rfl)) ?_
  refine Run.pure (dd := some 21) rfl rfl (op_rem rfl (Opd.tmp _ _ rfl) (Opd.const _) tM) ?_
  refine Run.pure (dd := some 22) rfl rfl (op_conv rfl (Opd.tmp _ _ rfl) tI) ?_
  refine Run.pure (dd := some 23) rfl rfl (op_idx_sl0 (i + 1) rfl (Opd.tmp _ _ rfl) (Opd.tmp _ _ rfl) (by intro _; constructor <;> omega)) ?_
  refine Run.eff (dd := none) rfl rfl (op_store_flat rfl (Opd.tmp _ _ rfl) (Opd.tmp _ _ rfl) tC rfl rfl h2 tS) ?_
  refine Run.nil (FinR.mk ?_)
  refine nK ?_
  refine s_reg rfl ?_
  refine Run.pure (dd := some 24) rfl rfl (op_move rfl (Opd.tmp _ _ rfl)) ?_
  refine Run.pure (dd := some 6) rfl rfl (op_assign rfl (Opd.tmp _ _ rfl)) ?_
  refine Run.nil (FinR.mk ?_)
  refine nK ?_
  refine Next.weakS [6] [] (by rfl) (keeps0 hC _) (G' := [(6, .sl 0 1 0 b.length)]) (H' := [(0, OY ((b.set i 0).set (i + 1) 0))]) (by repeat (first | exact trivial | refine ⟨⟨_, rfl, .inl ⟨rfl, rfl⟩⟩, ?_⟩ | refine ⟨⟨_, rfl, .inl ⟨slEq rfl tN, rfl⟩⟩, ?_⟩ | refine ⟨⟨_, rfl, .inl ⟨ivEq tX, rfl⟩⟩, ?_⟩)) (by exact ⟨ent_same rfl rfl (by rw [← hset]; rfl) trivial, trivial⟩) rfl ?_
  (first | exact s_o1 hC rfl tV | exact s_o2 hC rfl tV tV | exact s_o3 hC rfl tV tV tV | exact s_o4 hC rfl tV tV tV tV | exact s_out0 hC rfl | exact s_outO hC rfl rfl rfl)
theorem set0_ok {b : List Int} (h : okY b) (i : Nat) : okY (b.set i 0) := fun y hy => by
  rcases List.mem_or_eq_of_mem_set hy with h1 | h1
  · exact h y h1
  · rw [h1]; simp [inr]
theorem flet_c (b : List Int) (i : Nat) (hy : okY b) (hi : i + 1 < b.length) (hn : b.length ≤ 4000000) : Pure Try.prog 69 [VY b, If .i64 i] (.tup [If .i64 (fletP b i).1, Bf (fletP b i).2]) := by
  have hwi := with_c b i hi hn
  have hsu := sums_c ((b.set i 0).set (i + 1) 0) (set0_ok (set0_ok hy i) (i + 1)) (by simpa using hn)
  obtain ⟨⟨hs1, hs2⟩, ht1, ht2⟩ := sumsP_ok ((b.set i 0).set (i + 1) 0)
  unfold fletP
  generalize sumsP ((b.set i 0).set (i + 1) 0) = st at *
  obtain ⟨s, t⟩ := st
  dsimp only at *
  have hw1 : 0 ≤ ((b.length : Int) - i) % 255 := Int.emod_nonneg _ (by decide)
  have hw2 : ((b.length : Int) - i) % 255 < 255 := Int.emod_lt_of_pos _ (by decide)
  have hwe : ((b.length : Int) - i) % 255 = ((b.length : Int) - i) % 255 := rfl
  refine Meets.intro Try.func69 rfl (Nat.le_of_ble_eq_true rfl) fun C hC => ?_
  simp only [List.map, argEnv, Nat.reduceAdd]
  refine nK ?_
  refine s_reg rfl ?_
  refine Run.pure (dd := some 4) rfl rfl (op_assign rfl (Opd.const _)) ?_
  refine Run.pure (dd := some 5) rfl rfl (op_assign rfl (Opd.const _)) ?_
  refine Run.nil (FinR.mk ?_)
  refine nK ?_
  refine s_reg rfl ?_
  refine Run.pure (dd := some 11) rfl rfl (op_move rfl (Opd.tmp _ _ rfl)) ?_
  refine Run.pure (dd := some 12) rfl rfl (op_lss rfl (Opd.tmp _ _ rfl) (Opd.const _)) ?_
  refine Run.pure (dd := some 13) rfl rfl (op_move rfl (Opd.tmp _ _ rfl)) ?_
  refine Run.pureG (dd := some 14) rfl rfl rfl tG (op_move rfl (Opd.tmp _ _ rfl)) ?_
  refine Run.pureG (dd := some 15) rfl rfl rfl tG (op_move rfl (Opd.tmp _ _ rfl)) ?_
  refine Run.pureG (dd := some 16) rfl rfl rfl tG (op_len_fz rfl (by first | exact Opd.topt _ _ _ rfl tO | exact Opd.nil _ _ (Opd.topt _ _ _ rfl tO)) (by first | exact List.length_map _ | rfl)) ?_
  refine Run.pureG (dd := some 17) rfl rfl rfl tG (op_sub rfl (Opd.topt _ _ _ rfl tO) (Opd.const _) tI) ?_
  refine Run.pureG (dd := some 18) rfl rfl rfl tG (op_geq rfl (Opd.topt _ _ _ rfl tO) (Opd.topt _ _ _ rfl tO)) ?_
  refine Run.pure (dd := some 19) rfl rfl (op_pick_or rfl (Opd.tmp _ _ rfl) (Opd.topt _ _ _ rfl tO)) ?_
  refine Run.nil (FinR.mk ?_)
  refine nK ?_
  refine n_cond _ rfl (fun hb => ?_) (fun hb => ?_)
  · exfalso; simp at hb; omega
  · refine nK ?_
    refine s_reg rfl ?_
    refine Run.pure (dd := some 21) rfl rfl (op_move rfl (Opd.tmp _ _ rfl)) ?_
    refine Run.pure (dd := some 22) rfl rfl (op_move rfl (Opd.tmp _ _ rfl)) ?_
    refine Run.pure (dd := some 23) rfl rfl (op_call_pure (fun _ => hwi) rfl (Opd.func _) (Opds.cons _ _ _ _ (Opd.tmp _ _ rfl) (Opds.cons _ _ _ _ (Opd.tmp _ _ rfl) (Opds.cons _ _ _ _ (Opd.const _) Opds.nil)))) ?_
    refine Run.pure (dd := some 24) rfl rfl (op_call_pure (fun _ => hsu) rfl (Opd.func _) (Opds.cons _ _ _ _ (Opd.tmp _ _ rfl) Opds.nil)) ?_
    refine Run.pure (dd := some 20) rfl rfl (op_move rfl (Opd.tmp _ _ rfl)) ?_
    refine Run.pure (dd := some 25) rfl rfl (op_extract_fz rfl (Opd.tmp _ _ rfl) rfl) ?_
    refine Run.pure (dd := some 26) rfl rfl (op_extract_fz rfl (Opd.tmp _ _ rfl) rfl) ?_
    refine Run.pure (dd := some 6) rfl rfl (op_assign rfl (Opd.tmp _ _ rfl)) ?_
    refine Run.pure (dd := some 7) rfl rfl (op_assign rfl (Opd.tmp _ _ rfl)) ?_
    refine Run.nil (FinR.mk ?_)
    refine nK ?_
    refine s_reg rfl ?_
    refine Run.pure (dd := some 27) rfl rfl (op_move rfl (Opd.tmp _ _ rfl)) ?_
    refine Run.pure (dd := some 28) rfl rfl (op_len_fz rfl (by first | exact Opd.tmp _ _ rfl | exact Opd.nil _ _ (Opd.tmp _ _ rfl)) (by first | exact List.length_map _ | rfl)) ?_
    refine Run.pure (dd := some 29) rfl rfl (op_move rfl (Opd.tmp _ _ rfl)) ?_
    refine Run.pure (dd := some 30) rfl rfl (op_sub rfl (Opd.tmp _ _ rfl) (Opd.tmp _ _ rfl) tI) ?_
    refine Run.pure (dd := some 31) rfl rfl (op_rem rfl (Opd.tmp _ _ rfl) (Opd.const _) tM) ?_
    refine Run.pure (dd := some 8) rfl rfl (op_assign rfl (Opd.tmp _ _ rfl)) ?_
    refine Run.nil (FinR.mk ?_)
    refine nK ?_
    refine s_reg rfl ?_
    refine Run.pure (dd := some 9) rfl rfl (op_assign rfl (Opd.const _)) ?_
    refine Run.nil (FinR.mk ?_)
    refine nK ?_
    generalize ((b.length : Int) - i) % 255 = w at *
    generalize hR : fletG s t w 255 1 = R at *
    refine n_loop (ι := Nat) (fun k => ([(6, IV .i64 s), (7, IV .i64 t), (8, IV .i64 w), (9, IV .i64 ((k : Int) + 1))], [], 0)) (fun k => k ≤ 255 ∧ fletG s t w (255 - k) ((k : Int) + 1) = R) (fun k => 255 - k) 0 ⟨Nat.zero_le _, by simpa using hR⟩ ?_ ?_
    · refine Next.weak [] [] (by rfl) (keeps0 hC _) (by repeat (first | exact trivial | refine ⟨⟨_, rfl, .inl ⟨rfl, rfl⟩⟩, ?_⟩)) (by repeat (first | exact trivial | refine ⟨ent_same rfl rfl rfl tL, ?_⟩ | refine ⟨ent_same rfl rfl (rfEq rfl tU) tL, ?_⟩ | refine ⟨ent_same rfl rfl (flEq rfl (by first | (simp; done) | (simp; omega) | (simp [encA, encH, encL, encU, encK, encV, encY]; done) | simp [maxC, minC])) trivial, ?_⟩)) (fun _ h => by simp at h) rel_intro
    · intro k ⟨hk, hS⟩ K hK
      refine nK ?_
      refine s_reg rfl ?_
      refine Run.pure (dd := some 32) rfl rfl (op_move rfl (Opd.tmp _ _ rfl)) ?_
      refine Run.pure (dd := some 33) rfl rfl (op_leq rfl (Opd.tmp _ _ rfl) (Opd.const _)) ?_
      refine Run.nil (FinR.mk ?_)
      refine nK ?_
      refine n_cond _ rfl (fun hb => ?_) (fun hb => ?_)
      · have hlt : k < 255 := by simp at hb; omega
        have e : 255 - k = (255 - (k + 1)) + 1 := by omega
        rw [e, fletG_succ] at hS
        have hK1 := fun h => hK (k + 1) ⟨by omega, h⟩ (by omega)
        have y1 : 0 ≤ (s + ((k : Int) + 1)) % 255 := Int.emod_nonneg _ (by decide)
        have y2 : (s + ((k : Int) + 1)) % 255 < 255 := Int.emod_lt_of_pos _ (by decide)
        have v1 : 0 ≤ (w + 254) % 255 := Int.emod_nonneg _ (by decide)
        have v2 : (w + 254) % 255 < 255 := Int.emod_lt_of_pos _ (by decide)
        have m1 : 0 ≤ w * ((k : Int) + 1) := Int.mul_nonneg hw1 (by omega)
        have m2 : w * ((k : Int) + 1) ≤ 255 * 255 := Int.mul_le_mul (by omega) (by omega) (by omega) (by decide)
        have m3 : 0 ≤ (w + 254) % 255 * (255 - (s + ((k : Int) + 1)) % 255) := Int.mul_nonneg v1 (by omega)
        have m4 : (w + 254) % 255 * (255 - (s + ((k : Int) + 1)) % 255) ≤ 255 * 255 := Int.mul_le_mul (by omega) (by omega) (by omega) (by decide)
        refine nK ?_
        refine s_reg rfl ?_
        refine Run.pure (dd := some 36) rfl rfl (op_move rfl (Opd.tmp _ _ rfl)) ?_
        refine Run.pure (dd := some 37) rfl rfl (op_move rfl (Opd.tmp _ _ rfl)) ?_
        refine Run.pure (dd := some 38) rfl rfl (op_add rfl (Opd.tmp _ _ rfl) (Opd.tmp _ _ rfl) tI) ?_
        refine Run.pure (dd := some 39) rfl rfl (op_rem rfl (Opd.tmp _ _ rfl) (Opd.const _) tM) ?_
        refine Run.pure (dd := some 40) rfl rfl (op_sub rfl (Opd.const _) (Opd.tmp _ _ rfl) tI) ?_
        refine Run.pure (dd := some 10) rfl rfl (op_assign rfl (Opd.tmp _ _ rfl)) ?_
        refine Run.nil (FinR.mk ?_)
        refine nK ?_
        refine s_reg rfl ?_
        refine Run.pure (dd := some 41) rfl rfl (op_move rfl (Opd.tmp _ _ rfl)) ?_
        refine Run.pure (dd := some 42) rfl rfl (op_move rfl (Opd.tmp _ _ rfl)) ?_
        refine Run.pure (dd := some 43) rfl rfl (op_move rfl (Opd.tmp _ _ rfl)) ?_
        refine Run.pure (dd := some 44) rfl rfl (op_mul rfl (Opd.tmp _ _ rfl) (Opd.tmp _ _ rfl) tI) ?_
        refine Run.pure (dd := some 45) rfl rfl (op_add rfl (Opd.tmp _ _ rfl) (Opd.tmp _ _ rfl) tI) ?_
        refine Run.pure (dd := some 46) rfl rfl (op_move rfl (Opd.tmp _ _ rfl)) ?_
        refine Run.pure (dd := some 47) rfl rfl (op_add rfl (Opd.tmp _ _ rfl) (Opd.const _) tI) ?_
        refine Run.pure (dd := some 48) rfl rfl (op_rem rfl (Opd.tmp _ _ rfl) (Opd.const _) tM) ?_
        refine Run.pure (dd := some 49) rfl rfl (op_move rfl (Opd.tmp _ _ rfl)) ?_
        refine Run.pure (dd := some 50) rfl rfl (op_mul rfl (Opd.tmp _ _ rfl) (Opd.tmp _ _ rfl) tI) ?_
        refine Run.pure (dd := some 51) rfl rfl (op_add rfl (Opd.tmp _ _ rfl) (Opd.tmp _ _ rfl) tI) ?_
        refine Run.pure (dd := some 52) rfl rfl (op_rem rfl (Opd.tmp _ _ rfl) (Opd.const _) tM) ?_
        refine Run.pure (dd := some 53) rfl rfl (op_eql rfl (Opd.tmp _ _ rfl) (Opd.const _)) ?_
        refine Run.nil (FinR.mk ?_)
        refine nK ?_
        refine n_cond _ rfl (fun hb => ?_) (fun hb => ?_)
        · rw [if_pos (show fletQ s t w ((k : Int) + 1) = true from hb)] at hS
          rw [← hS]
          refine nK ?_
          refine s_reg rfl ?_
          refine Run.pure (dd := some 54) rfl rfl (op_move rfl (Opd.tmp _ _ rfl)) ?_
          refine Run.pure (dd := some 55) rfl rfl (op_mul rfl (Opd.tmp _ _ rfl) (Opd.const _) tI) ?_
          refine Run.pure (dd := some 56) rfl rfl (op_move rfl (Opd.tmp _ _ rfl)) ?_
          refine Run.pure (dd := some 57) rfl rfl (op_add rfl (Opd.tmp _ _ rfl) (Opd.tmp _ _ rfl) tI) ?_
          refine Run.pure (dd := some 4) rfl rfl (op_assign rfl (Opd.tmp _ _ rfl)) ?_
          refine Run.pure (dd := some 5) rfl rfl (op_assign rfl (Opd.const _)) ?_
          refine Run.nil (FinR.mk ?_)
          refine nK ?_
          (first | exact s_o1 hC rfl tV | exact s_o2 hC rfl tV tV | exact s_o3 hC rfl tV tV tV | exact s_o4 hC rfl tV tV tV tV | exact s_out0 hC rfl | exact s_outO hC rfl rfl rfl)
        · rw [if_neg (by rw [show fletQ s t w ((k : Int) + 1) = false from hb]; decide)] at hS
          refine nK ?_
          refine s_reg rfl ?_
          refine Run.pure (dd := some 34) rfl rfl (op_move rfl (Opd.tmp _ _ rfl)) ?_
          refine Run.pure (dd := some 35) rfl rfl (op_add rfl (Opd.tmp _ _ rfl) (Opd.const _) tI) ?_
          refine Run.pure (dd := some 9) rfl rfl (op_assign rfl (Opd.tmp _ _ rfl)) ?_
          refine Run.nil (FinR.mk ?_)
          refine nK ?_
          refine Next.weak [] [] (by rfl) (keeps0 hC _) (by repeat (first | exact trivial | refine ⟨⟨_, rfl, .inl ⟨rfl, rfl⟩⟩, ?_⟩)) (by repeat (first | exact trivial | refine ⟨ent_same rfl rfl rfl tL, ?_⟩ | refine ⟨ent_same rfl rfl (rfEq rfl tU) tL, ?_⟩ | refine ⟨ent_same rfl rfl (flEq rfl (by first | (simp; done) | (simp; omega) | (simp [encA, encH, encL, encU, encK, encV, encY]; done) | simp [maxC, minC])) trivial, ?_⟩)) (fun _ h => by simp at h) (hK1 (by rw [← hS]; rfl))
      · have hke : k = 255 := by simp at hb; omega
        subst hke
        rw [← hS]
        refine nK ?_
        refine s_reg rfl ?_
        refine Run.pure (dd := some 4) rfl rfl (op_assign rfl (Opd.const _)) ?_
        refine Run.pure (dd := some 5) rfl rfl (op_assign rfl (Opd.const _)) ?_
        refine Run.nil (FinR.mk ?_)
        refine nK ?_
        (first | exact s_o1 hC rfl tV | exact s_o2 hC rfl tV tV | exact s_o3 hC rfl tV tV tV | exact s_o4 hC rfl tV tV tV tV | exact s_out0 hC rfl | exact s_outO hC rfl rfl rfl)
theorem bytesP_c (l : Lsa) (ho : okA l) (hl1 : l.ls.length ≤ 64) (hl2 : l.att.length ≤ 64) : Pure Try.prog 70 [.agg (encA l)] (VY (bytesB l)) := (bytes_f l ho hl1 hl2).freeze (by simp)
theorem sum_c (l : Lsa) (ho : okA l) (hl1 : l.ls.length ≤ 64) (hl2 : l.att.length ≤ 64) : Pure Try.prog 40 [.agg (encA l)] (If .i64 (sumA l)) := by
  have hbl := bodyB_len hl1 hl2
  have hlen := bytesB_len l
  have hy : okY ((bytesB l).drop 2) := fun y h => bytesB_ok l y (List.mem_of_mem_drop h)
  have hd1 : 14 + 1 < ((bytesB l).drop 2).length := by simp; omega
  have hd2 : ((bytesB l).drop 2).length ≤ 4000000 := by simp; omega
  have hdm : ((bytesB l).map encY).drop 2 = ((bytesB l).drop 2).map encY := by simp
  refine Meets.intro Try.func40 rfl (Nat.le_of_ble_eq_true rfl) fun C hC => ?_
  simp only [List.map, argEnv, Nat.reduceAdd]
  refine nK ?_
  refine s_reg rfl ?_
  refine Run.eff (dd := some 1) rfl rfl (op_box_flat rfl (Opd.tmp _ _ rfl) tC rfl) ?_
  refine Run.pure (dd := some 2) rfl rfl (op_assign rfl (Opd.const _)) ?_
  refine Run.nil (FinR.mk ?_)
  refine nK ?_
  refine s_reg rfl ?_
  refine Run.load (dd := some 6) rfl rfl (op_loadw_flat rfl (Opd.tmp _ _ rfl) tH rfl) ?_
  refine Run.pure (dd := some 7) rfl rfl (op_call_pure (fun _ => bytesP_c _ (by assumption) (by assumption) (by assumption)) rfl (Opd.func _) (Opds.cons _ _ _ _ (Opd.tmp _ _ rfl) Opds.nil)) ?_
  refine Run.pure (dd := some 8) rfl rfl (op_slice_fz (l := 2) (h := ((bytesB l).map encY).length) (rs := ((bytesB l).drop 2).map encY) rfl (Opd.tmp _ _ rfl) (Bnd.yes _ _ _ _ _ (Opd.const _) tQ) (Bnd.no _) (by intro _; exact ⟨by rw [List.length_map]; omega, Nat.le_refl _, by rw [← List.map_drop, List.take_of_length_le (by simp)]⟩)) ?_
  refine Run.pure (dd := some 9) rfl rfl (op_call_pure (fun _ => flet_c _ 14 (by assumption) (by assumption) (by assumption)) rfl (Opd.func _) (Opds.cons _ _ _ _ (Opd.tmp _ _ rfl) (Opds.cons _ _ _ _ (Opd.const _) Opds.nil))) ?_
  refine Run.pure (dd := some 5) rfl rfl (op_move rfl (Opd.tmp _ _ rfl)) ?_
  refine Run.pure (dd := some 10) rfl rfl (op_extract_fz rfl (Opd.tmp _ _ rfl) rfl) ?_
  refine Run.pure (dd := some 11) rfl rfl (op_extract_fz rfl (Opd.tmp _ _ rfl) rfl) ?_
  refine Run.pure (dd := some 3) rfl rfl (op_assign rfl (Opd.tmp _ _ rfl)) ?_
  refine Run.pure (dd := some 4) rfl rfl (op_assign rfl (Opd.tmp _ _ rfl)) ?_
  refine Run.nil (FinR.mk ?_)
  refine nK ?_
  refine s_reg rfl ?_
  refine Run.pure (dd := some 12) rfl rfl (op_move rfl (Opd.tmp _ _ rfl)) ?_
  refine Run.pure (dd := some 2) rfl rfl (op_assign rfl (Opd.tmp _ _ rfl)) ?_
  refine Run.nil (FinR.mk ?_)
  refine nK ?_
  (first | exact s_o1 hC rfl tV | exact s_o2 hC rfl tV tV | exact s_o3 hC rfl tV tV tV | exact s_o4 hC rfl tV tV tV tV | exact s_out0 hC rfl | exact s_outO hC rfl rfl rfl)
theorem sealed_c (l : Lsa) (ho : okA l) (hl1 : l.ls.length ≤ 64) (hl2 : l.att.length ≤ 64) : Pure Try.prog 50 [.agg (encA l)] (Bf (sealB l)) := by
  refine Meets.intro Try.func50 rfl (Nat.le_of_ble_eq_true rfl) fun C hC => ?_
  simp only [List.map, argEnv, Nat.reduceAdd]
  refine nK ?_
  refine s_reg rfl ?_
  refine Run.eff (dd := some 1) rfl rfl (op_box_flat rfl (Opd.tmp _ _ rfl) tC rfl) ?_
  refine Run.pure (dd := some 2) rfl rfl (op_assign rfl (Opd.const _)) ?_
  refine Run.nil (FinR.mk ?_)
  refine nK ?_
  refine s_draw mixed ?_
  refine Run.pure (dd := some 3) rfl rfl (op_fld_ptr (by decide) rfl (Opd.tmp _ _ rfl)) ?_
  refine Run.pure (dd := some 4) rfl rfl (op_fld_ptr (by decide) rfl (Opd.tmp _ _ rfl)) ?_
  refine Run.load (dd := some 5) rfl rfl (op_load1_flat rfl (Opd.tmp _ _ rfl) tH rfl) ?_
  refine Run.load (dd := some 6) rfl rfl (op_loadw_flat rfl (Opd.tmp _ _ rfl) tH rfl) ?_
  refine Run.pure (dd := some 7) rfl rfl (op_call_pure (fun _ => sum_c _ (by assumption) (by assumption) (by assumption)) rfl (Opd.func _) (Opds.cons _ _ _ _ (Opd.tmp _ _ rfl) Opds.nil)) ?_
  refine Run.pure (dd := some 8) rfl rfl (op_eql rfl (Opd.tmp _ _ rfl) (Opd.tmp _ _ rfl)) ?_
  refine Run.pure (dd := some 2) rfl rfl (op_assign rfl (Opd.tmp _ _ rfl)) ?_
  refine Run.nil (FinD.mk (by kernel_rfl) ?_)
  refine nK ?_
  (first | exact s_o1 hC rfl tV | exact s_o2 hC rfl tV tV | exact s_o3 hC rfl tV tV tV | exact s_o4 hC rfl tV tV tV tV | exact s_out0 hC rfl | exact s_outO hC rfl rfl rfl)
theorem copy_c (l : Lsa) (hl1 : l.ls.length ≤ 64) (hl2 : l.att.length ≤ 64) : Pure Try.prog 41 [.agg (encA l)] (.agg (encA l)) := by
  refine Meets.intro Try.func41 rfl (Nat.le_of_ble_eq_true rfl) fun C hC => ?_
  simp only [List.map, argEnv, Nat.reduceAdd]
  refine nK ?_
  refine s_reg rfl ?_
  refine Run.eff (dd := some 1) rfl rfl (op_box_flat rfl (Opd.tmp _ _ rfl) tC rfl) ?_
  refine Run.eff (dd := some 2) rfl rfl (op_alloc rfl rfl rfl rfl) ?_
  refine Run.nil (FinR.mk ?_)
  refine nK ?_
  refine Next.toRefs 0 rfl rfl ?_
  refine nK ?_
  refine s_reg rfl ?_
  refine Run.eff (dd := some 3) rfl rfl (op_buildSlice_own rfl (RowsF.nil _) rfl rfl rfl) ?_
  refine Run.pure (dd := some 4) rfl rfl (op_fld_ptr (by decide) rfl (Opd.tmp _ _ rfl)) ?_
  refine Run.load (dd := some 5) rfl rfl (op_load1_refs rfl (Opd.tmp _ _ rfl) tH rfl) ?_
  refine Run.eff (dd := some 6) rfl rfl (op_append rfl (Opd.tmp _ _ rfl) (Opd.tmp _ _ rfl) rfl rfl rfl rfl tB tB) ?_
  refine Run.pure (dd := some 7) rfl rfl (op_fld_ptr (by decide) rfl (Opd.tmp _ _ rfl)) ?_
  refine Run.eff (dd := none) rfl rfl (op_store_refs rfl (Opd.tmp _ _ rfl) (Opd.tmp _ _ rfl) tP rfl rfl rfl tS) ?_
  refine Run.nil (FinR.mk ?_)
  refine nK ?_
  refine s_reg rfl ?_
  refine Run.eff (dd := some 8) rfl rfl (op_buildSlice_own rfl (RowsF.nil _) rfl rfl rfl) ?_
  refine Run.pure (dd := some 9) rfl rfl (op_fld_ptr (by decide) rfl (Opd.tmp _ _ rfl)) ?_
  refine Run.load (dd := some 10) rfl rfl (op_load1_refs rfl (Opd.tmp _ _ rfl) tH rfl) ?_
  refine Run.eff (dd := some 11) rfl rfl (op_append rfl (Opd.tmp _ _ rfl) (Opd.tmp _ _ rfl) rfl rfl rfl rfl tB tB) ?_
  refine Run.pure (dd := some 12) rfl rfl (op_fld_ptr (by decide) rfl (Opd.tmp _ _ rfl)) ?_
  refine Run.eff (dd := none) rfl rfl (op_store_refs rfl (Opd.tmp _ _ rfl) (Opd.tmp _ _ rfl) tP rfl rfl rfl tS) ?_
  refine Run.nil (FinR.mk ?_)
  refine nK ?_
  refine Next.weakS [1, 2] [6, 11] (by rfl) (keeps0 hC _) (G' := [(1, .ptr 0 15 0 0), (2, .ptr 1 15 0 0)]) (H' := [(0, OA l), (1, OA zeroA)]) (by repeat (first | exact trivial | refine ⟨⟨_, rfl, .inl ⟨rfl, rfl⟩⟩, ?_⟩ | refine ⟨⟨_, rfl, .inl ⟨slEq rfl tN, rfl⟩⟩, ?_⟩ | refine ⟨⟨_, rfl, .inl ⟨ivEq tX, rfl⟩⟩, ?_⟩)) (by exact ⟨⟨rfl, rfl, .flat _ _ _ rfl tW⟩, ⟨⟨rfl, rfl, .fflat _ _ _ rfl tW⟩, trivial⟩⟩) rfl ?_
  refine nK ?_
  refine s_reg rfl ?_
  refine Run.load (dd := some 13) rfl rfl (op_loadw_flat rfl (Opd.tmp _ _ rfl) tH rfl) ?_
  refine Run.eff (dd := none) rfl rfl (op_store_flat rfl (Opd.tmp _ _ rfl) (Opd.tmp _ _ rfl) tC rfl rfl (by first | rfl | assumption) tS) ?_
  refine Run.nil (FinR.mk ?_)
  refine nK ?_
  (first | exact s_o1 hC rfl tV | exact s_o2 hC rfl tV tV | exact s_o3 hC rfl tV tV tV | exact s_o4 hC rfl tV tV tV tV | exact s_out0 hC rfl | exact s_outO hC rfl rfl rfl)
theorem seal_c (l : Lsa) (ho : okA l) : Pure Try.prog 15 [.agg (encA l)] (.tup [.agg (encA (sealF l).1), If .i64 (sealF l).2]) := by
  unfold sealF
  refine Meets.intro Try.func15 rfl (Nat.le_of_ble_eq_true rfl) fun C hC => ?_
  simp only [List.map, argEnv, Nat.reduceAdd]
  refine nK ?_
  refine s_reg rfl ?_
  refine Run.eff (dd := some 1) rfl rfl (op_box_flat rfl (Opd.tmp _ _ rfl) tC rfl) ?_
  refine Run.eff (dd := some 2) rfl rfl (op_alloc rfl rfl rfl rfl) ?_
  refine Run.pure (dd := some 3) rfl rfl (op_assign rfl (Opd.const _)) ?_
  refine Run.nil (FinR.mk ?_)
  refine nK ?_
  refine s_reg rfl ?_
  refine Run.load (dd := some 5) rfl rfl (op_loadw_flat rfl (Opd.tmp _ _ rfl) tH rfl) ?_
  refine Run.pure (dd := some 6) rfl rfl (op_call_pure (fun _ => chkA_c _ (by assumption)) rfl (Opd.func _) (Opds.cons _ _ _ _ (Opd.tmp _ _ rfl) Opds.nil)) ?_
  refine Run.pure (dd := some 4) rfl rfl (op_assign rfl (Opd.tmp _ _ rfl)) ?_
  refine Run.nil (FinR.mk ?_)
  refine nK ?_
  refine s_reg rfl ?_
  refine Run.pure (dd := some 7) rfl rfl (op_move rfl (Opd.tmp _ _ rfl)) ?_
  refine Run.pure (dd := some 8) rfl rfl (op_neq rfl (Opd.tmp _ _ rfl) (Opd.const _)) ?_
  refine Run.nil (FinR.mk ?_)
  refine nK ?_
  refine n_cond _ rfl (fun hb => ?_) (fun hb => ?_)
  · rw [if_pos (by simpa using hb)]
    refine nK ?_
    refine s_reg rfl ?_
    refine Run.pure (dd := some 9) rfl rfl (op_build rfl rfl rfl (FillF.nil _)) ?_
    refine Run.pure (dd := some 10) rfl rfl (op_move rfl (Opd.tmp _ _ rfl)) ?_
    refine Run.eff (dd := none) rfl rfl (op_store_flat rfl (Opd.tmp _ _ rfl) (Opd.tmp _ _ rfl) tC rfl rfl (by first | rfl | assumption) tS) ?_
    refine Run.pure (dd := some 3) rfl rfl (op_assign rfl (Opd.tmp _ _ rfl)) ?_
    refine Run.nil (FinR.mk ?_)
    refine nK ?_
    refine Next.weakS [2] [] (by rfl) (keeps0 hC _) (G' := [(2, .ptr 0 15 0 0), (3, IV .i64 (chkA l))]) (H' := [(0, OA zeroA)]) (by repeat (first | exact trivial | refine ⟨⟨_, rfl, .inl ⟨rfl, rfl⟩⟩, ?_⟩ | refine ⟨⟨_, rfl, .inl ⟨slEq rfl tN, rfl⟩⟩, ?_⟩ | refine ⟨⟨_, rfl, .inl ⟨ivEq tX, rfl⟩⟩, ?_⟩)) (by exact ⟨⟨rfl, rfl, .fflat _ _ _ rfl tW⟩, trivial⟩) rfl ?_
    (first | exact s_o1 hC rfl tV | exact s_o2 hC rfl tV tV | exact s_o3 hC rfl tV tV tV | exact s_o4 hC rfl tV tV tV tV | exact s_out0 hC rfl | exact s_outO hC rfl rfl rfl)
  · have h0 : chkA l = 0 := by simpa using hb
    rw [if_neg (by simp [h0])]
    obtain ⟨hl1, hl2⟩ := chkA_len h0
    have hc2 := copy_c { l with h := { l.h with sm := sumA l } } hl1 hl2
    refine nK ?_
    refine s_reg rfl ?_
    refine Run.load (dd := some 11) rfl rfl (op_loadw_flat rfl (Opd.tmp _ _ rfl) tH rfl) ?_
    refine Run.pure (dd := some 12) rfl rfl (op_call_pure (fun _ => sum_c _ (by assumption) (by assumption) (by assumption)) rfl (Opd.func _) (Opds.cons _ _ _ _ (Opd.tmp _ _ rfl) Opds.nil)) ?_
    refine Run.pure (dd := some 13) rfl rfl (op_fld_ptr (by decide) rfl (Opd.tmp _ _ rfl)) ?_
    refine Run.pure (dd := some 14) rfl rfl (op_fld_ptr (by decide) rfl (Opd.tmp _ _ rfl)) ?_
    refine Run.eff (dd := none) rfl rfl (op_store_flat rfl (Opd.tmp _ _ rfl) (Opd.tmp _ _ rfl) tC rfl rfl (by first | rfl | assumption) tS) ?_
    refine Run.nil (FinR.mk ?_)
    refine nK ?_
    refine s_reg rfl ?_
    refine Run.load (dd := some 15) rfl rfl (op_loadw_flat rfl (Opd.tmp _ _ rfl) tH rfl) ?_
    refine Run.pure (dd := some 16) rfl rfl (op_call_pure (fun _ => hc2) rfl (Opd.func _) (Opds.cons _ _ _ _ (Opd.tmp _ _ rfl) Opds.nil)) ?_
    refine Run.eff (dd := none) rfl rfl (op_store_flat rfl (Opd.tmp _ _ rfl) (Opd.tmp _ _ rfl) tC rfl rfl (by first | rfl | assumption) tS) ?_
    refine Run.pure (dd := some 3) rfl rfl (op_assign rfl (Opd.const _)) ?_
    refine Run.nil (FinR.mk ?_)
    refine nK ?_
    (first | exact s_o1 hC rfl tV | exact s_o2 hC rfl tV tV | exact s_o3 hC rfl tV tV tV | exact s_o4 hC rfl tV tV tV tV | exact s_out0 hC rfl | exact s_outO hC rfl rfl rfl)
theorem rows_c (db : List Lsa) (ho : ∀ x ∈ db, okA x) (hn : db.length ≤ 4000000) : Pure Try.prog 23 [VA db] (If .i64 (rowsGo none db)) := by
  refine Meets.intro Try.func23 rfl (Nat.le_of_ble_eq_true rfl) fun C hC => ?_
  simp only [List.map, argEnv, Nat.reduceAdd]
  refine nK ?_
  refine s_reg rfl ?_
  refine Run.pure (dd := some 2) rfl rfl (op_assign rfl (Opd.const _)) ?_
  refine Run.nil (FinR.mk ?_)
  refine nK ?_
  refine s_reg rfl ?_
  refine Run.pure (dd := some 3) rfl rfl (op_assign rfl (Opd.const _)) ?_
  refine Run.nil (FinR.mk ?_)
  refine nK ?_
  refine n_loop (ι := Nat) (fun i => ([(0, .fz (VA db)), (3, IV .i64 i)], [], 0)) (fun i => i ≤ db.length ∧ rowsGo (prevG db i) (db.drop i) = rowsGo none db) (fun i => db.length - i) 0 ⟨Nat.zero_le _, rfl⟩ ?_ ?_
  · refine Next.weak [] [] (by rfl) (keeps0 hC _) (by repeat (first | exact trivial | refine ⟨⟨_, rfl, .inl ⟨rfl, rfl⟩⟩, ?_⟩)) (by repeat (first | exact trivial | refine ⟨ent_same rfl rfl rfl tL, ?_⟩ | refine ⟨ent_same rfl rfl (rfEq rfl tU) tL, ?_⟩ | refine ⟨ent_same rfl rfl (flEq rfl (by first | (simp; done) | (simp; omega) | (simp [encA, encH, encL, encU, encK, encV, encY]; done) | simp [maxC, minC])) trivial, ?_⟩)) (fun _ h => by simp at h) rel_intro
  · intro i ⟨hi, hS⟩ K hK
    refine nK ?_
    refine s_reg rfl ?_
    refine Run.pure (dd := some 5) rfl rfl (op_move rfl (Opd.tmp _ _ rfl)) ?_
    refine Run.pure (dd := some 6) rfl rfl (op_move rfl (Opd.tmp _ _ rfl)) ?_
    refine Run.pure (dd := some 7) rfl rfl (op_len_fz rfl (by first | exact Opd.tmp _ _ rfl | exact Opd.nil _ _ (Opd.tmp _ _ rfl)) (by first | exact List.length_map _ | rfl)) ?_
    refine Run.pure (dd := some 8) rfl rfl (op_lss rfl (Opd.tmp _ _ rfl) (Opd.tmp _ _ rfl)) ?_
    refine Run.nil (FinR.mk ?_)
    refine nK ?_
    refine n_cond _ rfl (fun hb => ?_) (fun hb => ?_)
    · have hlt : i < db.length := by simp at hb; omega
      have hr1 := row_at' encA db i hlt
      have hoi := ho db[i] (List.getElem_mem hlt)
      rw [rows_step hlt] at hS
      have hK1 := fun h => hK (i + 1) ⟨by omega, h⟩ (by omega)
      refine nK ?_
      refine s_reg rfl ?_
      refine Run.pure (dd := some 11) rfl rfl (op_move rfl (Opd.tmp _ _ rfl)) ?_
      refine Run.pure (dd := some 12) rfl rfl (op_move rfl (Opd.tmp _ _ rfl)) ?_
      refine Run.pure (dd := some 13) rfl rfl (op_idx_fz _ rfl (Opd.tmp _ _ rfl) (Opd.tmp _ _ rfl) tF) ?_
      refine Run.pure (dd := some 14) rfl rfl (op_loadw_fz rfl (Opd.tmp _ _ rfl) rfl) ?_
      refine Run.pure (dd := some 15) rfl rfl (op_call_pure (fun _ => chkA_c _ (by assumption)) rfl (Opd.func _) (Opds.cons _ _ _ _ (Opd.tmp _ _ rfl) Opds.nil)) ?_
      refine Run.pure (dd := some 4) rfl rfl (op_assign rfl (Opd.tmp _ _ rfl)) ?_
      refine Run.nil (FinR.mk ?_)
      refine nK ?_
      refine s_reg rfl ?_
      refine Run.pure (dd := some 16) rfl rfl (op_move rfl (Opd.tmp _ _ rfl)) ?_
      refine Run.pure (dd := some 17) rfl rfl (op_neq rfl (Opd.tmp _ _ rfl) (Opd.const _)) ?_
      refine Run.nil (FinR.mk ?_)
      refine nK ?_
      refine n_cond _ rfl (fun hb => ?_) (fun hb => ?_)
      · have hc : chkA db[i] ≠ 0 := by simpa using hb
        rw [if_pos hc] at hS
        rw [← hS]
        refine nK ?_
        refine s_reg rfl ?_
        refine Run.pure (dd := some 18) rfl rfl (op_move rfl (Opd.tmp _ _ rfl)) ?_
        refine Run.pure (dd := some 2) rfl rfl (op_assign rfl (Opd.tmp _ _ rfl)) ?_
        refine Run.nil (FinR.mk ?_)
        refine nK ?_
        (first | exact s_o1 hC rfl tV | exact s_o2 hC rfl tV tV | exact s_o3 hC rfl tV tV tV | exact s_o4 hC rfl tV tV tV tV | exact s_out0 hC rfl | exact s_outO hC rfl rfl rfl)
      · have hc : chkA db[i] = 0 := by simpa using hb
        rw [if_neg (by simp [hc])] at hS
        obtain ⟨hl1, hl2⟩ := chkA_len hc
        refine nK ?_
        refine s_reg rfl ?_
        refine Run.pure (dd := some 19) rfl rfl (op_move rfl (Opd.tmp _ _ rfl)) ?_
        refine Run.pure (dd := some 20) rfl rfl (op_move rfl (Opd.tmp _ _ rfl)) ?_
        refine Run.pure (dd := some 21) rfl rfl (op_idx_fz _ rfl (Opd.tmp _ _ rfl) (Opd.tmp _ _ rfl) tF) ?_
        refine Run.pure (dd := some 22) rfl rfl (op_loadw_fz rfl (Opd.tmp _ _ rfl) rfl) ?_
        refine Run.pure (dd := some 23) rfl rfl (op_call_pure (fun _ => sealed_c _ (by assumption) (by assumption) (by assumption)) rfl (Opd.func _) (Opds.cons _ _ _ _ (Opd.tmp _ _ rfl) Opds.nil)) ?_
        refine Run.pure (dd := some 24) rfl rfl (op_not rfl (Opd.tmp _ _ rfl)) ?_
        refine Run.nil (FinR.mk ?_)
        refine nK ?_
        refine n_cond _ rfl (fun hb => ?_) (fun hb => ?_)
        · rw [if_pos (by simpa using hb)] at hS
          rw [← hS]
          refine nK ?_
          refine s_reg rfl ?_
          refine Run.pure (dd := some 2) rfl rfl (op_assign rfl (Opd.const _)) ?_
          refine Run.nil (FinR.mk ?_)
          refine nK ?_
          (first | exact s_o1 hC rfl tV | exact s_o2 hC rfl tV tV | exact s_o3 hC rfl tV tV tV | exact s_o4 hC rfl tV tV tV tV | exact s_out0 hC rfl | exact s_outO hC rfl rfl rfl)
        · rw [if_neg (by simpa using hb)] at hS
          have hp : ∃ q, (0 < i → prevG db i = some q ∧ (db.map encA)[i - 1]? = some (encA q)) := by
            by_cases h0 : 0 < i
            · exact ⟨db[i - 1], fun _ => ⟨by simp [prevG]; omega, row_at' encA db (i - 1) (by omega)⟩⟩
            · exact ⟨zeroA, fun h => absurd h h0⟩
          obtain ⟨q, hq⟩ := hp
          refine nK ?_
          refine s_draw mixed ?_
          refine Run.pure (dd := some 25) rfl rfl (op_move rfl (Opd.tmp _ _ rfl)) ?_
          refine Run.pure (dd := some 26) rfl rfl (op_gtr rfl (Opd.tmp _ _ rfl) (Opd.const _)) ?_
          refine Run.pure (dd := some 27) rfl rfl (op_move rfl (Opd.tmp _ _ rfl)) ?_
          refine Run.pureG (dd := some 28) rfl rfl rfl tG (op_move rfl (Opd.tmp _ _ rfl)) ?_
          refine Run.pureG (dd := some 29) rfl rfl rfl tG (op_move rfl (Opd.tmp _ _ rfl)) ?_
          refine Run.pureG (dd := some 30) rfl rfl rfl tG (op_sub rfl (Opd.topt _ _ _ rfl tO) (Opd.const _) tI) ?_
          refine Run.pureG (dd := some 31) rfl rfl rfl tG (op_idx_fz (i - 1) rfl (Opd.topt _ _ _ rfl tO) (Opd.topt _ _ _ rfl tO) (by intro hg; have h0 : 0 < i := (by simp at hg; omega); exact ⟨by omega, (hq h0).2⟩)) ?_
          refine Run.pureG (dd := some 32) rfl rfl rfl tG (op_fld_fz (by decide) rfl (Opd.topt _ _ _ rfl tO) tR) ?_
          refine Run.pureG (dd := some 33) rfl rfl rfl tG (op_loadn_fz rfl (Opd.topt _ _ _ rfl tO) tR) ?_
          refine Run.pureG (dd := some 34) rfl rfl rfl tG (op_call_pure (fun _ => key_c _) rfl (Opd.func _) (Opds.cons _ _ _ _ (Opd.topt _ _ _ rfl tO) Opds.nil)) ?_
          refine Run.pureG (dd := some 35) rfl rfl rfl tG (op_move rfl (Opd.tmp _ _ rfl)) ?_
          refine Run.pureG (dd := some 36) rfl rfl rfl tG (op_move rfl (Opd.tmp _ _ rfl)) ?_
          refine Run.pureG (dd := some 37) rfl rfl rfl tG (op_idx_fz _ rfl (Opd.topt _ _ _ rfl tO) (Opd.topt _ _ _ rfl tO) tF) ?_
          refine Run.pureG (dd := some 38) rfl rfl rfl tG (op_fld_fz (by decide) rfl (Opd.topt _ _ _ rfl tO) tR) ?_
          refine Run.pureG (dd := some 39) rfl rfl rfl tG (op_loadn_fz rfl (Opd.topt _ _ _ rfl tO) tR) ?_
          refine Run.pureG (dd := some 40) rfl rfl rfl tG (op_call_pure (fun _ => key_c _) rfl (Opd.func _) (Opds.cons _ _ _ _ (Opd.topt _ _ _ rfl tO) Opds.nil)) ?_
          refine Run.pureG (dd := some 41) rfl rfl rfl tG (op_call_pure (fun _ => ckeys_c _ _) rfl (Opd.func _) (Opds.cons _ _ _ _ (Opd.topt _ _ _ rfl tO) (Opds.cons _ _ _ _ (Opd.topt _ _ _ rfl tO) Opds.nil))) ?_
          refine Run.pureG (dd := some 42) rfl rfl rfl tG (op_geq rfl (Opd.topt _ _ _ rfl tO) (Opd.const _)) ?_
          refine Run.pure (dd := some 43) rfl rfl (op_pick_and rfl (Opd.tmp _ _ rfl) (Opd.topt _ _ _ rfl tO)) ?_
          refine Run.nil (FinD.mk (by kernel_rfl) ?_)
          refine nK ?_
          refine n_cond _ rfl (fun hb => ?_) (fun hb => ?_)
          · have h0 : 0 < i := by simp at hb; omega
            rw [(hq h0).1, if_pos (by simp at hb; simpa [badR] using hb.2)] at hS
            rw [← hS]
            refine nK ?_
            refine s_reg rfl ?_
            refine Run.pure (dd := some 2) rfl rfl (op_assign rfl (Opd.const _)) ?_
            refine Run.nil (FinR.mk ?_)
            refine nK ?_
            (first | exact s_o1 hC rfl tV | exact s_o2 hC rfl tV tV | exact s_o3 hC rfl tV tV tV | exact s_o4 hC rfl tV tV tV tV | exact s_out0 hC rfl | exact s_outO hC rfl rfl rfl)
          · have hc : ¬ badR (prevG db i) db[i] = true := by
              by_cases h0 : 0 < i
              · rw [(hq h0).1]; simp [h0, badR] at hb ⊢; exact hb
              · have : i = 0 := by omega
                subst this; simp [prevG, badR]
            rw [if_neg hc] at hS
            refine nK ?_
            refine s_reg rfl ?_
            refine Run.pure (dd := some 9) rfl rfl (op_move rfl (Opd.tmp _ _ rfl)) ?_
            refine Run.pure (dd := some 10) rfl rfl (op_add rfl (Opd.tmp _ _ rfl) (Opd.const _) tI) ?_
            refine Run.pure (dd := some 3) rfl rfl (op_assign rfl (Opd.tmp _ _ rfl)) ?_
            refine Run.nil (FinR.mk ?_)
            refine nK ?_
            refine Next.weak [] [] (by rfl) (keeps0 hC _) (by repeat (first | exact trivial | refine ⟨⟨_, rfl, .inl ⟨rfl, rfl⟩⟩, ?_⟩)) (by repeat (first | exact trivial | refine ⟨ent_same rfl rfl rfl tL, ?_⟩ | refine ⟨ent_same rfl rfl (rfEq rfl tU) tL, ?_⟩ | refine ⟨ent_same rfl rfl (flEq rfl (by first | (simp; done) | (simp; omega) | (simp [encA, encH, encL, encU, encK, encV, encY]; done) | simp [maxC, minC])) trivial, ?_⟩)) (fun _ h => by simp at h) (hK1 hS)
    · have hie : i = db.length := by simp at hb; omega
      rw [hie, List.drop_length] at hS
      rw [← hS]
      simp only [rowsGo]
      refine nK ?_
      refine s_reg rfl ?_
      refine Run.pure (dd := some 2) rfl rfl (op_assign rfl (Opd.const _)) ?_
      refine Run.nil (FinR.mk ?_)
      refine nK ?_
      (first | exact s_o1 hC rfl tV | exact s_o2 hC rfl tV tV | exact s_o3 hC rfl tV tV tV | exact s_o4 hC rfl tV tV tV tV | exact s_out0 hC rfl | exact s_outO hC rfl rfl rfl)
theorem db_c (db : List Lsa) (ho : ∀ x ∈ db, okA x) : Pure Try.prog 8 [VA db] (If .i64 (dbI db)) := by
  unfold dbI
  refine Meets.intro Try.func8 rfl (Nat.le_of_ble_eq_true rfl) fun C hC => ?_
  simp only [List.map, argEnv, Nat.reduceAdd]
  refine nK ?_
  refine s_reg rfl ?_
  refine Run.pure (dd := some 2) rfl rfl (op_assign rfl (Opd.const _)) ?_
  refine Run.nil (FinR.mk ?_)
  refine nK ?_
  refine s_reg rfl ?_
  refine Run.pure (dd := some 3) rfl rfl (op_move rfl (Opd.tmp _ _ rfl)) ?_
  refine Run.pure (dd := some 4) rfl rfl (op_len_fz rfl (by first | exact Opd.tmp _ _ rfl | exact Opd.nil _ _ (Opd.tmp _ _ rfl)) (by first | exact List.length_map _ | rfl)) ?_
  refine Run.pure (dd := some 5) rfl rfl (op_gtr rfl (Opd.tmp _ _ rfl) (Opd.const _)) ?_
  refine Run.nil (FinR.mk ?_)
  refine nK ?_
  refine n_cond _ rfl (fun hb => ?_) (fun hb => ?_)
  · rw [if_pos (by simp at hb; omega)]
    refine nK ?_
    refine s_reg rfl ?_
    refine Run.pure (dd := some 2) rfl rfl (op_assign rfl (Opd.const _)) ?_
    refine Run.nil (FinR.mk ?_)
    refine nK ?_
    (first | exact s_o1 hC rfl tV | exact s_o2 hC rfl tV tV | exact s_o3 hC rfl tV tV tV | exact s_o4 hC rfl tV tV tV tV | exact s_out0 hC rfl | exact s_outO hC rfl rfl rfl)
  · have hn : db.length ≤ 2000 := by simp at hb; omega
    rw [if_neg (by omega)]
    refine nK ?_
    refine s_reg rfl ?_
    refine Run.pure (dd := some 6) rfl rfl (op_move rfl (Opd.tmp _ _ rfl)) ?_
    refine Run.pure (dd := some 7) rfl rfl (op_call_pure (fun _ => rows_c _ (by assumption) (by omega)) rfl (Opd.func _) (Opds.cons _ _ _ _ (Opd.tmp _ _ rfl) Opds.nil)) ?_
    refine Run.pure (dd := some 2) rfl rfl (op_assign rfl (Opd.tmp _ _ rfl)) ?_
    refine Run.nil (FinR.mk ?_)
    refine nK ?_
    (first | exact s_o1 hC rfl tV | exact s_o2 hC rfl tV tV | exact s_o3 hC rfl tV tV tV | exact s_o4 hC rfl tV tV tV tV | exact s_out0 hC rfl | exact s_outO hC rfl rfl rfl)
end Go.Proofs.Ytdhkioocjgpocaa
/- Graphs of areas: what the small functions compute. No program in sight. -/
namespace Go.Pl
open Go Go.RT
set_option linter.all false
theorem eqFs_encL (a b : Lnk) : eqFs (encL a) (encL b) = decide (a = b) := by
  cases a; cases b
  simp [encL, eqFs, Bool.decide_and, and_assoc]
theorem eqFs_encV (a b : NetV) : eqFs (encV a) (encV b) = decide (a = b) := by
  cases a; cases b
  simp [encV, eqFs, Bool.decide_and, and_assoc]
theorem eqFs_encK (a b : KeyA) : eqFs (encK a) (encK b) = decide (a = b) := by
  cases a; cases b
  simp [encK, eqFs, Bool.decide_and, and_assoc]
def cntB (k : Int) (l : Lsa) : Bool := decide (l.h.ty = k) && decide (l.h.ag < 3600)
def ownGo (r : Int) : List Lsa → Option Lsa
  | [] => none
  | l :: t => if (cntB 1 l && decide (l.h.rt = r)) = true then some l else ownGo r t
theorem own_step {r : Int} {db : List Lsa} {i : Nat} (h : i < db.length) : ownGo r (db.drop i) = if (cntB 1 db[i] && decide (db[i].h.rt = r)) = true then some db[i] else ownGo r (db.drop (i + 1)) := by
  rw [List.drop_eq_getElem_cons h]; rfl
def cheapGo (k id : Int) : List Lnk → Int × Bool → Int × Bool
  | [], p => p
  | x :: t, p => cheapGo k id t (if ((decide (x.k = k) && decide (x.id = id)) && (!p.2 || decide (x.c < p.1))) = true then (x.c, true) else p)
def cheapF (k id : Int) (l : Lsa) : Int × Bool := cheapGo k id l.ls (0, false)
theorem cheap_step {k id : Int} {l : List Lnk} {i : Nat} {p : Int × Bool} (h : i < l.length) : cheapGo k id (l.drop i) p = cheapGo k id (l.drop (i + 1)) (if ((decide (l[i].k = k) && decide (l[i].id = id)) && (!p.2 || decide (l[i].c < p.1))) = true then (l[i].c, true) else p) := by
  rw [List.drop_eq_getElem_cons h]; rfl
/-- the place of the first element with a property, or -1 -/
def idxGo {α : Type} (p : α → Bool) : Nat → List α → Int
  | _, [] => -1
  | i, x :: l => if p x = true then (i : Int) else idxGo p (i + 1) l
theorem idx_step {α : Type} {p : α → Bool} {l : List α} {i : Nat} (h : i < l.length) : idxGo p i (l.drop i) = if p l[i] = true then (i : Int) else idxGo p (i + 1) (l.drop (i + 1)) := by
  rw [List.drop_eq_getElem_cons h]; rfl
theorem idx_ge {α : Type} (p : α → Bool) : ∀ (l : List α) (i : Nat), idxGo p i l = -1 ∧ (∀ x ∈ l, p x = false) ∨ ∃ j, ∃ h : j < l.length, idxGo p i l = ((i + j : Nat) : Int) ∧ p l[j] = true ∧ ∀ m, ∀ hm : m < j, p (l[m]'(by omega)) = false
  | [], i => .inl ⟨rfl, by simp⟩
  | x :: l, i => by
    by_cases hx : p x = true
    · exact .inr ⟨0, by simp, by simp [idxGo, hx], by simpa using hx, fun m hm => absurd hm (by omega)⟩
    · have hx' : p x = false := by simpa using hx
      simp only [idxGo, if_neg hx]
      rcases idx_ge p l (i + 1) with ⟨h1, h2⟩ | ⟨j, h, h1, h2, h3⟩
      · exact .inl ⟨h1, fun y hy => by exact (List.mem_cons.1 hy).elim (fun e => e ▸ hx') (h2 y)⟩
      · refine .inr ⟨j + 1, by simpa using h, by rw [h1]; congr 1; omega, by simpa using h2, fun m hm => ?_⟩
        cases m with
        | zero => exact hx'
        | succ m => simpa using h3 m (by omega)
theorem idx_contains {α : Type} [DecidableEq α] (l : List α) (x : α) : decide (0 ≤ idxGo (fun y => decide (x = y)) 0 l) = l.contains x := by
  rcases idx_ge (fun y => decide (x = y)) l 0 with ⟨h1, h2⟩ | ⟨j, h, h1, h2, h3⟩
  · rw [h1]
    have : x ∉ l := fun hx => by have := h2 x hx; simp at this
    simp [this]
  · rw [h1]
    have : x ∈ l := by have h4 : x = l[j] := by simpa using h2
                       rw [h4]; exact List.getElem_mem h
    simp [this]
def stubsL (l : List Lnk) : List Lnk := l.filter fun x => decide (x.k = 3)
theorem stubs_take {l : List Lnk} {i : Nat} (h : i < l.length) : stubsL (l.take (i + 1)) = stubsL (l.take i) ++ if decide (l[i].k = 3) = true then [l[i]] else [] := by
  rw [List.take_succ_eq_append_getElem h]
  simp only [stubsL, List.filter_append]
  by_cases c : l[i].k = 3 <;> simp [c]
theorem stubs_len (l : List Lnk) : (stubsL l).length ≤ l.length := List.length_filter_le _ _
end Go.Pl
/- The engine, part 37: results that hand out owned objects out of cells; look-ups in frozen maps. -/
namespace Go.RT
open Go
open Go.ChangeMaps (setBlock)
set_option linter.all false
variable {P : Program} {G : Env} {H : Hp} {nx : Nat} {C : Cx} {N : Nat} {t t' : TypeId} {x y : Operand} {o : Oper} {g : Bool}
/-- a result variable, as it stands -/
inductive RVP (P : Program) (G : Env) (H : Hp) : ResultVar → PV → Prop where
  | tmp (r : Tmp) (p : PV) : look G r = some p → RVP P G H (.tmp r) p
  | cell (r : Tmp) (t : TypeId) (id sz by_ : Nat) (z : Value) (ps : List PV) : TyA P t true → TyN P t sz by_ z → look G r = some (.ptr id sz 0 0) → hlook H id = some (.refs sz [ps]) → RVP P G H (.cell r t) (.agg ps)
theorem RVP.run {rv : ResultVar} {f : PV} {S : Nat → Prop} {m : Ids} {a : Act} {w : World} (h : RVP P G H rv f) (hm : Mem C H nx S m w) (hsl : ∀ t q, look G t = some q → RepAt w S m a t q) :
    ∃ v, Rep w S m v f ∧ ((∃ r, rv = .tmp r ∧ a.tmps[r]?.getD undef = v) ∨ ∃ r t ad, rv = .cell r t ∧ a.tmps[r]?.getD undef = .pointer (some ad) ∧ (loadVar t ad).run P w = .ok v w) := by
  cases h with
  | tmp r f hl =>
    obtain ⟨v, hv, hr⟩ := hsl r _ hl
    exact ⟨v, hr, .inl ⟨r, rfl, by simp [hv]⟩⟩
  | cell r t id sz by_ z ps h1 h2 hl hh =>
    obtain ⟨v, hv, hr⟩ := hsl r _ hl
    cases hr with
    | ptr _ _ _ _ b hb =>
      rcases hm.objs id _ hh with ⟨k1, _⟩ | ⟨b', c, e, k1, hc, k3, k4, k5⟩
      · rw [hb] at k1; cases k1
      · rw [hb] at k1; cases k1
        obtain ⟨us, hul, hcc, hrr⟩ := cells_list (w := w) (b := b) (off := 0) (R := Rep w S m) (fs := ps) fun j f hf => by
          obtain ⟨u, hu, ho1, hp⟩ := k5 0 j ps f rfl hf
          exact ⟨u, own_cell hc (by simpa using hu), ho1, hp⟩
        have hfl : ps.length = sz := k4 ps (by simp)
        have := run_loadn (P := P) (t := t) (w := w) (ad := ⟨b, 0, none⟩) (by rw [hul, hfl]) (fun j u hu => (hcc j u hu).1)
        exact ⟨.agg us.toArray, .agg _ _ (by simpa using hul) (fun j u f hu hf => hrr j u f (by simpa using hu) hf) (fun j u hu => (hcc j u (by simpa using hu)).2), .inr ⟨r, t, _, rfl, by simp [hv], this⟩⟩
theorem tVP {α : Prop} (h : α := by first | exact RVP.tmp _ _ rfl | exact RVP.cell _ _ _ _ _ _ _ inferInstance inferInstance rfl rfl) : α := h
/-- one result, with the objects L handed out and those of F frozen -/
theorem n_outW1 {fn : Func} {rv : ResultVar} {p q : PV} {Hout : Hp} {n' : Nat} (L F : List Nat) (hres : fn.results = #[rv]) (h1 : RVP P G H rv p) (hnd : nodupB ((keysH Hout).map (renI L)) = true) (hk : keeps C L) (hH : EntH L F H Hout) (hFH : ∀ id, F.contains id = true → ∃ o, hlook H id = some o)
    (e1 : EntV L F H p q) (hn : L.length = n') : Next C N G H nx (Out P fn C q Hout n' .ret) := by
  subst hn
  intro a w hr
  obtain ⟨S, m, hm, hsl⟩ := hr.mem
  obtain ⟨v, h2, h3⟩ := h1.run hm hsl
  obtain ⟨k1, k2⟩ := hm.weak hnd hk hH hFH
  refine ⟨hr.defers, v, ?_, v, _, _, rfl, k1, k2 v _ _ h2 e1⟩
  rcases h3 with ⟨r, rfl, e1⟩ | ⟨r, t, ad, rfl, e1, e2⟩ <;> simp [results, hres, asAddr, *]
theorem n_outW2 {fn : Func} {rv1 rv2 : ResultVar} {p1 p2 q1 q2 : PV} {Hout : Hp} {n' : Nat} (L F : List Nat) (hres : fn.results = #[rv1, rv2]) (h1 : RVP P G H rv1 p1) (h2 : RVP P G H rv2 p2) (hnd : nodupB ((keysH Hout).map (renI L)) = true) (hk : keeps C L) (hH : EntH L F H Hout) (hFH : ∀ id, F.contains id = true → ∃ o, hlook H id = some o)
    (e1 : EntV L F H p1 q1) (e2 : EntV L F H p2 q2) (hn : L.length = n') : Next C N G H nx (Out P fn C (.tup [q1, q2]) Hout n' .ret) := by
  subst hn
  intro a w hr
  obtain ⟨S, m, hm, hsl⟩ := hr.mem
  obtain ⟨v1, h3, h4⟩ := h1.run hm hsl
  obtain ⟨v2, h5, h6⟩ := h2.run hm hsl
  obtain ⟨k1, k2⟩ := hm.weak hnd hk hH hFH
  refine ⟨hr.defers, .tuple #[v1, v2], ?_, _, _, _, rfl, k1, rep_ptup2 (k2 v1 _ _ h3 e1) (k2 v2 _ _ h5 e2)⟩
  rcases h4 with ⟨r, rfl, e3⟩ | ⟨r, t, ad, rfl, e3, e4⟩ <;> rcases h6 with ⟨r', rfl, e5⟩ | ⟨r', t', ad', rfl, e5, e6⟩ <;> simp [results, hres, asAddr, *]
section maps
variable {κ ν : Type} [DecidableEq κ] {ek : κ → FV} {ev : ν → FV} {okK : κ → Prop} {kt et : TypeId}
abbrev FMap {κ ν : Type} (ek : κ → FV) (ev : ν → FV) (l : List (κ × ν)) : FV := .mapv (l.map fun p => ek p.1) (l.map fun p => ev p.2)
/-- 'm[k]' of a frozen map, which may be nil -/
theorem op_lookupF {sz by_ : Nat} {z : Value} {l : List (κ × ν)} {k : κ} (d0 : ν) [K : KEnc P kt κ ek okK] [hd : TyD P t (.map kt et)] [hn : TyN P et sz by_ z] (ho : o.op = .lookup t x y false) (hx : Opd G g x (.fz (FMap ek ev l))) (hy : Opd G g y (.fz (ek k)))
    (hh : g = true → (l.map (·.1)).Nodup ∧ (∀ p ∈ l, okK p.1) ∧ okK k) (hz : ∀ w S, FRep w S z (ev d0)) : OpP P o g G (.fz (ev ((mget l k).getD d0))) :=
  .of fun S m a w hg ha => by
    have h1 := (hx.rep hg (by simp [ho, Op.operands]) ha).frz
    have h2 := (hy.rep hg (by simp [ho, Op.operands]) ha).frz.val (K.ml k)
    obtain ⟨hnd, hok, hkk⟩ := hh hg
    obtain ⟨lx, hlx⟩ := K.some k hkk
    generalize hv : a.eval x = v at h1
    generalize hfm : FMap ek ev l = fm at h1
    cases h1 with
    | mapn =>
      have hl : l = [] := by
        simp only [FMap, FV.mapv.injEq] at hfm
        exact List.map_eq_nil_iff.1 hfm.1
      subst hl
      have hck := K.keyed.check w (#[] : Array MapEntry).isEmpty hlx
      rcases map_find (P := P) (kt := kt) (ek := ek) (w := w) (S := S) (l := ([] : List (κ × ν))) (arr := #[]) (by simp) (fun i e f q1 q2 => by simp at q1) hok hkk w with ⟨q1, q2⟩ | ⟨j, e, p, q1, q2, q3, q4, q5⟩
      · refine ⟨z, ?_, .fz _ _ (hz _ _)⟩
        simp only [execOp, ho, hv, h2, Instr.lookup, Sem.run_bind, run_underlying hd.h, hck, q1, run_zero hn, Result.andThen_ok, Sem.run_pure, Bool.false_eq_true, if_false]
      · simp at q2
    | mapv b ks vs arr cl hS k2 k3 k4 k5 k6 =>
      simp only [FMap, FV.mapv.injEq] at hfm
      obtain ⟨rfl, rfl⟩ := hfm
      have hck := K.keyed.check w arr.isEmpty hlx
      rcases map_find (P := P) (kt := kt) k3 k5 hok hkk w with ⟨q1, q2⟩ | ⟨j, e, p, q1, q2, q3, q4, q5⟩
      · refine ⟨z, ?_, .fz _ _ (by rw [mget_none q2]; exact hz _ _)⟩
        simp only [execOp, ho, hv, h2, Instr.lookup, Sem.run_bind, run_underlying hd.h, MapKept.run_getObj_map k2, hck, q1, run_zero hn, Result.andThen_ok, Sem.run_pure, Bool.false_eq_true, if_false]
      · refine ⟨e.val, ?_, .fz _ _ (by rw [← q4, mget_at hnd q3]; exact k6 j e _ q2 (by rw [List.getElem?_map, q3]; rfl))⟩
        simp only [execOp, ho, hv, h2, Instr.lookup, Sem.run_bind, run_underlying hd.h, MapKept.run_getObj_map k2, hck, q1, Result.andThen_ok, Sem.run_pure, Bool.false_eq_true, if_false]
    | _ => cases hfm
end maps
end Go.RT
namespace Go.Proofs.Ytdhkioocjgpocaa
open Go Go.RT Go.Proofs Go.Pl
set_option linter.all false
set_option maxRecDepth 20000
abbrev OR (a : AGr) : Option Ob := some (.flat 5 [encR a])
abbrev lenOk (n : Nat) : Prop := n ≤ 9223372036854775807
theorem counts_c (l : Lsa) (k : Int) : Pure Try.prog 30 [.agg (encA l), If .i64 k] (Bf (cntB k l)) := by
  unfold cntB
  refine Meets.intro Try.func30 rfl (Nat.le_of_ble_eq_true rfl) fun C hC => ?_
  simp only [List.map, argEnv, Nat.reduceAdd]
  refine nK ?_
  refine s_reg rfl ?_
  refine Run.eff (dd := some 2) rfl rfl (op_box_flat rfl (Opd.tmp _ _ rfl) tC rfl) ?_
  refine Run.pure (dd := some 4) rfl rfl (op_assign rfl (Opd.const _)) ?_
  refine Run.nil (FinR.mk ?_)
  refine nK ?_
  refine s_reg rfl ?_
  refine Run.pure (dd := some 5) rfl rfl (op_fld_ptr (by decide) rfl (Opd.tmp _ _ rfl)) ?_
  refine Run.pure (dd := some 6) rfl rfl (op_fld_ptr (by decide) rfl (Opd.tmp _ _ rfl)) ?_
  refine Run.load (dd := some 7) rfl rfl (op_load1_flat rfl (Opd.tmp _ _ rfl) tH rfl) ?_
  refine Run.pure (dd := some 8) rfl rfl (op_move rfl (Opd.tmp _ _ rfl)) ?_
  refine Run.pure (dd := some 9) rfl rfl (op_eql rfl (Opd.tmp _ _ rfl) (Opd.tmp _ _ rfl)) ?_
  refine Run.pure (dd := some 10) rfl rfl (op_move rfl (Opd.tmp _ _ rfl)) ?_
  refine Run.pureG (dd := some 11) rfl rfl rfl tG (op_fld_ptr (by decide) rfl (Opd.tmp _ _ rfl)) ?_
  refine Run.pureG (dd := some 12) rfl rfl rfl tG (op_fld_ptr (by decide) rfl (Opd.topt _ _ _ rfl tO)) ?_
  refine Run.loadG (dd := some 13) rfl rfl rfl tG (op_load1_flat rfl (Opd.topt _ _ _ rfl tO) tH rfl) ?_
  refine Run.pureG (dd := some 14) rfl rfl rfl tG (op_lss rfl (Opd.topt _ _ _ rfl tO) (Opd.const _)) ?_
  refine Run.pure (dd := some 15) rfl rfl (op_pick_and rfl (Opd.tmp _ _ rfl) (Opd.topt _ _ _ rfl tO)) ?_
  refine Run.pure (dd := some 4) rfl rfl (op_assign rfl (Opd.tmp _ _ rfl)) ?_
  refine Run.nil (FinR.mk ?_)
  refine nK ?_
  (first | exact s_o1 hC rfl tV | exact s_o2 hC rfl tV tV | exact s_o3 hC rfl tV tV tV | exact s_o4 hC rfl tV tV tV tV | exact s_out0 hC rfl | exact s_outO hC rfl rfl rfl)
theorem own_c (db : List Lsa) (r : Int) (hn : lenOk db.length) : Pure Try.prog 49 [VA db, If .u32 r] (.tup [.agg (encA ((ownGo r db).getD zeroA)), Bf (ownGo r db).isSome]) := by
  refine Meets.intro Try.func49 rfl (Nat.le_of_ble_eq_true rfl) fun C hC => ?_
  simp only [List.map, argEnv, Nat.reduceAdd]
  refine nK ?_
  refine s_reg rfl ?_
  refine Run.eff (dd := some 4) rfl rfl (op_alloc rfl rfl rfl rfl) ?_
  refine Run.pure (dd := some 5) rfl rfl (op_assign rfl (Opd.const _)) ?_
  refine Run.nil (FinR.mk ?_)
  refine nK ?_
  refine s_reg rfl ?_
  refine Run.pure (dd := some 6) rfl rfl (op_assign rfl (Opd.const _)) ?_
  refine Run.nil (FinR.mk ?_)
  refine nK ?_
  refine n_loop (ι := Nat) (fun i => ([(0, .fz (VA db)), (1, IV .u32 r), (4, .ptr 0 15 0 0), (6, IV .i64 i)], [(0, OA zeroA)], 1)) (fun i => i ≤ db.length ∧ ownGo r (db.drop i) = ownGo r db) (fun i => db.length - i) 0 ⟨Nat.zero_le _, rfl⟩ ?_ ?_
  · refine Next.weakS [4] [] (by rfl) (keeps0 hC _) (by repeat (first | exact trivial | refine ⟨⟨_, rfl, .inl ⟨rfl, rfl⟩⟩, ?_⟩ | refine ⟨⟨_, rfl, .inl ⟨slEq rfl tN, rfl⟩⟩, ?_⟩ | refine ⟨⟨_, rfl, .inl ⟨ivEq tX, rfl⟩⟩, ?_⟩)) (by exact ⟨⟨rfl, rfl, .fflat _ _ _ rfl tW⟩, trivial⟩) rfl (rel_intro)
  · intro i ⟨hi, hS⟩ K hK
    refine nK ?_
    refine s_reg rfl ?_
    refine Run.pure (dd := some 7) rfl rfl (op_move rfl (Opd.tmp _ _ rfl)) ?_
    refine Run.pure (dd := some 8) rfl rfl (op_move rfl (Opd.tmp _ _ rfl)) ?_
    refine Run.pure (dd := some 9) rfl rfl (op_len_fz rfl (by first | exact Opd.tmp _ _ rfl | exact Opd.nil _ _ (Opd.tmp _ _ rfl)) (by first | exact List.length_map _ | rfl)) ?_
    refine Run.pure (dd := some 10) rfl rfl (op_lss rfl (Opd.tmp _ _ rfl) (Opd.tmp _ _ rfl)) ?_
    refine Run.nil (FinR.mk ?_)
    refine nK ?_
    refine n_cond _ rfl (fun hb => ?_) (fun hb => ?_)
    · have hlt : i < db.length := by simp at hb; omega
      have hr1 := row_at' encA db i hlt
      rw [own_step hlt] at hS
      have hK1 := fun h => hK (i + 1) ⟨by omega, h⟩ (by omega)
      refine nK ?_
      refine s_reg rfl ?_
      refine Run.pure (dd := some 13) rfl rfl (op_move rfl (Opd.tmp _ _ rfl)) ?_
      refine Run.pure (dd := some 14) rfl rfl (op_move rfl (Opd.tmp _ _ rfl)) ?_
      refine Run.pure (dd := some 15) rfl rfl (op_idx_fz _ rfl (Opd.tmp _ _ rfl) (Opd.tmp _ _ rfl) tF) ?_
      refine Run.pure (dd := some 16) rfl rfl (op_loadw_fz rfl (Opd.tmp _ _ rfl) rfl) ?_
      refine Run.pure (dd := some 17) rfl rfl (op_call_pure (fun _ => counts_c _ _) rfl (Opd.func _) (Opds.cons _ _ _ _ (Opd.tmp _ _ rfl) (Opds.cons _ _ _ _ (Opd.const _) Opds.nil))) ?_
      refine Run.pure (dd := some 18) rfl rfl (op_move rfl (Opd.tmp _ _ rfl)) ?_
      refine Run.pureG (dd := some 19) rfl rfl rfl tG (op_move rfl (Opd.tmp _ _ rfl)) ?_
      refine Run.pureG (dd := some 20) rfl rfl rfl tG (op_move rfl (Opd.tmp _ _ rfl)) ?_
      refine Run.pureG (dd := some 21) rfl rfl rfl tG (op_idx_fz _ rfl (Opd.topt _ _ _ rfl tO) (Opd.topt _ _ _ rfl tO) tF) ?_
      refine Run.pureG (dd := some 22) rfl rfl rfl tG (op_fld_fz (by decide) rfl (Opd.topt _ _ _ rfl tO) tR) ?_
      refine Run.pureG (dd := some 23) rfl rfl rfl tG (op_fld_fz (by decide) rfl (Opd.topt _ _ _ rfl tO) tR) ?_
      refine Run.pureG (dd := some 24) rfl rfl rfl tG (op_load1_fz rfl (Opd.topt _ _ _ rfl tO) rfl) ?_
      refine Run.pureG (dd := some 25) rfl rfl rfl tG (op_move rfl (Opd.tmp _ _ rfl)) ?_
      refine Run.pureG (dd := some 26) rfl rfl rfl tG (op_eql rfl (Opd.topt _ _ _ rfl tO) (Opd.topt _ _ _ rfl tO)) ?_
      refine Run.pure (dd := some 27) rfl rfl (op_pick_and rfl (Opd.tmp _ _ rfl) (Opd.topt _ _ _ rfl tO)) ?_
      refine Run.nil (FinR.mk ?_)
      refine nK ?_
      refine n_cond _ rfl (fun hb => ?_) (fun hb => ?_)
      · rw [if_pos hb] at hS
        rw [← hS]
        refine nK ?_
        refine s_reg rfl ?_
        refine Run.pure (dd := some 28) rfl rfl (op_move rfl (Opd.tmp _ _ rfl)) ?_
        refine Run.pure (dd := some 29) rfl rfl (op_move rfl (Opd.tmp _ _ rfl)) ?_
        refine Run.pure (dd := some 30) rfl rfl (op_idx_fz _ rfl (Opd.tmp _ _ rfl) (Opd.tmp _ _ rfl) tF) ?_
        refine Run.pure (dd := some 31) rfl rfl (op_loadw_fz rfl (Opd.tmp _ _ rfl) rfl) ?_
        refine Run.eff (dd := none) rfl rfl (op_store_flat rfl (Opd.tmp _ _ rfl) (Opd.tmp _ _ rfl) tC rfl rfl (by first | rfl | assumption) tS) ?_
        refine Run.pure (dd := some 5) rfl rfl (op_assign rfl (Opd.const _)) ?_
        refine Run.nil (FinR.mk ?_)
        refine nK ?_
        (first | exact s_o1 hC rfl tV | exact s_o2 hC rfl tV tV | exact s_o3 hC rfl tV tV tV | exact s_o4 hC rfl tV tV tV tV | exact s_out0 hC rfl | exact s_outO hC rfl rfl rfl)
      · rw [if_neg (by rw [hb]; decide)] at hS
        refine nK ?_
        refine s_reg rfl ?_
        refine Run.pure (dd := some 11) rfl rfl (op_move rfl (Opd.tmp _ _ rfl)) ?_
        refine Run.pure (dd := some 12) rfl rfl (op_add rfl (Opd.tmp _ _ rfl) (Opd.const _) tI) ?_
        refine Run.pure (dd := some 6) rfl rfl (op_assign rfl (Opd.tmp _ _ rfl)) ?_
        refine Run.nil (FinR.mk ?_)
        refine nK ?_
        refine Next.weakS [4] [] (by rfl) (by first | exact keeps0 hC _ | exact keepsN hC _ rfl) (by repeat (first | exact trivial | refine ⟨⟨_, rfl, .inl ⟨rfl, rfl⟩⟩, ?_⟩ | refine ⟨⟨_, rfl, .inl ⟨slEq rfl tN, rfl⟩⟩, ?_⟩ | refine ⟨⟨_, rfl, .inl ⟨ivEq tX, rfl⟩⟩, ?_⟩)) (by repeat (first | exact trivial | refine ⟨ent_same rfl rfl rfl tL, ?_⟩ | refine ⟨ent_same rfl rfl (rfEq rfl tU) tL, ?_⟩ | refine ⟨ent_same rfl rfl (flEq rfl (by first | (simp; done) | (simp; omega) | (simp [encA, encH, encL, encU, encK, encV, encR]; done) | simp [maxC, minC])) trivial, ?_⟩)) rfl ((hK1 hS))
    · have hie : i = db.length := by simp at hb; omega
      rw [hie, List.drop_length] at hS
      rw [← hS]
      refine nK ?_
      refine s_reg rfl ?_
      refine Run.pure (dd := some 32) rfl rfl (op_build rfl rfl rfl (FillF.nil _)) ?_
      refine Run.eff (dd := none) rfl rfl (op_store_flat rfl (Opd.tmp _ _ rfl) (Opd.tmp _ _ rfl) tC rfl rfl (by first | rfl | assumption) tS) ?_
      refine Run.pure (dd := some 5) rfl rfl (op_assign rfl (Opd.const _)) ?_
      refine Run.nil (FinR.mk ?_)
      refine nK ?_
      refine Next.weakS [4] [] (by rfl) (keeps0 hC _) (G' := [(4, .ptr 0 15 0 0), (5, BV false)]) (H' := [(0, OA zeroA)]) (by repeat (first | exact trivial | refine ⟨⟨_, rfl, .inl ⟨rfl, rfl⟩⟩, ?_⟩ | refine ⟨⟨_, rfl, .inl ⟨slEq rfl tN, rfl⟩⟩, ?_⟩ | refine ⟨⟨_, rfl, .inl ⟨ivEq tX, rfl⟩⟩, ?_⟩)) (by exact ⟨⟨rfl, rfl, .fflat _ _ _ rfl tW⟩, trivial⟩) rfl ?_
      (first | exact s_o1 hC rfl tV | exact s_o2 hC rfl tV tV | exact s_o3 hC rfl tV tV tV | exact s_o4 hC rfl tV tV tV tV | exact s_out0 hC rfl | exact s_outO hC rfl rfl rfl)
theorem cheap_c (l : Lsa) (k id : Int) (hn : lenOk l.ls.length) : Pure Try.prog 31 [.agg (encA l), If .i64 k, If .u32 id] (.tup [If .i64 (cheapF k id l).1, Bf (cheapF k id l).2]) := by
  unfold cheapF
  refine Meets.intro Try.func31 rfl (Nat.le_of_ble_eq_true rfl) fun C hC => ?_
  simp only [List.map, argEnv, Nat.reduceAdd]
  refine nK ?_
  refine s_reg rfl ?_
  refine Run.eff (dd := some 3) rfl rfl (op_box_flat rfl (Opd.tmp _ _ rfl) tC rfl) ?_
  refine Run.pure (dd := some 6) rfl rfl (op_assign rfl (Opd.const _)) ?_
  refine Run.pure (dd := some 7) rfl rfl (op_assign rfl (Opd.const _)) ?_
  refine Run.nil (FinR.mk ?_)
  refine nK ?_
  refine s_reg rfl ?_
  refine Run.pure (dd := some 8) rfl rfl (op_assign rfl (Opd.const _)) ?_
  refine Run.pure (dd := some 9) rfl rfl (op_assign rfl (Opd.const _)) ?_
  refine Run.nil (FinR.mk ?_)
  refine nK ?_
  refine s_reg rfl ?_
  refine Run.pure (dd := some 10) rfl rfl (op_assign rfl (Opd.const _)) ?_
  refine Run.nil (FinR.mk ?_)
  refine nK ?_
  refine n_loop (ι := Nat × (Int × Bool)) (fun p => ([(1, IV .i64 k), (2, IV .u32 id), (3, .ptr 0 15 0 0), (8, IV .i64 p.2.1), (9, BV p.2.2), (10, IV .i64 p.1)], [(0, OA l)], 1)) (fun p => p.1 ≤ l.ls.length ∧ cheapGo k id (l.ls.drop p.1) p.2 = cheapGo k id l.ls (0, false)) (fun p => l.ls.length - p.1) (0, (0, false)) ⟨Nat.zero_le _, rfl⟩ ?_ ?_
  · refine Next.weakS [3] [] (by rfl) (by first | exact keeps0 hC _ | exact keepsN hC _ rfl) (by repeat (first | exact trivial | refine ⟨⟨_, rfl, .inl ⟨rfl, rfl⟩⟩, ?_⟩ | refine ⟨⟨_, rfl, .inl ⟨slEq rfl tN, rfl⟩⟩, ?_⟩ | refine ⟨⟨_, rfl, .inl ⟨ivEq tX, rfl⟩⟩, ?_⟩)) (by repeat (first | exact trivial | refine ⟨ent_same rfl rfl rfl tL, ?_⟩ | refine ⟨ent_same rfl rfl (rfEq rfl tU) tL, ?_⟩ | refine ⟨ent_same rfl rfl (flEq rfl (by first | (simp; done) | (simp; omega) | (simp [encA, encH, encL, encU, encK, encV, encR]; done) | simp [maxC, minC])) trivial, ?_⟩)) rfl (rel_intro)
  · intro ⟨i, c, b⟩ ⟨hi, hS⟩ K hK
    dsimp only at hi hS ⊢
    refine nK ?_
    refine s_reg rfl ?_
    refine Run.pure (dd := some 12) rfl rfl (op_move rfl (Opd.tmp _ _ rfl)) ?_
    refine Run.pure (dd := some 13) rfl rfl (op_fld_ptr (by decide) rfl (Opd.tmp _ _ rfl)) ?_
    refine Run.load (dd := some 14) rfl rfl (op_load1_flat rfl (Opd.tmp _ _ rfl) tH rfl) ?_
    refine Run.pure (dd := some 15) rfl rfl (op_len_fz rfl (by first | exact Opd.tmp _ _ rfl | exact Opd.nil _ _ (Opd.tmp _ _ rfl)) (by first | exact List.length_map _ | rfl)) ?_
    refine Run.pure (dd := some 16) rfl rfl (op_lss rfl (Opd.tmp _ _ rfl) (Opd.tmp _ _ rfl)) ?_
    refine Run.nil (FinR.mk ?_)
    refine nK ?_
    refine n_cond _ rfl (fun hb => ?_) (fun hb => ?_)
    · have hlt : i < l.ls.length := by simp at hb; omega
      have hr1 := row_at' encL l.ls i hlt
      rw [cheap_step hlt] at hS
      have hK1 := fun p h => hK (i + 1, p) ⟨by dsimp only; omega, h⟩ (by dsimp only; omega)
      refine nK ?_
      refine s_reg rfl ?_
      refine Run.pure (dd := some 19) rfl rfl (op_fld_ptr (by decide) rfl (Opd.tmp _ _ rfl)) ?_
      refine Run.load (dd := some 20) rfl rfl (op_load1_flat rfl (Opd.tmp _ _ rfl) tH rfl) ?_
      refine Run.pure (dd := some 21) rfl rfl (op_move rfl (Opd.tmp _ _ rfl)) ?_
      refine Run.pure (dd := some 22) rfl rfl (op_idx_fz _ rfl (Opd.tmp _ _ rfl) (Opd.tmp _ _ rfl) tF) ?_
      refine Run.pure (dd := some 23) rfl rfl (op_loadw_fz rfl (Opd.tmp _ _ rfl) rfl) ?_
      refine Run.eff (dd := some 11) rfl rfl (op_alloc rfl rfl rfl rfl) ?_
      refine Run.eff (dd := none) rfl rfl (op_store_flat rfl (Opd.tmp _ _ rfl) (Opd.tmp _ _ rfl) tC rfl rfl (by first | rfl | assumption) tS) ?_
      refine Run.nil (FinR.mk ?_)
      refine nK ?_
      refine s_reg rfl ?_
      refine Run.pure (dd := some 24) rfl rfl (op_fld_ptr (by decide) rfl (Opd.tmp _ _ rfl)) ?_
      refine Run.load (dd := some 25) rfl rfl (op_load1_flat rfl (Opd.tmp _ _ rfl) tH rfl) ?_
      refine Run.pure (dd := some 26) rfl rfl (op_move rfl (Opd.tmp _ _ rfl)) ?_
      refine Run.pure (dd := some 27) rfl rfl (op_eql rfl (Opd.tmp _ _ rfl) (Opd.tmp _ _ rfl)) ?_
      refine Run.pure (dd := some 28) rfl rfl (op_move rfl (Opd.tmp _ _ rfl)) ?_
      refine Run.pureG (dd := some 29) rfl rfl rfl tG (op_fld_ptr (by decide) rfl (Opd.tmp _ _ rfl)) ?_
      refine Run.loadG (dd := some 30) rfl rfl rfl tG (op_load1_flat rfl (Opd.topt _ _ _ rfl tO) tH rfl) ?_
      refine Run.pureG (dd := some 31) rfl rfl rfl tG (op_move rfl (Opd.tmp _ _ rfl)) ?_
      refine Run.pureG (dd := some 32) rfl rfl rfl tG (op_eql rfl (Opd.topt _ _ _ rfl tO) (Opd.topt _ _ _ rfl tO)) ?_
      refine Run.pure (dd := some 33) rfl rfl (op_pick_and rfl (Opd.tmp _ _ rfl) (Opd.topt _ _ _ rfl tO)) ?_
      refine Run.pure (dd := some 34) rfl rfl (op_move rfl (Opd.tmp _ _ rfl)) ?_
      refine Run.pureG (dd := some 35) rfl rfl rfl tG (op_move rfl (Opd.tmp _ _ rfl)) ?_
      refine Run.pureG (dd := some 36) rfl rfl rfl tG (op_not rfl (Opd.topt _ _ _ rfl tO)) ?_
      refine Run.pureG (dd := some 37) rfl rfl rfl tG (op_move rfl (Opd.topt _ _ _ rfl tO)) ?_
      refine Run.pureG (dd := some 38) rfl rfl rfl tG (op_fld_ptr (by decide) rfl (Opd.tmp _ _ rfl)) ?_
      refine Run.loadG (dd := some 39) rfl rfl rfl tG (op_load1_flat rfl (Opd.topt _ _ _ rfl tO) tH rfl) ?_
      refine Run.pureG (dd := some 40) rfl rfl rfl tG (op_move rfl (Opd.tmp _ _ rfl)) ?_
      refine Run.pureG (dd := some 41) rfl rfl rfl tG (op_lss rfl (Opd.topt _ _ _ rfl tO) (Opd.topt _ _ _ rfl tO)) ?_
      refine Run.pureG (dd := some 42) rfl rfl rfl tG (op_pick_or rfl (Opd.topt _ _ _ rfl tO) (Opd.topt _ _ _ rfl tO)) ?_
      refine Run.pure (dd := some 43) rfl rfl (op_pick_and rfl (Opd.tmp _ _ rfl) (Opd.topt _ _ _ rfl tO)) ?_
      refine Run.nil (FinR.mk ?_)
      refine nK ?_
      refine n_cond _ rfl (fun hb => ?_) (fun hb => ?_)
      · rw [if_pos hb] at hS
        refine nK ?_
        refine s_reg rfl ?_
        refine Run.pure (dd := some 44) rfl rfl (op_fld_ptr (by decide) rfl (Opd.tmp _ _ rfl)) ?_
        refine Run.load (dd := some 45) rfl rfl (op_load1_flat rfl (Opd.tmp _ _ rfl) tH rfl) ?_
        refine Run.pure (dd := some 8) rfl rfl (op_assign rfl (Opd.tmp _ _ rfl)) ?_
        refine Run.nil (FinR.mk ?_)
        refine nK ?_
        refine s_reg rfl ?_
        refine Run.pure (dd := some 9) rfl rfl (op_assign rfl (Opd.const _)) ?_
        refine Run.nil (FinR.mk ?_)
        refine nK ?_
        refine s_reg rfl ?_
        refine Run.pure (dd := some 17) rfl rfl (op_move rfl (Opd.tmp _ _ rfl)) ?_
        refine Run.pure (dd := some 18) rfl rfl (op_add rfl (Opd.tmp _ _ rfl) (Opd.const _) tI) ?_
        refine Run.pure (dd := some 10) rfl rfl (op_assign rfl (Opd.tmp _ _ rfl)) ?_
        refine Run.nil (FinR.mk ?_)
        refine nK ?_
        refine Next.weakS [3] [] (by rfl) (by first | exact keeps0 hC _ | exact keepsN hC _ rfl) (by repeat (first | exact trivial | refine ⟨⟨_, rfl, .inl ⟨rfl, rfl⟩⟩, ?_⟩ | refine ⟨⟨_, rfl, .inl ⟨slEq rfl tN, rfl⟩⟩, ?_⟩ | refine ⟨⟨_, rfl, .inl ⟨ivEq tX, rfl⟩⟩, ?_⟩)) (by repeat (first | exact trivial | refine ⟨ent_same rfl rfl rfl tL, ?_⟩ | refine ⟨ent_same rfl rfl (rfEq rfl tU) tL, ?_⟩ | refine ⟨ent_same rfl rfl (flEq rfl (by first | (simp; done) | (simp; omega) | (simp [encA, encH, encL, encU, encK, encV, encR]; done) | simp [maxC, minC])) trivial, ?_⟩)) rfl ((hK1 (l.ls[i].c, true) hS))
      · rw [if_neg (by rw [hb]; decide)] at hS
        refine nK ?_
        refine s_reg rfl ?_
        refine Run.pure (dd := some 17) rfl rfl (op_move rfl (Opd.tmp _ _ rfl)) ?_
        refine Run.pure (dd := some 18) rfl rfl (op_add rfl (Opd.tmp _ _ rfl) (Opd.const _) tI) ?_
        refine Run.pure (dd := some 10) rfl rfl (op_assign rfl (Opd.tmp _ _ rfl)) ?_
        refine Run.nil (FinR.mk ?_)
        refine nK ?_
        refine Next.weakS [3] [] (by rfl) (by first | exact keeps0 hC _ | exact keepsN hC _ rfl) (by repeat (first | exact trivial | refine ⟨⟨_, rfl, .inl ⟨rfl, rfl⟩⟩, ?_⟩ | refine ⟨⟨_, rfl, .inl ⟨slEq rfl tN, rfl⟩⟩, ?_⟩ | refine ⟨⟨_, rfl, .inl ⟨ivEq tX, rfl⟩⟩, ?_⟩)) (by repeat (first | exact trivial | refine ⟨ent_same rfl rfl rfl tL, ?_⟩ | refine ⟨ent_same rfl rfl (rfEq rfl tU) tL, ?_⟩ | refine ⟨ent_same rfl rfl (flEq rfl (by first | (simp; done) | (simp; omega) | (simp [encA, encH, encL, encU, encK, encV, encR]; done) | simp [maxC, minC])) trivial, ?_⟩)) rfl ((hK1 (c, b) hS))
    · have hie : i = l.ls.length := by simp at hb; omega
      rw [hie, List.drop_length] at hS
      rw [← hS]
      simp only [cheapGo]
      refine nK ?_
      refine s_reg rfl ?_
      refine Run.pure (dd := some 46) rfl rfl (op_move rfl (Opd.tmp _ _ rfl)) ?_
      refine Run.pure (dd := some 47) rfl rfl (op_move rfl (Opd.tmp _ _ rfl)) ?_
      refine Run.pure (dd := some 6) rfl rfl (op_assign rfl (Opd.tmp _ _ rfl)) ?_
      refine Run.pure (dd := some 7) rfl rfl (op_assign rfl (Opd.tmp _ _ rfl)) ?_
      refine Run.nil (FinR.mk ?_)
      refine nK ?_
      (first | exact s_o1 hC rfl tV | exact s_o2 hC rfl tV tV | exact s_o3 hC rfl tV tV tV | exact s_o4 hC rfl tV tV tV tV | exact s_out0 hC rfl | exact s_outO hC rfl rfl rfl)
theorem attd_c (l : Lsa) (r : Int) (hn : lenOk l.att.length) : Pure Try.prog 32 [.agg (encA l), If .u32 r] (Bf (l.att.contains r)) := by
  refine Meets.intro Try.func32 rfl (Nat.le_of_ble_eq_true rfl) fun C hC => ?_
  simp only [List.map, argEnv, Nat.reduceAdd]
  refine nK ?_
  refine s_reg rfl ?_
  refine Run.eff (dd := some 2) rfl rfl (op_box_flat rfl (Opd.tmp _ _ rfl) tC rfl) ?_
  refine Run.pure (dd := some 4) rfl rfl (op_assign rfl (Opd.const _)) ?_
  refine Run.nil (FinR.mk ?_)
  refine nK ?_
  refine s_reg rfl ?_
  refine Run.pure (dd := some 5) rfl rfl (op_assign rfl (Opd.const _)) ?_
  refine Run.nil (FinR.mk ?_)
  refine nK ?_
  refine n_loop (ι := Nat) (fun i => ([(1, IV .u32 r), (2, .ptr 0 15 0 0), (5, IV .i64 i)], [(0, OA l)], 1)) (fun i => i ≤ l.att.length ∧ (l.att.drop i).contains r = l.att.contains r) (fun i => l.att.length - i) 0 ⟨Nat.zero_le _, rfl⟩ ?_ ?_
  · refine Next.weakS [2] [] (by rfl) (by first | exact keeps0 hC _ | exact keepsN hC _ rfl) (by repeat (first | exact trivial | refine ⟨⟨_, rfl, .inl ⟨rfl, rfl⟩⟩, ?_⟩ | refine ⟨⟨_, rfl, .inl ⟨slEq rfl tN, rfl⟩⟩, ?_⟩ | refine ⟨⟨_, rfl, .inl ⟨ivEq tX, rfl⟩⟩, ?_⟩)) (by repeat (first | exact trivial | refine ⟨ent_same rfl rfl rfl tL, ?_⟩ | refine ⟨ent_same rfl rfl (rfEq rfl tU) tL, ?_⟩ | refine ⟨ent_same rfl rfl (flEq rfl (by first | (simp; done) | (simp; omega) | (simp [encA, encH, encL, encU, encK, encV, encR]; done) | simp [maxC, minC])) trivial, ?_⟩)) rfl (rel_intro)
  · intro i ⟨hi, hS⟩ K hK
    refine nK ?_
    refine s_reg rfl ?_
    refine Run.pure (dd := some 6) rfl rfl (op_move rfl (Opd.tmp _ _ rfl)) ?_
    refine Run.pure (dd := some 7) rfl rfl (op_fld_ptr (by decide) rfl (Opd.tmp _ _ rfl)) ?_
    refine Run.load (dd := some 8) rfl rfl (op_load1_flat rfl (Opd.tmp _ _ rfl) tH rfl) ?_
    refine Run.pure (dd := some 9) rfl rfl (op_len_fz rfl (by first | exact Opd.tmp _ _ rfl | exact Opd.nil _ _ (Opd.tmp _ _ rfl)) (by first | exact List.length_map _ | rfl)) ?_
    refine Run.pure (dd := some 10) rfl rfl (op_lss rfl (Opd.tmp _ _ rfl) (Opd.tmp _ _ rfl)) ?_
    refine Run.nil (FinR.mk ?_)
    refine nK ?_
    refine n_cond _ rfl (fun hb => ?_) (fun hb => ?_)
    · have hlt : i < l.att.length := by simp at hb; omega
      have hr1 := row_at' encU l.att i hlt
      rw [List.drop_eq_getElem_cons hlt] at hS
      have hK1 := fun h => hK (i + 1) ⟨by omega, h⟩ (by omega)
      refine nK ?_
      refine s_reg rfl ?_
      refine Run.pure (dd := some 13) rfl rfl (op_fld_ptr (by decide) rfl (Opd.tmp _ _ rfl)) ?_
      refine Run.load (dd := some 14) rfl rfl (op_load1_flat rfl (Opd.tmp _ _ rfl) tH rfl) ?_
      refine Run.pure (dd := some 15) rfl rfl (op_move rfl (Opd.tmp _ _ rfl)) ?_
      refine Run.pure (dd := some 16) rfl rfl (op_idx_fz _ rfl (Opd.tmp _ _ rfl) (Opd.tmp _ _ rfl) tF) ?_
      refine Run.pure (dd := some 17) rfl rfl (op_load1_fz rfl (Opd.tmp _ _ rfl) rfl) ?_
      refine Run.pure (dd := some 18) rfl rfl (op_move rfl (Opd.tmp _ _ rfl)) ?_
      refine Run.pure (dd := some 19) rfl rfl (op_eql rfl (Opd.tmp _ _ rfl) (Opd.tmp _ _ rfl)) ?_
      refine Run.nil (FinR.mk ?_)
      refine nK ?_
      refine n_cond _ rfl (fun hb => ?_) (fun hb => ?_)
      · have e : l.att.contains r = true := by rw [← hS]; simp at hb; simp [hb]
        rw [e]
        refine nK ?_
        refine s_reg rfl ?_
        refine Run.pure (dd := some 4) rfl rfl (op_assign rfl (Opd.const _)) ?_
        refine Run.nil (FinR.mk ?_)
        refine nK ?_
        (first | exact s_o1 hC rfl tV | exact s_o2 hC rfl tV tV | exact s_o3 hC rfl tV tV tV | exact s_o4 hC rfl tV tV tV tV | exact s_out0 hC rfl | exact s_outO hC rfl rfl rfl)
      · have e : (l.att.drop (i + 1)).contains r = l.att.contains r := by
          rw [← hS, List.contains_cons]
          have : (r == l.att[i]) = false := by simp at hb; simp; exact fun h => hb h.symm
          rw [this, Bool.false_or]
        refine nK ?_
        refine s_reg rfl ?_
        refine Run.pure (dd := some 11) rfl rfl (op_move rfl (Opd.tmp _ _ rfl)) ?_
        refine Run.pure (dd := some 12) rfl rfl (op_add rfl (Opd.tmp _ _ rfl) (Opd.const _) tI) ?_
        refine Run.pure (dd := some 5) rfl rfl (op_assign rfl (Opd.tmp _ _ rfl)) ?_
        refine Run.nil (FinR.mk ?_)
        refine nK ?_
        refine Next.weakS [2] [] (by rfl) (by first | exact keeps0 hC _ | exact keepsN hC _ rfl) (by repeat (first | exact trivial | refine ⟨⟨_, rfl, .inl ⟨rfl, rfl⟩⟩, ?_⟩ | refine ⟨⟨_, rfl, .inl ⟨slEq rfl tN, rfl⟩⟩, ?_⟩ | refine ⟨⟨_, rfl, .inl ⟨ivEq tX, rfl⟩⟩, ?_⟩)) (by repeat (first | exact trivial | refine ⟨ent_same rfl rfl rfl tL, ?_⟩ | refine ⟨ent_same rfl rfl (rfEq rfl tU) tL, ?_⟩ | refine ⟨ent_same rfl rfl (flEq rfl (by first | (simp; done) | (simp; omega) | (simp [encA, encH, encL, encU, encK, encV, encR]; done) | simp [maxC, minC])) trivial, ?_⟩)) rfl ((hK1 e))
    · have hie : i = l.att.length := by simp at hb; omega
      rw [hie, List.drop_length] at hS
      rw [← hS]
      refine nK ?_
      refine s_reg rfl ?_
      refine Run.pure (dd := some 4) rfl rfl (op_assign rfl (Opd.const _)) ?_
      refine Run.nil (FinR.mk ?_)
      refine nK ?_
      (first | exact s_o1 hC rfl tV | exact s_o2 hC rfl tV tV | exact s_o3 hC rfl tV tV tV | exact s_o4 hC rfl tV tV tV tV | exact s_out0 hC rfl | exact s_outO hC rfl rfl rfl)
theorem rstubs_f (db : List Lsa) (r : Int) (hn : lenOk db.length) (hm : ((ownGo r db).getD zeroA).ls.length ≤ 40000000) : Meets Try.prog 22 ([VA db, If .u32 r].map PV.fz) 0 [] (.sl 0 4 0 (stubsL ((ownGo r db).getD zeroA).ls).length) [(0, some (.flat 4 ((stubsL ((ownGo r db).getD zeroA).ls).map encL)))] 1 := by
  refine Meets.intro Try.func22 rfl (Nat.le_of_ble_eq_true rfl) fun C hC => ?_
  simp only [List.map, argEnv, Nat.reduceAdd]
  refine nK ?_
  refine s_reg rfl ?_
  refine Run.pure (dd := some 4) rfl rfl (op_assign rfl (Opd.const _)) ?_
  refine Run.nil (FinR.mk ?_)
  refine nK ?_
  refine s_reg rfl ?_
  refine Run.eff (dd := some 9) rfl rfl (op_buildSlice_own rfl (RowsF.nil _) rfl rfl rfl) ?_
  refine Run.pure (dd := some 5) rfl rfl (op_assign rfl (Opd.tmp _ _ rfl)) ?_
  refine Run.nil (FinR.mk ?_)
  refine nK ?_
  refine s_reg rfl ?_
  refine Run.pure (dd := some 11) rfl rfl (op_move rfl (Opd.tmp _ _ rfl)) ?_
  refine Run.pure (dd := some 12) rfl rfl (op_move rfl (Opd.tmp _ _ rfl)) ?_
  refine Run.pure (dd := some 13) rfl rfl (op_call_pure (fun _ => own_c _ _ (by assumption)) rfl (Opd.func _) (Opds.cons _ _ _ _ (Opd.tmp _ _ rfl) (Opds.cons _ _ _ _ (Opd.tmp _ _ rfl) Opds.nil))) ?_
  refine Run.pure (dd := some 10) rfl rfl (op_move rfl (Opd.tmp _ _ rfl)) ?_
  refine Run.pure (dd := some 14) rfl rfl (op_extract_fz rfl (Opd.tmp _ _ rfl) rfl) ?_
  refine Run.pure (dd := some 15) rfl rfl (op_extract_fz rfl (Opd.tmp _ _ rfl) rfl) ?_
  refine Run.eff (dd := some 6) rfl rfl (op_alloc rfl rfl rfl rfl) ?_
  refine Run.eff (dd := none) rfl rfl (op_store_flat rfl (Opd.tmp _ _ rfl) (Opd.tmp _ _ rfl) tC rfl rfl (by first | rfl | assumption) tS) ?_
  refine Run.pure (dd := some 7) rfl rfl (op_assign rfl (Opd.tmp _ _ rfl)) ?_
  refine Run.nil (FinR.mk ?_)
  refine nK ?_
  generalize (ownGo r db).getD zeroA = l at *
  refine nK ?_
  refine s_reg rfl ?_
  refine Run.pure (dd := some 8) rfl rfl (op_assign rfl (Opd.const _)) ?_
  refine Run.nil (FinR.mk ?_)
  refine nK ?_
  refine n_loop (ι := Nat × List Lnk) (fun p => ([(5, .sl 1 4 0 p.2.length), (6, .ptr 0 15 0 0), (8, IV .i64 p.1)], [(0, OA l), (1, some (.flat 4 (p.2.map encL)))], 2)) (fun p => p.1 ≤ l.ls.length ∧ p.2 = stubsL (l.ls.take p.1)) (fun p => l.ls.length - p.1) (0, []) ⟨Nat.zero_le _, by simp [stubsL]⟩ ?_ ?_
  · refine Next.weakS [6, 5] [] (by rfl) (by first | exact keeps0 hC _ | exact keepsN hC _ rfl) (by repeat (first | exact trivial | refine ⟨⟨_, rfl, .inl ⟨rfl, rfl⟩⟩, ?_⟩ | refine ⟨⟨_, rfl, .inl ⟨slEq rfl tN, rfl⟩⟩, ?_⟩ | refine ⟨⟨_, rfl, .inl ⟨ivEq tX, rfl⟩⟩, ?_⟩)) (by repeat (first | exact trivial | refine ⟨ent_same rfl rfl rfl tL, ?_⟩ | refine ⟨ent_same rfl rfl (rfEq rfl tU) tL, ?_⟩ | refine ⟨ent_same rfl rfl (flEq rfl (by first | (simp; done) | (simp; omega) | (simp [encA, encH, encL, encU, encK, encV, encR]; done) | simp [maxC, minC])) trivial, ?_⟩)) rfl (rel_intro)
  · intro ⟨i, c⟩ ⟨hi, hS⟩ K hK
    dsimp only at hi hS ⊢
    have hcl : c.length ≤ i := by rw [hS]; exact Nat.le_trans (stubs_len _) (by simp; omega)
    refine nK ?_
    refine s_reg rfl ?_
    refine Run.pure (dd := some 16) rfl rfl (op_move rfl (Opd.tmp _ _ rfl)) ?_
    refine Run.pure (dd := some 17) rfl rfl (op_fld_ptr (by decide) rfl (Opd.tmp _ _ rfl)) ?_
    refine Run.load (dd := some 18) rfl rfl (op_load1_flat rfl (Opd.tmp _ _ rfl) tH rfl) ?_
    refine Run.pure (dd := some 19) rfl rfl (op_len_fz rfl (by first | exact Opd.tmp _ _ rfl | exact Opd.nil _ _ (Opd.tmp _ _ rfl)) (by first | exact List.length_map _ | rfl)) ?_
    refine Run.pure (dd := some 20) rfl rfl (op_lss rfl (Opd.tmp _ _ rfl) (Opd.tmp _ _ rfl)) ?_
    refine Run.nil (FinR.mk ?_)
    refine nK ?_
    refine n_cond _ rfl (fun hb => ?_) (fun hb => ?_)
    · have hlt : i < l.ls.length := by simp at hb; omega
      have hr1 := row_at' encL l.ls i hlt
      have hst := stubs_take hlt
      have hK1 := fun c' h => hK (i + 1, c') ⟨by dsimp only; omega, h⟩ (by dsimp only; omega)
      refine nK ?_
      refine s_reg rfl ?_
      refine Run.pure (dd := some 23) rfl rfl (op_fld_ptr (by decide) rfl (Opd.tmp _ _ rfl)) ?_
      refine Run.load (dd := some 24) rfl rfl (op_load1_flat rfl (Opd.tmp _ _ rfl) tH rfl) ?_
      refine Run.pure (dd := some 25) rfl rfl (op_move rfl (Opd.tmp _ _ rfl)) ?_
      refine Run.pure (dd := some 26) rfl rfl (op_idx_fz _ rfl (Opd.tmp _ _ rfl) (Opd.tmp _ _ rfl) tF) ?_
      refine Run.pure (dd := some 27) rfl rfl (op_fld_fz (by decide) rfl (Opd.tmp _ _ rfl) tR) ?_
      refine Run.pure (dd := some 28) rfl rfl (op_load1_fz rfl (Opd.tmp _ _ rfl) rfl) ?_
      refine Run.pure (dd := some 29) rfl rfl (op_eql rfl (Opd.tmp _ _ rfl) (Opd.const _)) ?_
      refine Run.nil (FinR.mk ?_)
      refine nK ?_
      refine n_cond _ rfl (fun hb => ?_) (fun hb => ?_)
      · rw [if_pos hb, ← hS] at hst
        have hK2 := hK1 _ hst.symm
        have hel : (c ++ [l.ls[i]]).length = c.length + 1 := by simp
        rw [hel] at hK2
        refine nK ?_
        refine s_reg rfl ?_
        refine Run.pure (dd := some 30) rfl rfl (op_move rfl (Opd.tmp _ _ rfl)) ?_
        refine Run.pure (dd := some 31) rfl rfl (op_fld_ptr (by decide) rfl (Opd.tmp _ _ rfl)) ?_
        refine Run.load (dd := some 32) rfl rfl (op_load1_flat rfl (Opd.tmp _ _ rfl) tH rfl) ?_
        refine Run.pure (dd := some 33) rfl rfl (op_move rfl (Opd.tmp _ _ rfl)) ?_
        refine Run.pure (dd := some 34) rfl rfl (op_idx_fz _ rfl (Opd.tmp _ _ rfl) (Opd.tmp _ _ rfl) tF) ?_
        refine Run.pure (dd := some 35) rfl rfl (op_loadw_fz rfl (Opd.tmp _ _ rfl) rfl) ?_
        refine Run.eff (dd := some 36) rfl rfl (op_buildSlice_own rfl (RowsF.cons _ _ _ _ _ _ (Opd.tmp _ _ rfl) tC (by rfl) (RowsF.nil _)) rfl rfl rfl) ?_
        refine Run.eff (dd := some 37) rfl rfl (op_append_own0 rfl (Opd.tmp _ _ rfl) (Opd.tmp _ _ rfl) rfl (by first | rfl | simp) rfl (by first | rfl | simp) rfl rfl tB tB) ?_
        refine Run.pure (dd := some 5) rfl rfl (op_assign rfl (Opd.tmp _ _ rfl)) ?_
        refine Run.nil (FinR.mk ?_)
        refine nK ?_
        refine s_reg rfl ?_
        refine Run.pure (dd := some 21) rfl rfl (op_move rfl (Opd.tmp _ _ rfl)) ?_
        refine Run.pure (dd := some 22) rfl rfl (op_add rfl (Opd.tmp _ _ rfl) (Opd.const _) tI) ?_
        refine Run.pure (dd := some 8) rfl rfl (op_assign rfl (Opd.tmp _ _ rfl)) ?_
        refine Run.nil (FinR.mk ?_)
        refine nK ?_
        refine Next.weakS [6, 5] [] (by rfl) (by first | exact keeps0 hC _ | exact keepsN hC _ rfl) (by repeat (first | exact trivial | refine ⟨⟨_, rfl, .inl ⟨rfl, rfl⟩⟩, ?_⟩ | refine ⟨⟨_, rfl, .inl ⟨slEq rfl tN, rfl⟩⟩, ?_⟩ | refine ⟨⟨_, rfl, .inl ⟨ivEq tX, rfl⟩⟩, ?_⟩)) (by repeat (first | exact trivial | refine ⟨ent_same rfl rfl rfl tL, ?_⟩ | refine ⟨ent_same rfl rfl (rfEq rfl tU) tL, ?_⟩ | refine ⟨ent_same rfl rfl (flEq rfl (by first | (simp; done) | (simp; omega) | (simp [encA, encH, encL, encU, encK, encV, encR]; done) | simp [maxC, minC])) trivial, ?_⟩)) rfl (hK2)
      · rw [if_neg (by rw [hb]; decide), ← hS, List.append_nil] at hst
        refine nK ?_
        refine s_reg rfl ?_
        refine Run.pure (dd := some 21) rfl rfl (op_move rfl (Opd.tmp _ _ rfl)) ?_
        refine Run.pure (dd := some 22) rfl rfl (op_add rfl (Opd.tmp _ _ rfl) (Opd.const _) tI) ?_
        refine Run.pure (dd := some 8) rfl rfl (op_assign rfl (Opd.tmp _ _ rfl)) ?_
        refine Run.nil (FinR.mk ?_)
        refine nK ?_
        refine Next.weakS [6, 5] [] (by rfl) (by first | exact keeps0 hC _ | exact keepsN hC _ rfl) (by repeat (first | exact trivial | refine ⟨⟨_, rfl, .inl ⟨rfl, rfl⟩⟩, ?_⟩ | refine ⟨⟨_, rfl, .inl ⟨slEq rfl tN, rfl⟩⟩, ?_⟩ | refine ⟨⟨_, rfl, .inl ⟨ivEq tX, rfl⟩⟩, ?_⟩)) (by repeat (first | exact trivial | refine ⟨ent_same rfl rfl rfl tL, ?_⟩ | refine ⟨ent_same rfl rfl (rfEq rfl tU) tL, ?_⟩ | refine ⟨ent_same rfl rfl (flEq rfl (by first | (simp; done) | (simp; omega) | (simp [encA, encH, encL, encU, encK, encV, encR]; done) | simp [maxC, minC])) trivial, ?_⟩)) rfl ((hK1 c hst.symm))
    · have hie : i = l.ls.length := by simp at hb; omega
      rw [hie, List.take_length] at hS
      rw [← hS]
      refine nK ?_
      refine s_reg rfl ?_
      refine Run.pure (dd := some 38) rfl rfl (op_move rfl (Opd.tmp _ _ rfl)) ?_
      refine Run.pure (dd := some 4) rfl rfl (op_assign rfl (Opd.tmp _ _ rfl)) ?_
      refine Run.nil (FinR.mk ?_)
      refine nK ?_
      (first | exact s_o1 hC rfl tV | exact s_o2 hC rfl tV tV | exact s_o3 hC rfl tV tV tV | exact s_o4 hC rfl tV tV tV tV | exact s_out0 hC rfl | exact s_outO hC rfl rfl rfl)
theorem rstubs_c (db : List Lsa) (r : Int) (hn : lenOk db.length) (hm : ((ownGo r db).getD zeroA).ls.length ≤ 40000000) : Pure Try.prog 22 [VA db, If .u32 r] (VL (stubsL ((ownGo r db).getD zeroA).ls)) := (rstubs_f db r hn hm).freeze (by simp)
theorem slinks_c (a b : List Lnk) (ha : lenOk a.length) (hb0 : lenOk b.length) : Pure Try.prog 20 [VL a, VL b] (Bf (decide (a = b))) := by
  refine Meets.intro Try.func20 rfl (Nat.le_of_ble_eq_true rfl) fun C hC => ?_
  simp only [List.map, argEnv, Nat.reduceAdd]
  refine nK ?_
  refine s_reg rfl ?_
  refine Run.pure (dd := some 4) rfl rfl (op_assign rfl (Opd.const _)) ?_
  refine Run.nil (FinR.mk ?_)
  refine nK ?_
  refine s_reg rfl ?_
  refine Run.pure (dd := some 6) rfl rfl (op_move rfl (Opd.tmp _ _ rfl)) ?_
  refine Run.pure (dd := some 7) rfl rfl (op_len_fz rfl (by first | exact Opd.tmp _ _ rfl | exact Opd.nil _ _ (Opd.tmp _ _ rfl)) (by first | exact List.length_map _ | rfl)) ?_
  refine Run.pure (dd := some 8) rfl rfl (op_move rfl (Opd.tmp _ _ rfl)) ?_
  refine Run.pure (dd := some 9) rfl rfl (op_len_fz rfl (by first | exact Opd.tmp _ _ rfl | exact Opd.nil _ _ (Opd.tmp _ _ rfl)) (by first | exact List.length_map _ | rfl)) ?_
  refine Run.pure (dd := some 10) rfl rfl (op_neq rfl (Opd.tmp _ _ rfl) (Opd.tmp _ _ rfl)) ?_
  refine Run.nil (FinR.mk ?_)
  refine nK ?_
  refine n_cond _ rfl (fun hb => ?_) (fun hb => ?_)
  · have e : decide (a = b) = false := by
      rw [decide_eq_false_iff_not]; rintro rfl; simp at hb
    rw [e]
    refine nK ?_
    refine s_reg rfl ?_
    refine Run.pure (dd := some 4) rfl rfl (op_assign rfl (Opd.const _)) ?_
    refine Run.nil (FinR.mk ?_)
    refine nK ?_
    (first | exact s_o1 hC rfl tV | exact s_o2 hC rfl tV tV | exact s_o3 hC rfl tV tV tV | exact s_o4 hC rfl tV tV tV tV | exact s_out0 hC rfl | exact s_outO hC rfl rfl rfl)
  · have hl : a.length = b.length := by simp at hb; omega
    refine nK ?_
    refine s_reg rfl ?_
    refine Run.pure (dd := some 5) rfl rfl (op_assign rfl (Opd.const _)) ?_
    refine Run.nil (FinR.mk ?_)
    refine nK ?_
    refine n_loop (ι := Nat) (fun i => ([(0, .fz (VL a)), (1, .fz (VL b)), (5, IV .i64 i)], [], 0)) (fun i => i ≤ a.length ∧ (a = b ↔ a.drop i = b.drop i)) (fun i => a.length - i) 0 ⟨Nat.zero_le _, Iff.rfl⟩ ?_ ?_
    · refine Next.weak [] [] (by rfl) (keeps0 hC _) (by repeat (first | exact trivial | refine ⟨⟨_, rfl, .inl ⟨rfl, rfl⟩⟩, ?_⟩)) (by repeat (first | exact trivial | refine ⟨ent_same rfl rfl rfl tL, ?_⟩ | refine ⟨ent_same rfl rfl (rfEq rfl tU) tL, ?_⟩ | refine ⟨ent_same rfl rfl (flEq rfl (by first | (simp; done) | (simp; omega) | (simp [encA, encH, encL, encU, encK, encV, encR]; done) | simp [maxC, minC])) trivial, ?_⟩)) (fun _ h => by simp at h) rel_intro
    · intro i ⟨hi, ho⟩ K hK
      refine nK ?_
      refine s_reg rfl ?_
      refine Run.pure (dd := some 11) rfl rfl (op_move rfl (Opd.tmp _ _ rfl)) ?_
      refine Run.pure (dd := some 12) rfl rfl (op_move rfl (Opd.tmp _ _ rfl)) ?_
      refine Run.pure (dd := some 13) rfl rfl (op_len_fz rfl (by first | exact Opd.tmp _ _ rfl | exact Opd.nil _ _ (Opd.tmp _ _ rfl)) (by first | exact List.length_map _ | rfl)) ?_
      refine Run.pure (dd := some 14) rfl rfl (op_lss rfl (Opd.tmp _ _ rfl) (Opd.tmp _ _ rfl)) ?_
      refine Run.nil (FinR.mk ?_)
      refine nK ?_
      refine n_cond _ rfl (fun hb => ?_) (fun hb => ?_)
      · have hlt : i < a.length := by simp at hb; omega
        have hlt2 : i < b.length := by omega
        rw [same_step hlt hlt2] at ho
        have hr1 := row_at' encL a i hlt
        have hr2 := row_at' encL b i hlt2
        have hK1 := fun h => hK (i + 1) ⟨by omega, h⟩ (by omega)
        generalize a[i] = x at *
        generalize b[i] = y at *
        refine nK ?_
        refine s_draw mixed ?_
        refine Run.pure (dd := some 17) rfl rfl (op_move rfl (Opd.tmp _ _ rfl)) ?_
        refine Run.pure (dd := some 18) rfl rfl (op_move rfl (Opd.tmp _ _ rfl)) ?_
        refine Run.pure (dd := some 19) rfl rfl (op_idx_fz _ rfl (Opd.tmp _ _ rfl) (Opd.tmp _ _ rfl) tF) ?_
        refine Run.pure (dd := some 20) rfl rfl (op_loadw_fz rfl (Opd.tmp _ _ rfl) rfl) ?_
        refine Run.pure (dd := some 21) rfl rfl (op_move rfl (Opd.tmp _ _ rfl)) ?_
        refine Run.pure (dd := some 22) rfl rfl (op_move rfl (Opd.tmp _ _ rfl)) ?_
        refine Run.pure (dd := some 23) rfl rfl (op_idx_fz _ rfl (Opd.tmp _ _ rfl) (Opd.tmp _ _ rfl) tF) ?_
        refine Run.pure (dd := some 24) rfl rfl (op_loadw_fz rfl (Opd.tmp _ _ rfl) rfl) ?_
        refine Run.pure (dd := some 25) rfl rfl (op_neS rfl (Opd.tmp _ _ rfl) (Opd.tmp _ _ rfl) (by kernel_rfl)) ?_
        refine Run.nil (FinD.mk (by kernel_rfl) ?_)
        refine nK ?_
        refine n_cond _ rfl (fun hb => ?_) (fun hb => ?_)
        · have e : decide (a = b) = false := by
            rw [decide_eq_false_iff_not, ho]; rw [eqFs_encL] at hb; simp at hb; exact fun h => hb h.1
          rw [e]
          refine nK ?_
          refine s_reg rfl ?_
          refine Run.pure (dd := some 4) rfl rfl (op_assign rfl (Opd.const _)) ?_
          refine Run.nil (FinR.mk ?_)
          refine nK ?_
          (first | exact s_o1 hC rfl tV | exact s_o2 hC rfl tV tV | exact s_o3 hC rfl tV tV tV | exact s_o4 hC rfl tV tV tV tV | exact s_out0 hC rfl | exact s_outO hC rfl rfl rfl)
        · rw [eqFs_encL] at hb
          refine nK ?_
          refine s_reg rfl ?_
          refine Run.pure (dd := some 15) rfl rfl (op_move rfl (Opd.tmp _ _ rfl)) ?_
          refine Run.pure (dd := some 16) rfl rfl (op_add rfl (Opd.tmp _ _ rfl) (Opd.const _) tI) ?_
          refine Run.pure (dd := some 5) rfl rfl (op_assign rfl (Opd.tmp _ _ rfl)) ?_
          refine Run.nil (FinR.mk ?_)
          refine nK ?_
          refine Next.weak [] [] (by rfl) (keeps0 hC _) (by repeat (first | exact trivial | refine ⟨⟨_, rfl, .inl ⟨rfl, rfl⟩⟩, ?_⟩)) (by repeat (first | exact trivial | refine ⟨ent_same rfl rfl rfl tL, ?_⟩ | refine ⟨ent_same rfl rfl (rfEq rfl tU) tL, ?_⟩ | refine ⟨ent_same rfl rfl (flEq rfl (by first | (simp; done) | (simp; omega) | (simp [encA, encH, encL, encU, encK, encV, encR]; done) | simp [maxC, minC])) trivial, ?_⟩)) (fun _ h => by simp at h) (hK1 (ho.trans ⟨fun h => h.2, fun h => ⟨by simpa using hb, h⟩⟩))
      · have hie : i = a.length := by simp at hb; omega
        have e : decide (a = b) = true := by
          rw [decide_eq_true_iff, ho, hie, List.drop_length, hl, List.drop_length]
        rw [e]
        refine nK ?_
        refine s_reg rfl ?_
        refine Run.pure (dd := some 4) rfl rfl (op_assign rfl (Opd.const _)) ?_
        refine Run.nil (FinR.mk ?_)
        refine nK ?_
        (first | exact s_o1 hC rfl tV | exact s_o2 hC rfl tV tV | exact s_o3 hC rfl tV tV tV | exact s_o4 hC rfl tV tV tV tV | exact s_out0 hC rfl | exact s_outO hC rfl rfl rfl)
theorem rsame_c (a b : AGr) (ha : a.g.es.length ≤ 40000000) (hb0 : b.g.es.length ≤ 40000000) (ha1 : lenOk a.rs.length) (hb1 : lenOk b.rs.length) (ha2 : lenOk a.ns.length) (hb2 : lenOk b.ns.length) : Pure Try.prog 12 [.agg (encR a), .agg (encR b)] (Bf (decide (a = b))) := by
  refine Meets.intro Try.func12 rfl (Nat.le_of_ble_eq_true rfl) fun C hC => ?_
  simp only [List.map, argEnv, Nat.reduceAdd]
  refine nK ?_
  refine s_reg rfl ?_
  refine Run.eff (dd := some 2) rfl rfl (op_box_flat rfl (Opd.tmp _ _ rfl) tC rfl) ?_
  refine Run.eff (dd := some 3) rfl rfl (op_box_flat rfl (Opd.tmp _ _ rfl) tC rfl) ?_
  refine Run.pure (dd := some 4) rfl rfl (op_assign rfl (Opd.const _)) ?_
  refine Run.nil (FinR.mk ?_)
  refine nK ?_
  refine s_reg rfl ?_
  refine Run.pure (dd := some 7) rfl rfl (op_fld_ptr (by decide) rfl (Opd.tmp _ _ rfl)) ?_
  refine Run.load (dd := some 8) rfl rfl (op_loadn_flat rfl (Opd.tmp _ _ rfl) tH tR tR) ?_
  refine Run.pure (dd := some 9) rfl rfl (op_fld_ptr (by decide) rfl (Opd.tmp _ _ rfl)) ?_
  refine Run.load (dd := some 10) rfl rfl (op_loadn_flat rfl (Opd.tmp _ _ rfl) tH tR tR) ?_
  refine Run.pure (dd := some 11) rfl rfl (op_call_pure (fun _ => same_c _ _ (by assumption) (by assumption)) rfl (Opd.func _) (Opds.cons _ _ _ _ (Opd.tmp _ _ rfl) (Opds.cons _ _ _ _ (Opd.tmp _ _ rfl) Opds.nil))) ?_
  refine Run.pure (dd := some 12) rfl rfl (op_not rfl (Opd.tmp _ _ rfl)) ?_
  refine Run.pure (dd := some 13) rfl rfl (op_move rfl (Opd.tmp _ _ rfl)) ?_
  refine Run.pureG (dd := some 14) rfl rfl rfl tG (op_fld_ptr (by decide) rfl (Opd.tmp _ _ rfl)) ?_
  refine Run.loadG (dd := some 15) rfl rfl rfl tG (op_load1_flat rfl (Opd.topt _ _ _ rfl tO) tH rfl) ?_
  refine Run.pureG (dd := some 16) rfl rfl rfl tG (op_len_fz rfl (by first | exact Opd.topt _ _ _ rfl tO | exact Opd.nil _ _ (Opd.topt _ _ _ rfl tO)) (by first | exact List.length_map _ | rfl)) ?_
  refine Run.pureG (dd := some 17) rfl rfl rfl tG (op_fld_ptr (by decide) rfl (Opd.tmp _ _ rfl)) ?_
  refine Run.loadG (dd := some 18) rfl rfl rfl tG (op_load1_flat rfl (Opd.topt _ _ _ rfl tO) tH rfl) ?_
  refine Run.pureG (dd := some 19) rfl rfl rfl tG (op_len_fz rfl (by first | exact Opd.topt _ _ _ rfl tO | exact Opd.nil _ _ (Opd.topt _ _ _ rfl tO)) (by first | exact List.length_map _ | rfl)) ?_
  refine Run.pureG (dd := some 20) rfl rfl rfl tG (op_neq rfl (Opd.topt _ _ _ rfl tO) (Opd.topt _ _ _ rfl tO)) ?_
  refine Run.pure (dd := some 21) rfl rfl (op_pick_or rfl (Opd.tmp _ _ rfl) (Opd.topt _ _ _ rfl tO)) ?_
  refine Run.pure (dd := some 22) rfl rfl (op_move rfl (Opd.tmp _ _ rfl)) ?_
  refine Run.pureG (dd := some 23) rfl rfl rfl tG (op_fld_ptr (by decide) rfl (Opd.tmp _ _ rfl)) ?_
  refine Run.loadG (dd := some 24) rfl rfl rfl tG (op_load1_flat rfl (Opd.topt _ _ _ rfl tO) tH rfl) ?_
  refine Run.pureG (dd := some 25) rfl rfl rfl tG (op_len_fz rfl (by first | exact Opd.topt _ _ _ rfl tO | exact Opd.nil _ _ (Opd.topt _ _ _ rfl tO)) (by first | exact List.length_map _ | rfl)) ?_
  refine Run.pureG (dd := some 26) rfl rfl rfl tG (op_fld_ptr (by decide) rfl (Opd.tmp _ _ rfl)) ?_
  refine Run.loadG (dd := some 27) rfl rfl rfl tG (op_load1_flat rfl (Opd.topt _ _ _ rfl tO) tH rfl) ?_
  refine Run.pureG (dd := some 28) rfl rfl rfl tG (op_len_fz rfl (by first | exact Opd.topt _ _ _ rfl tO | exact Opd.nil _ _ (Opd.topt _ _ _ rfl tO)) (by first | exact List.length_map _ | rfl)) ?_
  refine Run.pureG (dd := some 29) rfl rfl rfl tG (op_neq rfl (Opd.topt _ _ _ rfl tO) (Opd.topt _ _ _ rfl tO)) ?_
  refine Run.pure (dd := some 30) rfl rfl (op_pick_or rfl (Opd.tmp _ _ rfl) (Opd.topt _ _ _ rfl tO)) ?_
  refine Run.nil (FinR.mk ?_)
  refine nK ?_
  refine n_cond _ rfl (fun hb => ?_) (fun hb => ?_)
  · have e : decide (a = b) = false := by
      rw [decide_eq_false_iff_not]; rintro rfl; simp at hb
    rw [e]
    refine nK ?_
    refine s_reg rfl ?_
    refine Run.pure (dd := some 4) rfl rfl (op_assign rfl (Opd.const _)) ?_
    refine Run.nil (FinR.mk ?_)
    refine nK ?_
    (first | exact s_o1 hC rfl tV | exact s_o2 hC rfl tV tV | exact s_o3 hC rfl tV tV tV | exact s_o4 hC rfl tV tV tV tV | exact s_out0 hC rfl | exact s_outO hC rfl rfl rfl)
  · have hl : a.g = b.g ∧ a.rs.length = b.rs.length ∧ a.ns.length = b.ns.length := by simp at hb; exact ⟨hb.1.1, by omega, by omega⟩
    obtain ⟨hg, hl1, hl2⟩ := hl
    have hab : a = b ↔ a.rs = b.rs ∧ a.ns = b.ns := by
      constructor
      · rintro rfl; exact ⟨rfl, rfl⟩
      · intro h; cases a; cases b; simp_all
    refine nK ?_
    refine s_reg rfl ?_
    refine Run.pure (dd := some 5) rfl rfl (op_assign rfl (Opd.const _)) ?_
    refine Run.nil (FinR.mk ?_)
    refine nK ?_
    refine n_loop (ι := Nat) (fun i => ([(2, .ptr 0 5 0 0), (3, .ptr 1 5 0 0), (5, IV .i64 i)], [(0, OR a), (1, OR b)], 2)) (fun i => i ≤ a.rs.length ∧ (a = b ↔ a.rs.drop i = b.rs.drop i ∧ a.ns = b.ns)) (fun i => a.rs.length - i) 0 ⟨Nat.zero_le _, hab⟩ ?_ ?_
    · refine Next.weakS [2, 3] [] (by rfl) (by first | exact keeps0 hC _ | exact keepsN hC _ rfl) (by repeat (first | exact trivial | refine ⟨⟨_, rfl, .inl ⟨rfl, rfl⟩⟩, ?_⟩ | refine ⟨⟨_, rfl, .inl ⟨slEq rfl tN, rfl⟩⟩, ?_⟩ | refine ⟨⟨_, rfl, .inl ⟨ivEq tX, rfl⟩⟩, ?_⟩)) (by repeat (first | exact trivial | refine ⟨ent_same rfl rfl rfl tL, ?_⟩ | refine ⟨ent_same rfl rfl (rfEq rfl tU) tL, ?_⟩ | refine ⟨ent_same rfl rfl (flEq rfl (by first | (simp; done) | (simp; omega) | (simp [encA, encH, encL, encU, encK, encV, encR]; done) | simp [maxC, minC])) trivial, ?_⟩)) rfl (rel_intro)
    · intro i ⟨hi, ho⟩ K hK
      refine nK ?_
      refine s_reg rfl ?_
      refine Run.pure (dd := some 31) rfl rfl (op_move rfl (Opd.tmp _ _ rfl)) ?_
      refine Run.pure (dd := some 32) rfl rfl (op_fld_ptr (by decide) rfl (Opd.tmp _ _ rfl)) ?_
      refine Run.load (dd := some 33) rfl rfl (op_load1_flat rfl (Opd.tmp _ _ rfl) tH rfl) ?_
      refine Run.pure (dd := some 34) rfl rfl (op_len_fz rfl (by first | exact Opd.tmp _ _ rfl | exact Opd.nil _ _ (Opd.tmp _ _ rfl)) (by first | exact List.length_map _ | rfl)) ?_
      refine Run.pure (dd := some 35) rfl rfl (op_lss rfl (Opd.tmp _ _ rfl) (Opd.tmp _ _ rfl)) ?_
      refine Run.nil (FinR.mk ?_)
      refine nK ?_
      refine n_cond _ rfl (fun hb => ?_) (fun hb => ?_)
      · have hlt : i < a.rs.length := by simp at hb; omega
        have hlt2 : i < b.rs.length := by omega
        rw [same_step hlt hlt2] at ho
        have hr1 := row_at' encU a.rs i hlt
        have hr2 := row_at' encU b.rs i hlt2
        have hK1 := fun h => hK (i + 1) ⟨by omega, h⟩ (by omega)
        generalize a.rs[i] = x at *
        generalize b.rs[i] = y at *
        refine nK ?_
        refine s_draw mixed ?_
        refine Run.pure (dd := some 38) rfl rfl (op_fld_ptr (by decide) rfl (Opd.tmp _ _ rfl)) ?_
        refine Run.load (dd := some 39) rfl rfl (op_load1_flat rfl (Opd.tmp _ _ rfl) tH rfl) ?_
        refine Run.pure (dd := some 40) rfl rfl (op_move rfl (Opd.tmp _ _ rfl)) ?_
        refine Run.pure (dd := some 41) rfl rfl (op_idx_fz _ rfl (Opd.tmp _ _ rfl) (Opd.tmp _ _ rfl) tF) ?_
        refine Run.pure (dd := some 42) rfl rfl (op_load1_fz rfl (Opd.tmp _ _ rfl) rfl) ?_
        refine Run.pure (dd := some 43) rfl rfl (op_fld_ptr (by decide) rfl (Opd.tmp _ _ rfl)) ?_
        refine Run.load (dd := some 44) rfl rfl (op_load1_flat rfl (Opd.tmp _ _ rfl) tH rfl) ?_
        refine Run.pure (dd := some 45) rfl rfl (op_move rfl (Opd.tmp _ _ rfl)) ?_
        refine Run.pure (dd := some 46) rfl rfl (op_idx_fz _ rfl (Opd.tmp _ _ rfl) (Opd.tmp _ _ rfl) tF) ?_
        refine Run.pure (dd := some 47) rfl rfl (op_load1_fz rfl (Opd.tmp _ _ rfl) rfl) ?_
        refine Run.pure (dd := some 48) rfl rfl (op_neq rfl (Opd.tmp _ _ rfl) (Opd.tmp _ _ rfl)) ?_
        refine Run.nil (FinD.mk (by kernel_rfl) ?_)
        refine nK ?_
        refine n_cond _ rfl (fun hb => ?_) (fun hb => ?_)
        · have e : decide (a = b) = false := by
            rw [decide_eq_false_iff_not, ho]; simp at hb; exact fun h => hb h.1.1
          rw [e]
          refine nK ?_
          refine s_reg rfl ?_
          refine Run.pure (dd := some 4) rfl rfl (op_assign rfl (Opd.const _)) ?_
          refine Run.nil (FinR.mk ?_)
          refine nK ?_
          (first | exact s_o1 hC rfl tV | exact s_o2 hC rfl tV tV | exact s_o3 hC rfl tV tV tV | exact s_o4 hC rfl tV tV tV tV | exact s_out0 hC rfl | exact s_outO hC rfl rfl rfl)
        · refine nK ?_
          refine s_reg rfl ?_
          refine Run.pure (dd := some 36) rfl rfl (op_move rfl (Opd.tmp _ _ rfl)) ?_
          refine Run.pure (dd := some 37) rfl rfl (op_add rfl (Opd.tmp _ _ rfl) (Opd.const _) tI) ?_
          refine Run.pure (dd := some 5) rfl rfl (op_assign rfl (Opd.tmp _ _ rfl)) ?_
          refine Run.nil (FinR.mk ?_)
          refine nK ?_
          refine Next.weakS [2, 3] [] (by rfl) (by first | exact keeps0 hC _ | exact keepsN hC _ rfl) (by repeat (first | exact trivial | refine ⟨⟨_, rfl, .inl ⟨rfl, rfl⟩⟩, ?_⟩ | refine ⟨⟨_, rfl, .inl ⟨slEq rfl tN, rfl⟩⟩, ?_⟩ | refine ⟨⟨_, rfl, .inl ⟨ivEq tX, rfl⟩⟩, ?_⟩)) (by repeat (first | exact trivial | refine ⟨ent_same rfl rfl rfl tL, ?_⟩ | refine ⟨ent_same rfl rfl (rfEq rfl tU) tL, ?_⟩ | refine ⟨ent_same rfl rfl (flEq rfl (by first | (simp; done) | (simp; omega) | (simp [encA, encH, encL, encU, encK, encV, encR]; done) | simp [maxC, minC])) trivial, ?_⟩)) rfl ((hK1 (ho.trans ⟨fun h => ⟨h.1.2, h.2⟩, fun h => ⟨⟨by simpa using hb, h.1⟩, h.2⟩⟩)))
      · have hie : i = a.rs.length := by simp at hb; omega
        have ho2 : a = b ↔ a.ns = b.ns := by
          rw [ho, hie, List.drop_length, hl1, List.drop_length]; simp
        refine nK ?_
        refine s_reg rfl ?_
        refine Run.pure (dd := some 6) rfl rfl (op_assign rfl (Opd.const _)) ?_
        refine Run.nil (FinR.mk ?_)
        refine nK ?_
        refine n_loop (ι := Nat) (fun i => ([(2, .ptr 0 5 0 0), (3, .ptr 1 5 0 0), (6, IV .i64 i)], [(0, OR a), (1, OR b)], 2)) (fun i => i ≤ a.ns.length ∧ (a = b ↔ a.ns.drop i = b.ns.drop i)) (fun i => a.ns.length - i) 0 ⟨Nat.zero_le _, ho2⟩ ?_ ?_
        · refine Next.weakS [2, 3] [] (by rfl) (by first | exact keeps0 hC _ | exact keepsN hC _ rfl) (by repeat (first | exact trivial | refine ⟨⟨_, rfl, .inl ⟨rfl, rfl⟩⟩, ?_⟩ | refine ⟨⟨_, rfl, .inl ⟨slEq rfl tN, rfl⟩⟩, ?_⟩ | refine ⟨⟨_, rfl, .inl ⟨ivEq tX, rfl⟩⟩, ?_⟩)) (by repeat (first | exact trivial | refine ⟨ent_same rfl rfl rfl tL, ?_⟩ | refine ⟨ent_same rfl rfl (rfEq rfl tU) tL, ?_⟩ | refine ⟨ent_same rfl rfl (flEq rfl (by first | (simp; done) | (simp; omega) | (simp [encA, encH, encL, encU, encK, encV, encR]; done) | simp [maxC, minC])) trivial, ?_⟩)) rfl (rel_intro)
        · intro i ⟨hi, ho⟩ K hK
          refine nK ?_
          refine s_reg rfl ?_
          refine Run.pure (dd := some 49) rfl rfl (op_move rfl (Opd.tmp _ _ rfl)) ?_
          refine Run.pure (dd := some 50) rfl rfl (op_fld_ptr (by decide) rfl (Opd.tmp _ _ rfl)) ?_
          refine Run.load (dd := some 51) rfl rfl (op_load1_flat rfl (Opd.tmp _ _ rfl) tH rfl) ?_
          refine Run.pure (dd := some 52) rfl rfl (op_len_fz rfl (by first | exact Opd.tmp _ _ rfl | exact Opd.nil _ _ (Opd.tmp _ _ rfl)) (by first | exact List.length_map _ | rfl)) ?_
          refine Run.pure (dd := some 53) rfl rfl (op_lss rfl (Opd.tmp _ _ rfl) (Opd.tmp _ _ rfl)) ?_
          refine Run.nil (FinR.mk ?_)
          refine nK ?_
          refine n_cond _ rfl (fun hb => ?_) (fun hb => ?_)
          · have hlt : i < a.ns.length := by simp at hb; omega
            have hlt2 : i < b.ns.length := by omega
            rw [same_step hlt hlt2] at ho
            have hr1 := row_at' encV a.ns i hlt
            have hr2 := row_at' encV b.ns i hlt2
            have hK1 := fun h => hK (i + 1) ⟨by omega, h⟩ (by omega)
            generalize a.ns[i] = x at *
            generalize b.ns[i] = y at *
            refine nK ?_
            refine s_draw mixed ?_
            refine Run.pure (dd := some 56) rfl rfl (op_fld_ptr (by decide) rfl (Opd.tmp _ _ rfl)) ?_
            refine Run.load (dd := some 57) rfl rfl (op_load1_flat rfl (Opd.tmp _ _ rfl) tH rfl) ?_
            refine Run.pure (dd := some 58) rfl rfl (op_move rfl (Opd.tmp _ _ rfl)) ?_
            refine Run.pure (dd := some 59) rfl rfl (op_idx_fz _ rfl (Opd.tmp _ _ rfl) (Opd.tmp _ _ rfl) tF) ?_
            refine Run.pure (dd := some 60) rfl rfl (op_loadw_fz rfl (Opd.tmp _ _ rfl) rfl) ?_
            refine Run.pure (dd := some 61) rfl rfl (op_fld_ptr (by decide) rfl (Opd.tmp _ _ rfl)) ?_
            refine Run.load (dd := some 62) rfl rfl (op_load1_flat rfl (Opd.tmp _ _ rfl) tH rfl) ?_
            refine Run.pure (dd := some 63) rfl rfl (op_move rfl (Opd.tmp _ _ rfl)) ?_
            refine Run.pure (dd := some 64) rfl rfl (op_idx_fz _ rfl (Opd.tmp _ _ rfl) (Opd.tmp _ _ rfl) tF) ?_
            refine Run.pure (dd := some 65) rfl rfl (op_loadw_fz rfl (Opd.tmp _ _ rfl) rfl) ?_
            refine Run.pure (dd := some 66) rfl rfl (op_neS rfl (Opd.tmp _ _ rfl) (Opd.tmp _ _ rfl) (by kernel_rfl)) ?_
            refine Run.nil (FinD.mk (by kernel_rfl) ?_)
            refine nK ?_
            refine n_cond _ rfl (fun hb => ?_) (fun hb => ?_)
            · have e : decide (a = b) = false := by
                rw [decide_eq_false_iff_not, ho]; rw [eqFs_encV] at hb; simp at hb; exact fun h => hb h.1
              rw [e]
              refine nK ?_
              refine s_reg rfl ?_
              refine Run.pure (dd := some 4) rfl rfl (op_assign rfl (Opd.const _)) ?_
              refine Run.nil (FinR.mk ?_)
              refine nK ?_
              (first | exact s_o1 hC rfl tV | exact s_o2 hC rfl tV tV | exact s_o3 hC rfl tV tV tV | exact s_o4 hC rfl tV tV tV tV | exact s_out0 hC rfl | exact s_outO hC rfl rfl rfl)
            · rw [eqFs_encV] at hb
              refine nK ?_
              refine s_reg rfl ?_
              refine Run.pure (dd := some 54) rfl rfl (op_move rfl (Opd.tmp _ _ rfl)) ?_
              refine Run.pure (dd := some 55) rfl rfl (op_add rfl (Opd.tmp _ _ rfl) (Opd.const _) tI) ?_
              refine Run.pure (dd := some 6) rfl rfl (op_assign rfl (Opd.tmp _ _ rfl)) ?_
              refine Run.nil (FinR.mk ?_)
              refine nK ?_
              refine Next.weakS [2, 3] [] (by rfl) (by first | exact keeps0 hC _ | exact keepsN hC _ rfl) (by repeat (first | exact trivial | refine ⟨⟨_, rfl, .inl ⟨rfl, rfl⟩⟩, ?_⟩ | refine ⟨⟨_, rfl, .inl ⟨slEq rfl tN, rfl⟩⟩, ?_⟩ | refine ⟨⟨_, rfl, .inl ⟨ivEq tX, rfl⟩⟩, ?_⟩)) (by repeat (first | exact trivial | refine ⟨ent_same rfl rfl rfl tL, ?_⟩ | refine ⟨ent_same rfl rfl (rfEq rfl tU) tL, ?_⟩ | refine ⟨ent_same rfl rfl (flEq rfl (by first | (simp; done) | (simp; omega) | (simp [encA, encH, encL, encU, encK, encV, encR]; done) | simp [maxC, minC])) trivial, ?_⟩)) rfl ((hK1 (ho.trans ⟨fun h => h.2, fun h => ⟨by simpa using hb, h⟩⟩)))
          · have hie : i = a.ns.length := by simp at hb; omega
            have e : decide (a = b) = true := by
              rw [decide_eq_true_iff, ho, hie, List.drop_length, hl2, List.drop_length]
            rw [e]
            refine nK ?_
            refine s_reg rfl ?_
            refine Run.pure (dd := some 4) rfl rfl (op_assign rfl (Opd.const _)) ?_
            refine Run.nil (FinR.mk ?_)
            refine nK ?_
            (first | exact s_o1 hC rfl tV | exact s_o2 hC rfl tV tV | exact s_o3 hC rfl tV tV tV | exact s_o4 hC rfl tV tV tV tV | exact s_out0 hC rfl | exact s_outO hC rfl rfl rfl)
end Go.Proofs.Ytdhkioocjgpocaa
/- Elements that a test holds for are dropped. -/
namespace Go.Pl
set_option linter.all false
def keepL {α : Type} (p : α → Bool) (l : List α) : List α := l.filter fun x => !p x
def idxAt {α : Type} (p : α → Bool) : Nat → List α → Int
  | _, [] => -1
  | k, x :: l => bif p x then (k : Int) else idxAt p (k + 1) l
theorem idxAt_spec {α : Type} (p : α → Bool) : ∀ (l : List α) (k : Nat), (idxAt p k l = -1 ∧ keepL p l = l) ∨ ∃ j : Nat, ∃ h : j < l.length, idxAt p k l = ((k + j : Nat) : Int) ∧ p l[j] = true ∧ keepL p (l.take j) = l.take j
  | [], k => .inl ⟨rfl, rfl⟩
  | x :: l, k => by
    cases hx : p x with
    | true => exact .inr ⟨0, by simp, by simp [idxAt, hx], by simpa using hx, by simp [keepL]⟩
    | false =>
      have e : idxAt p k (x :: l) = idxAt p (k + 1) l := by simp [idxAt, hx]
      rw [e]
      rcases idxAt_spec p l (k + 1) with ⟨h1, h2⟩ | ⟨j, hj, h1, h2, h3⟩
      · refine .inl ⟨h1, ?_⟩
        unfold keepL at *; simp [hx, h2]
      · refine .inr ⟨j + 1, by simpa using hj, by rw [h1]; omega, by simpa using h2, ?_⟩
        unfold keepL at *; simp [hx, h3]
theorem keep_len {α : Type} (p : α → Bool) (l : List α) : (keepL p l).length ≤ l.length := List.length_filter_le _ _
theorem keep_take {α : Type} (p : α → Bool) (l : List α) (n : Nat) (h : n < l.length) : keepL p (l.take (n + 1)) = keepL p (l.take n) ++ bif p l[n] then [] else [l[n]] := by
  unfold keepL
  rw [List.take_succ_eq_append_getElem h, List.filter_append]
  congr 1
  cases hp : p l[n] <;> simp [hp]
theorem keep_len_lt {α : Type} (p : α → Bool) (l : List α) (j : Nat) (h : j < l.length) (hp : p l[j] = true) (n : Nat) (hn : j < n) (hnl : n ≤ l.length) : (keepL p (l.take n)).length < n := by
  obtain ⟨d, rfl⟩ : ∃ d, n = j + 1 + d := ⟨n - (j + 1), by omega⟩
  clear hn
  induction d with
  | zero =>
    rw [Nat.add_zero, keep_take p l j h, hp, cond_true, List.append_nil]
    have := keep_len p (l.take j)
    simp at this; omega
  | succ d ih =>
    have := ih (by omega)
    rw [← Nat.add_assoc, keep_take p l (j + 1 + d) (by omega), List.length_append]
    cases p l[j + 1 + d] <;> simp <;> omega
end Go.Pl
namespace Go.Proofs.Ytdhkioocjgpocaa
open Go Go.RT Go.Proofs Go.Pl
set_option linter.all false
set_option maxRecDepth 20000
abbrev OLk (l : List Lnk) : Option Ob := some (.flat 4 (l.map encL))
theorem indexL_c (l : List Lnk) (hn : l.length ≤ 40000000) (gf : Nat) [FnB Try.prog gf] (caps : List FV) (p : Lnk → Bool) (hp : ∀ x, Pure Try.prog gf ([.agg (encL x)] ++ caps) (Bf (p x))) : Pure Try.prog 74 [VL l, .clo gf caps] (If .i64 (idxAt p 0 l)) := by
  refine Meets.intro Try.func74 rfl (Nat.le_of_ble_eq_true rfl) fun C hC => ?_
  simp only [List.map, argEnv, Nat.reduceAdd]
  refine nK ?_
  refine s_reg rfl ?_
  refine Run.pure (dd := some 4) rfl rfl (op_assign rfl (Opd.const _)) ?_
  refine Run.nil (FinR.mk ?_)
  refine nK ?_
  refine s_reg rfl ?_
  refine Run.pure (dd := some 6) rfl rfl (op_move rfl (Opd.tmp _ _ rfl)) ?_
  refine Run.pure (dd := some 7) rfl rfl (op_len_fz rfl (by first | exact Opd.tmp _ _ rfl | exact Opd.nil _ _ (Opd.tmp _ _ rfl)) (by first | exact List.length_map _ | rfl)) ?_
  refine Run.pure (dd := some 8) rfl rfl (op_move rfl (Opd.const _)) ?_
  refine Run.nil (FinR.mk ?_)
  refine nK ?_
  refine n_loop (ι := Nat) (fun i => ([(0, .fz (VL l)), (1, .fz (.clo gf caps)), (7, IV .i64 l.length), (8, IV .i64 i)], [], 0)) (fun i => i ≤ l.length ∧ idxAt p i (l.drop i) = idxAt p 0 l) (fun i => l.length - i) 0 ⟨Nat.zero_le _, rfl⟩ ?_ ?_
  · refine Next.weak [] [] (by rfl) (keeps0 hC _) (by repeat (first | exact trivial | refine ⟨⟨_, rfl, .inl ⟨rfl, rfl⟩⟩, ?_⟩)) (by repeat (first | exact trivial | refine ⟨ent_same rfl rfl rfl tL, ?_⟩ | refine ⟨ent_same rfl rfl (rfEq rfl tU) tL, ?_⟩ | refine ⟨ent_same rfl rfl (flEq rfl (by first | (simp; done) | (simp; omega) | (simp [encA, encH, encL, encU, encK, encV, encR]; done) | simp [maxC, minC])) trivial, ?_⟩)) (fun _ h => by simp at h) rel_intro
  · intro i ⟨hi, ho⟩ K hK
    refine nK ?_
    refine s_reg rfl ?_
    refine Run.pure (dd := some 9) rfl rfl (op_lss rfl (Opd.tmp _ _ rfl) (Opd.tmp _ _ rfl)) ?_
    refine Run.nil (FinR.mk ?_)
    refine nK ?_
    refine n_cond _ rfl (fun hb => ?_) (fun hb => ?_)
    · have hlt : i < l.length := by simp at hb; omega
      have hr1 := row_at' encL l i hlt
      rw [List.drop_eq_getElem_cons hlt] at ho
      simp only [idxAt] at ho
      have hK1 := fun h => hK (i + 1) ⟨by omega, h⟩ (by omega)
      generalize l[i] = e at *
      refine nK ?_
      refine s_reg rfl ?_
      refine Run.pure (dd := some 10) rfl rfl (op_move rfl (Opd.tmp _ _ rfl)) ?_
      refine Run.pure (dd := some 5) rfl rfl (op_assign rfl (Opd.tmp _ _ rfl)) ?_
      refine Run.nil (FinR.mk ?_)
      refine nK ?_
      refine s_reg rfl ?_
      refine Run.pure (dd := some 11) rfl rfl (op_move rfl (Opd.tmp _ _ rfl)) ?_
      refine Run.pure (dd := some 12) rfl rfl (op_move rfl (Opd.tmp _ _ rfl)) ?_
      refine Run.pure (dd := some 13) rfl rfl (op_move rfl (Opd.tmp _ _ rfl)) ?_
      refine Run.pure (dd := some 14) rfl rfl (op_idx_fz _ rfl (Opd.tmp _ _ rfl) (Opd.tmp _ _ rfl) tF) ?_
      refine Run.pure (dd := some 15) rfl rfl (op_loadw_fz rfl (Opd.tmp _ _ rfl) rfl) ?_
      refine Run.pure (dd := some 16) rfl rfl (op_call_pureC (fun _ => hp e) rfl (Opd.tmp _ _ rfl) (Opds.cons _ _ _ _ (Opd.tmp _ _ rfl) Opds.nil)) ?_
      refine Run.nil (FinR.mk ?_)
      refine nK ?_
      refine n_cond _ rfl (fun hb => ?_) (fun hb => ?_)
      · rw [hb, cond_true] at ho
        rw [← ho]
        refine nK ?_
        refine s_reg rfl ?_
        refine Run.pure (dd := some 17) rfl rfl (op_move rfl (Opd.tmp _ _ rfl)) ?_
        refine Run.pure (dd := some 4) rfl rfl (op_assign rfl (Opd.tmp _ _ rfl)) ?_
        refine Run.nil (FinR.mk ?_)
        refine nK ?_
        (first | exact s_o1 hC rfl tV | exact s_o2 hC rfl tV tV | exact s_o3 hC rfl tV tV tV | exact s_o4 hC rfl tV tV tV tV | exact s_out0 hC rfl | exact s_outO hC rfl rfl rfl)
      · rw [hb, cond_false] at ho
        refine nK ?_
        refine s_reg rfl ?_
        refine Run.pure (dd := some 18) rfl rfl (op_add rfl (Opd.tmp _ _ rfl) (Opd.const _) tI) ?_
        refine Run.pure (dd := some 8) rfl rfl (op_move rfl (Opd.tmp _ _ rfl)) ?_
        refine Run.nil (FinR.mk ?_)
        refine nK ?_
        refine Next.weak [] [] (by rfl) (keeps0 hC _) (by repeat (first | exact trivial | refine ⟨⟨_, rfl, .inl ⟨rfl, rfl⟩⟩, ?_⟩)) (by repeat (first | exact trivial | refine ⟨ent_same rfl rfl rfl tL, ?_⟩ | refine ⟨ent_same rfl rfl (rfEq rfl tU) tL, ?_⟩ | refine ⟨ent_same rfl rfl (flEq rfl (by first | (simp; done) | (simp; omega) | (simp [encA, encH, encL, encU, encK, encV, encR]; done) | simp [maxC, minC])) trivial, ?_⟩)) (fun _ h => by simp at h) (hK1 ho)
    · have hie : i = l.length := by simp at hb; omega
      rw [hie, List.drop_length] at ho
      rw [← ho]
      refine nK ?_
      refine s_reg rfl ?_
      refine Run.pure (dd := some 4) rfl rfl (op_assign rfl (Opd.const _)) ?_
      refine Run.nil (FinR.mk ?_)
      refine nK ?_
      (first | exact s_o1 hC rfl tV | exact s_o2 hC rfl tV tV | exact s_o3 hC rfl tV tV tV | exact s_o4 hC rfl tV tV tV tV | exact s_out0 hC rfl | exact s_outO hC rfl rfl rfl)
theorem deleteL_c (l : List Lnk) (hn : l.length ≤ 40000000) (gf : Nat) [FnB Try.prog gf] (caps : List FV) (p : Lnk → Bool) (hp : ∀ x, Pure Try.prog gf ([.agg (encL x)] ++ caps) (Bf (p x))) : Meets Try.prog 47 [.sl 0 4 0 l.length, .fz (.clo gf caps)] 1 [(0, OLk l)] (.fz (VL (keepL p l))) [] 1 := by
  have hix := indexL_c l hn gf caps p hp
  refine Meets.intro Try.func47 rfl (Nat.le_of_ble_eq_true rfl) fun C hC => ?_
  simp only [List.map, argEnv, Nat.reduceAdd]
  refine nK ?_
  refine s_reg rfl ?_
  refine Run.pure (dd := some 4) rfl rfl (op_assign rfl (Opd.const _)) ?_
  refine Run.nil (FinR.mk ?_)
  refine nK ?_
  refine s_reg rfl ?_
  refine Run.pure (dd := some 8) rfl rfl (op_move rfl (Opd.tmp _ _ rfl)) ?_
  refine Run.pure (dd := some 9) rfl rfl (op_move rfl (Opd.tmp _ _ rfl)) ?_
  refine Run.load (dd := some 10) rfl rfl (op_call_lend [0] (fun _ => hix) rfl (Opd.func _) (Opds.cons _ _ _ _ (Opd.tmp _ _ rfl) (Opds.cons _ _ _ _ (Opd.tmp _ _ rfl) Opds.nil)) (by exact .cons _ _ _ _ tW (.cons _ _ _ _ tW .nil)) rfl rfl) ?_
  refine Run.pure (dd := some 5) rfl rfl (op_assign rfl (Opd.tmp _ _ rfl)) ?_
  refine Run.nil (FinR.mk ?_)
  refine nK ?_
  refine s_reg rfl ?_
  refine Run.pure (dd := some 11) rfl rfl (op_move rfl (Opd.tmp _ _ rfl)) ?_
  refine Run.pure (dd := some 12) rfl rfl (op_eql rfl (Opd.tmp _ _ rfl) (Opd.const _)) ?_
  refine Run.nil (FinR.mk ?_)
  refine nK ?_
  rcases idxAt_spec p l 0 with ⟨h1, h2⟩ | ⟨j, hj, h1, h2, h3⟩
  · rw [h1, h2]
    refine nK ?_
    refine n_cond _ rfl (fun hb => ?_) (fun hb => ?_)
    · refine nK ?_
      refine s_reg rfl ?_
      refine Run.pure (dd := some 13) rfl rfl (op_move rfl (Opd.tmp _ _ rfl)) ?_
      refine Run.pure (dd := some 4) rfl rfl (op_assign rfl (Opd.tmp _ _ rfl)) ?_
      refine Run.nil (FinR.mk ?_)
      refine nK ?_
      refine Next.weakS [4] [4] (by rfl) (keepsN hC _ rfl) (G' := [(4, .fz (VL l))]) (H' := []) (by repeat (first | exact trivial | refine ⟨⟨_, rfl, .inl ⟨rfl, rfl⟩⟩, ?_⟩ | refine ⟨⟨_, rfl, .inl ⟨slEq rfl tN, rfl⟩⟩, ?_⟩ | refine ⟨⟨_, rfl, .inl ⟨ivEq tX, rfl⟩⟩, ?_⟩ | refine ⟨⟨_, rfl, .inr ⟨_, rfl, tW⟩⟩, ?_⟩)) trivial rfl ?_
      exact n_out1 rfl (by rfl) rfl rfl
    · simp at hb
  · rw [h1, Nat.zero_add]
    refine nK ?_
    refine n_cond _ rfl (fun hb => ?_) (fun hb => ?_)
    · simp at hb
    · have hst := keep_take p l j hj
      rw [h2, cond_true, List.append_nil, h3] at hst
      refine nK ?_
      refine s_reg rfl ?_
      refine Run.pure (dd := some 14) rfl rfl (op_move rfl (Opd.tmp _ _ rfl)) ?_
      refine Run.pure (dd := some 15) rfl rfl (op_add rfl (Opd.tmp _ _ rfl) (Opd.const _) tI) ?_
      refine Run.pure (dd := some 6) rfl rfl (op_assign rfl (Opd.tmp _ _ rfl)) ?_
      refine Run.nil (FinR.mk ?_)
      refine nK ?_
      refine n_loop (ι := Nat × List Lnk) (fun g => ([(0, .sl 0 4 0 l.length), (1, .fz (.clo gf caps)), (5, IV .i64 g.2.length), (6, IV .i64 g.1)], [(0, OLk (g.2 ++ l.drop g.2.length))], 1)) (fun g => j < g.1 ∧ g.1 ≤ l.length ∧ g.2 = keepL p (l.take g.1)) (fun g => l.length - g.1) (j + 1, l.take j) ⟨by dsimp only; omega, by dsimp only; omega, hst.symm⟩ ?_ ?_
      · have e1 : (l.take j).length = j := by simp; omega
        simp only [e1, List.take_append_drop]
        refine Next.weakS [0] [] (by rfl) (by first | exact keeps0 hC _ | exact keepsN hC _ rfl) (by repeat (first | exact trivial | refine ⟨⟨_, rfl, .inl ⟨rfl, rfl⟩⟩, ?_⟩ | refine ⟨⟨_, rfl, .inl ⟨slEq rfl tN, rfl⟩⟩, ?_⟩ | refine ⟨⟨_, rfl, .inl ⟨ivEq tX, rfl⟩⟩, ?_⟩)) (by repeat (first | exact trivial | refine ⟨ent_same rfl rfl rfl tL, ?_⟩ | refine ⟨ent_same rfl rfl (rfEq rfl tU) tL, ?_⟩ | refine ⟨ent_same rfl rfl (flEq rfl (by first | (simp; done) | (simp; omega) | (simp [encA, encH, encL, encU, encK, encV, encR]; done) | simp [maxC, minC])) trivial, ?_⟩)) rfl (rel_intro)
      · intro ⟨i, c⟩ ⟨hi1, hi2, hcd⟩ K hK
        dsimp only at hi1 hi2 hcd ⊢
        have hcl := keep_len_lt p l j hj h2 i hi1 hi2
        rw [← hcd] at hcl
        have hkl := kept_len c l (by omega)
        refine nK ?_
        refine s_reg rfl ?_
        refine Run.pure (dd := some 16) rfl rfl (op_move rfl (Opd.tmp _ _ rfl)) ?_
        refine Run.pure (dd := some 17) rfl rfl (op_move rfl (Opd.tmp _ _ rfl)) ?_
        refine Run.pure (dd := some 18) rfl rfl (op_len_sl rfl (Opd.tmp _ _ rfl)) ?_
        refine Run.pure (dd := some 19) rfl rfl (op_lss rfl (Opd.tmp _ _ rfl) (Opd.tmp _ _ rfl)) ?_
        refine Run.nil (FinR.mk ?_)
        refine nK ?_
        refine n_cond _ rfl (fun hb => ?_) (fun hb => ?_)
        · have hlt : i < l.length := by simp at hb; omega
          have hst2 := keep_take p l i hlt
          rw [← hcd] at hst2
          have hK3 := fun c' h => hK (i + 1, c') ⟨by dsimp only; omega, by dsimp only; omega, h⟩ (by dsimp only; omega)
          have g1 := kept_row encL c l i (by omega) hlt
          have g3 := kept_row encL c l c.length (Nat.le_refl _) (by omega)
          have hset := set_kept c l l[i] (by omega)
          generalize l[i] = x at *
          refine nK ?_
          refine s_reg rfl ?_
          refine Run.pure (dd := some 22) rfl rfl (op_move rfl (Opd.tmp _ _ rfl)) ?_
          refine Run.pure (dd := some 23) rfl rfl (op_move rfl (Opd.tmp _ _ rfl)) ?_
          refine Run.pure (dd := some 24) rfl rfl (op_idx_sl0 _ rfl (Opd.tmp _ _ rfl) (Opd.tmp _ _ rfl) tD) ?_
          refine Run.load (dd := some 25) rfl rfl (op_loadw_flat rfl (Opd.tmp _ _ rfl) tH rfl) ?_
          refine Run.eff (dd := some 7) rfl rfl (op_alloc rfl rfl rfl rfl) ?_
          refine Run.eff (dd := none) rfl rfl (op_store_flat rfl (Opd.tmp _ _ rfl) (Opd.tmp _ _ rfl) tC rfl rfl (by first | rfl | assumption) tS) ?_
          refine Run.nil (FinR.mk ?_)
          refine nK ?_
          refine s_reg rfl ?_
          refine Run.pure (dd := some 26) rfl rfl (op_move rfl (Opd.tmp _ _ rfl)) ?_
          refine Run.load (dd := some 27) rfl rfl (op_loadw_flat rfl (Opd.tmp _ _ rfl) tH rfl) ?_
          refine Run.pure (dd := some 28) rfl rfl (op_call_pureC (fun _ => hp x) rfl (Opd.tmp _ _ rfl) (Opds.cons _ _ _ _ (Opd.tmp _ _ rfl) Opds.nil)) ?_
          refine Run.pure (dd := some 29) rfl rfl (op_not rfl (Opd.tmp _ _ rfl)) ?_
          refine Run.nil (FinR.mk ?_)
          refine nK ?_
          refine n_cond _ rfl (fun hb => ?_) (fun hb => ?_)
          · have hne : p x = false := by simpa using hb
            rw [hne, cond_false] at hst2
            have hK4 := hK3 (c ++ [x]) hst2.symm
            have e4 : (c ++ [x]).length = c.length + 1 := by simp
            rw [← hset, e4] at hK4
            refine nK ?_
            refine s_reg rfl ?_
            refine Run.pure (dd := some 30) rfl rfl (op_move rfl (Opd.tmp _ _ rfl)) ?_
            refine Run.pure (dd := some 31) rfl rfl (op_move rfl (Opd.tmp _ _ rfl)) ?_
            refine Run.load (dd := some 32) rfl rfl (op_loadw_flat rfl (Opd.tmp _ _ rfl) tH rfl) ?_
            refine Run.pure (dd := some 33) rfl rfl (op_idx_sl0 c.length rfl (Opd.tmp _ _ rfl) (Opd.tmp _ _ rfl) (by intro _; constructor <;> omega)) ?_
            refine Run.eff (dd := none) rfl rfl (op_store_flat rfl (Opd.tmp _ _ rfl) (Opd.tmp _ _ rfl) tC rfl rfl g3 tS) ?_
            refine Run.nil (FinR.mk ?_)
            refine nK ?_
            refine s_reg rfl ?_
            refine Run.pure (dd := some 34) rfl rfl (op_move rfl (Opd.tmp _ _ rfl)) ?_
            refine Run.pure (dd := some 35) rfl rfl (op_add rfl (Opd.tmp _ _ rfl) (Opd.const _) tI) ?_
            refine Run.pure (dd := some 5) rfl rfl (op_assign rfl (Opd.tmp _ _ rfl)) ?_
            refine Run.nil (FinR.mk ?_)
            refine nK ?_
            refine s_reg rfl ?_
            refine Run.pure (dd := some 20) rfl rfl (op_move rfl (Opd.tmp _ _ rfl)) ?_
            refine Run.pure (dd := some 21) rfl rfl (op_add rfl (Opd.tmp _ _ rfl) (Opd.const _) tI) ?_
            refine Run.pure (dd := some 6) rfl rfl (op_assign rfl (Opd.tmp _ _ rfl)) ?_
            refine Run.nil (FinR.mk ?_)
            refine nK ?_
            refine Next.weakS [0] [] (by rfl) (by first | exact keeps0 hC _ | exact keepsN hC _ rfl) (by repeat (first | exact trivial | refine ⟨⟨_, rfl, .inl ⟨rfl, rfl⟩⟩, ?_⟩ | refine ⟨⟨_, rfl, .inl ⟨slEq rfl tN, rfl⟩⟩, ?_⟩ | refine ⟨⟨_, rfl, .inl ⟨ivEq tX, rfl⟩⟩, ?_⟩)) (by repeat (first | exact trivial | refine ⟨ent_same rfl rfl rfl tL, ?_⟩ | refine ⟨ent_same rfl rfl (rfEq rfl tU) tL, ?_⟩ | refine ⟨ent_same rfl rfl (flEq rfl (by first | (simp; done) | (simp; omega) | (simp [encA, encH, encL, encU, encK, encV, encR]; done) | simp [maxC, minC])) trivial, ?_⟩)) rfl (hK4)
          · have hne : p x = true := by simpa using hb
            rw [hne, cond_true, List.append_nil] at hst2
            refine nK ?_
            refine s_reg rfl ?_
            refine Run.pure (dd := some 20) rfl rfl (op_move rfl (Opd.tmp _ _ rfl)) ?_
            refine Run.pure (dd := some 21) rfl rfl (op_add rfl (Opd.tmp _ _ rfl) (Opd.const _) tI) ?_
            refine Run.pure (dd := some 6) rfl rfl (op_assign rfl (Opd.tmp _ _ rfl)) ?_
            refine Run.nil (FinR.mk ?_)
            refine nK ?_
            refine Next.weakS [0] [] (by rfl) (by first | exact keeps0 hC _ | exact keepsN hC _ rfl) (by repeat (first | exact trivial | refine ⟨⟨_, rfl, .inl ⟨rfl, rfl⟩⟩, ?_⟩ | refine ⟨⟨_, rfl, .inl ⟨slEq rfl tN, rfl⟩⟩, ?_⟩ | refine ⟨⟨_, rfl, .inl ⟨ivEq tX, rfl⟩⟩, ?_⟩)) (by repeat (first | exact trivial | refine ⟨ent_same rfl rfl rfl tL, ?_⟩ | refine ⟨ent_same rfl rfl (rfEq rfl tU) tL, ?_⟩ | refine ⟨ent_same rfl rfl (flEq rfl (by first | (simp; done) | (simp; omega) | (simp [encA, encH, encL, encU, encK, encV, encR]; done) | simp [maxC, minC])) trivial, ?_⟩)) rfl ((hK3 c hst2.symm))
        · have hie : i = l.length := by simp at hb; omega
          rw [hie, List.take_length] at hcd
          rw [← hcd]
          refine nK ?_
          refine s_reg rfl ?_
          refine Run.pure (dd := some 36) rfl rfl (op_move rfl (Opd.tmp _ _ rfl)) ?_
          refine Run.pure (dd := some 37) rfl rfl (op_move rfl (Opd.tmp _ _ rfl)) ?_
          refine Run.load (dd := some 38) rfl rfl (op_slice_view rfl (Opd.tmp _ _ rfl) (Bnd.yes _ _ _ _ _ (Opd.tmp _ _ rfl) tQ) (Bnd.no _) (by intro _; refine ⟨rfl, ?_⟩; rw [List.length_map, hkl]; omega)) ?_
          refine Run.eff (dd := none) rfl rfl (op_clear rfl (Opd.tmp _ _ rfl) rfl rfl rfl rfl (by rw [List.length_map, hkl] <;> omega)) ?_
          refine Run.nil (FinR.mk ?_)
          refine nK ?_
          refine s_reg rfl ?_
          refine Run.pure (dd := some 39) rfl rfl (op_move rfl (Opd.tmp _ _ rfl)) ?_
          refine Run.pure (dd := some 40) rfl rfl (op_move rfl (Opd.tmp _ _ rfl)) ?_
          refine Run.load (dd := some 41) rfl rfl (op_slice_view rfl (Opd.tmp _ _ rfl) (Bnd.no _) (Bnd.yes _ _ _ _ _ (Opd.tmp _ _ rfl) tQ) (by intro _; refine ⟨rfl, ?_⟩; simp; try omega)) ?_
          refine Run.pure (dd := some 4) rfl rfl (op_assign rfl (Opd.tmp _ _ rfl)) ?_
          refine Run.nil (FinR.mk ?_)
          refine nK ?_
          refine Next.weakS [4] [4] (by rfl) (keepsN hC _ rfl) (G' := [(4, .fz (VL c))]) (H' := []) ⟨⟨_, rfl, .inr ⟨_, rfl, .sl _ _ _ _ _ _ rfl rfl (by simp) (by simp)⟩⟩, trivial⟩ trivial rfl ?_
          exact n_out1 rfl (by rfl) rfl rfl
theorem sidx_c (l : List Int) (r : Int) (hn : lenOk l.length) : Pure Try.prog 42 [VU l, If .u32 r] (If .i64 (idxGo (fun x => decide (r = x)) 0 l)) := by
  refine Meets.intro Try.func42 rfl (Nat.le_of_ble_eq_true rfl) fun C hC => ?_
  simp only [List.map, argEnv, Nat.reduceAdd]
  refine nK ?_
  refine s_reg rfl ?_
  refine Run.pure (dd := some 4) rfl rfl (op_assign rfl (Opd.const _)) ?_
  refine Run.nil (FinR.mk ?_)
  refine nK ?_
  refine s_reg rfl ?_
  refine Run.pure (dd := some 6) rfl rfl (op_move rfl (Opd.tmp _ _ rfl)) ?_
  refine Run.pure (dd := some 7) rfl rfl (op_len_fz rfl (by first | exact Opd.tmp _ _ rfl | exact Opd.nil _ _ (Opd.tmp _ _ rfl)) (by first | exact List.length_map _ | rfl)) ?_
  refine Run.pure (dd := some 8) rfl rfl (op_move rfl (Opd.const _)) ?_
  refine Run.nil (FinR.mk ?_)
  refine nK ?_
  refine n_loop (ι := Nat) (fun i => ([(0, .fz (VU l)), (1, IV .u32 r), (7, IV .i64 l.length), (8, IV .i64 i)], [], 0)) (fun i => i ≤ l.length ∧ idxGo (fun x => decide (r = x)) i (l.drop i) = idxGo (fun x => decide (r = x)) 0 l) (fun i => l.length - i) 0 ⟨Nat.zero_le _, rfl⟩ ?_ ?_
  · refine Next.weak [] [] (by rfl) (keeps0 hC _) (by repeat (first | exact trivial | refine ⟨⟨_, rfl, .inl ⟨rfl, rfl⟩⟩, ?_⟩)) (by repeat (first | exact trivial | refine ⟨ent_same rfl rfl rfl tL, ?_⟩ | refine ⟨ent_same rfl rfl (rfEq rfl tU) tL, ?_⟩ | refine ⟨ent_same rfl rfl (flEq rfl (by first | (simp; done) | (simp; omega) | (simp [encA, encH, encL, encU, encK, encV, encR]; done) | simp [maxC, minC])) trivial, ?_⟩)) (fun _ h => by simp at h) rel_intro
  · intro i ⟨hi, ho⟩ K hK
    refine nK ?_
    refine s_reg rfl ?_
    refine Run.pure (dd := some 9) rfl rfl (op_lss rfl (Opd.tmp _ _ rfl) (Opd.tmp _ _ rfl)) ?_
    refine Run.nil (FinR.mk ?_)
    refine nK ?_
    refine n_cond _ rfl (fun hb => ?_) (fun hb => ?_)
    · have hlt : i < l.length := by simp at hb; omega
      have hr1 := row_at' encU l i hlt
      rw [idx_step hlt] at ho
      have hK1 := fun h => hK (i + 1) ⟨by omega, h⟩ (by omega)
      refine nK ?_
      refine s_reg rfl ?_
      refine Run.pure (dd := some 10) rfl rfl (op_move rfl (Opd.tmp _ _ rfl)) ?_
      refine Run.pure (dd := some 5) rfl rfl (op_assign rfl (Opd.tmp _ _ rfl)) ?_
      refine Run.nil (FinR.mk ?_)
      refine nK ?_
      refine s_reg rfl ?_
      refine Run.pure (dd := some 11) rfl rfl (op_move rfl (Opd.tmp _ _ rfl)) ?_
      refine Run.pure (dd := some 12) rfl rfl (op_move rfl (Opd.tmp _ _ rfl)) ?_
      refine Run.pure (dd := some 13) rfl rfl (op_move rfl (Opd.tmp _ _ rfl)) ?_
      refine Run.pure (dd := some 14) rfl rfl (op_idx_fz _ rfl (Opd.tmp _ _ rfl) (Opd.tmp _ _ rfl) tF) ?_
      refine Run.pure (dd := some 15) rfl rfl (op_load1_fz rfl (Opd.tmp _ _ rfl) rfl) ?_
      refine Run.pure (dd := some 16) rfl rfl (op_eql rfl (Opd.tmp _ _ rfl) (Opd.tmp _ _ rfl)) ?_
      refine Run.nil (FinR.mk ?_)
      refine nK ?_
      refine n_cond _ rfl (fun hb => ?_) (fun hb => ?_)
      · rw [if_pos hb] at ho
        rw [← ho]
        refine nK ?_
        refine s_reg rfl ?_
        refine Run.pure (dd := some 17) rfl rfl (op_move rfl (Opd.tmp _ _ rfl)) ?_
        refine Run.pure (dd := some 4) rfl rfl (op_assign rfl (Opd.tmp _ _ rfl)) ?_
        refine Run.nil (FinR.mk ?_)
        refine nK ?_
        (first | exact s_o1 hC rfl tV | exact s_o2 hC rfl tV tV | exact s_o3 hC rfl tV tV tV | exact s_o4 hC rfl tV tV tV tV | exact s_out0 hC rfl | exact s_outO hC rfl rfl rfl)
      · rw [if_neg (by rw [hb]; decide)] at ho
        refine nK ?_
        refine s_reg rfl ?_
        refine Run.pure (dd := some 18) rfl rfl (op_add rfl (Opd.tmp _ _ rfl) (Opd.const _) tI) ?_
        refine Run.pure (dd := some 8) rfl rfl (op_move rfl (Opd.tmp _ _ rfl)) ?_
        refine Run.nil (FinR.mk ?_)
        refine nK ?_
        refine Next.weak [] [] (by rfl) (keeps0 hC _) (by repeat (first | exact trivial | refine ⟨⟨_, rfl, .inl ⟨rfl, rfl⟩⟩, ?_⟩)) (by repeat (first | exact trivial | refine ⟨ent_same rfl rfl rfl tL, ?_⟩ | refine ⟨ent_same rfl rfl (rfEq rfl tU) tL, ?_⟩ | refine ⟨ent_same rfl rfl (flEq rfl (by first | (simp; done) | (simp; omega) | (simp [encA, encH, encL, encU, encK, encV, encR]; done) | simp [maxC, minC])) trivial, ?_⟩)) (fun _ h => by simp at h) (hK1 ho)
    · have hie : i = l.length := by simp at hb; omega
      rw [hie, List.drop_length] at ho
      rw [← ho]
      refine nK ?_
      refine s_reg rfl ?_
      refine Run.pure (dd := some 4) rfl rfl (op_assign rfl (Opd.const _)) ?_
      refine Run.nil (FinR.mk ?_)
      refine nK ?_
      (first | exact s_o1 hC rfl tV | exact s_o2 hC rfl tV tV | exact s_o3 hC rfl tV tV tV | exact s_o4 hC rfl tV tV tV tV | exact s_out0 hC rfl | exact s_outO hC rfl rfl rfl)
theorem scont_c (l : List Int) (r : Int) (hn : lenOk l.length) : Pure Try.prog 28 [VU l, If .u32 r] (Bf (l.contains r)) := by
  rw [← idx_contains]
  refine Meets.intro Try.func28 rfl (Nat.le_of_ble_eq_true rfl) fun C hC => ?_
  simp only [List.map, argEnv, Nat.reduceAdd]
  refine nK ?_
  refine s_reg rfl ?_
  refine Run.pure (dd := some 4) rfl rfl (op_assign rfl (Opd.const _)) ?_
  refine Run.nil (FinR.mk ?_)
  refine nK ?_
  refine s_reg rfl ?_
  refine Run.pure (dd := some 5) rfl rfl (op_move rfl (Opd.tmp _ _ rfl)) ?_
  refine Run.pure (dd := some 6) rfl rfl (op_move rfl (Opd.tmp _ _ rfl)) ?_
  refine Run.pure (dd := some 7) rfl rfl (op_call_pure (fun _ => sidx_c _ _ (by assumption)) rfl (Opd.func _) (Opds.cons _ _ _ _ (Opd.tmp _ _ rfl) (Opds.cons _ _ _ _ (Opd.tmp _ _ rfl) Opds.nil))) ?_
  refine Run.pure (dd := some 8) rfl rfl (op_geq rfl (Opd.tmp _ _ rfl) (Opd.const _)) ?_
  refine Run.pure (dd := some 4) rfl rfl (op_assign rfl (Opd.tmp _ _ rfl)) ?_
  refine Run.nil (FinR.mk ?_)
  refine nK ?_
  (first | exact s_o1 hC rfl tV | exact s_o2 hC rfl tV tV | exact s_o3 hC rfl tV tV tV | exact s_o4 hC rfl tV tV tV tV | exact s_out0 hC rfl | exact s_outO hC rfl rfl rfl)
theorem aidx_c (a : AGr) (r : Int) (hn : lenOk a.rs.length) : Pure Try.prog 16 [.agg (encR a), If .u32 r] (If .i64 (idxGo (fun x => decide (r = x)) 0 a.rs)) := by
  refine Meets.intro Try.func16 rfl (Nat.le_of_ble_eq_true rfl) fun C hC => ?_
  simp only [List.map, argEnv, Nat.reduceAdd]
  refine nK ?_
  refine s_reg rfl ?_
  refine Run.eff (dd := some 2) rfl rfl (op_box_flat rfl (Opd.tmp _ _ rfl) tC rfl) ?_
  refine Run.pure (dd := some 4) rfl rfl (op_assign rfl (Opd.const _)) ?_
  refine Run.nil (FinR.mk ?_)
  refine nK ?_
  refine s_reg rfl ?_
  refine Run.pure (dd := some 5) rfl rfl (op_fld_ptr (by decide) rfl (Opd.tmp _ _ rfl)) ?_
  refine Run.load (dd := some 6) rfl rfl (op_load1_flat rfl (Opd.tmp _ _ rfl) tH rfl) ?_
  refine Run.pure (dd := some 7) rfl rfl (op_move rfl (Opd.tmp _ _ rfl)) ?_
  refine Run.pure (dd := some 8) rfl rfl (op_call_pure (fun _ => sidx_c _ _ (by assumption)) rfl (Opd.func _) (Opds.cons _ _ _ _ (Opd.tmp _ _ rfl) (Opds.cons _ _ _ _ (Opd.tmp _ _ rfl) Opds.nil))) ?_
  refine Run.pure (dd := some 4) rfl rfl (op_assign rfl (Opd.tmp _ _ rfl)) ?_
  refine Run.nil (FinR.mk ?_)
  refine nK ?_
  (first | exact s_o1 hC rfl tV | exact s_o2 hC rfl tV tV | exact s_o3 hC rfl tV tV tV | exact s_o4 hC rfl tV tV tV tV | exact s_out0 hC rfl | exact s_outO hC rfl rfl rfl)
theorem stubsP_c (x : Lnk) : Pure Try.prog 48 [.agg (encL x)] (Bf (decide (x.k ≠ 3))) := by
  refine Meets.intro Try.func48 rfl (Nat.le_of_ble_eq_true rfl) fun C hC => ?_
  simp only [List.map, argEnv, Nat.reduceAdd]
  refine nK ?_
  refine s_reg rfl ?_
  refine Run.eff (dd := some 1) rfl rfl (op_box_flat rfl (Opd.tmp _ _ rfl) tC rfl) ?_
  refine Run.pure (dd := some 2) rfl rfl (op_assign rfl (Opd.const _)) ?_
  refine Run.nil (FinR.mk ?_)
  refine nK ?_
  refine s_reg rfl ?_
  refine Run.pure (dd := some 3) rfl rfl (op_fld_ptr (by decide) rfl (Opd.tmp _ _ rfl)) ?_
  refine Run.load (dd := some 4) rfl rfl (op_load1_flat rfl (Opd.tmp _ _ rfl) tH rfl) ?_
  refine Run.pure (dd := some 5) rfl rfl (op_neq rfl (Opd.tmp _ _ rfl) (Opd.const _)) ?_
  refine Run.pure (dd := some 2) rfl rfl (op_assign rfl (Opd.tmp _ _ rfl)) ?_
  refine Run.nil (FinR.mk ?_)
  refine nK ?_
  (first | exact s_o1 hC rfl tV | exact s_o2 hC rfl tV tV | exact s_o3 hC rfl tV tV tV | exact s_o4 hC rfl tV tV tV tV | exact s_out0 hC rfl | exact s_outO hC rfl rfl rfl)
/-- the closure 'searcher{k}.matches' -/
theorem match_c (k : KeyA) (x : Lsa) : Pure Try.prog 72 [.agg (encK k), .agg (encA x)] (Bf (decide (keyA x.h = k))) := by
  rw [← eqFs_encK]
  refine Meets.intro Try.func72 rfl (Nat.le_of_ble_eq_true rfl) fun C hC => ?_
  simp only [List.map, argEnv, Nat.reduceAdd]
  refine nK ?_
  refine s_reg rfl ?_
  refine Run.eff (dd := some 2) rfl rfl (op_box_flat rfl (Opd.tmp _ _ rfl) tC rfl) ?_
  refine Run.eff (dd := some 3) rfl rfl (op_box_flat rfl (Opd.tmp _ _ rfl) tC rfl) ?_
  refine Run.pure (dd := some 4) rfl rfl (op_assign rfl (Opd.const _)) ?_
  refine Run.nil (FinR.mk ?_)
  refine nK ?_
  refine s_draw mixed ?_
  refine Run.pure (dd := some 5) rfl rfl (op_fld_ptr (by decide) rfl (Opd.tmp _ _ rfl)) ?_
  refine Run.load (dd := some 6) rfl rfl (op_loadn_flat rfl (Opd.tmp _ _ rfl) tH tR tR) ?_
  refine Run.pure (dd := some 7) rfl rfl (op_call_pure (fun _ => keyL_c _) rfl (Opd.func _) (Opds.cons _ _ _ _ (Opd.tmp _ _ rfl) Opds.nil)) ?_
  refine Run.pure (dd := some 8) rfl rfl (op_fld_ptr (by decide) rfl (Opd.tmp _ _ rfl)) ?_
  refine Run.load (dd := some 9) rfl rfl (op_loadw_flat rfl (Opd.tmp _ _ rfl) tH rfl) ?_
  refine Run.pure (dd := some 10) rfl rfl (op_eqS rfl (Opd.tmp _ _ rfl) (Opd.tmp _ _ rfl) (by kernel_rfl)) ?_
  refine Run.pure (dd := some 4) rfl rfl (op_assign rfl (Opd.tmp _ _ rfl)) ?_
  refine Run.nil (FinD.mk (by kernel_rfl) ?_)
  refine nK ?_
  (first | exact s_o1 hC rfl tV | exact s_o2 hC rfl tV tV | exact s_o3 hC rfl tV tV tV | exact s_o4 hC rfl tV tV tV tV | exact s_out0 hC rfl | exact s_outO hC rfl rfl rfl)
theorem indexA_c (l : List Lsa) (k : KeyA) (hn : lenOk l.length) : Meets Try.prog 71 [.fz (VA l), .clo 72 [.fz (.agg (encK k))] []] 0 [] (IV .i64 (idxGo (fun x => decide (keyA x.h = k)) 0 l)) [] 0 := by
  refine Meets.intro Try.func71 rfl (Nat.le_of_ble_eq_true rfl) fun C hC => ?_
  simp only [List.map, argEnv, Nat.reduceAdd]
  refine nK ?_
  refine s_reg rfl ?_
  refine Run.pure (dd := some 4) rfl rfl (op_assign rfl (Opd.const _)) ?_
  refine Run.nil (FinR.mk ?_)
  refine nK ?_
  refine s_reg rfl ?_
  refine Run.pure (dd := some 6) rfl rfl (op_move rfl (Opd.tmp _ _ rfl)) ?_
  refine Run.pure (dd := some 7) rfl rfl (op_len_fz rfl (by first | exact Opd.tmp _ _ rfl | exact Opd.nil _ _ (Opd.tmp _ _ rfl)) (by first | exact List.length_map _ | rfl)) ?_
  refine Run.pure (dd := some 8) rfl rfl (op_move rfl (Opd.const _)) ?_
  refine Run.nil (FinR.mk ?_)
  refine nK ?_
  refine n_loop (ι := Nat) (fun i => ([(0, .fz (VA l)), (1, .clo 72 [.fz (.agg (encK k))] []), (7, IV .i64 l.length), (8, IV .i64 i)], [], 0)) (fun i => i ≤ l.length ∧ idxGo (fun x => decide (keyA x.h = k)) i (l.drop i) = idxGo (fun x => decide (keyA x.h = k)) 0 l) (fun i => l.length - i) 0 ⟨Nat.zero_le _, rfl⟩ ?_ ?_
  · refine Next.weak [] [] (by rfl) (keeps0 hC _) (by repeat (first | exact trivial | refine ⟨⟨_, rfl, .inl ⟨rfl, rfl⟩⟩, ?_⟩)) (by repeat (first | exact trivial | refine ⟨ent_same rfl rfl rfl tL, ?_⟩ | refine ⟨ent_same rfl rfl (rfEq rfl tU) tL, ?_⟩ | refine ⟨ent_same rfl rfl (flEq rfl (by first | (simp; done) | (simp; omega) | (simp [encA, encH, encL, encU, encK, encV, encR]; done) | simp [maxC, minC])) trivial, ?_⟩)) (fun _ h => by simp at h) rel_intro
  · intro i ⟨hi, ho⟩ K hK
    refine nK ?_
    refine s_reg rfl ?_
    refine Run.pure (dd := some 9) rfl rfl (op_lss rfl (Opd.tmp _ _ rfl) (Opd.tmp _ _ rfl)) ?_
    refine Run.nil (FinR.mk ?_)
    refine nK ?_
    refine n_cond _ rfl (fun hb => ?_) (fun hb => ?_)
    · have hlt : i < l.length := by simp at hb; omega
      have hr1 := row_at' encA l i hlt
      rw [idx_step hlt] at ho
      have hK1 := fun h => hK (i + 1) ⟨by omega, h⟩ (by omega)
      generalize l[i] = e at *
      refine nK ?_
      refine s_reg rfl ?_
      refine Run.pure (dd := some 10) rfl rfl (op_move rfl (Opd.tmp _ _ rfl)) ?_
      refine Run.pure (dd := some 5) rfl rfl (op_assign rfl (Opd.tmp _ _ rfl)) ?_
      refine Run.nil (FinR.mk ?_)
      refine nK ?_
      refine s_reg rfl ?_
      refine Run.pure (dd := some 11) rfl rfl (op_move rfl (Opd.tmp _ _ rfl)) ?_
      refine Run.pure (dd := some 12) rfl rfl (op_move rfl (Opd.tmp _ _ rfl)) ?_
      refine Run.pure (dd := some 13) rfl rfl (op_move rfl (Opd.tmp _ _ rfl)) ?_
      refine Run.pure (dd := some 14) rfl rfl (op_idx_fz _ rfl (Opd.tmp _ _ rfl) (Opd.tmp _ _ rfl) tF) ?_
      refine Run.pure (dd := some 15) rfl rfl (op_loadw_fz rfl (Opd.tmp _ _ rfl) rfl) ?_
      refine Run.eff (dd := some 16) rfl rfl (op_call (n := 0) (n' := 0) [] (fun _ => match_c k e) rfl (Opd.tmp _ _ rfl) (Opds.cons _ _ _ _ (Opd.tmp _ _ rfl) Opds.nil) rfl rfl (Lent.of rfl rfl (by repeat (first | exact trivial | refine ⟨⟨rfl, rfl, rfl, tL⟩, ?_⟩)) rfl) rfl rfl rfl rfl rfl) ?_
      refine Run.nil (FinR.mk ?_)
      refine nK ?_
      refine n_cond _ rfl (fun hb => ?_) (fun hb => ?_)
      · rw [if_pos hb] at ho
        rw [← ho]
        refine nK ?_
        refine s_reg rfl ?_
        refine Run.pure (dd := some 17) rfl rfl (op_move rfl (Opd.tmp _ _ rfl)) ?_
        refine Run.pure (dd := some 4) rfl rfl (op_assign rfl (Opd.tmp _ _ rfl)) ?_
        refine Run.nil (FinR.mk ?_)
        refine nK ?_
        (first | exact s_o1 hC rfl tV | exact s_o2 hC rfl tV tV | exact s_o3 hC rfl tV tV tV | exact s_o4 hC rfl tV tV tV tV | exact s_out0 hC rfl | exact s_outO hC rfl rfl rfl)
      · rw [if_neg (by rw [hb]; decide)] at ho
        refine nK ?_
        refine s_reg rfl ?_
        refine Run.pure (dd := some 18) rfl rfl (op_add rfl (Opd.tmp _ _ rfl) (Opd.const _) tI) ?_
        refine Run.pure (dd := some 8) rfl rfl (op_move rfl (Opd.tmp _ _ rfl)) ?_
        refine Run.nil (FinR.mk ?_)
        refine nK ?_
        refine Next.weak [] [] (by rfl) (keeps0 hC _) (by repeat (first | exact trivial | refine ⟨⟨_, rfl, .inl ⟨rfl, rfl⟩⟩, ?_⟩)) (by repeat (first | exact trivial | refine ⟨ent_same rfl rfl rfl tL, ?_⟩ | refine ⟨ent_same rfl rfl (rfEq rfl tU) tL, ?_⟩ | refine ⟨ent_same rfl rfl (flEq rfl (by first | (simp; done) | (simp; omega) | (simp [encA, encH, encL, encU, encK, encV, encR]; done) | simp [maxC, minC])) trivial, ?_⟩)) (fun _ h => by simp at h) (hK1 ho)
    · have hie : i = l.length := by simp at hb; omega
      rw [hie, List.drop_length] at ho
      rw [← ho]
      refine nK ?_
      refine s_reg rfl ?_
      refine Run.pure (dd := some 4) rfl rfl (op_assign rfl (Opd.const _)) ?_
      refine Run.nil (FinR.mk ?_)
      refine nK ?_
      (first | exact s_o1 hC rfl tV | exact s_o2 hC rfl tV tV | exact s_o3 hC rfl tV tV tV | exact s_o4 hC rfl tV tV tV tV | exact s_out0 hC rfl | exact s_outO hC rfl rfl rfl)
theorem cloneL_f (l : List Lnk) (hn : l.length ≤ 40000000) : Meets Try.prog 89 ([VL l].map PV.fz) 0 [] (.sl 0 4 0 l.length) [(0, OLk l)] 1 := by
  refine Meets.intro Try.func89 rfl (Nat.le_of_ble_eq_true rfl) fun C hC => ?_
  simp only [List.map, argEnv, Nat.reduceAdd]
  refine nK ?_
  refine s_reg rfl ?_
  refine Run.pure (dd := some 2) rfl rfl (op_assign rfl (Opd.const _)) ?_
  refine Run.nil (FinR.mk ?_)
  refine nK ?_
  refine s_reg rfl ?_
  refine Run.pure (dd := some 3) rfl rfl (op_move rfl (Opd.tmp _ _ rfl)) ?_
  refine Run.pure (dd := some 4) rfl rfl (op_eqnil rfl (Opd.tmp _ _ rfl)) ?_
  refine Run.nil (FinR.mk ?_)
  refine nK ?_
  refine Next.abool 4 rfl (fun b hb0 => ?_)
  refine nK ?_
  refine n_cond _ rfl (fun hb => ?_) (fun hb => ?_)
  · have he : l = [] := by have := hb0 hb; simpa using this
    subst he
    refine nK ?_
    refine s_reg rfl ?_
    refine Run.pure (dd := some 2) rfl rfl (op_assign rfl (Opd.const _)) ?_
    refine Run.nil (FinR.mk ?_)
    refine nK ?_
    refine Next.adopt 2 4 rfl ?_
    (first | exact s_o1 hC rfl tV | exact s_o2 hC rfl tV tV | exact s_o3 hC rfl tV tV tV | exact s_o4 hC rfl tV tV tV tV | exact s_out0 hC rfl | exact s_outO hC rfl rfl rfl)
  · refine nK ?_
    refine s_reg rfl ?_
    refine Run.eff (dd := some 5) rfl rfl (op_buildSlice_own rfl (RowsF.nil _) rfl rfl rfl) ?_
    refine Run.pure (dd := some 6) rfl rfl (op_move rfl (Opd.tmp _ _ rfl)) ?_
    refine Run.eff (dd := some 7) rfl rfl (op_append rfl (Opd.tmp _ _ rfl) (Opd.tmp _ _ rfl) rfl rfl rfl rfl tB tB) ?_
    refine Run.pure (dd := some 2) rfl rfl (op_assign rfl (Opd.tmp _ _ rfl)) ?_
    refine Run.nil (FinR.mk ?_)
    refine nK ?_
    refine Next.weakS [2] [] (by rfl) (keeps0 hC _) (G' := [(2, .sl 0 4 0 l.length)]) (H' := [(0, OLk l)]) (by repeat (first | exact trivial | refine ⟨⟨_, rfl, .inl ⟨rfl, rfl⟩⟩, ?_⟩ | refine ⟨⟨_, rfl, .inl ⟨slEq rfl tN, rfl⟩⟩, ?_⟩ | refine ⟨⟨_, rfl, .inl ⟨ivEq tX, rfl⟩⟩, ?_⟩)) (by repeat (first | exact trivial | refine ⟨ent_same rfl rfl rfl tL, ?_⟩ | refine ⟨ent_same rfl rfl (rfEq rfl tU) tL, ?_⟩ | refine ⟨ent_same rfl rfl (flEq rfl (by first | (simp; done) | (simp; omega) | (simp [encA, encH, encL, encU, encK, encV, encR]; done) | simp [maxC, minC])) trivial, ?_⟩)) rfl ?_
    (first | exact s_o1 hC rfl tV | exact s_o2 hC rfl tV tV | exact s_o3 hC rfl tV tV tV | exact s_o4 hC rfl tV tV tV tV | exact s_out0 hC rfl | exact s_outO hC rfl rfl rfl)
theorem cloneU_f (l : List Int) (hn : l.length ≤ 40000000) : Meets Try.prog 90 ([VU l].map PV.fz) 0 [] (.sl 0 1 0 l.length) [(0, some (.flat 1 (l.map encU)))] 1 := by
  refine Meets.intro Try.func90 rfl (Nat.le_of_ble_eq_true rfl) fun C hC => ?_
  simp only [List.map, argEnv, Nat.reduceAdd]
  refine nK ?_
  refine s_reg rfl ?_
  refine Run.pure (dd := some 2) rfl rfl (op_assign rfl (Opd.const _)) ?_
  refine Run.nil (FinR.mk ?_)
  refine nK ?_
  refine s_reg rfl ?_
  refine Run.pure (dd := some 3) rfl rfl (op_move rfl (Opd.tmp _ _ rfl)) ?_
  refine Run.pure (dd := some 4) rfl rfl (op_eqnil rfl (Opd.tmp _ _ rfl)) ?_
  refine Run.nil (FinR.mk ?_)
  refine nK ?_
  refine Next.abool 4 rfl (fun b hb0 => ?_)
  refine nK ?_
  refine n_cond _ rfl (fun hb => ?_) (fun hb => ?_)
  · have he : l = [] := by have := hb0 hb; simpa using this
    subst he
    refine nK ?_
    refine s_reg rfl ?_
    refine Run.pure (dd := some 2) rfl rfl (op_assign rfl (Opd.const _)) ?_
    refine Run.nil (FinR.mk ?_)
    refine nK ?_
    refine Next.adopt 2 1 rfl ?_
    (first | exact s_o1 hC rfl tV | exact s_o2 hC rfl tV tV | exact s_o3 hC rfl tV tV tV | exact s_o4 hC rfl tV tV tV tV | exact s_out0 hC rfl | exact s_outO hC rfl rfl rfl)
  · refine nK ?_
    refine s_reg rfl ?_
    refine Run.eff (dd := some 5) rfl rfl (op_buildSlice_own rfl (RowsF.nil _) rfl rfl rfl) ?_
    refine Run.pure (dd := some 6) rfl rfl (op_move rfl (Opd.tmp _ _ rfl)) ?_
    refine Run.eff (dd := some 7) rfl rfl (op_append rfl (Opd.tmp _ _ rfl) (Opd.tmp _ _ rfl) rfl rfl rfl rfl tB tB) ?_
    refine Run.pure (dd := some 2) rfl rfl (op_assign rfl (Opd.tmp _ _ rfl)) ?_
    refine Run.nil (FinR.mk ?_)
    refine nK ?_
    refine Next.weakS [2] [] (by rfl) (keeps0 hC _) (G' := [(2, .sl 0 1 0 l.length)]) (H' := [(0, some (.flat 1 (l.map encU)))]) (by repeat (first | exact trivial | refine ⟨⟨_, rfl, .inl ⟨rfl, rfl⟩⟩, ?_⟩ | refine ⟨⟨_, rfl, .inl ⟨slEq rfl tN, rfl⟩⟩, ?_⟩ | refine ⟨⟨_, rfl, .inl ⟨ivEq tX, rfl⟩⟩, ?_⟩)) (by repeat (first | exact trivial | refine ⟨ent_same rfl rfl rfl tL, ?_⟩ | refine ⟨ent_same rfl rfl (rfEq rfl tU) tL, ?_⟩ | refine ⟨ent_same rfl rfl (flEq rfl (by first | (simp; done) | (simp; omega) | (simp [encA, encH, encL, encU, encK, encV, encR]; done) | simp [maxC, minC])) trivial, ?_⟩)) rfl ?_
    (first | exact s_o1 hC rfl tV | exact s_o2 hC rfl tV tV | exact s_o3 hC rfl tV tV tV | exact s_o4 hC rfl tV tV tV tV | exact s_out0 hC rfl | exact s_outO hC rfl rfl rfl)
theorem cloneU_c (l : List Int) (hn : l.length ≤ 40000000) : Pure Try.prog 90 [VU l] (VU l) := (cloneU_f l hn).freeze (by simp)
end Go.Proofs.Ytdhkioocjgpocaa
/- Building the graph of an area: what the program's functions compute. No program in sight. -/
namespace Go.Pl
open Go Go.RT
set_option linter.all false
def cntL (k : Int) (db : List Lsa) : List Lsa := db.filter (cntB k)
theorem cnt_take {k : Int} {l : List Lsa} {i : Nat} (h : i < l.length) : cntL k (l.take (i + 1)) = cntL k (l.take i) ++ if cntB k l[i] = true then [l[i]] else [] := by
  rw [List.take_succ_eq_append_getElem h]
  simp only [cntL, List.filter_append]
  by_cases c : cntB k l[i] = true
  · rw [if_pos c]; simp [c]
  · rw [if_neg c]; simp [c]
theorem cnt_len (k : Int) (l : List Lsa) : (cntL k l).length ≤ l.length := List.length_filter_le _ _
abbrev ekU (n : Int) : FV := If .u32 n
abbrev evI (n : Int) : FV := If .i64 n
/-- the ends of point-to-point links -/
def ptsGo : List Lnk → List (Int × Bool) → List (Int × Bool)
  | [], m => m
  | x :: l, m => ptsGo l (if decide (x.k = 1) = true then mput m x.id true else m)
def ptsM (l : List Lnk) : List (Int × Bool) := ptsGo l []
theorem pts_step {l : List Lnk} {i : Nat} {m : List (Int × Bool)} (h : i < l.length) : ptsGo (l.drop i) m = ptsGo (l.drop (i + 1)) (if decide (l[i].k = 1) = true then mput m l[i].id true else m) := by
  rw [List.drop_eq_getElem_cons h]; rfl
/-- the keys of a map are apart, and words -/
def mOk {ν : Type} (m : List (Int × ν)) : Prop := (m.map (·.1)).Nodup ∧ ∀ p ∈ m, inr .u32 p.1
theorem mOk.put {ν : Type} {m : List (Int × ν)} (h : mOk m) {k : Int} (hk : inr .u32 k) (v : ν) : mOk (mput m k v) :=
  ⟨mput_nodup h.1, fun p hp => by
    rcases mput_keys m k v p hp with e | e
    · rw [e]; exact hk
    · exact h.2 p e⟩
theorem mOk_nil {ν : Type} : mOk ([] : List (Int × ν)) := ⟨List.nodup_nil, fun p h => by simp at h⟩
theorem pts_ok : ∀ (l : List Lnk) (m : List (Int × Bool)), (∀ x ∈ l, okK x) → mOk m → mOk (ptsGo l m)
  | [], m, _, h => h
  | x :: l, m, hl, h => by
    simp only [ptsGo]
    refine pts_ok l _ (fun y hy => hl y (List.mem_cons_of_mem _ hy)) ?_
    split
    · exact h.put (hl x (List.mem_cons_self ..)).2.1 true
    · exact h
abbrev FPts (m : List (Int × Bool)) : FV := FMap ekU Bf m
end Go.Pl
/- Building the graph of an area, continued. No program in sight. -/
namespace Go.Pl
open Go Go.RT
set_option linter.all false
def zeroR : AGr := ⟨zeroG, [], []⟩
def nodesGo : Nat → List Lsa → List (Int × Int) → List (Int × Int)
  | _, [], m => m
  | i, l :: t, m => nodesGo (i + 1) t (mput m l.h.rt (i : Int))
theorem nodes_step {l : List Lsa} {i : Nat} {m : List (Int × Int)} (h : i < l.length) : nodesGo i (l.drop i) m = nodesGo (i + 1) (l.drop (i + 1)) (mput m l[i].h.rt (i : Int)) := by
  rw [List.drop_eq_getElem_cons h]; rfl
def towGo : List Lsa → List (Int × List (Int × Bool)) → List (Int × List (Int × Bool))
  | [], m => m
  | l :: t, m => towGo t (mput m l.h.rt (ptsM l.ls))
theorem tow_step {l : List Lsa} {i : Nat} {m : List (Int × List (Int × Bool))} (h : i < l.length) : towGo (l.drop i) m = towGo (l.drop (i + 1)) (mput m l[i].h.rt (ptsM l[i].ls)) := by
  rw [List.drop_eq_getElem_cons h]; rfl
def netOf (l : Lsa) : NetV := ⟨l.h.id, l.h.rt, l.h.ln⟩
def netE (R i : Nat) (rt : Int) (x : Lnk) : Nat → List Lsa → List Edg
  | _, [] => []
  | k, n :: t => (if (decide (n.h.id = x.id) && n.att.contains rt) = true then [⟨i, (R : Int) + k, x.c⟩, ⟨(R : Int) + k, i, 0⟩] else []) ++ netE R i rt x (k + 1) t
def lnkE (nm : List (Int × Int)) (tm : List (Int × List (Int × Bool))) (R : Nat) (ns : List Lsa) (i : Nat) (rt : Int) (x : Lnk) : List Edg :=
  if ((decide (x.k = 1) && (mget nm x.id).isSome) && (mget ((mget tm x.id).getD []) rt).getD false) = true then [⟨i, (mget nm x.id).getD 0, x.c⟩] else
  if decide (x.k = 2) = true then netE R i rt x 0 ns else []
def rowE (nm : List (Int × Int)) (tm : List (Int × List (Int × Bool))) (R : Nat) (ns : List Lsa) : Nat → List Lsa → List Edg
  | _, [] => []
  | i, l :: t => l.ls.flatMap (lnkE nm tm R ns i l.h.rt) ++ rowE nm tm R ns (i + 1) t
def edgesG (rs ns : List Lsa) : List Edg := rowE (nodesGo 0 rs []) (towGo rs []) rs.length ns 0 rs
def buildG (rs ns : List Lsa) : AGr × Int :=
  if (ofF (rs.length : Int) (ns.length : Int) (edgesG rs ns)).2 ≠ 0 then (zeroR, (ofF (rs.length : Int) (ns.length : Int) (edgesG rs ns)).2)
  else (⟨(ofF (rs.length : Int) (ns.length : Int) (edgesG rs ns)).1, rs.map fun l => l.h.rt, ns.map netOf⟩, 0)
/-- area.Build -/
def buildF (db : List Lsa) : AGr × Int := buildG (cntL 1 db) (cntL 2 db)
theorem mput_vals {ν : Type} : ∀ (m : List (Int × ν)) (k : Int) (v : ν) (p : Int × ν), p ∈ mput m k v → p.2 = v ∨ p ∈ m
  | [], k, v, p, h => by simp [mput] at h; subst h; exact .inl rfl
  | q :: r, k, v, p, h => by
    simp only [mput] at h
    by_cases hq : q.1 = k
    · rw [if_pos hq] at h
      rcases List.mem_cons.1 h with rfl | h
      · exact .inl rfl
      · exact .inr (List.mem_cons_of_mem _ h)
    · rw [if_neg hq] at h
      rcases List.mem_cons.1 h with rfl | h
      · exact .inr (List.mem_cons_self ..)
      · exact (mput_vals r k v p h).imp id (List.mem_cons_of_mem _)
theorem mget_mem {ν : Type} : ∀ {m : List (Int × ν)} {k : Int} {v : ν}, mget m k = some v → (k, v) ∈ m
  | p :: r, k, v, h => by
    simp only [mget] at h
    by_cases hp : p.1 = k
    · rw [if_pos hp] at h; cases h; subst hp; exact List.mem_cons_self ..
    · rw [if_neg hp] at h; exact List.mem_cons_of_mem _ (mget_mem h)
open Go.RT
theorem row_step {nm : List (Int × Int)} {tm : List (Int × List (Int × Bool))} {R : Nat} {ns l : List Lsa} {i : Nat} (h : i < l.length) : rowE nm tm R ns i (l.drop i) = l[i].ls.flatMap (lnkE nm tm R ns i l[i].h.rt) ++ rowE nm tm R ns (i + 1) (l.drop (i + 1)) := by
  rw [List.drop_eq_getElem_cons h]; rfl
theorem net_step {R i : Nat} {rt : Int} {x : Lnk} {l : List Lsa} {k : Nat} (h : k < l.length) : netE R i rt x k (l.drop k) = (if (decide (l[k].h.id = x.id) && l[k].att.contains rt) = true then [⟨i, (R : Int) + k, x.c⟩, ⟨(R : Int) + k, i, 0⟩] else []) ++ netE R i rt x (k + 1) (l.drop (k + 1)) := by
  rw [List.drop_eq_getElem_cons h]; rfl
theorem flatMap_step {α β : Type} (f : α → List β) {l : List α} {j : Nat} (h : j < l.length) : (l.drop j).flatMap f = f l[j] ++ (l.drop (j + 1)).flatMap f := by
  rw [List.drop_eq_getElem_cons h]; rfl
theorem netE_len (R i : Nat) (rt : Int) (x : Lnk) : ∀ (l : List Lsa) (k : Nat), (netE R i rt x k l).length ≤ 2 * l.length
  | [], k => by simp [netE]
  | n :: l, k => by
    have := netE_len R i rt x l (k + 1)
    simp only [netE, List.length_append, List.length_cons]
    split <;> simp <;> omega
theorem lnkE_len {nm : List (Int × Int)} {tm : List (Int × List (Int × Bool))} {R : Nat} {ns : List Lsa} {i : Nat} {rt : Int} (hn : ns.length ≤ 400) (x : Lnk) : (lnkE nm tm R ns i rt x).length ≤ 800 := by
  unfold lnkE
  split
  · simp
  · split
    · exact Nat.le_trans (netE_len ..) (by omega)
    · simp
theorem flatMap_le {α β : Type} (f : α → List β) (b : Nat) (h : ∀ x, (f x).length ≤ b) : ∀ l : List α, (l.flatMap f).length ≤ l.length * b
  | [] => by simp
  | x :: l => by
    have h1 := flatMap_le f b h l
    have h2 := h x
    simp only [List.flatMap_cons, List.length_append, List.length_cons, Nat.add_mul]; omega
theorem rowE_len {nm : List (Int × Int)} {tm : List (Int × List (Int × Bool))} {R : Nat} {ns : List Lsa} (hn : ns.length ≤ 400) : ∀ (l : List Lsa) (i : Nat), (∀ x ∈ l, x.ls.length ≤ 64) → (rowE nm tm R ns i l).length ≤ l.length * 51200
  | [], i, _ => by simp [rowE]
  | x :: l, i, h => by
    have h1 := rowE_len (nm := nm) (tm := tm) (R := R) hn l (i + 1) (fun y hy => h y (List.mem_cons_of_mem _ hy))
    have h2 := flatMap_le (lnkE nm tm R ns i x.h.rt) 800 (fun y => lnkE_len hn y) x.ls
    have h3 := h x (List.mem_cons_self ..)
    have h4 : x.ls.length * 800 ≤ 64 * 800 := Nat.mul_le_mul_right _ h3
    simp only [rowE, List.length_append, List.length_cons, Nat.add_mul]; omega
open Go.RT
theorem netE_ok {R i : Nat} (hR : R ≤ 400) (hi : i ≤ 400) {rt : Int} {x : Lnk} (hx : okK x) : ∀ (l : List Lsa) (k : Nat), k + l.length ≤ 400 → okEs (netE R i rt x k l)
  | [], k, _ => fun e he => by simp [netE] at he
  | n :: l, k, h => fun e he => by
    simp only [List.length_cons] at h
    simp only [netE] at he
    rcases List.mem_append.1 he with he | he
    · split at he
      · rcases List.mem_cons.1 he with rfl | he
        · refine ⟨?_, ?_, hx.2.2.2⟩ <;> simp only [inr] <;> omega
        · have := List.mem_singleton.1 he
          subst this
          refine ⟨?_, ?_, ?_⟩ <;> simp only [inr] <;> omega
      · simp at he
    · exact netE_ok hR hi hx l (k + 1) (by omega) e he
theorem lnkE_ok {nm : List (Int × Int)} {tm : List (Int × List (Int × Bool))} {R : Nat} {ns : List Lsa} {i : Nat} {rt : Int} (hR : R ≤ 400) (hn : ns.length ≤ 400) (hi : i ≤ 400) (hm : ∀ q ∈ nm, inr .i64 q.2) {x : Lnk} (hx : okK x) : okEs (lnkE nm tm R ns i rt x) := by
  intro e he
  unfold lnkE at he
  split at he
  · have := List.mem_singleton.1 he
    subst this
    refine ⟨by simp only [inr]; omega, ?_, hx.2.2.2⟩
    show inr .i64 ((mget nm x.id).getD 0)
    cases hg : mget nm x.id with
    | none => simp [inr]
    | some v => exact hm _ (mget_mem hg)
  · split at he
    · exact netE_ok hR hi hx ns 0 (by omega) e he
    · simp at he
theorem rowE_ok {nm : List (Int × Int)} {tm : List (Int × List (Int × Bool))} {R : Nat} {ns : List Lsa} (hR : R ≤ 400) (hn : ns.length ≤ 400) (hm : ∀ q ∈ nm, inr .i64 q.2) : ∀ (l : List Lsa) (i : Nat), i + l.length ≤ 400 → (∀ x ∈ l, okA x) → okEs (rowE nm tm R ns i l)
  | [], i, _, _ => fun e he => by simp [rowE] at he
  | x :: l, i, h, hl => fun e he => by
    simp only [List.length_cons] at h
    simp only [rowE] at he
    rcases List.mem_append.1 he with he | he
    · obtain ⟨y, hy, h2⟩ := List.mem_flatMap.1 he
      exact lnkE_ok hR hn (by omega) hm ((hl x (List.mem_cons_self ..)).2.1 y hy) e h2
    · exact rowE_ok hR hn hm l (i + 1) (by omega) (fun z hz => hl z (List.mem_cons_of_mem _ hz)) e he
end Go.Pl
/- The examples of the document. No program in sight. -/
namespace Go.Pl
open Go Go.RT
set_option linter.all false
def rawL (a b c : Int) : Lsa := ⟨⟨1, a, 0, a, 1, 0, 0⟩, false, false, [⟨1, b, 9, c⟩], [], 0, false, 0, 0⟩
def lnkS (a b c s : Int) : Lsa := ⟨⟨1, a, 0, a, 1, 0, s⟩, false, false, [⟨1, b, 9, c⟩], [], 0, false, 0, 0⟩
def db1 (s1 s2 : Int) : List Lsa := [lnkS 1 2 5 s1, lnkS 2 1 7 s2]
def db2 (s1 s2 : Int) : List Lsa := [lnkS 1 2 5 s1, lnkS 2 3 7 s2]
theorem cnt1_1 (s1 s2 : Int) : cntL 1 (db1 s1 s2) = db1 s1 s2 := rfl
theorem cnt1_2 (s1 s2 : Int) : cntL 2 (db1 s1 s2) = [] := rfl
theorem cnt2_1 (s1 s2 : Int) : cntL 1 (db2 s1 s2) = db2 s1 s2 := rfl
theorem cnt2_2 (s1 s2 : Int) : cntL 2 (db2 s1 s2) = [] := rfl
theorem edges1 (s1 s2 : Int) : edgesG (db1 s1 s2) [] = [⟨0, 1, 5⟩, ⟨1, 0, 7⟩] := rfl
theorem edges2 (s1 s2 : Int) : edgesG (db2 s1 s2) [] = [] := rfl
theorem ofL1 : ofL [⟨0, 1, 5⟩, ⟨1, 0, 7⟩] = [⟨0, 1, 5⟩, ⟨1, 0, 7⟩] := (ofL_least _).uniq ⟨by simp [AscK, ltK], by simp, by simp, by simp⟩
theorem ofL2 : ofL [] = [] := (ofL_least _).uniq ⟨by simp [AscK, ltK], by simp, by simp, by simp⟩
theorem ofF1 : ofF 2 0 [⟨0, 1, 5⟩, ⟨1, 0, 7⟩] = (⟨2, 0, [⟨0, 1, 5⟩, ⟨1, 0, 7⟩]⟩, 0) := by
  unfold ofF; rw [ofL1]; decide
theorem ofF2 : ofF 2 0 [] = (⟨2, 0, []⟩, 0) := by
  unfold ofF; rw [ofL2]; decide
theorem build1 (s1 s2 : Int) : buildF (db1 s1 s2) = (⟨⟨2, 0, [⟨0, 1, 5⟩, ⟨1, 0, 7⟩]⟩, [1, 2], []⟩, 0) := by
  unfold buildF
  rw [cnt1_1, cnt1_2]
  unfold buildG
  rw [edges1]
  have e : ofF ((db1 s1 s2).length : Int) (([] : List Lsa).length : Int) [⟨0, 1, 5⟩, ⟨1, 0, 7⟩] = (⟨2, 0, [⟨0, 1, 5⟩, ⟨1, 0, 7⟩]⟩, 0) := ofF1
  rw [e, if_neg (by decide)]; rfl
theorem build2 (s1 s2 : Int) : buildF (db2 s1 s2) = (⟨⟨2, 0, []⟩, [1, 2], []⟩, 0) := by
  unfold buildF
  rw [cnt2_1, cnt2_2]
  unfold buildG
  rw [edges2]
  have e : ofF ((db2 s1 s2).length : Int) (([] : List Lsa).length : Int) [] = (⟨2, 0, []⟩, 0) := ofF2
  rw [e, if_neg (by decide)]; rfl
end Go.Pl
/- Valid databases: keys are apart; Own and Get find the same advertisement. No program in sight. -/
namespace Go.Pl
open Go Go.RT
set_option linter.all false
theorem cmpI_lt (a b : Int) : cmpI a b < 0 ↔ a < b := by
  unfold cmpI
  split
  · simp; assumption
  · split <;> simp <;> omega
theorem keyI_lt (a b : KeyA) : keyI a b < 0 ↔ a.ty < b.ty ∨ a.ty = b.ty ∧ (a.id < b.id ∨ a.id = b.id ∧ (a.ln < b.ln ∨ a.ln = b.ln ∧ a.rt < b.rt)) := by
  unfold keyI
  split
  · rw [cmpI_lt]; omega
  · split
    · rw [cmpI_lt]; omega
    · split
      · rw [cmpI_lt]; omega
      · rw [cmpI_lt]; omega
def keyLt (a b : Lsa) : Prop := keyI (keyA a.h) (keyA b.h) < 0
theorem keyLt.trans {a b c : Lsa} (h1 : keyLt a b) (h2 : keyLt b c) : keyLt a c := by
  unfold keyLt at *
  rw [keyI_lt] at *
  omega
theorem keyLt.irr {a b : Lsa} (h : keyLt a b) (e : keyA a.h = keyA b.h) : False := by
  unfold keyLt at h
  rw [keyI_lt, e] at h
  omega
theorem rows_ok : ∀ (l : List Lsa) (p : Option Lsa), rowsGo p l = 0 → (∀ x ∈ l, chkA x = 0 ∧ sealB x = true) ∧ l.Pairwise keyLt ∧ ∀ q, p = some q → ∀ x ∈ l, keyLt q x
  | [], p, _ => ⟨fun x hx => by simp at hx, List.Pairwise.nil, fun q _ x hx => by simp at hx⟩
  | x :: l, p, h => by
    simp only [rowsGo] at h
    by_cases h1 : chkA x ≠ 0
    · rw [if_pos h1] at h; exact absurd h h1
    · rw [if_neg h1] at h
      by_cases h2 : sealB x = false
      · rw [if_pos h2] at h; cases h
      · rw [if_neg h2] at h
        by_cases h3 : badR p x = true
        · rw [if_pos h3] at h; cases h
        · rw [if_neg h3] at h
          obtain ⟨k1, k2, k3⟩ := rows_ok l (some x) h
          have kx := k3 x rfl
          refine ⟨fun y hy => ?_, List.pairwise_cons.2 ⟨kx, k2⟩, fun q hq y hy => ?_⟩
          · rcases List.mem_cons.1 hy with rfl | hy
            · exact ⟨by simpa using h1, by simpa using h2⟩
            · exact k1 y hy
          · subst hq
            have hqx : keyLt q x := by simp only [badR, decide_eq_true_eq] at h3; unfold keyLt; omega
            rcases List.mem_cons.1 hy with rfl | hy
            · exact hqx
            · exact hqx.trans (kx y hy)
theorem keys_uniq {l : List Lsa} (h : l.Pairwise keyLt) {x y : Lsa} (hx : x ∈ l) (hy : y ∈ l) (e : keyA x.h = keyA y.h) : x = y := by
  induction h with
  | nil => exact absurd hx (by simp)
  | cons h1 _ ih =>
    rcases List.mem_cons.1 hx with hxa | hx' <;> rcases List.mem_cons.1 hy with hya | hy'
    · exact hxa.trans hya.symm
    · exact ((h1 y hy').irr (hxa ▸ e)).elim
    · exact ((h1 x hx').irr (hya ▸ e.symm)).elim
    · exact ih hx' hy'
structure DbOk (db : List Lsa) : Prop where
  len : db.length ≤ 2000
  chk : ∀ x ∈ db, chkA x = 0
  pw : db.Pairwise keyLt
theorem dbOk {db : List Lsa} (h : dbI db = 0) : DbOk db := by
  unfold dbI at h
  by_cases h1 : 2000 < db.length
  · rw [if_pos h1] at h; cases h
  · rw [if_neg h1] at h
    obtain ⟨k1, k2, _⟩ := rows_ok db none h
    exact ⟨by omega, fun x hx => (k1 x hx).1, k2⟩
theorem head_router {h : Hdr} (h0 : headI h = 0) (h1 : h.ty = 1) : h.ln = 0 ∧ h.id = h.rt := by
  unfold headI at h0
  by_cases c1 : (!inB h.ty 1 5) = true
  · rw [if_pos c1] at h0; exact absurd h0 (by decide)
  rw [if_neg c1] at h0
  by_cases c2 : (decide (h.rt = 0) || !inB h.sq 1 2147483647 || !inB h.ag 0 3600 || !inB h.sm 0 65535) = true
  · rw [if_pos c2] at h0; exact absurd h0 (by decide)
  rw [if_neg c2] at h0
  by_cases c3 : (if (decide (h.ty = 1) || decide (h.ty = 4)) = true then decide (h.ln ≠ 0) else !inB h.ln 0 32) = true
  · rw [if_pos c3] at h0; exact absurd h0 (by decide)
  rw [if_neg c3] at h0
  by_cases c4 : (decide (h.ty = 1) && decide (h.id ≠ h.rt)) = true
  · rw [if_pos c4] at h0; exact absurd h0 (by decide)
  rw [if_pos (by simp [h1])] at c3
  exact ⟨by simpa using c3, by simpa [h1] using c4⟩
theorem DbOk.router {db : List Lsa} (h : DbOk db) {x : Lsa} (hx : x ∈ db) (h1 : x.h.ty = 1) : keyA x.h = ⟨1, x.h.rt, 0, x.h.rt⟩ := by
  obtain ⟨k1, k2⟩ := head_router (chkA_parts (h.chk x hx)).1 h1
  unfold keyA
  rw [h1, k1, k2]
theorem ownGo_eq (r : Int) : ∀ db, ownGo r db = db.find? fun l => cntB 1 l && decide (l.h.rt = r)
  | [] => rfl
  | l :: t => by
    simp only [ownGo, List.find?_cons]
    rw [ownGo_eq r t]
    cases cntB 1 l && decide (l.h.rt = r) <;> simp
end Go.Pl
/- Stubs: both sides take them of the same advertisement. No program in sight. -/
namespace Go.Pl
open Go Go.RT
set_option linter.all false
abbrev kOf (r : Int) : KeyA := keyA ⟨1, r, 0, r, 0, 0, 0⟩
def stubsA (db : List Lsa) (r : Int) : List Lnk :=
  match db.find? fun x => decide (keyA x.h = kOf r) with
  | none => []
  | some l => if 3600 ≤ l.h.ag then [] else stubsL l.ls
theorem stubs_eq {db : List Lsa} (h : DbOk db) (r : Int) : stubsA db r = stubsL ((ownGo r db).getD zeroA).ls := by
  rw [ownGo_eq]
  unfold stubsA
  have key : ∀ x ∈ db, (cntB 1 x && decide (x.h.rt = r)) = true → keyA x.h = kOf r ∧ x.h.ag < 3600 := fun x hx hc => by
    simp only [cntB, Bool.and_eq_true, decide_eq_true_eq] at hc
    exact ⟨by rw [h.router hx hc.1.1, hc.2]; rfl, hc.1.2⟩
  cases hf : db.find? (fun x => decide (keyA x.h = kOf r)) with
  | none =>
    have hn := List.find?_eq_none.1 hf
    have : db.find? (fun l => cntB 1 l && decide (l.h.rt = r)) = none := List.find?_eq_none.2 fun x hx hc => hn x hx (by simpa using (key x hx hc).1)
    rw [this]; rfl
  | some l =>
    have hl := List.mem_of_find?_eq_some hf
    have hk : keyA l.h = kOf r := by simpa using List.find?_some hf
    dsimp only
    have hty : l.h.ty = 1 := congrArg KeyA.ty hk
    have hrt : l.h.rt = r := congrArg KeyA.rt hk
    by_cases ha : 3600 ≤ l.h.ag
    · rw [if_pos ha]
      have : db.find? (fun l => cntB 1 l && decide (l.h.rt = r)) = none := List.find?_eq_none.2 fun x hx hc => by
        obtain ⟨e, ea⟩ := key x hx hc
        have := keys_uniq h.pw hx hl (e.trans hk.symm)
        subst this; omega
      rw [this]; rfl
    · rw [if_neg ha]
      cases hg : db.find? (fun l => cntB 1 l && decide (l.h.rt = r)) with
      | none =>
        have := List.find?_eq_none.1 hg l hl
        exact absurd (by simp [cntB, hty, hrt]; omega) this
      | some y =>
        have hy := List.mem_of_find?_eq_some hg
        have hp : (cntB 1 y && decide (y.h.rt = r)) = true := List.find?_some (p := fun l => cntB 1 l && decide (l.h.rt = r)) hg
        obtain ⟨e, _⟩ := key y hy hp
        have := keys_uniq h.pw hy hl (e.trans hk.symm)
        subst this; rfl
end Go.Pl
namespace Go.Proofs.Ytdhkioocjgpocaa
open Go Go.RT Go.Proofs Go.Pl
set_option linter.all false
set_option maxRecDepth 20000
theorem clone_a (l : Lsa) (hn1 : l.ls.length ≤ 40000000) (hn2 : l.att.length ≤ 40000000) : Meets Try.prog 73 [.fz (.agg (encA l))] 0 [] (.agg [IV .i64 l.h.ty, IV .u32 l.h.id, IV .i64 l.h.ln, IV .u32 l.h.rt, IV .i64 l.h.sq, IV .i64 l.h.ag, IV .i64 l.h.sm, BV l.bo, BV l.bd, .sl 0 4 0 l.ls.length, .fz (VU l.att), IV .i64 l.co, BV l.se, IV .u32 l.fw, IV .i64 l.tg]) [(0, OLk l.ls)] 1 := by
  refine Meets.intro Try.func73 rfl (Nat.le_of_ble_eq_true rfl) fun C hC => ?_
  simp only [List.map, argEnv, Nat.reduceAdd]
  refine nK ?_
  refine s_reg rfl ?_
  refine Run.eff (dd := some 1) rfl rfl (op_box_flat rfl (Opd.tmp _ _ rfl) tC rfl) ?_
  refine Run.eff (dd := some 2) rfl rfl (op_alloc rfl rfl rfl rfl) ?_
  refine Run.nil (FinR.mk ?_)
  refine nK ?_
  refine Next.toRefs 0 rfl rfl ?_
  refine Next.toRefs 1 rfl rfl ?_
  refine nK ?_
  refine s_draw mixed ?_
  refine Run.pure (dd := some 3) rfl rfl (op_fld_ptr (by decide) rfl (Opd.tmp _ _ rfl)) ?_
  refine Run.load (dd := some 4) rfl rfl (op_load1_refs rfl (Opd.tmp _ _ rfl) tH rfl) ?_
  refine Run.effW (dd := some 5) rfl rfl (op_call_fresh (fun _ => cloneL_f _ (by assumption)) rfl (Opd.func _) (Opds.cons _ _ _ _ (Opd.tmp _ _ rfl) Opds.nil)) tE ?_
  refine Run.pure (dd := some 6) rfl rfl (op_fld_ptr (by decide) rfl (Opd.tmp _ _ rfl)) ?_
  refine Run.load (dd := some 7) rfl rfl (op_load1_refs rfl (Opd.tmp _ _ rfl) tH rfl) ?_
  refine Run.pure (dd := some 8) rfl rfl (op_call_pure (fun _ => cloneU_c _ (by assumption)) rfl (Opd.func _) (Opds.cons _ _ _ _ (Opd.tmp _ _ rfl) Opds.nil)) ?_
  refine Run.pure (dd := some 9) rfl rfl (op_fld_ptr (by decide) rfl (Opd.tmp _ _ rfl)) ?_
  refine Run.effW (dd := none) rfl rfl (op_store_refs rfl (Opd.tmp _ _ rfl) (Opd.tmp _ _ rfl) tP rfl rfl rfl tS) tE ?_
  refine Run.pure (dd := some 10) rfl rfl (op_fld_ptr (by decide) rfl (Opd.tmp _ _ rfl)) ?_
  refine Run.effW (dd := none) rfl rfl (op_store_refs rfl (Opd.tmp _ _ rfl) (Opd.tmp _ _ rfl) tP rfl rfl rfl tS) tE ?_
  refine Run.nil (FinD.mk (by kernel_rfl) ?_)
  refine nK ?_
  refine s_reg rfl ?_
  refine Run.load (dd := some 11) rfl rfl (op_loadn_refs rfl (Opd.tmp _ _ rfl) tH tR tR) ?_
  refine Run.eff (dd := none) rfl rfl (op_store_refs rfl (Opd.tmp _ _ rfl) (Opd.tmp _ _ rfl) tP rfl rfl rfl tS) ?_
  refine Run.nil (FinR.mk ?_)
  refine nK ?_
  exact n_outW1 [2] [] rfl tVP rfl (keeps0 hC _) ⟨ent_same rfl rfl rfl tL, trivial⟩ (fun _ h => by simp at h) (.inl ⟨rfl, rfl⟩) rfl
abbrev aggA (l : Lsa) (id : Nat) : PV := .agg [IV .i64 l.h.ty, IV .u32 l.h.id, IV .i64 l.h.ln, IV .u32 l.h.rt, IV .i64 l.h.sq, IV .i64 l.h.ag, IV .i64 l.h.sm, BV l.bo, BV l.bd, .sl id 4 0 l.ls.length, .fz (VU l.att), IV .i64 l.co, BV l.se, IV .u32 l.fw, IV .i64 l.tg]
theorem get_none (db : List Lsa) (k : KeyA) (hn : lenOk db.length) (h : idxGo (fun x => decide (keyA x.h = k)) 0 db = -1) : Pure Try.prog 45 [VA db, .agg (encK k)] (.tup [.agg (encA zeroA), Bf false]) := by
  have hix := indexA_c db k hn
  rw [h] at hix
  refine Meets.intro Try.func45 rfl (Nat.le_of_ble_eq_true rfl) fun C hC => ?_
  simp only [List.map, argEnv, Nat.reduceAdd]
  refine nK ?_
  refine s_reg rfl ?_
  refine Run.eff (dd := some 3) rfl rfl (op_box_flat rfl (Opd.tmp _ _ rfl) tC rfl) ?_
  refine Run.eff (dd := some 4) rfl rfl (op_alloc rfl rfl rfl rfl) ?_
  refine Run.pure (dd := some 5) rfl rfl (op_assign rfl (Opd.const _)) ?_
  refine Run.nil (FinR.mk ?_)
  refine nK ?_
  refine s_reg rfl ?_
  refine Run.pure (dd := some 7) rfl rfl (op_move rfl (Opd.tmp _ _ rfl)) ?_
  refine Run.load (dd := some 8) rfl rfl (op_loadw_flat rfl (Opd.tmp _ _ rfl) tH rfl) ?_
  refine Run.pure (dd := some 9) rfl rfl (op_build rfl rfl rfl (FillF.cons _ _ _ _ _ _ _ _ _ _ (by rfl) (Opd.tmp _ _ rfl) tC (by rfl) tR (FillF.nil _))) ?_
  refine Run.pure (dd := some 10) rfl rfl (op_makeFunc rfl (Opds.cons _ _ _ _ (Opd.tmp _ _ rfl) Opds.nil) Opds.nil) ?_
  refine Run.eff (dd := some 11) rfl rfl (op_call (n := 0) (n' := 0) [] (fun _ => hix) rfl (Opd.func _) (Opds.cons _ _ _ _ (Opd.tmp _ _ rfl) (Opds.cons _ _ _ _ (Opd.tmp _ _ rfl) Opds.nil)) rfl rfl (Lent.of rfl rfl (by repeat (first | exact trivial | refine ⟨⟨rfl, rfl, rfl, tL⟩, ?_⟩)) rfl) rfl rfl rfl rfl rfl) ?_
  refine Run.pure (dd := some 6) rfl rfl (op_assign rfl (Opd.tmp _ _ rfl)) ?_
  refine Run.nil (FinR.mk ?_)
  refine nK ?_
  refine s_reg rfl ?_
  refine Run.pure (dd := some 12) rfl rfl (op_move rfl (Opd.tmp _ _ rfl)) ?_
  refine Run.pure (dd := some 13) rfl rfl (op_lss rfl (Opd.tmp _ _ rfl) (Opd.const _)) ?_
  refine Run.nil (FinR.mk ?_)
  refine nK ?_
  refine n_cond _ rfl (fun hb => ?_) (fun hb => ?_)
  · refine nK ?_
    refine s_reg rfl ?_
    refine Run.pure (dd := some 14) rfl rfl (op_build rfl rfl rfl (FillF.nil _)) ?_
    refine Run.eff (dd := none) rfl rfl (op_store_flat rfl (Opd.tmp _ _ rfl) (Opd.tmp _ _ rfl) tC rfl rfl (by first | rfl | assumption) tS) ?_
    refine Run.pure (dd := some 5) rfl rfl (op_assign rfl (Opd.const _)) ?_
    refine Run.nil (FinR.mk ?_)
    refine nK ?_
    refine Next.weakS [4] [] (by rfl) (keeps0 hC _) (G' := [(4, .ptr 0 15 0 0), (5, BV false)]) (H' := [(0, OA zeroA)]) (by repeat (first | exact trivial | refine ⟨⟨_, rfl, .inl ⟨rfl, rfl⟩⟩, ?_⟩ | refine ⟨⟨_, rfl, .inl ⟨slEq rfl tN, rfl⟩⟩, ?_⟩ | refine ⟨⟨_, rfl, .inl ⟨ivEq tX, rfl⟩⟩, ?_⟩)) (by exact ⟨⟨rfl, rfl, .fflat _ _ _ rfl tW⟩, trivial⟩) rfl ?_
    (first | exact s_o1 hC rfl tV | exact s_o2 hC rfl tV tV | exact s_o3 hC rfl tV tV tV | exact s_o4 hC rfl tV tV tV tV | exact s_out0 hC rfl | exact s_outO hC rfl rfl rfl)
  · exfalso; simp at hb
theorem get_some (db : List Lsa) (k : KeyA) (hn : lenOk db.length) (j : Nat) (hj : j < db.length) (h : idxGo (fun x => decide (keyA x.h = k)) 0 db = (j : Int)) (hn1 : db[j].ls.length ≤ 40000000) (hn2 : db[j].att.length ≤ 40000000) : Meets Try.prog 45 [.fz (VA db), .fz (.agg (encK k))] 0 [] (.tup [aggA db[j] 0, BV true]) [(0, OLk db[j].ls)] 1 := by
  have hix := indexA_c db k hn
  rw [h] at hix
  have hr1 := row_at' encA db j hj
  generalize db[j] = l at *
  have hcl := clone_a l hn1 hn2
  refine Meets.intro Try.func45 rfl (Nat.le_of_ble_eq_true rfl) fun C hC => ?_
  simp only [List.map, argEnv, Nat.reduceAdd]
  refine nK ?_
  refine s_reg rfl ?_
  refine Run.eff (dd := some 3) rfl rfl (op_box_flat rfl (Opd.tmp _ _ rfl) tC rfl) ?_
  refine Run.eff (dd := some 4) rfl rfl (op_alloc rfl rfl rfl rfl) ?_
  refine Run.pure (dd := some 5) rfl rfl (op_assign rfl (Opd.const _)) ?_
  refine Run.nil (FinR.mk ?_)
  refine nK ?_
  refine s_reg rfl ?_
  refine Run.pure (dd := some 7) rfl rfl (op_move rfl (Opd.tmp _ _ rfl)) ?_
  refine Run.load (dd := some 8) rfl rfl (op_loadw_flat rfl (Opd.tmp _ _ rfl) tH rfl) ?_
  refine Run.pure (dd := some 9) rfl rfl (op_build rfl rfl rfl (FillF.cons _ _ _ _ _ _ _ _ _ _ (by rfl) (Opd.tmp _ _ rfl) tC (by rfl) tR (FillF.nil _))) ?_
  refine Run.pure (dd := some 10) rfl rfl (op_makeFunc rfl (Opds.cons _ _ _ _ (Opd.tmp _ _ rfl) Opds.nil) Opds.nil) ?_
  refine Run.eff (dd := some 11) rfl rfl (op_call (n := 0) (n' := 0) [] (fun _ => hix) rfl (Opd.func _) (Opds.cons _ _ _ _ (Opd.tmp _ _ rfl) (Opds.cons _ _ _ _ (Opd.tmp _ _ rfl) Opds.nil)) rfl rfl (Lent.of rfl rfl (by repeat (first | exact trivial | refine ⟨⟨rfl, rfl, rfl, tL⟩, ?_⟩)) rfl) rfl rfl rfl rfl rfl) ?_
  refine Run.pure (dd := some 6) rfl rfl (op_assign rfl (Opd.tmp _ _ rfl)) ?_
  refine Run.nil (FinR.mk ?_)
  refine nK ?_
  refine s_reg rfl ?_
  refine Run.pure (dd := some 12) rfl rfl (op_move rfl (Opd.tmp _ _ rfl)) ?_
  refine Run.pure (dd := some 13) rfl rfl (op_lss rfl (Opd.tmp _ _ rfl) (Opd.const _)) ?_
  refine Run.nil (FinR.mk ?_)
  refine nK ?_
  refine n_cond _ rfl (fun hb => ?_) (fun hb => ?_)
  · exfalso; simp at hb; omega
  · refine Next.toRefs 1 rfl rfl ?_
    refine nK ?_
    refine s_reg rfl ?_
    refine Run.pure (dd := some 15) rfl rfl (op_move rfl (Opd.tmp _ _ rfl)) ?_
    refine Run.pure (dd := some 16) rfl rfl (op_move rfl (Opd.tmp _ _ rfl)) ?_
    refine Run.pure (dd := some 17) rfl rfl (op_idx_fz _ rfl (Opd.tmp _ _ rfl) (Opd.tmp _ _ rfl) tF) ?_
    refine Run.pure (dd := some 18) rfl rfl (op_loadw_fz rfl (Opd.tmp _ _ rfl) rfl) ?_
    refine Run.eff (dd := some 19) rfl rfl (op_call (n := 0) (n' := 1) [] (fun _ => hcl) rfl (Opd.func _) (Opds.cons _ _ _ _ (Opd.tmp _ _ rfl) Opds.nil) rfl rfl (Lent.of rfl rfl (by repeat (first | exact trivial | refine ⟨⟨rfl, rfl, rfl, tL⟩, ?_⟩)) rfl) rfl rfl rfl rfl rfl) ?_
    refine Run.eff (dd := none) rfl rfl (op_store_refs rfl (Opd.tmp _ _ rfl) (Opd.tmp _ _ rfl) tP rfl rfl rfl tS) ?_
    refine Run.pure (dd := some 5) rfl rfl (op_assign rfl (Opd.const _)) ?_
    refine Run.nil (FinR.mk ?_)
    refine nK ?_
    exact n_outW2 [2] [] rfl tVP tVP rfl (keeps0 hC _) ⟨ent_same rfl rfl rfl tL, trivial⟩ (fun _ h => by simp at h) (.inl ⟨rfl, rfl⟩) (.inl ⟨rfl, rfl⟩) rfl
theorem stubs_a (db : List Lsa) (r : Int) (hn : lenOk db.length) (hl : ∀ x ∈ db, x.ls.length ≤ 40000000 ∧ x.att.length ≤ 40000000) : Pure Try.prog 21 [VA db, If .u32 r] (VL (stubsA db r)) := by
  have hk := keyL_c ⟨1, r, 0, r, 0, 0, 0⟩
  rcases idx_ge (fun x : Lsa => decide (keyA x.h = kOf r)) db 0 with ⟨h1, h2⟩ | ⟨j, hj, h1, h2, h3⟩
  · have e : stubsA db r = [] := by
      unfold stubsA
      rw [List.find?_eq_none.2 (fun x hx => by rw [h2 x hx]; decide)]
    have hg := get_none db (kOf r) hn h1
    rw [e]
    refine Meets.intro Try.func21 rfl (Nat.le_of_ble_eq_true rfl) fun C hC => ?_
    simp only [List.map, argEnv, Nat.reduceAdd]
    refine nK ?_
    refine s_reg rfl ?_
    refine Run.pure (dd := some 4) rfl rfl (op_assign rfl (Opd.const _)) ?_
    refine Run.nil (FinR.mk ?_)
    refine nK ?_
    refine s_reg rfl ?_
    refine Run.pure (dd := some 8) rfl rfl (op_move rfl (Opd.tmp _ _ rfl)) ?_
    refine Run.pure (dd := some 9) rfl rfl (op_move rfl (Opd.tmp _ _ rfl)) ?_
    refine Run.pure (dd := some 10) rfl rfl (op_move rfl (Opd.tmp _ _ rfl)) ?_
    refine Run.pure (dd := some 11) rfl rfl (op_build rfl rfl rfl (FillF.cons _ _ _ _ _ _ _ _ _ _ (by rfl) (Opd.const _) tC (by rfl) tR (FillF.cons _ _ _ _ _ _ _ _ _ _ (by rfl) (Opd.tmp _ _ rfl) tC (by rfl) tR (FillF.cons _ _ _ _ _ _ _ _ _ _ (by rfl) (Opd.tmp _ _ rfl) tC (by rfl) tR (FillF.nil _))))) ?_
    refine Run.pure (dd := some 12) rfl rfl (op_call_pure (fun _ => hk) rfl (Opd.func _) (Opds.cons _ _ _ _ (Opd.tmp _ _ rfl) Opds.nil)) ?_
    refine Run.pure (dd := some 13) rfl rfl (op_call_pure (fun _ => hg) rfl (Opd.func _) (Opds.cons _ _ _ _ (Opd.tmp _ _ rfl) (Opds.cons _ _ _ _ (Opd.tmp _ _ rfl) Opds.nil))) ?_
    refine Run.pure (dd := some 7) rfl rfl (op_move rfl (Opd.tmp _ _ rfl)) ?_
    refine Run.pure (dd := some 14) rfl rfl (op_extract_fz rfl (Opd.tmp _ _ rfl) rfl) ?_
    refine Run.pure (dd := some 15) rfl rfl (op_extract_fz rfl (Opd.tmp _ _ rfl) rfl) ?_
    refine Run.eff (dd := some 5) rfl rfl (op_alloc rfl rfl rfl rfl) ?_
    refine Run.eff (dd := none) rfl rfl (op_store_flat rfl (Opd.tmp _ _ rfl) (Opd.tmp _ _ rfl) tC rfl rfl (by first | rfl | assumption) tS) ?_
    refine Run.pure (dd := some 6) rfl rfl (op_assign rfl (Opd.tmp _ _ rfl)) ?_
    refine Run.nil (FinR.mk ?_)
    refine nK ?_
    refine s_reg rfl ?_
    refine Run.pure (dd := some 16) rfl rfl (op_move rfl (Opd.tmp _ _ rfl)) ?_
    refine Run.pure (dd := some 17) rfl rfl (op_not rfl (Opd.tmp _ _ rfl)) ?_
    refine Run.pure (dd := some 18) rfl rfl (op_move rfl (Opd.tmp _ _ rfl)) ?_
    refine Run.pureG (dd := some 19) rfl rfl rfl tG (op_fld_ptr (by decide) rfl (Opd.tmp _ _ rfl)) ?_
    refine Run.pureG (dd := some 20) rfl rfl rfl tG (op_fld_ptr (by decide) rfl (Opd.topt _ _ _ rfl tO)) ?_
    refine Run.loadG (dd := some 21) rfl rfl rfl tG (op_load1_flat rfl (Opd.topt _ _ _ rfl tO) tH rfl) ?_
    refine Run.pureG (dd := some 22) rfl rfl rfl tG (op_geq rfl (Opd.topt _ _ _ rfl tO) (Opd.const _)) ?_
    refine Run.pure (dd := some 23) rfl rfl (op_pick_or rfl (Opd.tmp _ _ rfl) (Opd.topt _ _ _ rfl tO)) ?_
    refine Run.nil (FinR.mk ?_)
    refine nK ?_
    refine n_cond _ rfl (fun hb => ?_) (fun hb => ?_)
    · refine nK ?_
      refine s_reg rfl ?_
      refine Run.pure (dd := some 4) rfl rfl (op_assign rfl (Opd.const _)) ?_
      refine Run.nil (FinR.mk ?_)
      refine nK ?_
      refine Next.adopt 4 4 rfl ?_
      refine Next.weakS [4] [4] (by rfl) (keeps0 hC _) (G' := [(4, .fz (VL []))]) (H' := []) (by repeat (first | exact trivial | refine ⟨⟨_, rfl, .inl ⟨rfl, rfl⟩⟩, ?_⟩ | refine ⟨⟨_, rfl, .inl ⟨slEq rfl tN, rfl⟩⟩, ?_⟩ | refine ⟨⟨_, rfl, .inl ⟨ivEq tX, rfl⟩⟩, ?_⟩ | refine ⟨⟨_, rfl, .inr ⟨_, rfl, tW⟩⟩, ?_⟩)) trivial rfl ?_
      (first | exact s_o1 hC rfl tV | exact s_o2 hC rfl tV tV | exact s_o3 hC rfl tV tV tV | exact s_o4 hC rfl tV tV tV tV | exact s_out0 hC rfl | exact s_outO hC rfl rfl rfl)
    · exfalso; simp at hb
  · rw [Nat.zero_add] at h1
    obtain ⟨hl1, hl2⟩ := hl db[j] (List.getElem_mem hj)
    have hg := get_some db (kOf r) hn j hj h1 hl1 hl2
    have e : stubsA db r = if 3600 ≤ db[j].h.ag then [] else stubsL db[j].ls := by
      have hf : db.find? (fun x => decide (keyA x.h = kOf r)) = some db[j] := List.find?_eq_some_iff_getElem.2 ⟨h2, j, hj, rfl, fun m hm => by simpa using h3 m hm⟩
      unfold stubsA
      rw [hf]
    generalize db[j] = l at *
    have hde := deleteL_c l.ls hl1 48 [] (fun x => decide (x.k ≠ 3)) stubsP_c
    have hks : keepL (fun x : Lnk => decide (x.k ≠ 3)) l.ls = stubsL l.ls := by
      unfold keepL stubsL
      congr 1; funext x; simp
    rw [hks] at hde
    rw [e]
    refine Meets.intro Try.func21 rfl (Nat.le_of_ble_eq_true rfl) fun C hC => ?_
    simp only [List.map, argEnv, Nat.reduceAdd]
    refine nK ?_
    refine s_reg rfl ?_
    refine Run.pure (dd := some 4) rfl rfl (op_assign rfl (Opd.const _)) ?_
    refine Run.nil (FinR.mk ?_)
    refine nK ?_
    refine s_reg rfl ?_
    refine Run.pure (dd := some 8) rfl rfl (op_move rfl (Opd.tmp _ _ rfl)) ?_
    refine Run.pure (dd := some 9) rfl rfl (op_move rfl (Opd.tmp _ _ rfl)) ?_
    refine Run.pure (dd := some 10) rfl rfl (op_move rfl (Opd.tmp _ _ rfl)) ?_
    refine Run.pure (dd := some 11) rfl rfl (op_build rfl rfl rfl (FillF.cons _ _ _ _ _ _ _ _ _ _ (by rfl) (Opd.const _) tC (by rfl) tR (FillF.cons _ _ _ _ _ _ _ _ _ _ (by rfl) (Opd.tmp _ _ rfl) tC (by rfl) tR (FillF.cons _ _ _ _ _ _ _ _ _ _ (by rfl) (Opd.tmp _ _ rfl) tC (by rfl) tR (FillF.nil _))))) ?_
    refine Run.pure (dd := some 12) rfl rfl (op_call_pure (fun _ => hk) rfl (Opd.func _) (Opds.cons _ _ _ _ (Opd.tmp _ _ rfl) Opds.nil)) ?_
    refine Run.eff (dd := some 13) rfl rfl (op_call (n := 0) (n' := 1) [] (fun _ => hg) rfl (Opd.func _) (Opds.cons _ _ _ _ (Opd.tmp _ _ rfl) (Opds.cons _ _ _ _ (Opd.tmp _ _ rfl) Opds.nil)) rfl rfl (Lent.of rfl rfl (by repeat (first | exact trivial | refine ⟨⟨rfl, rfl, rfl, tL⟩, ?_⟩)) rfl) rfl rfl rfl rfl rfl) ?_
    refine Run.pure (dd := some 7) rfl rfl (op_move rfl (Opd.tmp _ _ rfl)) ?_
    refine Run.pure (dd := some 14) rfl rfl (op_extract rfl (Opd.tmp _ _ rfl) rfl) ?_
    refine Run.pure (dd := some 15) rfl rfl (op_extract rfl (Opd.tmp _ _ rfl) rfl) ?_
    refine Run.eff (dd := some 5) rfl rfl (op_allocP rfl rfl rfl rfl rfl) ?_
    refine Run.eff (dd := none) rfl rfl (op_store_refs rfl (Opd.tmp _ _ rfl) (Opd.tmp _ _ rfl) tP rfl rfl rfl tS) ?_
    refine Run.pure (dd := some 6) rfl rfl (op_assign rfl (Opd.tmp _ _ rfl)) ?_
    refine Run.nil (FinR.mk ?_)
    refine nK ?_
    refine s_reg rfl ?_
    refine Run.pure (dd := some 16) rfl rfl (op_move rfl (Opd.tmp _ _ rfl)) ?_
    refine Run.pure (dd := some 17) rfl rfl (op_not rfl (Opd.tmp _ _ rfl)) ?_
    refine Run.pure (dd := some 18) rfl rfl (op_move rfl (Opd.tmp _ _ rfl)) ?_
    refine Run.pureG (dd := some 19) rfl rfl rfl tG (op_fld_ptr (by decide) rfl (Opd.tmp _ _ rfl)) ?_
    refine Run.pureG (dd := some 20) rfl rfl rfl tG (op_fld_ptr (by decide) rfl (Opd.topt _ _ _ rfl tO)) ?_
    refine Run.loadG (dd := some 21) rfl rfl rfl tG (op_load1_refs rfl (Opd.topt _ _ _ rfl tO) tH rfl) ?_
    refine Run.pureG (dd := some 22) rfl rfl rfl tG (op_geq rfl (Opd.topt _ _ _ rfl tO) (Opd.const _)) ?_
    refine Run.pure (dd := some 23) rfl rfl (op_pick_or rfl (Opd.tmp _ _ rfl) (Opd.topt _ _ _ rfl tO)) ?_
    refine Run.nil (FinR.mk ?_)
    refine nK ?_
    refine n_cond _ rfl (fun hb => ?_) (fun hb => ?_)
    · have ha : 3600 ≤ l.h.ag := by simpa using hb
      rw [if_pos ha]
      refine nK ?_
      refine s_reg rfl ?_
      refine Run.pure (dd := some 4) rfl rfl (op_assign rfl (Opd.const _)) ?_
      refine Run.nil (FinR.mk ?_)
      refine nK ?_
      refine Next.adopt 4 4 rfl ?_
      refine Next.weakS [4] [4] (by rfl) (keeps0 hC _) (G' := [(4, .fz (VL []))]) (H' := []) (by repeat (first | exact trivial | refine ⟨⟨_, rfl, .inl ⟨rfl, rfl⟩⟩, ?_⟩ | refine ⟨⟨_, rfl, .inl ⟨slEq rfl tN, rfl⟩⟩, ?_⟩ | refine ⟨⟨_, rfl, .inl ⟨ivEq tX, rfl⟩⟩, ?_⟩ | refine ⟨⟨_, rfl, .inr ⟨_, rfl, tW⟩⟩, ?_⟩)) trivial rfl ?_
      (first | exact s_o1 hC rfl tV | exact s_o2 hC rfl tV tV | exact s_o3 hC rfl tV tV tV | exact s_o4 hC rfl tV tV tV tV | exact s_out0 hC rfl | exact s_outO hC rfl rfl rfl)
    · have ha : ¬ 3600 ≤ l.h.ag := by simpa using hb
      rw [if_neg ha]
      refine nK ?_
      refine s_reg rfl ?_
      refine Run.pure (dd := some 24) rfl rfl (op_fld_ptr (by decide) rfl (Opd.tmp _ _ rfl)) ?_
      refine Run.load (dd := some 25) rfl rfl (op_load1_refs rfl (Opd.tmp _ _ rfl) tH rfl) ?_
      refine Run.eff (dd := some 26) rfl rfl (op_call (n := 1) (n' := 1) [0] (fun _ => hde) rfl (Opd.func _) (Opds.cons _ _ _ _ (Opd.tmp _ _ rfl) (Opds.cons _ _ _ _ (Opd.funcF _) Opds.nil)) rfl rfl (Lent.of rfl rfl (by repeat (first | exact trivial | refine ⟨⟨rfl, rfl, rfl, tL⟩, ?_⟩)) rfl) rfl rfl rfl rfl rfl) ?_
      refine Run.pure (dd := some 4) rfl rfl (op_assign rfl (Opd.tmp _ _ rfl)) ?_
      refine Run.nil (FinR.mk ?_)
      refine nK ?_
      (first | exact s_o1 hC rfl tV | exact s_o2 hC rfl tV tV | exact s_o3 hC rfl tV tV tV | exact s_o4 hC rfl tV tV tV tV | exact s_out0 hC rfl | exact s_outO hC rfl rfl rfl)
open Go Go.RT Go.Proofs Go.Pl
set_option maxRecDepth 20000
theorem counted_f (db : List Lsa) (k : Int) (hn : db.length ≤ 40000000) : Meets Try.prog 25 ([VA db, If .i64 k].map PV.fz) 0 [] (.sl 0 15 0 (cntL k db).length) [(0, some (.flat 15 ((cntL k db).map encA)))] 1 := by
  refine Meets.intro Try.func25 rfl (Nat.le_of_ble_eq_true rfl) fun C hC => ?_
  simp only [List.map, argEnv, Nat.reduceAdd]
  refine nK ?_
  refine s_reg rfl ?_
  refine Run.pure (dd := some 4) rfl rfl (op_assign rfl (Opd.const _)) ?_
  refine Run.nil (FinR.mk ?_)
  refine nK ?_
  refine s_reg rfl ?_
  refine Run.pure (dd := some 5) rfl rfl (op_assign rfl (Opd.const _)) ?_
  refine Run.nil (FinR.mk ?_)
  refine nK ?_
  refine Next.adopt 5 15 rfl ?_
  refine nK ?_
  refine s_reg rfl ?_
  refine Run.pure (dd := some 8) rfl rfl (op_move rfl (Opd.tmp _ _ rfl)) ?_
  refine Run.pure (dd := some 9) rfl rfl (op_len_fz rfl (by first | exact Opd.tmp _ _ rfl | exact Opd.nil _ _ (Opd.tmp _ _ rfl)) (by first | exact List.length_map _ | rfl)) ?_
  refine Run.pure (dd := some 10) rfl rfl (op_move rfl (Opd.const _)) ?_
  refine Run.nil (FinR.mk ?_)
  refine nK ?_
  refine n_loop (ι := Nat × List Lsa) (fun p => ([(1, IV .i64 k), (5, .sl 0 15 0 p.2.length), (8, .fz (VA db)), (9, IV .i64 db.length), (10, IV .i64 p.1)], [(0, some (.flat 15 (p.2.map encA)))], 1)) (fun p => p.1 ≤ db.length ∧ p.2 = cntL k (db.take p.1)) (fun p => db.length - p.1) (0, []) ⟨Nat.zero_le _, by simp [cntL]⟩ ?_ ?_
  · refine Next.weakS [5] [] (by rfl) (by first | exact keeps0 hC _ | exact keepsN hC _ rfl) (by repeat (first | exact trivial | refine ⟨⟨_, rfl, .inl ⟨rfl, rfl⟩⟩, ?_⟩ | refine ⟨⟨_, rfl, .inl ⟨slEq rfl tN, rfl⟩⟩, ?_⟩ | refine ⟨⟨_, rfl, .inl ⟨ivEq tX, rfl⟩⟩, ?_⟩)) (by repeat (first | exact trivial | refine ⟨ent_same rfl rfl rfl tL, ?_⟩ | refine ⟨ent_same rfl rfl (rfEq rfl tU) tL, ?_⟩ | refine ⟨ent_same rfl rfl (flEq rfl (by first | (simp; done) | (simp; omega) | (simp [encA, encH, encL, encU, encK, encV, encR, encE]; done) | simp [maxC, minC])) trivial, ?_⟩)) rfl (rel_intro)
  · intro ⟨i, c⟩ ⟨hi, hS⟩ K hK
    dsimp only at hi hS ⊢
    have hcl : c.length ≤ i := by rw [hS]; exact Nat.le_trans (cnt_len _ _) (by simp; omega)
    refine nK ?_
    refine s_reg rfl ?_
    refine Run.pure (dd := some 11) rfl rfl (op_lss rfl (Opd.tmp _ _ rfl) (Opd.tmp _ _ rfl)) ?_
    refine Run.nil (FinR.mk ?_)
    refine nK ?_
    refine n_cond _ rfl (fun hb => ?_) (fun hb => ?_)
    · have hlt : i < db.length := by simp at hb; omega
      have hr1 := row_at' encA db i hlt
      have hst := cnt_take (k := k) hlt
      have hK1 := fun c' h => hK (i + 1, c') ⟨by dsimp only; omega, h⟩ (by dsimp only; omega)
      refine nK ?_
      refine s_reg rfl ?_
      refine Run.pure (dd := some 12) rfl rfl (op_idx_fz _ rfl (Opd.tmp _ _ rfl) (Opd.tmp _ _ rfl) tF) ?_
      refine Run.pure (dd := some 13) rfl rfl (op_loadw_fz rfl (Opd.tmp _ _ rfl) rfl) ?_
      refine Run.eff (dd := some 7) rfl rfl (op_alloc rfl rfl rfl rfl) ?_
      refine Run.eff (dd := none) rfl rfl (op_store_flat rfl (Opd.tmp _ _ rfl) (Opd.tmp _ _ rfl) tC rfl rfl (by first | rfl | assumption) tS) ?_
      refine Run.nil (FinR.mk ?_)
      refine nK ?_
      refine s_reg rfl ?_
      refine Run.pure (dd := some 14) rfl rfl (op_fld_ptr (by decide) rfl (Opd.tmp _ _ rfl)) ?_
      refine Run.pure (dd := some 15) rfl rfl (op_fld_ptr (by decide) rfl (Opd.tmp _ _ rfl)) ?_
      refine Run.load (dd := some 16) rfl rfl (op_load1_flat rfl (Opd.tmp _ _ rfl) tH rfl) ?_
      refine Run.pure (dd := some 17) rfl rfl (op_move rfl (Opd.tmp _ _ rfl)) ?_
      refine Run.pure (dd := some 18) rfl rfl (op_eql rfl (Opd.tmp _ _ rfl) (Opd.tmp _ _ rfl)) ?_
      refine Run.pure (dd := some 19) rfl rfl (op_move rfl (Opd.tmp _ _ rfl)) ?_
      refine Run.pureG (dd := some 20) rfl rfl rfl tG (op_fld_ptr (by decide) rfl (Opd.tmp _ _ rfl)) ?_
      refine Run.pureG (dd := some 21) rfl rfl rfl tG (op_fld_ptr (by decide) rfl (Opd.topt _ _ _ rfl tO)) ?_
      refine Run.loadG (dd := some 22) rfl rfl rfl tG (op_load1_flat rfl (Opd.topt _ _ _ rfl tO) tH rfl) ?_
      refine Run.pureG (dd := some 23) rfl rfl rfl tG (op_lss rfl (Opd.topt _ _ _ rfl tO) (Opd.const _)) ?_
      refine Run.pure (dd := some 24) rfl rfl (op_pick_and rfl (Opd.tmp _ _ rfl) (Opd.topt _ _ _ rfl tO)) ?_
      refine Run.nil (FinR.mk ?_)
      refine nK ?_
      refine n_cond _ rfl (fun hb => ?_) (fun hb => ?_)
      · rw [if_pos (show cntB k db[i] = true from hb), ← hS] at hst
        have hK2 := hK1 _ hst.symm
        have hel : (c ++ [db[i]]).length = c.length + 1 := by simp
        rw [hel] at hK2
        refine nK ?_
        refine s_reg rfl ?_
        refine Run.pure (dd := some 25) rfl rfl (op_move rfl (Opd.tmp _ _ rfl)) ?_
        refine Run.load (dd := some 26) rfl rfl (op_loadw_flat rfl (Opd.tmp _ _ rfl) tH rfl) ?_
        refine Run.eff (dd := some 27) rfl rfl (op_buildSlice_own rfl (RowsF.cons _ _ _ _ _ _ (Opd.tmp _ _ rfl) tC (by rfl) (RowsF.nil _)) rfl rfl rfl) ?_
        refine Run.eff (dd := some 28) rfl rfl (op_append_own0 rfl (Opd.tmp _ _ rfl) (Opd.tmp _ _ rfl) rfl (by first | rfl | simp) rfl (by first | rfl | simp) rfl rfl tB tB) ?_
        refine Run.pure (dd := some 5) rfl rfl (op_assign rfl (Opd.tmp _ _ rfl)) ?_
        refine Run.nil (FinR.mk ?_)
        refine nK ?_
        refine s_reg rfl ?_
        refine Run.pure (dd := some 29) rfl rfl (op_add rfl (Opd.tmp _ _ rfl) (Opd.const _) tI) ?_
        refine Run.pure (dd := some 10) rfl rfl (op_move rfl (Opd.tmp _ _ rfl)) ?_
        refine Run.nil (FinR.mk ?_)
        refine nK ?_
        refine Next.weakS [5] [] (by rfl) (by first | exact keeps0 hC _ | exact keepsN hC _ rfl) (by repeat (first | exact trivial | refine ⟨⟨_, rfl, .inl ⟨rfl, rfl⟩⟩, ?_⟩ | refine ⟨⟨_, rfl, .inl ⟨slEq rfl tN, rfl⟩⟩, ?_⟩ | refine ⟨⟨_, rfl, .inl ⟨ivEq tX, rfl⟩⟩, ?_⟩)) (by repeat (first | exact trivial | refine ⟨ent_same rfl rfl rfl tL, ?_⟩ | refine ⟨ent_same rfl rfl (rfEq rfl tU) tL, ?_⟩ | refine ⟨ent_same rfl rfl (flEq rfl (by first | (simp; done) | (simp; omega) | (simp [encA, encH, encL, encU, encK, encV, encR, encE]; done) | simp [maxC, minC])) trivial, ?_⟩)) rfl (hK2)
      · rw [if_neg (by rw [show cntB k db[i] = false from hb]; decide), ← hS, List.append_nil] at hst
        refine nK ?_
        refine s_reg rfl ?_
        refine Run.pure (dd := some 29) rfl rfl (op_add rfl (Opd.tmp _ _ rfl) (Opd.const _) tI) ?_
        refine Run.pure (dd := some 10) rfl rfl (op_move rfl (Opd.tmp _ _ rfl)) ?_
        refine Run.nil (FinR.mk ?_)
        refine nK ?_
        refine Next.weakS [5] [] (by rfl) (by first | exact keeps0 hC _ | exact keepsN hC _ rfl) (by repeat (first | exact trivial | refine ⟨⟨_, rfl, .inl ⟨rfl, rfl⟩⟩, ?_⟩ | refine ⟨⟨_, rfl, .inl ⟨slEq rfl tN, rfl⟩⟩, ?_⟩ | refine ⟨⟨_, rfl, .inl ⟨ivEq tX, rfl⟩⟩, ?_⟩)) (by repeat (first | exact trivial | refine ⟨ent_same rfl rfl rfl tL, ?_⟩ | refine ⟨ent_same rfl rfl (rfEq rfl tU) tL, ?_⟩ | refine ⟨ent_same rfl rfl (flEq rfl (by first | (simp; done) | (simp; omega) | (simp [encA, encH, encL, encU, encK, encV, encR, encE]; done) | simp [maxC, minC])) trivial, ?_⟩)) rfl ((hK1 c hst.symm))
    · have hie : i = db.length := by simp at hb; omega
      rw [hie, List.take_length] at hS
      rw [← hS]
      refine nK ?_
      refine s_reg rfl ?_
      refine Run.pure (dd := some 30) rfl rfl (op_move rfl (Opd.tmp _ _ rfl)) ?_
      refine Run.pure (dd := some 4) rfl rfl (op_assign rfl (Opd.tmp _ _ rfl)) ?_
      refine Run.nil (FinR.mk ?_)
      refine nK ?_
      (first | exact s_o1 hC rfl tV | exact s_o2 hC rfl tV tV | exact s_o3 hC rfl tV tV tV | exact s_o4 hC rfl tV tV tV tV | exact s_out0 hC rfl | exact s_outO hC rfl rfl rfl)
theorem counted_c (db : List Lsa) (k : Int) (hn : db.length ≤ 40000000) : Pure Try.prog 25 [VA db, If .i64 k] (VA (cntL k db)) := (counted_f db k hn).freeze (by simp)
theorem points_c (l : Lsa) (ho : okA l) (hn : l.ls.length ≤ 40000000) : Pure Try.prog 26 [.agg (encA l)] (FPts (ptsM l.ls)) := by
  haveI : KEnc Try.prog 42 Int ekU (inr .u32) := kenc_int (by kernel_rfl)
  unfold ptsM
  refine Meets.intro Try.func26 rfl (Nat.le_of_ble_eq_true rfl) fun C hC => ?_
  simp only [List.map, argEnv, Nat.reduceAdd]
  refine nK ?_
  refine s_reg rfl ?_
  refine Run.eff (dd := some 1) rfl rfl (op_box_flat rfl (Opd.tmp _ _ rfl) tC rfl) ?_
  refine Run.pure (dd := some 2) rfl rfl (op_assign rfl (Opd.const _)) ?_
  refine Run.nil (FinR.mk ?_)
  refine nK ?_
  refine s_reg rfl ?_
  refine Run.eff (dd := some 6) rfl rfl (op_makeMap rfl) ?_
  refine Run.pure (dd := some 3) rfl rfl (op_assign rfl (Opd.tmp _ _ rfl)) ?_
  refine Run.nil (FinR.mk ?_)
  refine nK ?_
  refine s_reg rfl ?_
  refine Run.pure (dd := some 7) rfl rfl (op_fld_ptr (by decide) rfl (Opd.tmp _ _ rfl)) ?_
  refine Run.load (dd := some 8) rfl rfl (op_load1_flat rfl (Opd.tmp _ _ rfl) tH rfl) ?_
  refine Run.pure (dd := some 9) rfl rfl (op_len_fz rfl (by first | exact Opd.tmp _ _ rfl | exact Opd.nil _ _ (Opd.tmp _ _ rfl)) (by first | exact List.length_map _ | rfl)) ?_
  refine Run.pure (dd := some 10) rfl rfl (op_move rfl (Opd.const _)) ?_
  refine Run.nil (FinR.mk ?_)
  refine nK ?_
  refine n_loop (ι := Nat × List (Int × Bool)) (fun p => ([(3, .mp 0), (8, .fz (VL l.ls)), (9, IV .i64 l.ls.length), (10, IV .i64 p.1)], [(0, OMap ekU Bf p.2)], 1)) (fun p => p.1 ≤ l.ls.length ∧ mOk p.2 ∧ ptsGo (l.ls.drop p.1) p.2 = ptsGo l.ls []) (fun p => l.ls.length - p.1) (0, []) ⟨Nat.zero_le _, mOk_nil, rfl⟩ ?_ ?_
  · refine Next.weakS [3] [] (by rfl) (by first | exact keeps0 hC _ | exact keepsN hC _ rfl) (by repeat (first | exact trivial | refine ⟨⟨_, rfl, .inl ⟨rfl, rfl⟩⟩, ?_⟩ | refine ⟨⟨_, rfl, .inl ⟨slEq rfl tN, rfl⟩⟩, ?_⟩ | refine ⟨⟨_, rfl, .inl ⟨ivEq tX, rfl⟩⟩, ?_⟩)) (by repeat (first | exact trivial | refine ⟨ent_same rfl rfl rfl tL, ?_⟩ | refine ⟨ent_same rfl rfl (rfEq rfl tU) tL, ?_⟩ | refine ⟨ent_same rfl rfl (flEq rfl (by first | (simp; done) | (simp; omega) | (simp [encA, encH, encL, encU, encK, encV, encR, encE]; done) | simp [maxC, minC])) trivial, ?_⟩)) rfl (rel_intro)
  · intro ⟨i, m⟩ ⟨hi, hm, hS⟩ K hK
    dsimp only at hi hm hS ⊢
    refine nK ?_
    refine s_reg rfl ?_
    refine Run.pure (dd := some 11) rfl rfl (op_lss rfl (Opd.tmp _ _ rfl) (Opd.tmp _ _ rfl)) ?_
    refine Run.nil (FinR.mk ?_)
    refine nK ?_
    refine n_cond _ rfl (fun hb => ?_) (fun hb => ?_)
    · have hlt : i < l.ls.length := by simp at hb; omega
      have hr1 := row_at' encL l.ls i hlt
      have hkk := (ho.2.1 l.ls[i] (List.getElem_mem hlt)).2.1
      rw [pts_step hlt] at hS
      have hK1 := fun m' h1 h2 => hK (i + 1, m') ⟨by dsimp only; omega, h1, h2⟩ (by dsimp only; omega)
      refine nK ?_
      refine s_reg rfl ?_
      refine Run.pure (dd := some 12) rfl rfl (op_idx_fz _ rfl (Opd.tmp _ _ rfl) (Opd.tmp _ _ rfl) tF) ?_
      refine Run.pure (dd := some 13) rfl rfl (op_loadw_fz rfl (Opd.tmp _ _ rfl) rfl) ?_
      refine Run.eff (dd := some 5) rfl rfl (op_alloc rfl rfl rfl rfl) ?_
      refine Run.eff (dd := none) rfl rfl (op_store_flat rfl (Opd.tmp _ _ rfl) (Opd.tmp _ _ rfl) tC rfl rfl (by first | rfl | assumption) tS) ?_
      refine Run.nil (FinR.mk ?_)
      refine nK ?_
      refine s_reg rfl ?_
      refine Run.pure (dd := some 14) rfl rfl (op_fld_ptr (by decide) rfl (Opd.tmp _ _ rfl)) ?_
      refine Run.load (dd := some 15) rfl rfl (op_load1_flat rfl (Opd.tmp _ _ rfl) tH rfl) ?_
      refine Run.pure (dd := some 16) rfl rfl (op_eql rfl (Opd.tmp _ _ rfl) (Opd.const _)) ?_
      refine Run.nil (FinR.mk ?_)
      refine nK ?_
      refine n_cond _ rfl (fun hb => ?_) (fun hb => ?_)
      · rw [if_pos hb] at hS
        refine nK ?_
        refine s_reg rfl ?_
        refine Run.pure (dd := some 17) rfl rfl (op_move rfl (Opd.tmp _ _ rfl)) ?_
        refine Run.pure (dd := some 18) rfl rfl (op_fld_ptr (by decide) rfl (Opd.tmp _ _ rfl)) ?_
        refine Run.load (dd := some 19) rfl rfl (op_load1_flat rfl (Opd.tmp _ _ rfl) tH rfl) ?_
        refine Run.eff (dd := none) rfl rfl (op_mapPut (κ := Int) (ν := Bool) (ek := ekU) (ev := Bf) (l := m) (k := l.ls[i].id) (v := true) (.inl rfl) (Opd.tmp _ _ rfl) (Opd.tmp _ _ rfl) (Opd.const _) rfl hm.1 hm.2 hkk) ?_
        refine Run.nil (FinR.mk ?_)
        refine nK ?_
        refine s_reg rfl ?_
        refine Run.pure (dd := some 20) rfl rfl (op_add rfl (Opd.tmp _ _ rfl) (Opd.const _) tI) ?_
        refine Run.pure (dd := some 10) rfl rfl (op_move rfl (Opd.tmp _ _ rfl)) ?_
        refine Run.nil (FinR.mk ?_)
        refine nK ?_
        refine Next.weakS [3] [] (by rfl) (by first | exact keeps0 hC _ | exact keepsN hC _ rfl) (by repeat (first | exact trivial | refine ⟨⟨_, rfl, .inl ⟨rfl, rfl⟩⟩, ?_⟩ | refine ⟨⟨_, rfl, .inl ⟨slEq rfl tN, rfl⟩⟩, ?_⟩ | refine ⟨⟨_, rfl, .inl ⟨ivEq tX, rfl⟩⟩, ?_⟩)) (by repeat (first | exact trivial | refine ⟨ent_same rfl rfl rfl tL, ?_⟩ | refine ⟨ent_same rfl rfl (rfEq rfl tU) tL, ?_⟩ | refine ⟨ent_same rfl rfl (flEq rfl (by first | (simp; done) | (simp; omega) | (simp [encA, encH, encL, encU, encK, encV, encR, encE]; done) | simp [maxC, minC])) trivial, ?_⟩)) rfl ((hK1 _ (hm.put hkk true) hS))
      · rw [if_neg (by rw [hb]; decide)] at hS
        refine nK ?_
        refine s_reg rfl ?_
        refine Run.pure (dd := some 20) rfl rfl (op_add rfl (Opd.tmp _ _ rfl) (Opd.const _) tI) ?_
        refine Run.pure (dd := some 10) rfl rfl (op_move rfl (Opd.tmp _ _ rfl)) ?_
        refine Run.nil (FinR.mk ?_)
        refine nK ?_
        refine Next.weakS [3] [] (by rfl) (by first | exact keeps0 hC _ | exact keepsN hC _ rfl) (by repeat (first | exact trivial | refine ⟨⟨_, rfl, .inl ⟨rfl, rfl⟩⟩, ?_⟩ | refine ⟨⟨_, rfl, .inl ⟨slEq rfl tN, rfl⟩⟩, ?_⟩ | refine ⟨⟨_, rfl, .inl ⟨ivEq tX, rfl⟩⟩, ?_⟩)) (by repeat (first | exact trivial | refine ⟨ent_same rfl rfl rfl tL, ?_⟩ | refine ⟨ent_same rfl rfl (rfEq rfl tU) tL, ?_⟩ | refine ⟨ent_same rfl rfl (flEq rfl (by first | (simp; done) | (simp; omega) | (simp [encA, encH, encL, encU, encK, encV, encR, encE]; done) | simp [maxC, minC])) trivial, ?_⟩)) rfl ((hK1 _ hm hS))
    · have hie : i = l.ls.length := by simp at hb; omega
      rw [hie, List.drop_length] at hS
      rw [← hS]
      simp only [ptsGo]
      refine nK ?_
      refine s_reg rfl ?_
      refine Run.pure (dd := some 21) rfl rfl (op_move rfl (Opd.tmp _ _ rfl)) ?_
      refine Run.pure (dd := some 2) rfl rfl (op_assign rfl (Opd.tmp _ _ rfl)) ?_
      refine Run.nil (FinR.mk ?_)
      refine nK ?_
      refine Next.weakS [] [2] (by rfl) (keeps0 hC _) (G' := [(2, .fz (FPts m))]) (H' := []) (by exact ⟨⟨_, rfl, .inr ⟨_, rfl, .mp _ _ _ rfl rfl⟩⟩, trivial⟩) trivial rfl ?_
      (first | exact s_o1 hC rfl tV | exact s_o2 hC rfl tV tV | exact s_o3 hC rfl tV tV tV | exact s_o4 hC rfl tV tV tV tV | exact s_out0 hC rfl | exact s_outO hC rfl rfl rfl)
theorem add_c (m : List (Int × Int)) (es l : List Edg) (hn : es.length + l.length ≤ 40000000) : Meets Try.prog 27 [.ptr 0 2 0 0, .fz (VE l)] 3 [(0, some (.refs 2 [[.mp 1, .sl 2 3 0 es.length]])), (1, OMap ekU evI m), (2, OE es)] (.fz (.tup [])) [(0, some (.refs 2 [[.mp 1, .sl 3 3 0 (es.length + l.length)]])), (1, OMap ekU evI m), (3, OE (es ++ l))] 4 := by
  refine Meets.intro Try.func27 rfl (Nat.le_of_ble_eq_true rfl) fun C hC => ?_
  simp only [List.map, argEnv, Nat.reduceAdd]
  refine nK ?_
  refine s_reg rfl ?_
  refine Run.pure (dd := some 4) rfl rfl (op_move rfl (Opd.tmp _ _ rfl)) ?_
  refine Run.pure (dd := some 5) rfl rfl (op_move rfl (Opd.tmp _ _ rfl)) ?_
  refine Run.pure (dd := some 6) rfl rfl (op_nilck_ptr rfl (Opd.tmp _ _ rfl)) ?_
  refine Run.pure (dd := some 7) rfl rfl (op_fld_ptr (by decide) rfl (Opd.tmp _ _ rfl)) ?_
  refine Run.load (dd := some 8) rfl rfl (op_load1_refs rfl (Opd.tmp _ _ rfl) tH rfl) ?_
  refine Run.pure (dd := some 9) rfl rfl (op_move rfl (Opd.tmp _ _ rfl)) ?_
  refine Run.eff (dd := some 10) rfl rfl (op_append rfl (Opd.tmp _ _ rfl) (by first | exact Opd.tmp _ _ rfl | exact Opd.nil _ _ (Opd.tmp _ _ rfl)) rfl (by first | rfl | simp) rfl rfl tB tB) ?_
  refine Run.pure (dd := some 11) rfl rfl (op_nilck_ptr rfl (Opd.tmp _ _ rfl)) ?_
  refine Run.pure (dd := some 12) rfl rfl (op_fld_ptr (by decide) rfl (Opd.tmp _ _ rfl)) ?_
  refine Run.eff (dd := none) rfl rfl (op_store_refs rfl (Opd.tmp _ _ rfl) (Opd.tmp _ _ rfl) tP rfl rfl rfl tS) ?_
  refine Run.nil (FinR.mk ?_)
  rw [List.length_map, ← List.map_append]
  refine Next.weak [0, 1, 2, 3] [] (by rfl) (keepsN hC _ rfl) (G' := []) (H' := [(0, some (.refs 2 [[.mp 1, .sl 3 3 0 (es.length + l.length)]])), (1, OMap ekU evI m), (3, OE (es ++ l))]) trivial (by exact ⟨ent_same rfl rfl rfl tL, ⟨ent_same rfl rfl rfl tL, ⟨ent_same rfl rfl rfl tL, trivial⟩⟩⟩) (fun _ h => by simp at h) ?_
  exact n_out0 rfl
end Go.Proofs.Ytdhkioocjgpocaa
