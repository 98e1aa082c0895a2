/- A part of the proof: P8, P9, HP3, GP4, GP5, HP4, HP5, P10, P11, HP6, P12, GP6, GP7, GP8, GP9, GP10, SRT1, P13, P14, HP7, P15, HP8, HP9, P16, HP10. -/
import Derived.Test.YtgbfkpcigipniaaZC
import Derived.Shelf.SlSortCmp.Whole1
set_option linter.all false
namespace Go.Proofs.Ytgbfkpcigipniaa
open Go Go.RT Go.Proofs Go.Pl
set_option linter.all false
set_option maxRecDepth 20000
theorem drop_c (h : Hq) (o : HI h) (v : Nat) (hv : v < h.pl.length) (hp : 0 ≤ h.place v) (hm : h.it.length ≤ 1999999) : Meets Try.prog 65 [.ptr 0 3 0 0, IV .i64 v] 4 (HH h) (BV true) (HX (dropH h v)) 5 := by
  have hh := has_c h v hv
  have rv := row_of encN h.pl v 0 hv
  have hpd : h.pl.getD v 0 = h.place v := rfl
  rw [hpd] at rv
  have hlt := o.lt hv hp
  have hsw := fun a b ha hb => swap_i h o.ok a b (h.place v).toNat (h.it.length - 1) ha hb hlt (by omega)
  obtain ⟨s1, s2, s3⟩ := swapH_len h (h.place v).toNat (h.it.length - 1)
  obtain ⟨oc, c1, c2, c3⟩ := o.cut hv hp
  have hst : (h.place v).toNat < h.it.length - 1 → ∀ a b, a = ((h.place v).toNat : Int) → b = ((h.it.length - 1 : Nat) : Int) → Meets Try.prog 61 [IV .i64 a, IV .i64 b, .clo 62 [.ptr 0 3 0 0] [], .clo 63 [.ptr 0 3 0 0] []] 4 (HH (cutH h v)) (.fz (.tup [])) (HH (settleH (cutH h v) (h.place v).toNat (h.it.length - 1))) 4 := fun hh a b ha hb => by
    have := settle_i (cutH h v) oc a b (h.place v).toNat ha (by rw [c1]; exact hb) (by rw [c1]; exact hh) (by omega)
    rwa [c1] at this
  have hd1 : (h.place v).toNat < h.it.length - 1 → dropH h v = settleH (cutH h v) (h.place v).toNat (h.it.length - 1) := fun hh => by unfold dropH; rw [if_pos hh]
  have hd2 : ¬ (h.place v).toNat < h.it.length - 1 → dropH h v = cutH h v := fun hh => by unfold dropH; rw [if_neg hh]
  have q1 : (cutH h v).it = (swapH h (h.place v).toNat (h.it.length - 1)).it.take (h.it.length - 1) := rfl
  have q2 : (cutH h v).pl = (swapH h (h.place v).toNat (h.it.length - 1)).pl.set v (-1) := rfl
  have q3 : (cutH h v).ky = (swapH h (h.place v).toNat (h.it.length - 1)).ky := rfl
  generalize swapH h (h.place v).toNat (h.it.length - 1) = sw at *
  generalize cutH h v = ct at *
  have rsv := row_of encN sw.pl v 0 (by omega)
  refine Meets.intro Try.func65 rfl (Nat.le_of_ble_eq_true rfl) fun C hC => ?_
  simp only [List.map, argEnv, Nat.reduceAdd]
  refine nK2 ?_
  refine s_reg rfl ?_
  refine Run.pure (dd := some 4) rfl rfl (op_assign rfl (Opd.const _)) ?_
  refine Run.nil (FinR.mk ?_)
  refine nK2 ?_
  refine s_reg rfl ?_
  refine Run.pure (dd := some 7) rfl rfl (op_move rfl (Opd.tmp _ _ rfl)) ?_
  refine Run.pure (dd := some 8) rfl rfl (op_move rfl (Opd.tmp _ _ rfl)) ?_
  refine Run.load (dd := some 9) rfl rfl (op_call_read (n := 4) [0, 1, 2, 3] (fun _ => hh) rfl (Opd.func _) (Opds.cons _ _ _ _ (Opd.tmp _ _ rfl) (Opds.cons _ _ _ _ (Opd.tmp _ _ rfl) Opds.nil)) rfl rfl (Lent.of rfl rfl (by exact ⟨⟨rfl, rfl, rfl, tL⟩, ⟨rfl, rfl, rfl, trivial⟩, ⟨rfl, rfl, rfl, trivial⟩, ⟨rfl, rfl, rfl, trivial⟩, trivial⟩) rfl) rfl) ?_
  refine Run.pure (dd := some 10) rfl rfl (op_not rfl (Opd.tmp _ _ rfl)) ?_
  refine Run.nil (FinR.mk ?_)
  refine nK2 ?_
  refine n_cond _ rfl (fun hb => ?_) (fun hb => ?_)
  · exfalso; simp at hb; omega
  · refine nK2 ?_
    refine s_draw mixed ?_
    refine Run.pure (dd := some 11) rfl rfl (op_move rfl (Opd.tmp _ _ rfl)) ?_
    refine Run.pure (dd := some 12) rfl rfl (op_nilck_ptr rfl (Opd.tmp _ _ rfl)) ?_
    refine Run.pure (dd := some 13) rfl rfl (op_fld_ptr (by decide) rfl (Opd.tmp _ _ rfl)) ?_
    refine Run.load (dd := some 14) rfl rfl (op_load1_refs rfl (Opd.tmp _ _ rfl) tH rfl) ?_
    refine Run.pure (dd := some 15) rfl rfl (op_move rfl (Opd.tmp _ _ rfl)) ?_
    refine Run.pure (dd := some 16) rfl rfl (op_idx_sl0 _ rfl (Opd.tmp _ _ rfl) (Opd.tmp _ _ rfl) tD) ?_
    refine Run.load (dd := some 17) rfl rfl (op_load1_flat rfl (Opd.tmp _ _ rfl) tH rfl) ?_
    refine Run.pure (dd := some 18) rfl rfl (op_move rfl (Opd.tmp _ _ rfl)) ?_
    refine Run.pure (dd := some 19) rfl rfl (op_nilck_ptr rfl (Opd.tmp _ _ rfl)) ?_
    refine Run.pure (dd := some 20) rfl rfl (op_fld_ptr (by decide) rfl (Opd.tmp _ _ rfl)) ?_
    refine Run.load (dd := some 21) rfl rfl (op_load1_refs rfl (Opd.tmp _ _ rfl) tH rfl) ?_
    refine Run.pure (dd := some 22) rfl rfl (op_len_sl rfl (Opd.tmp _ _ rfl)) ?_
    refine Run.pure (dd := some 23) rfl rfl (op_sub rfl (Opd.tmp _ _ rfl) (Opd.const _) tI) ?_
    refine Run.pure (dd := some 5) rfl rfl (op_assign rfl (Opd.tmp _ _ rfl)) ?_
    refine Run.pure (dd := some 6) rfl rfl (op_assign rfl (Opd.tmp _ _ rfl)) ?_
    refine Run.nil (FinD.mk (by kernel_rfl) ?_)
    refine nK2 ?_
    refine s_reg rfl ?_
    refine Run.pure (dd := some 24) rfl rfl (op_move rfl (Opd.tmp _ _ rfl)) ?_
    refine Run.pure (dd := some 25) rfl rfl (op_move rfl (Opd.tmp _ _ rfl)) ?_
    refine Run.pure (dd := some 26) rfl rfl (op_move rfl (Opd.tmp _ _ rfl)) ?_
    refine Run.eff (dd := some 27) rfl rfl (op_call (n := 4) (n' := 4) [0, 1, 2, 3] (fun _ => hsw _ _ (by omega) (by omega)) rfl (Opd.func _) (Opds.cons _ _ _ _ (Opd.tmp _ _ rfl) (Opds.cons _ _ _ _ (Opd.tmp _ _ rfl) (Opds.cons _ _ _ _ (Opd.tmp _ _ rfl) Opds.nil))) rfl rfl (Lent.of rfl rfl (by exact ⟨⟨rfl, rfl, rfl, tL⟩, ⟨rfl, rfl, rfl, trivial⟩, ⟨rfl, rfl, rfl, trivial⟩, ⟨rfl, rfl, rfl, trivial⟩, trivial⟩) rfl) rfl rfl rfl rfl rfl) ?_
    refine Run.nil (FinR.mk ?_)
    refine nK2 ?_
    refine s_reg rfl ?_
    refine Run.pure (dd := some 28) rfl rfl (op_move rfl (Opd.tmp _ _ rfl)) ?_
    refine Run.pure (dd := some 29) rfl rfl (op_move rfl (Opd.tmp _ _ rfl)) ?_
    refine Run.pure (dd := some 30) rfl rfl (op_nilck_ptr rfl (Opd.tmp _ _ rfl)) ?_
    refine Run.pure (dd := some 31) rfl rfl (op_fld_ptr (by decide) rfl (Opd.tmp _ _ rfl)) ?_
    refine Run.load (dd := some 32) rfl rfl (op_load1_refs rfl (Opd.tmp _ _ rfl) tH rfl) ?_
    refine Run.pure (dd := some 33) rfl rfl (op_move rfl (Opd.tmp _ _ rfl)) ?_
    refine Run.eff (dd := some 34) rfl rfl (op_slice_sl (h := h.it.length - 1) rfl (Opd.tmp _ _ rfl) (Bnd.yes _ _ _ _ _ (Opd.tmp _ _ rfl) (by intro _; omega)) (by intro _; omega) rfl (by rw [List.length_map])) ?_
    refine Run.pure (dd := some 35) rfl rfl (op_nilck_ptr rfl (Opd.tmp _ _ rfl)) ?_
    refine Run.pure (dd := some 36) rfl rfl (op_fld_ptr (by decide) rfl (Opd.tmp _ _ rfl)) ?_
    refine Run.eff (dd := none) rfl rfl (op_store_refs rfl (Opd.tmp _ _ rfl) (Opd.tmp _ _ rfl) tP rfl rfl rfl tS) ?_
    refine Run.nil (FinR.mk ?_)
    refine nK2 ?_
    refine s_reg rfl ?_
    refine Run.pure (dd := some 37) rfl rfl (op_move rfl (Opd.tmp _ _ rfl)) ?_
    refine Run.pure (dd := some 38) rfl rfl (op_nilck_ptr rfl (Opd.tmp _ _ rfl)) ?_
    refine Run.pure (dd := some 39) rfl rfl (op_fld_ptr (by decide) rfl (Opd.tmp _ _ rfl)) ?_
    refine Run.load (dd := some 40) rfl rfl (op_load1_refs rfl (Opd.tmp _ _ rfl) tH rfl) ?_
    refine Run.pure (dd := some 41) rfl rfl (op_move rfl (Opd.tmp _ _ rfl)) ?_
    refine Run.pure (dd := some 42) rfl rfl (op_idx_sl0 v rfl (Opd.tmp _ _ rfl) (Opd.tmp _ _ rfl) (by intro _; exact ⟨rfl, by omega⟩)) ?_
    refine Run.eff (dd := none) rfl rfl (op_store_flat rfl (Opd.tmp _ _ rfl) (Opd.const _) tC rfl rfl (by first | rfl | assumption) tS) ?_
    refine Run.nil (FinR.mk ?_)
    refine nK2 ?_
    refine s_reg rfl ?_
    refine Run.pure (dd := some 43) rfl rfl (op_move rfl (Opd.tmp _ _ rfl)) ?_
    refine Run.pure (dd := some 44) rfl rfl (op_move rfl (Opd.tmp _ _ rfl)) ?_
    refine Run.pure (dd := some 45) rfl rfl (op_lss rfl (Opd.tmp _ _ rfl) (Opd.tmp _ _ rfl)) ?_
    refine Run.nil (FinR.mk ?_)
    refine nK2 ?_
    refine Next.weak [0, 1, 2, 3, 4] [] (by rfl) (keepsN hC _ rfl) (G' := [(0, .ptr 0 3 0 0), (5, IV .i64 (h.place v)), (6, IV .i64 ((h.it.length : Int) - 1)), (45, BV (decide (h.place v < (h.it.length : Int) - 1)))]) (H' := HX ct) (by repeat (first | exact trivial | refine ⟨⟨_, rfl, .inl ⟨rfl, rfl⟩⟩, ?_⟩ | refine ⟨⟨_, rfl, .inl ⟨slEq rfl tN, rfl⟩⟩, ?_⟩ | refine ⟨⟨_, rfl, .inl ⟨ivEq tX, rfl⟩⟩, ?_⟩)) (by exact ⟨ent_same rfl rfl (by rw [c1, q2, q3]; simp only [List.length_set]; rfl) tL, ⟨ent_same rfl rfl (flEq rfl (by rw [q1, List.map_take])) trivial, ⟨ent_same rfl rfl (flEq rfl (by rw [q2, List.map_set]; rfl)) trivial, ⟨ent_same rfl rfl (flEq rfl (by rw [q3])) trivial, trivial⟩⟩⟩⟩) (fun _ h => by simp at h) ?_
    refine nK2 ?_
    refine n_cond _ rfl (fun hb => ?_) (fun hb => ?_)
    · have hlt2 : (h.place v).toNat < h.it.length - 1 := by simp at hb; omega
      rw [hd1 hlt2]
      refine nK2 ?_
      refine s_reg rfl ?_
      refine Run.pure (dd := some 46) rfl rfl (op_move rfl (Opd.tmp _ _ rfl)) ?_
      refine Run.pure (dd := some 47) rfl rfl (op_move rfl (Opd.tmp _ _ rfl)) ?_
      refine Run.pure (dd := some 48) rfl rfl (op_move rfl (Opd.tmp _ _ rfl)) ?_
      refine Run.pure (dd := some 49) rfl rfl (op_makeFunc rfl (Opds.cons _ _ _ _ (Opd.tmp _ _ rfl) Opds.nil) Opds.nil) ?_
      refine Run.pure (dd := some 50) rfl rfl (op_move rfl (Opd.tmp _ _ rfl)) ?_
      refine Run.pure (dd := some 51) rfl rfl (op_makeFunc rfl (Opds.cons _ _ _ _ (Opd.tmp _ _ rfl) Opds.nil) Opds.nil) ?_
      refine Run.eff (dd := some 52) rfl rfl (op_call (n := 4) (n' := 4) [0, 4, 2, 3] (fun _ => hst hlt2 _ _ (by omega) (by omega)) rfl (Opd.func _) (Opds.cons _ _ _ _ (Opd.tmp _ _ rfl) (Opds.cons _ _ _ _ (Opd.tmp _ _ rfl) (Opds.cons _ _ _ _ (Opd.tmp _ _ rfl) (Opds.cons _ _ _ _ (Opd.tmp _ _ rfl) Opds.nil)))) rfl rfl (Lent.of rfl rfl (by exact ⟨⟨rfl, rfl, rfl, tL⟩, ⟨rfl, rfl, rfl, trivial⟩, ⟨rfl, rfl, rfl, trivial⟩, ⟨rfl, rfl, rfl, trivial⟩, trivial⟩) rfl) rfl rfl rfl rfl rfl) ?_
      refine Run.nil (FinR.mk ?_)
      refine nK2 ?_
      refine s_reg rfl ?_
      refine Run.pure (dd := some 4) rfl rfl (op_assign rfl (Opd.const _)) ?_
      refine Run.nil (FinR.mk ?_)
      refine nK2 ?_
      refine Next.weak [0, 1, 2, 3, 4] [] (by rfl) (keepsN hC _ rfl) (G' := [(4, BV true)]) (H' := HX (settleH ct (h.place v).toNat (h.it.length - 1))) (by repeat (first | exact trivial | refine ⟨⟨_, rfl, .inl ⟨rfl, rfl⟩⟩, ?_⟩ | refine ⟨⟨_, rfl, .inl ⟨slEq rfl tN, rfl⟩⟩, ?_⟩ | refine ⟨⟨_, rfl, .inl ⟨ivEq tX, rfl⟩⟩, ?_⟩)) (by exact ⟨ent_same rfl rfl rfl tL, ⟨ent_same rfl rfl rfl tL, ⟨ent_same rfl rfl rfl tL, ⟨ent_same rfl rfl rfl tL, trivial⟩⟩⟩⟩) (fun _ h => by simp at h) ?_
      exact n_out1 rfl (by rfl) rfl rfl
    · have hlt2 : ¬ (h.place v).toNat < h.it.length - 1 := by simp at hb; omega
      rw [hd2 hlt2]
      refine nK2 ?_
      refine s_reg rfl ?_
      refine Run.pure (dd := some 4) rfl rfl (op_assign rfl (Opd.const _)) ?_
      refine Run.nil (FinR.mk ?_)
      refine nK2 ?_
      refine Next.weak [0, 1, 2, 3, 4] [] (by rfl) (keepsN hC _ rfl) (G' := [(4, BV true)]) (H' := HX ct) (by repeat (first | exact trivial | refine ⟨⟨_, rfl, .inl ⟨rfl, rfl⟩⟩, ?_⟩ | refine ⟨⟨_, rfl, .inl ⟨slEq rfl tN, rfl⟩⟩, ?_⟩ | refine ⟨⟨_, rfl, .inl ⟨ivEq tX, rfl⟩⟩, ?_⟩)) (by exact ⟨ent_same rfl rfl rfl tL, ⟨ent_same rfl rfl rfl tL, ⟨ent_same rfl rfl rfl tL, ⟨ent_same rfl rfl rfl tL, trivial⟩⟩⟩⟩) (fun _ h => by simp at h) ?_
      exact n_out1 rfl (by rfl) rfl rfl
end Go.Proofs.Ytgbfkpcigipniaa
namespace Go.Proofs.Ytgbfkpcigipniaa
open Go Go.RT Go.Proofs Go.Pl
set_option linter.all false
set_option maxRecDepth 20000
theorem pop_none (h : Hq) (o : HI h) (he : h.it = []) : Meets Try.prog 49 [.ptr 0 3 0 0] 4 (HH h) (.fz (.tup [If .i64 0, If .i64 0, Bf false])) (HH h) 4 := by
  have hmn := min_c h o.ok
  rw [if_pos he, show h.item 0 = 0 by unfold Hq.item; rw [he]; rfl, show (!h.it.isEmpty) = false by rw [he]; rfl, show ((0 : Nat) : Int) = 0 from rfl] at hmn
  refine Meets.intro Try.func49 rfl (Nat.le_of_ble_eq_true rfl) fun C hC => ?_
  simp only [List.map, argEnv, Nat.reduceAdd]
  refine nK2 ?_
  refine s_reg rfl ?_
  refine Run.pure (dd := some 2) rfl rfl (op_assign rfl (Opd.const _)) ?_
  refine Run.pure (dd := some 3) rfl rfl (op_assign rfl (Opd.const _)) ?_
  refine Run.pure (dd := some 4) rfl rfl (op_assign rfl (Opd.const _)) ?_
  refine Run.nil (FinR.mk ?_)
  refine nK2 ?_
  refine s_reg rfl ?_
  refine Run.pure (dd := some 6) rfl rfl (op_move rfl (Opd.tmp _ _ rfl)) ?_
  refine Run.load (dd := some 7) rfl rfl (op_call_read (n := 4) [0, 1, 2, 3] (fun _ => hmn) rfl (Opd.func _) (Opds.cons _ _ _ _ (Opd.tmp _ _ rfl) Opds.nil) rfl rfl (Lent.of rfl rfl (by exact ⟨⟨rfl, rfl, rfl, tL⟩, ⟨rfl, rfl, rfl, trivial⟩, ⟨rfl, rfl, rfl, trivial⟩, ⟨rfl, rfl, rfl, trivial⟩, trivial⟩) rfl) rfl) ?_
  refine Run.pure (dd := some 5) rfl rfl (op_move rfl (Opd.tmp _ _ rfl)) ?_
  refine Run.pure (dd := some 8) rfl rfl (op_extract_fz rfl (Opd.tmp _ _ rfl) rfl) ?_
  refine Run.pure (dd := some 9) rfl rfl (op_extract_fz rfl (Opd.tmp _ _ rfl) rfl) ?_
  refine Run.pure (dd := some 10) rfl rfl (op_extract_fz rfl (Opd.tmp _ _ rfl) rfl) ?_
  refine Run.pure (dd := some 2) rfl rfl (op_assign rfl (Opd.tmp _ _ rfl)) ?_
  refine Run.pure (dd := some 3) rfl rfl (op_assign rfl (Opd.tmp _ _ rfl)) ?_
  refine Run.pure (dd := some 4) rfl rfl (op_assign rfl (Opd.tmp _ _ rfl)) ?_
  refine Run.nil (FinR.mk ?_)
  refine nK2 ?_
  refine s_reg rfl ?_
  refine Run.pure (dd := some 11) rfl rfl (op_move rfl (Opd.tmp _ _ rfl)) ?_
  refine Run.nil (FinR.mk ?_)
  refine nK2 ?_
  refine n_cond _ rfl (fun hb => ?_) (fun hb => ?_)
  · exfalso; simp at hb
  · refine nK2 ?_
    refine s_reg rfl ?_
    refine Run.pure (dd := some 15) rfl rfl (op_move rfl (Opd.tmp _ _ rfl)) ?_
    refine Run.pure (dd := some 16) rfl rfl (op_move rfl (Opd.tmp _ _ rfl)) ?_
    refine Run.pure (dd := some 17) rfl rfl (op_move rfl (Opd.tmp _ _ rfl)) ?_
    refine Run.pure (dd := some 2) rfl rfl (op_assign rfl (Opd.tmp _ _ rfl)) ?_
    refine Run.pure (dd := some 3) rfl rfl (op_assign rfl (Opd.tmp _ _ rfl)) ?_
    refine Run.pure (dd := some 4) rfl rfl (op_assign rfl (Opd.tmp _ _ rfl)) ?_
    refine Run.nil (FinR.mk ?_)
    refine nK2 ?_
    refine Next.weak [0, 1, 2, 3] [] (by rfl) (keepsN hC _ rfl) (G' := [(2, IV .i64 0), (3, IV .i64 0), (4, BV false)]) (H' := HH h) (by repeat (first | exact trivial | refine ⟨⟨_, rfl, .inl ⟨rfl, rfl⟩⟩, ?_⟩ | refine ⟨⟨_, rfl, .inl ⟨slEq rfl tN, rfl⟩⟩, ?_⟩ | refine ⟨⟨_, rfl, .inl ⟨ivEq tX, rfl⟩⟩, ?_⟩)) (by exact ⟨ent_same rfl rfl rfl tL, ⟨ent_same rfl rfl rfl tL, ⟨ent_same rfl rfl rfl tL, ⟨ent_same rfl rfl rfl tL, trivial⟩⟩⟩⟩) (fun _ h => by simp at h) ?_
    exact n_out3 rfl (by rfl) rfl rfl (.inl ⟨_, _, _, rfl, rfl, rfl, rfl⟩)
theorem pop_some (h : Hq) (o : HI h) (hne : 0 < h.it.length) (hm : h.it.length ≤ 1999999) : Meets Try.prog 49 [.ptr 0 3 0 0] 4 (HH h) (.fz (.tup [If .i64 (h.item 0 : Nat), If .i64 (h.key (h.item 0)), Bf true])) (HX (dropH h (h.item 0))) 5 := by
  have hmn := min_c h o.ok
  rw [if_neg (fun e => by rw [e] at hne; exact absurd hne (by decide)), show (!h.it.isEmpty) = true by cases hq : h.it <;> simp_all] at hmn
  have hd := drop_c h o (h.item 0) (o.ok.item hne) (by rw [o.inv 0 hne]; decide) hm
  generalize h.item 0 = v at *
  generalize h.key v = k at *
  generalize dropH h v = h' at *
  refine Meets.intro Try.func49 rfl (Nat.le_of_ble_eq_true rfl) fun C hC => ?_
  simp only [List.map, argEnv, Nat.reduceAdd]
  refine nK2 ?_
  refine s_reg rfl ?_
  refine Run.pure (dd := some 2) rfl rfl (op_assign rfl (Opd.const _)) ?_
  refine Run.pure (dd := some 3) rfl rfl (op_assign rfl (Opd.const _)) ?_
  refine Run.pure (dd := some 4) rfl rfl (op_assign rfl (Opd.const _)) ?_
  refine Run.nil (FinR.mk ?_)
  refine nK2 ?_
  refine s_reg rfl ?_
  refine Run.pure (dd := some 6) rfl rfl (op_move rfl (Opd.tmp _ _ rfl)) ?_
  refine Run.load (dd := some 7) rfl rfl (op_call_read (n := 4) [0, 1, 2, 3] (fun _ => hmn) rfl (Opd.func _) (Opds.cons _ _ _ _ (Opd.tmp _ _ rfl) Opds.nil) rfl rfl (Lent.of rfl rfl (by exact ⟨⟨rfl, rfl, rfl, tL⟩, ⟨rfl, rfl, rfl, trivial⟩, ⟨rfl, rfl, rfl, trivial⟩, ⟨rfl, rfl, rfl, trivial⟩, trivial⟩) rfl) rfl) ?_
  refine Run.pure (dd := some 5) rfl rfl (op_move rfl (Opd.tmp _ _ rfl)) ?_
  refine Run.pure (dd := some 8) rfl rfl (op_extract_fz rfl (Opd.tmp _ _ rfl) rfl) ?_
  refine Run.pure (dd := some 9) rfl rfl (op_extract_fz rfl (Opd.tmp _ _ rfl) rfl) ?_
  refine Run.pure (dd := some 10) rfl rfl (op_extract_fz rfl (Opd.tmp _ _ rfl) rfl) ?_
  refine Run.pure (dd := some 2) rfl rfl (op_assign rfl (Opd.tmp _ _ rfl)) ?_
  refine Run.pure (dd := some 3) rfl rfl (op_assign rfl (Opd.tmp _ _ rfl)) ?_
  refine Run.pure (dd := some 4) rfl rfl (op_assign rfl (Opd.tmp _ _ rfl)) ?_
  refine Run.nil (FinR.mk ?_)
  refine nK2 ?_
  refine s_reg rfl ?_
  refine Run.pure (dd := some 11) rfl rfl (op_move rfl (Opd.tmp _ _ rfl)) ?_
  refine Run.nil (FinR.mk ?_)
  refine nK2 ?_
  refine n_cond _ rfl (fun hb => ?_) (fun hb => ?_)
  · refine nK2 ?_
    refine s_reg rfl ?_
    refine Run.pure (dd := some 12) rfl rfl (op_move rfl (Opd.tmp _ _ rfl)) ?_
    refine Run.pure (dd := some 13) rfl rfl (op_move rfl (Opd.tmp _ _ rfl)) ?_
    refine Run.eff (dd := some 14) rfl rfl (op_call (n := 4) (n' := 5) [0, 1, 2, 3] (fun _ => hd) rfl (Opd.func _) (Opds.cons _ _ _ _ (Opd.tmp _ _ rfl) (Opds.cons _ _ _ _ (Opd.tmp _ _ rfl) Opds.nil)) rfl rfl (Lent.of rfl rfl (by exact ⟨⟨rfl, rfl, rfl, tL⟩, ⟨rfl, rfl, rfl, trivial⟩, ⟨rfl, rfl, rfl, trivial⟩, ⟨rfl, rfl, rfl, trivial⟩, trivial⟩) rfl) rfl rfl rfl rfl rfl) ?_
    refine Run.nil (FinR.mk ?_)
    refine nK2 ?_
    refine s_reg rfl ?_
    refine Run.pure (dd := some 15) rfl rfl (op_move rfl (Opd.tmp _ _ rfl)) ?_
    refine Run.pure (dd := some 16) rfl rfl (op_move rfl (Opd.tmp _ _ rfl)) ?_
    refine Run.pure (dd := some 17) rfl rfl (op_move rfl (Opd.tmp _ _ rfl)) ?_
    refine Run.pure (dd := some 2) rfl rfl (op_assign rfl (Opd.tmp _ _ rfl)) ?_
    refine Run.pure (dd := some 3) rfl rfl (op_assign rfl (Opd.tmp _ _ rfl)) ?_
    refine Run.pure (dd := some 4) rfl rfl (op_assign rfl (Opd.tmp _ _ rfl)) ?_
    refine Run.nil (FinR.mk ?_)
    refine nK2 ?_
    refine Next.weak [0, 1, 2, 3, 4] [] (by rfl) (keepsN hC _ rfl) (G' := [(2, IV .i64 v), (3, IV .i64 k), (4, BV true)]) (H' := HX h') (by repeat (first | exact trivial | refine ⟨⟨_, rfl, .inl ⟨rfl, rfl⟩⟩, ?_⟩ | refine ⟨⟨_, rfl, .inl ⟨slEq rfl tN, rfl⟩⟩, ?_⟩ | refine ⟨⟨_, rfl, .inl ⟨ivEq tX, rfl⟩⟩, ?_⟩)) (by exact ⟨ent_same rfl rfl rfl tL, ⟨ent_same rfl rfl rfl tL, ⟨ent_same rfl rfl rfl tL, ⟨ent_same rfl rfl rfl tL, trivial⟩⟩⟩⟩) (fun _ h => by simp at h) ?_
    exact n_out3 rfl (by rfl) rfl rfl (.inl ⟨_, _, _, rfl, rfl, rfl, rfl⟩)
  · exfalso; simp at hb
end Go.Proofs.Ytgbfkpcigipniaa
namespace Go.Pl
open Go Go.RT
set_option linter.all false
/- heap order -/
def Hq.kk (h : Hq) (i : Nat) : Int × Nat := (h.key (h.item i), h.item i)
def le2 (a b : Int × Nat) : Prop := a.1 < b.1 ∨ a.1 = b.1 ∧ a.2 ≤ b.2
theorem le2_trans {a b c : Int × Nat} (h : le2 a b) (g : le2 b c) : le2 a c := by unfold le2 at *; omega
theorem le2_refl (a : Int × Nat) : le2 a a := by unfold le2; omega
theorem le2_total {a b : Int × Nat} (h : ¬ le2 a b) : le2 b a := by unfold le2 at *; omega
theorem lessH_iff (h : Hq) (i j : Nat) : lessH h i j = true ↔ ¬ le2 (h.kk j) (h.kk i) := by
  simp only [lessH, le2, Hq.kk, Bool.or_eq_true, Bool.and_eq_true, decide_eq_true_eq]; omega
def HOrd (h : Hq) (n : Nat) : Prop := ∀ j, 0 < j → j < n → le2 (h.kk ((j - 1) / 2)) (h.kk j)
structure UpI (h : Hq) (i n : Nat) : Prop where
  a : ∀ j, 0 < j → j < n → j ≠ i → (j - 1) / 2 ≠ i → le2 (h.kk ((j - 1) / 2)) (h.kk j)
  b : ∀ j, 0 < j → j < n → (j - 1) / 2 = i → 0 < i → le2 (h.kk ((i - 1) / 2)) (h.kk j)
structure DnI (h : Hq) (i n : Nat) : Prop where
  a : ∀ j, 0 < j → j < n → (j - 1) / 2 ≠ i → le2 (h.kk ((j - 1) / 2)) (h.kk j)
  b : ∀ j, 0 < j → j < n → (j - 1) / 2 = i → 0 < i → le2 (h.kk ((i - 1) / 2)) (h.kk j)
theorem kk_swap (h : Hq) {i j : Nat} (hi : i < h.it.length) (hj : j < h.it.length) (k : Nat) : (swapH h i j).kk k = if j = k then h.kk i else if i = k then h.kk j else h.kk k := by
  have e : ∀ v, (swapH h i j).key v = h.key v := fun v => rfl
  unfold Hq.kk
  rw [item_swap h hi hj]
  by_cases e1 : j = k
  · rw [if_pos e1, if_pos e1, e]
  · rw [if_neg e1, if_neg e1]
    by_cases e2 : i = k
    · rw [if_pos e2, if_pos e2, e]
    · rw [if_neg e2, if_neg e2, e]
theorem UpI.dn {h : Hq} {i n : Nat} (u : UpI h i n) (hp : 0 < i → le2 (h.kk ((i - 1) / 2)) (h.kk i)) : DnI h i n :=
  ⟨fun j h0 h1 h2 => by
    by_cases e : j = i
    · subst e; exact hp h0
    · exact u.a j h0 h1 e h2, u.b⟩
theorem UpI.step {h : Hq} {i n : Nat} (u : UpI h i n) (hn : n = h.it.length) (h0 : 0 < i) (hi : i < n) : UpI (swapH h i ((i - 1) / 2)) ((i - 1) / 2) n := by
  have hpi : (i - 1) / 2 < i := by omega
  generalize hp : (i - 1) / 2 = p at *
  have kk := kk_swap h (i := i) (j := p) (by omega) (by omega)
  have up : ∀ j, 0 < j → j < n → j ≠ i → (j - 1) / 2 ≠ i → le2 (h.kk ((j - 1) / 2)) (h.kk j) := u.a
  refine ⟨fun j j0 jn hjp hpp => ?_, fun j j0 jn hpp p0 => ?_⟩
  · have hji : j ≠ i := fun e => hpp (by rw [e]; exact hp)
    rw [kk ((j - 1) / 2), kk j, if_neg (show ¬ p = (j - 1) / 2 from fun e => hpp e.symm), if_neg (show ¬ p = j from fun e => hjp e.symm), if_neg (show ¬ i = j from fun e => hji e.symm)]
    by_cases e : i = (j - 1) / 2
    · rw [if_pos e]
      have := u.b j j0 jn e.symm h0
      rw [hp] at this; exact this
    · rw [if_neg e]; exact up j j0 jn hji (fun e2 => e e2.symm)
  · have q : le2 (h.kk ((p - 1) / 2)) (h.kk p) := up p p0 (by omega) (by omega) (by omega)
    rw [kk, kk, if_neg (by omega), if_neg (by omega), if_neg (by omega)]
    by_cases e : i = j
    · rw [if_pos e]; exact q
    · rw [if_neg e]
      refine le2_trans q ?_
      have := up j j0 jn (fun e2 => e e2.symm) (by omega)
      rw [hpp] at this; exact this
theorem HI.upOrd {h : Hq} : ∀ {i n : Nat}, HI h → n = h.it.length → i < n → UpI h i n → DnI (upH h i).1 (upH h i).2 n := by
  intro i
  induction i using Nat.strongRecOn generalizing h with
  | _ i ih =>
    intro n o hn hi u
    by_cases hh : 0 < i ∧ lessH h i ((i - 1) / 2) = true
    · rw [up_step hh.1 hh.2]
      have hj : (i - 1) / 2 < h.it.length := by omega
      exact ih ((i - 1) / 2) (by omega) (o.swap (by omega) hj) (by rw [(swapH_len _ _ _).1]; exact hn) (by omega) (u.step hn hh.1 hi)
    · rw [up_stop hh]
      exact u.dn fun h0 => Classical.byContradiction fun e => hh ⟨h0, (lessH_iff _ _ _).2 e⟩
theorem kid_le (h : Hq) {i n j : Nat} (hk : kidH h i n < n) (j0 : 0 < j) (jn : j < n) (hp : (j - 1) / 2 = i) : le2 (h.kk (kidH h i n)) (h.kk j) := by
  have hj : j = 2 * i + 1 ∨ j = 2 * i + 1 + 1 := by omega
  unfold kidH at *
  split at hk
  · next hc =>
    rw [if_pos hc]
    rcases hj with rfl | rfl
    · exact le2_total ((lessH_iff _ _ _).1 hc.2)
    · exact le2_refl _
  · next hc =>
    rw [if_neg hc]
    rcases hj with rfl | rfl
    · exact le2_refl _
    · exact Classical.byContradiction fun e => hc ⟨jn, (lessH_iff _ _ _).2 e⟩
theorem kid_par (h : Hq) (i n : Nat) : (kidH h i n - 1) / 2 = i := by unfold kidH; split <;> omega
theorem DnI.step {h : Hq} {i n : Nat} (u : DnI h i n) (hn : n = h.it.length) (hi : i < n) (hk : kidH h i n < n) (hl : lessH h (kidH h i n) i = true) : DnI (swapH h i (kidH h i n)) (kidH h i n) n := by
  have hkp := kid_par h i n
  have hgt := kidH_gt h i n
  have hkl := fun j j0 jn hp => kid_le h (i := i) (n := n) (j := j) hk j0 jn hp
  have hl2 := le2_total ((lessH_iff _ _ _).1 hl)
  generalize kidH h i n = k at *
  have kk := kk_swap h (i := i) (j := k) (by omega) (by omega)
  refine ⟨fun j j0 jn hpk => ?_, fun j j0 jn hpp k0 => ?_⟩
  · rw [kk, kk, if_neg (fun e => hpk e.symm)]
    by_cases e1 : k = j
    · subst e1
      rw [if_pos rfl, if_pos hkp.symm]; exact hl2
    · rw [if_neg e1]
      by_cases e2 : i = j
      · subst e2
        rw [if_pos rfl, if_neg (by omega)]
        exact u.b k (by omega) hk hkp j0
      · rw [if_neg e2]
        by_cases e3 : i = (j - 1) / 2
        · rw [if_pos e3]; exact hkl j j0 jn e3.symm
        · rw [if_neg e3]; exact u.a j j0 jn (fun e => e3 e.symm)
  · rw [hkp, kk, kk, if_neg (by omega), if_pos rfl, if_neg (by omega), if_neg (by omega)]
    have := u.a j j0 jn (by omega)
    rw [hpp] at this; exact this
theorem HI.dnOrd {h : Hq} : ∀ {k i n : Nat}, n - i ≤ k → HI h → i < h.it.length → n = h.it.length → DnI h i n → HOrd (downH h i n) n := by
  intro k
  induction k generalizing h with
  | zero => intro i n hk o hi hn; omega
  | succ k ih =>
    intro i n hk o hi hn u
    by_cases hh : kidH h i n < n ∧ lessH h (kidH h i n) i = true
    · rw [down_step hh.1 hh.2]
      have hgt := kidH_gt h i n
      exact ih (by omega) (o.swap hi (by omega)) (by rw [(swapH_len _ _ _).1]; omega) (by rw [(swapH_len _ _ _).1]; exact hn) (u.step hn (by omega) hh.1 hh.2)
    · rw [down_stop hh]
      intro j j0 jn
      by_cases e : (j - 1) / 2 = i
      · rw [e]
        by_cases hk2 : kidH h i n < n
        · exact le2_trans (Classical.byContradiction fun e2 => hh ⟨hk2, (lessH_iff _ _ _).2 e2⟩) (kid_le h hk2 j0 jn e)
        · exfalso
          apply hk2
          unfold kidH; split
          · next hc => exact hc.1
          · omega
      · exact u.a j j0 jn e
theorem HI.settleOrd {h : Hq} {i : Nat} (o : HI h) (hi : i < h.it.length) (u : UpI h i h.it.length) : HOrd (settleH h i h.it.length) h.it.length := by
  obtain ⟨a, b, c, d, e⟩ := o.up hi
  exact a.dnOrd (k := h.it.length - (upH h i).2) (Nat.le_refl _) (by omega) b.symm (o.upOrd rfl hi u)
/- which items are in it -/
theorem HI.in_swap {h : Hq} (o : HI h) {i j : Nat} (hi : i < h.it.length) (hj : j < h.it.length) (w : Nat) : 0 ≤ (swapH h i j).place w ↔ 0 ≤ h.place w := by
  have ii := o.inv i hi
  have ij := o.inv j hj
  rw [place_swap h o.ok hi hj]
  by_cases e1 : h.item i = w
  · rw [if_pos e1, ← e1, ii]; omega
  · rw [if_neg e1]
    by_cases e2 : h.item j = w
    · rw [if_pos e2, ← e2, ij]; omega
    · rw [if_neg e2]
theorem HI.in_up {h : Hq} : ∀ {i : Nat}, HI h → i < h.it.length → ∀ w, 0 ≤ (upH h i).1.place w ↔ 0 ≤ h.place w := by
  intro i
  induction i using Nat.strongRecOn generalizing h with
  | _ i ih =>
    intro o hi w
    by_cases hh : 0 < i ∧ lessH h i ((i - 1) / 2) = true
    · rw [up_step hh.1 hh.2]
      have hj : (i - 1) / 2 < h.it.length := by omega
      exact (ih ((i - 1) / 2) (by omega) (o.swap hi hj) (by rw [(swapH_len _ _ _).1]; exact hj) w).trans (o.in_swap hi hj w)
    · rw [up_stop hh]
theorem HI.in_down {h : Hq} : ∀ {k i n : Nat}, n - i ≤ k → HI h → i < h.it.length → n = h.it.length → ∀ w, 0 ≤ (downH h i n).place w ↔ 0 ≤ h.place w := by
  intro k
  induction k generalizing h with
  | zero => intro i n hk o hi hn; omega
  | succ k ih =>
    intro i n hk o hi hn w
    by_cases hh : kidH h i n < n ∧ lessH h (kidH h i n) i = true
    · rw [down_step hh.1 hh.2]
      have hgt := kidH_gt h i n
      exact (ih (by omega) (o.swap hi (by omega)) (by rw [(swapH_len _ _ _).1]; omega) (by rw [(swapH_len _ _ _).1]; exact hn) w).trans (o.in_swap hi (by omega) w)
    · rw [down_stop hh]
theorem HI.in_settle {h : Hq} {i : Nat} (o : HI h) (hi : i < h.it.length) (w : Nat) : 0 ≤ (settleH h i h.it.length).place w ↔ 0 ≤ h.place w := by
  obtain ⟨a, b, c, d, e⟩ := o.up hi
  exact (a.in_down (k := h.it.length - (upH h i).2) (Nat.le_refl _) (by omega) b.symm w).trans (o.in_up hi w)
theorem put_new {h : Hq} {v : Nat} (k : Int) (hp : h.place v < 0) : putH h v k = ⟨h.it ++ [v], h.pl.set v h.it.length, h.ky.set v k⟩ := by unfold putH insH; rw [if_pos hp]
theorem put_old {h : Hq} {v : Nat} (k : Int) (hp : ¬ h.place v < 0) : putH h v k = ⟨h.it, h.pl, h.ky.set v k⟩ := by unfold putH insH; rw [if_neg hp]
structure HG (h : Hq) : Prop where
  hi : HI h
  ord : HOrd h h.it.length
theorem HG.set {h : Hq} (o : HG h) {v : Nat} (hv : v < h.pl.length) (k : Int) : HG (setH h v k) ∧ (setH h v k).pl.length = h.pl.length ∧ (setH h v k).ky = h.ky.set v k ∧ ∀ w, 0 ≤ (setH h v k).place w ↔ w = v ∨ 0 ≤ h.place w := by
  obtain ⟨a, b, c, d⟩ := o.hi.put hv k
  obtain ⟨q1, q2, q3, q4⟩ := o.hi.set hv k
  have hi := a.lt (by rw [b]; exact hv) c
  have hol := o.hi.ok.len
  have hkey : ∀ w, (putH h v k).key w = if v = w then k else h.key w := fun w => by
    have e : (putH h v k).ky = h.ky.set v k := by unfold putH insH; split <;> rfl
    unfold Hq.key; rw [e, getD_set _ _ _ _ _ (by omega)]
  have hu : UpI (putH h v k) ((putH h v k).place v).toNat (putH h v k).it.length := by
    by_cases hp : h.place v < 0
    · have e1 : (putH h v k).it = h.it ++ [v] := by rw [put_new k hp]
      have e2 : (putH h v k).place v = h.it.length := by rw [put_new k hp]; unfold Hq.place; simp only; rw [getD_set _ _ _ _ _ hv, if_pos rfl]
      have e3 : ∀ i, i < h.it.length → (putH h v k).kk i = h.kk i := fun i hi2 => by
        have e4 : (putH h v k).item i = h.item i := by unfold Hq.item; rw [e1, getD_app, if_neg (by omega)]
        have := o.hi.inv i hi2
        unfold Hq.kk; rw [e4, hkey, if_neg (fun e => by rw [← e] at this; omega)]
      rw [e2, e1, Int.toNat_natCast]
      refine ⟨fun j j0 jn h1 h2 => ?_, fun j j0 jn h1 h2 => ?_⟩
      · simp at jn
        rw [e3 _ (by omega), e3 _ (by omega)]; exact o.ord j j0 (by omega)
      · simp at jn; omega
    · have e1 : (putH h v k).it = h.it := by rw [put_old k hp]
      have e2 : (putH h v k).place v = h.place v := by rw [put_old k hp]; rfl
      have hlt := o.hi.lt hv (by omega)
      obtain ⟨_, hiv⟩ := o.hi.at_ v hv (by omega)
      have e3 : ∀ i, i < h.it.length → i ≠ (h.place v).toNat → (putH h v k).kk i = h.kk i := fun i hi2 hne => by
        have e4 : (putH h v k).item i = h.item i := by unfold Hq.item; rw [e1]
        have := o.hi.inv i hi2
        unfold Hq.kk; rw [e4, hkey, if_neg (fun e => by rw [← e] at this; omega)]
      rw [e2, e1]
      refine ⟨fun j j0 jn h1 h2 => ?_, fun j j0 jn h1 h2 => ?_⟩
      · rw [e3 _ (by omega) h2, e3 _ jn h1]; exact o.ord j j0 jn
      · rw [e3 _ (by omega) (by omega), e3 _ jn (by omega)]
        refine le2_trans (o.ord _ h2 hlt) ?_
        have := o.ord j j0 jn
        rw [h1] at this; exact this
  refine ⟨⟨q1, ?_⟩, q3, q4, fun w => ?_⟩
  · rw [q2]; exact a.settleOrd hi hu
  · refine (a.in_settle hi w).trans ?_
    by_cases hp : h.place v < 0
    · rw [put_new k hp]; unfold Hq.place; simp only
      rw [getD_set _ _ _ _ _ hv]
      by_cases e : v = w
      · rw [if_pos e]; constructor
        · intro _; exact .inl e.symm
        · intro _; omega
      · rw [if_neg e]; constructor
        · intro h1; exact .inr h1
        · rintro (h1 | h1)
          · exact absurd h1.symm e
          · exact h1
    · rw [put_old k hp]; constructor
      · intro h1; exact .inr h1
      · rintro (rfl | h1)
        · show 0 ≤ h.place w; omega
        · exact h1
theorem HG.drop {h : Hq} (o : HG h) {v : Nat} (hv : v < h.pl.length) (hp : 0 ≤ h.place v) : HG (dropH h v) ∧ (dropH h v).it.length = h.it.length - 1 ∧ (dropH h v).pl.length = h.pl.length ∧ (dropH h v).ky = h.ky ∧ ∀ w, 0 ≤ (dropH h v).place w ↔ w ≠ v ∧ 0 ≤ h.place w := by
  obtain ⟨a, b, c, d⟩ := o.hi.cut hv hp
  obtain ⟨q1, q2, q3, q4⟩ := o.hi.drop hv hp
  have hlt := o.hi.lt hv hp
  have hlast : h.it.length - 1 < h.it.length := by omega
  have hsw := o.hi.swap hlt hlast
  have e2 : ∀ i, i < h.it.length - 1 → (cutH h v).kk i = if (h.place v).toNat = i then h.kk (h.it.length - 1) else h.kk i := fun i hi => by
    have e3 : (cutH h v).kk i = (swapH h (h.place v).toNat (h.it.length - 1)).kk i := by
      unfold Hq.kk Hq.item cutH Hq.key; simp only [List.getD_eq_getElem?_getD]; rw [List.getElem?_take, if_pos hi]; rfl
    rw [e3, kk_swap h hlt hlast, if_neg (by omega)]
  have hin : ∀ w, 0 ≤ (cutH h v).place w ↔ w ≠ v ∧ 0 ≤ h.place w := fun w => by
    have e1 : (cutH h v).place w = if v = w then (-1 : Int) else (swapH h (h.place v).toNat (h.it.length - 1)).place w := getD_set _ _ _ _ _ (by rw [(swapH_len _ _ _).2.1]; exact hv)
    rw [e1]
    by_cases e : v = w
    · rw [if_pos e]; constructor
      · intro h1; omega
      · intro h1; exact absurd e.symm h1.1
    · rw [if_neg e, o.hi.in_swap hlt hlast]
      exact ⟨fun h1 => ⟨fun e2 => e e2.symm, h1⟩, fun h1 => h1.2⟩
  by_cases hh : (h.place v).toNat < h.it.length - 1
  · have hd : dropH h v = settleH (cutH h v) (h.place v).toNat (h.it.length - 1) := by unfold dropH; rw [if_pos hh]
    have hu : UpI (cutH h v) (h.place v).toNat (cutH h v).it.length := by
      rw [b]
      refine ⟨fun j j0 jn h1 h2 => ?_, fun j j0 jn h1 h2 => ?_⟩
      · rw [e2 _ (by omega), e2 _ jn, if_neg (fun e => h2 e.symm), if_neg (fun e => h1 e.symm)]; exact o.ord j j0 (by omega)
      · rw [e2 _ (by omega), e2 _ jn, if_neg (by omega), if_neg (by omega)]
        refine le2_trans (o.ord _ h2 hlt) ?_
        have := o.ord j j0 (by omega)
        rw [h1] at this; exact this
    refine ⟨⟨q1, ?_⟩, q2, q3, q4, fun w => ?_⟩
    · rw [q2, hd]
      have := a.settleOrd (by rw [b]; exact hh) hu
      rwa [b] at this
    · rw [hd]
      have := a.in_settle (i := (h.place v).toNat) (by rw [b]; exact hh) w
      rw [b] at this
      exact this.trans (hin w)
  · have hd : dropH h v = cutH h v := by unfold dropH; rw [if_neg hh]
    refine ⟨⟨q1, ?_⟩, q2, q3, q4, fun w => by rw [hd]; exact hin w⟩
    rw [q2, hd]
    intro j j0 jn
    rw [e2 _ (by omega), e2 _ jn, if_neg (by omega), if_neg (by omega)]; exact o.ord j j0 (by omega)
theorem HG.min {h : Hq} (o : HG h) {w : Nat} (hw : w < h.pl.length) (hp : 0 ≤ h.place w) : le2 (h.kk 0) (h.key w, w) := by
  obtain ⟨_, b⟩ := o.hi.at_ w hw hp
  have hlt := o.hi.lt hw hp
  have : ∀ j, j < h.it.length → le2 (h.kk 0) (h.kk j) := by
    intro j
    induction j using Nat.strongRecOn with
    | _ j ih =>
      intro hj
      by_cases e : j = 0
      · subst e; exact le2_refl _
      · exact le2_trans (ih ((j - 1) / 2) (by omega) (by omega)) (o.ord j (by omega) hj)
  have q := this _ hlt
  unfold Hq.kk at q ⊢
  rw [b] at q; exact q
end Go.Pl
/- The valid graph of edges: sorted, of several edges between the same nodes the cheapest. -/
namespace Go.Pl
open Go.RT Go.Shelf Go.Proofs
set_option linter.all false
instance : Inhabited Edg := ⟨⟨0, 0, 0⟩⟩
theorem cmpI_neg (a b : Int) : cmpI a b < 0 ↔ a < b := by unfold cmpI; split <;> (try split) <;> omega
theorem cmpI_zero (a b : Int) : cmpI a b = 0 ↔ a = b := by unfold cmpI; split <;> (try split) <;> omega
/-- strictly ascending by their ends -/
def ltK (a b : Edg) : Prop := a.f < b.f ∨ a.f = b.f ∧ a.t < b.t
theorem ltK_bef (a b : Edg) : befB a b = true ↔ ltK a b := by simp [befB, ltK]
def AscK (l : List Edg) : Prop := l.Pairwise ltK
theorem AscK.ext : ∀ {a b : List Edg}, AscK a → AscK b → (∀ p, p ∈ a ↔ p ∈ b) → a = b
  | [], [], _, _, _ => rfl
  | [], y :: b, _, _, h => by have := (h y).2 (List.mem_cons_self ..); cases this
  | x :: a, [], _, _, h => by have := (h x).1 (List.mem_cons_self ..); cases this
  | x :: a, y :: b, ha, hb, h => by
    obtain ⟨a1, a2⟩ := List.pairwise_cons.1 ha
    obtain ⟨b1, b2⟩ := List.pairwise_cons.1 hb
    have e : x = y := by
      rcases List.mem_cons.1 ((h x).1 (List.mem_cons_self ..)) with e | h1
      · exact e
      · rcases List.mem_cons.1 ((h y).2 (List.mem_cons_self ..)) with e | h2
        · exact e.symm
        · have := b1 x h1; have := a1 y h2; unfold ltK at *; omega
    subst e
    refine congrArg _ (AscK.ext a2 b2 fun p => ?_)
    constructor
    · intro hp
      rcases List.mem_cons.1 ((h p).1 (List.mem_cons_of_mem _ hp)) with e | h1
      · subst e; have := a1 p hp; unfold ltK at *; omega
      · exact h1
    · intro hp
      rcases List.mem_cons.1 ((h p).2 (List.mem_cons_of_mem _ hp)) with e | h1
      · subst e; have := b1 p hp; unfold ltK at *; omega
      · exact h1
/-- the cheapest edge of each pair of ends, ascending -/
structure Least (l s : List Edg) : Prop where
  asc : AscK s
  sub : ∀ e ∈ s, e ∈ l
  min : ∀ e ∈ s, ∀ e' ∈ l, e'.f = e.f → e'.t = e.t → e.c ≤ e'.c
  all : ∀ e' ∈ l, ∃ e ∈ s, e.f = e'.f ∧ e.t = e'.t
theorem Least.uniq {l a b : List Edg} (ha : Least l a) (hb : Least l b) : a = b := by
  have key : ∀ {a b : List Edg}, Least l a → Least l b → ∀ p, p ∈ a → p ∈ b := fun {a b} ha hb p hp => by
    obtain ⟨q, hq, h1, h2⟩ := hb.all p (ha.sub p hp)
    have := ha.min p hp q (hb.sub q hq) h1 h2
    have := hb.min q hq p (ha.sub p hp) h1.symm h2.symm
    have : p = q := by cases p; cases q; simp only [Edg.mk.injEq]; simp only at *; omega
    rw [this]; exact hq
  exact AscK.ext ha.asc hb.asc fun p => ⟨key ha hb p, key hb ha p⟩
end Go.Pl
/- Which nodes can be reached. -/
namespace Go.Pl
open Go.RT
set_option linter.all false
inductive Rch (l : List Edg) (a : Int) : Int → Prop where
  | here : Rch l a a
  | step (e : Edg) : e ∈ l → Rch l a e.f → Rch l a e.t
open Classical in
/-- a checked graph's edges lie between its nodes -/
theorem chkL_alw {g : Gr} : ∀ (l : List Edg) (p : Option Edg), chkL g p l = 0 → ∀ e ∈ l, alwI g e = 0
  | [], _, _, e, he => by cases he
  | x :: l, p, h, e, he => by
    simp only [chkL] at h
    by_cases h1 : alwI g x = 0
    · rw [if_neg (by simp [h1])] at h
      by_cases h2 : badP p x = true
      · rw [if_pos h2] at h; cases h
      · rw [if_neg h2] at h
        rcases List.mem_cons.1 he with rfl | he
        · exact h1
        · exact chkL_alw l _ h e he
    · rw [if_pos h1] at h; exact absurd h h1
theorem checkI_ok {g : Gr} (h : checkI g = 0) : szOk g ∧ g.es.length ≤ 1024 ∧ chkL g none g.es = 0 := by
  unfold checkI at h
  by_cases h1 : sizeI g = 0
  · rw [if_neg (by simp [h1])] at h
    exact ⟨(sizeI_ok h1).1, (sizeI_ok h1).2, h⟩
  · rw [if_pos h1] at h; exact absurd h h1
theorem alwI_node {g : Gr} {e : Edg} (h : alwI g e = 0) : (0 ≤ e.f ∧ e.f < g.r + g.n) ∧ (0 ≤ e.t ∧ e.t < g.r + g.n) := by
  unfold alwI at h
  by_cases h1 : nodeB g e.f = false ∨ nodeB g e.t = false
  · rw [if_pos h1] at h; cases h
  · simp only [not_or, Bool.not_eq_false, nodeB, Bool.and_eq_true, decide_eq_true_eq] at h1
    exact h1
/-- how many are marked -/
def cntT (l : List Bool) : Nat := l.countP (· == true)
theorem cntT_set {l : List Bool} {v : Nat} (h : l[v]? = some false) : cntT (l.set v true) = cntT l + 1 := by
  obtain ⟨hv, he⟩ := List.getElem?_eq_some_iff.1 h
  induction l generalizing v with
  | nil => simp at hv
  | cons x l ih =>
    cases v with
    | zero => simp at he; subst he; simp [cntT]
    | succ v =>
      have hv2 : v < l.length := by simpa using hv
      have := ih (by simpa using h) hv2 (by simpa using he)
      unfold cntT at *
      simp only [List.set_cons_succ, List.countP_cons, this]; omega
end Go.Pl
namespace Go.Pl
open Go.RT
open Classical in
/-- what the search knows -/
structure Bfs (g : Gr) (a : Int) (out : List Bool) (l : List Int) (i : Nat) : Prop where
  len : out.length = (g.r + g.n).toNat
  from_ : out[a.toNat]? = some true
  i_le : i ≤ l.length
  mem : ∀ x ∈ l, 0 ≤ x ∧ x < g.r + g.n ∧ out[x.toNat]? = some true ∧ Rch g.es a x
  all : ∀ v : Nat, out[v]? = some true → (v : Int) ∈ l
  cnt : l.length = cntT out
  done : ∀ x ∈ l.take i, ∀ e ∈ g.es, e.f = x → out[e.t.toNat]? = some true
theorem set_true {out : List Bool} {v w : Nat} (h : out[w]? = some true) : (out.set v true)[w]? = some true := by
  rw [List.getElem?_set]
  obtain ⟨h1, _⟩ := List.getElem?_eq_some_iff.1 h
  split
  · rename_i e; subst e; rw [if_pos h1]
  · exact h
theorem Bfs.next {g : Gr} {a : Int} {out : List Bool} {l : List Int} {i : Nat} (h : Bfs g a out l i) {x : Int} (hx : l[i]? = some x) (hd : ∀ y ∈ nextI x g.es, out[y.toNat]? = some true) : Bfs g a out l (i + 1) := by
  obtain ⟨hi, hxe⟩ := List.getElem?_eq_some_iff.1 hx
  refine ⟨h.len, h.from_, hi, h.mem, h.all, h.cnt, fun y hy e he1 he2 => ?_⟩
  rw [List.take_succ_eq_append_getElem hi] at hy
  rcases List.mem_append.1 hy with hy | hy
  · exact h.done y hy e he1 he2
  · have : y = x := by simpa [hxe] using hy
    exact hd e.t (((nextI_spec x g.es).2 e.t).2 ⟨e, he1, by omega, rfl⟩)
theorem Bfs.start {g : Gr} {k : Nat} (hk : (k : Int) < g.r + g.n) : Bfs g k ((List.replicate (g.r + g.n).toNat false).set k true) [(k : Int)] 0 := by
  have hf : (List.replicate (g.r + g.n).toNat false)[k]? = some false := by rw [List.getElem?_replicate, if_pos (by omega)]
  have h0 : cntT (List.replicate (g.r + g.n).toNat false) = 0 := by
    unfold cntT; rw [List.countP_eq_zero]; intro b hb; rw [List.eq_of_mem_replicate hb]; simp
  have hkk : ((List.replicate (g.r + g.n).toNat false).set k true)[k]? = some true := by rw [List.getElem?_set, if_pos rfl, if_pos (by simp; omega)]
  refine ⟨by simp, by simpa using hkk, by simp, fun x hx => ?_, fun v hv => ?_, by rw [cntT_set hf, h0]; rfl, fun x hx => by simp at hx⟩
  · have : x = k := by simpa using hx
    subst this
    exact ⟨by omega, hk, by simpa using hkk, .here⟩
  · rw [List.getElem?_set] at hv
    split at hv
    · rename_i e; subst e; simp
    · rw [List.getElem?_replicate] at hv; split at hv <;> simp at hv
end Go.Pl
namespace Go.Pl
open Go Go.RT
set_option linter.all false
/- walks and distances -/
structure VG (es : List Edg) (r n : Nat) : Prop where
  f : ∀ e ∈ es, 0 ≤ e.f ∧ e.f < n
  t : ∀ e ∈ es, 0 ≤ e.t ∧ e.t < n
  c : ∀ e ∈ es, 0 ≤ e.c ∧ e.c ≤ 65535
  net : ∀ e ∈ es, (r : Int) ≤ e.f → e.t < r ∧ e.c = 0
  rt : ∀ e ∈ es, e.f < (r : Int) → 1 ≤ e.c
  ne : ∀ e ∈ es, e.f ≠ e.t
  asc : AscK es
  le : r ≤ n
  n128 : n ≤ 128
  e1024 : es.length ≤ 1024
inductive Wk (es : List Edg) (a : Nat) : Nat → Int → Prop where
  | nil : Wk es a a 0
  | snoc {e : Edg} {c : Int} : Wk es a e.f.toNat c → e ∈ es → Wk es a e.t.toNat (c + e.c)
theorem Wk.app {es : List Edg} {a b v : Nat} {c d : Int} (h : Wk es a b c) (g : Wk es b v d) : Wk es a v (c + d) := by
  induction g with
  | nil => simpa using h
  | snoc g he ih => have := Wk.snoc ih he; rwa [Int.add_assoc] at this
theorem Wk.nn {es : List Edg} {r n : Nat} (vg : VG es r n) {a v : Nat} {c : Int} (h : Wk es a v c) : 0 ≤ c := by
  induction h with
  | nil => exact Int.le_refl _
  | snoc h he ih => have := (vg.c _ he).1; omega
theorem Wk.lt {es : List Edg} {r n : Nat} (vg : VG es r n) {a v : Nat} {c : Int} (h : Wk es a v c) (ha : a < n) : v < n := by
  cases h with
  | nil => exact ha
  | snoc h he => have := (vg.t _ he); omega
theorem Wk.mono {es es' : List Edg} (hs : ∀ e ∈ es, e ∈ es') {a v : Nat} {c : Int} (h : Wk es a v c) : Wk es' a v c := by
  induction h with
  | nil => exact .nil
  | snoc h he ih => exact .snoc ih (hs _ he)
def IsD (es : List Edg) (a v : Nat) (d : Int) : Prop := (d = -1 ∧ ∀ c, ¬ Wk es a v c) ∨ (Wk es a v d ∧ ∀ c, Wk es a v c → d ≤ c)
theorem IsD.uniq {es : List Edg} {a v : Nat} {d d' : Int} (h : IsD es a v d) (g : IsD es a v d') : d = d' := by
  rcases h with ⟨h1, h2⟩ | ⟨h1, h2⟩ <;> rcases g with ⟨g1, g2⟩ | ⟨g1, g2⟩
  · omega
  · exact absurd g1 (h2 _)
  · exact absurd h1 (g2 _)
  · have := h2 _ g1; have := g2 _ h1; omega
theorem nodup_len : ∀ (n : Nat) (l : List Nat), l.Nodup → (∀ x ∈ l, x < n) → l.length ≤ n
  | 0, l, _, h => by cases l with
    | nil => simp
    | cons x l => have := h x (by simp); omega
  | n + 1, l, hd, h => by
    by_cases hm : n ∈ l
    · have := nodup_len n (l.erase n) (hd.erase n) (fun x hx => by
        have h1 := h x (List.mem_of_mem_erase hx)
        have h2 : x ≠ n := fun e => by rw [e] at hx; exact (List.Nodup.not_mem_erase hd) hx
        omega)
      rw [List.length_erase_of_mem hm] at this; omega
    · have := nodup_len n l hd (fun x hx => by
        have h1 := h x hx
        have h2 : x ≠ n := fun e => hm (by rw [← e]; exact hx)
        omega)
      omega
theorem HI.small {h : Hq} (o : HI h) : h.it.length ≤ h.pl.length := by
  refine nodup_len _ _ ?_ o.ok.lt
  rw [List.Nodup, List.pairwise_iff_getElem]
  intro i j hi hj hij e
  have e1 : ∀ k (hk : k < h.it.length), h.item k = h.it[k] := fun k hk => by unfold Hq.item; rw [List.getD_eq_getElem?_getD, List.getElem?_eq_getElem hk]; rfl
  have h1 := o.inv i hi
  have h2 := o.inv j hj
  rw [e1 i hi] at h1; rw [e1 j hj] at h2
  rw [e, h2] at h1; omega
abbrev gt0 (l : List Int) (v : Nat) : Int := l.getD v 0
def cntP (l : List Int) : Nat := l.countP fun x => decide (0 ≤ x)
theorem cntP_cons (x : Int) (l : List Int) : cntP (x :: l) = cntP l + if 0 ≤ x then 1 else 0 := by
  unfold cntP; rw [List.countP_cons]; simp
theorem cntP_set {l : List Int} {v : Nat} {k : Int} (hv : v < l.length) (hn : gt0 l v < 0) (hk : 0 ≤ k) : cntP (l.set v k) = cntP l + 1 := by
  induction l generalizing v with
  | nil => simp at hv
  | cons x l ih =>
    cases v with
    | zero =>
      have h1 : x < 0 := by simpa [gt0] using hn
      rw [List.set_cons_zero, cntP_cons, cntP_cons, if_pos hk, if_neg (by omega)]
    | succ v =>
      rw [List.set_cons_succ, cntP_cons, cntP_cons, ih (by simpa using hv) (by simpa [gt0] using hn)]; omega
theorem cntP_le (l : List Int) : cntP l ≤ l.length := List.countP_le_length
structure DJ (es : List Edg) (n : Nat) (a : Nat) (dist : List Int) (h : Hq) (todo : List Edg) : Prop where
  hg : HG h
  hl : h.pl.length = n
  dl : dist.length = n
  fin : ∀ v, v < n → 0 ≤ gt0 dist v → Wk es a v (gt0 dist v) ∧ ∀ c, Wk es a v c → gt0 dist v ≤ c
  neg : ∀ v, v < n → gt0 dist v < 0 → gt0 dist v = -1
  q : ∀ v, v < n → 0 ≤ h.place v → gt0 dist v < 0 ∧ Wk es a v (h.key v) ∧ h.key v ≤ 65535 * cntP dist
  rel : ∀ e ∈ es, 0 ≤ gt0 dist e.f.toNat → e ∈ todo ∨ 0 ≤ gt0 dist e.t.toNat ∨ (0 ≤ h.place e.t.toNat ∧ h.key e.t.toNat ≤ gt0 dist e.f.toNat + e.c)
  root : 0 ≤ gt0 dist a ∨ (0 ≤ h.place a ∧ h.key a ≤ 0)
theorem DJ.low {es : List Edg} {r n a : Nat} (vg : VG es r n) (ha : a < n) {dist : List Int} {h : Hq} (o : DJ es n a dist h []) {v : Nat} {c : Int} (w : Wk es a v c) : 0 ≤ gt0 dist v ∨ ∃ y, y < n ∧ 0 ≤ h.place y ∧ h.key y ≤ c := by
  induction w with
  | nil => rcases o.root with h1 | ⟨h1, h2⟩
           · exact .inl h1
           · exact .inr ⟨a, ha, h1, h2⟩
  | @snoc e c w he ih =>
    have hc := vg.c _ he
    rcases ih with h1 | ⟨y, y1, y2, y3⟩
    · have hfl : e.f.toNat < n := w.lt vg ha
      have h2 := (o.fin _ hfl h1).2 _ w
      rcases o.rel e he h1 with h3 | h3 | ⟨h3, h4⟩
      · cases h3
      · exact .inl h3
      · exact .inr ⟨_, by have := vg.t _ he; omega, h3, by omega⟩
    · exact .inr ⟨y, y1, y2, by omega⟩
theorem key_set {h : Hq} {v : Nat} {k : Int} (hv : v < h.ky.length) {h' : Hq} (e : h'.ky = h.ky.set v k) (w : Nat) : h'.key w = if v = w then k else h.key w := by
  unfold Hq.key; rw [e, getD_set _ _ _ _ _ hv]
theorem DJ.pop {es : List Edg} {r n a : Nat} (vg : VG es r n) (ha : a < n) {dist : List Int} {h : Hq} (o : DJ es n a dist h []) (hne : 0 < h.it.length) :
    h.item 0 < n ∧ gt0 dist (h.item 0) < 0 ∧ 0 ≤ h.key (h.item 0) ∧ h.key (h.item 0) ≤ 65535 * cntP dist ∧ cntP (dist.set (h.item 0) (h.key (h.item 0))) = cntP dist + 1 ∧
    DJ es n a (dist.set (h.item 0) (h.key (h.item 0))) (dropH h (h.item 0)) (es.filter fun e => decide (e.f = (h.item 0 : Nat))) := by
  have hx : h.item 0 < n := by rw [← o.hl]; exact o.hg.hi.ok.item hne
  have hp : 0 ≤ h.place (h.item 0) := by rw [o.hg.hi.inv 0 hne]; decide
  have hmin := fun w hw hp => o.hg.min (w := w) (by rw [o.hl]; exact hw) hp
  obtain ⟨d1, d2, d3, d4, d5⟩ := o.hg.drop (by rw [o.hl]; exact hx) hp
  obtain ⟨q1, q2, q3⟩ := o.q _ hx hp
  have hk0 := q2.nn vg
  have hbest : ∀ c, Wk es a (h.item 0) c → h.key (h.item 0) ≤ c := fun c w => by
    rcases o.low vg ha w with h1 | ⟨y, y1, y2, y3⟩
    · omega
    · have := hmin y y1 y2; unfold le2 Hq.kk at this; simp only at this; omega
  unfold Hq.kk at hmin
  generalize h.item 0 = x at *
  generalize h.key x = k at *
  have hkey : ∀ w, (dropH h x).key w = h.key w := fun w => by unfold Hq.key; rw [d4]
  have hget : ∀ v, gt0 (dist.set x k) v = if x = v then k else gt0 dist v := fun v => getD_set _ _ _ _ _ (by rw [o.dl]; exact hx)
  have hcnt := cntP_set (l := dist) (k := k) (by rw [o.dl]; exact hx) q1 hk0
  refine ⟨hx, q1, hk0, q3, hcnt, d1, by rw [d3, o.hl], by rw [List.length_set, o.dl], fun v hv h0 => ?_, fun v hv h0 => ?_, fun v hv h0 => ?_, fun e he h0 => ?_, ?_⟩
  · rw [hget] at h0 ⊢
    by_cases e : x = v
    · subst e; rw [if_pos rfl]; exact ⟨q2, hbest⟩
    · rw [if_neg e] at h0 ⊢; exact o.fin v hv h0
  · rw [hget] at h0 ⊢
    by_cases e : x = v
    · rw [if_pos e] at h0; omega
    · rw [if_neg e] at h0 ⊢; exact o.neg v hv h0
  · obtain ⟨e1, e2⟩ := (d5 v).1 h0
    obtain ⟨s1, s2, s3⟩ := o.q v hv e2
    rw [hget, if_neg (fun e => e1 e.symm), hkey, hcnt]
    exact ⟨s1, s2, by omega⟩
  · rw [hget] at h0
    have hef := vg.f e he
    by_cases e1 : x = e.f.toNat
    · refine .inl (List.mem_filter.2 ⟨he, ?_⟩)
      rw [decide_eq_true_eq]; omega
    · rw [if_neg e1] at h0
      rcases o.rel e he h0 with h3 | h3 | ⟨h3, h4⟩
      · cases h3
      · refine .inr (.inl ?_)
        rw [hget]; split
        · exact hk0
        · exact h3
      · by_cases e2 : x = e.t.toNat
        · refine .inr (.inl ?_)
          rw [hget, if_pos e2]; exact hk0
        · refine .inr (.inr ⟨(d5 _).2 ⟨fun e => e2 e.symm, h3⟩, ?_⟩)
          rw [hkey, hget, if_neg e1]; exact h4
  · by_cases e2 : x = a
    · rw [hget, if_pos e2]; exact .inl hk0
    · rw [hget, if_neg e2, hkey]
      rcases o.root with h1 | ⟨h1, h2⟩
      · exact .inl h1
      · exact .inr ⟨(d5 _).2 ⟨fun e => e2 e.symm, h1⟩, h2⟩
theorem DJ.skip {es : List Edg} {r n a : Nat} (vg : VG es r n) {dist : List Int} {h : Hq} {e : Edg} {todo : List Edg} (o : DJ es n a dist h (e :: todo))
    (hc : ¬ (gt0 dist e.t.toNat < 0 ∧ (h.place e.t.toNat < 0 ∨ gt0 dist e.f.toNat + e.c < h.key e.t.toNat))) : DJ es n a dist h todo := by
  refine ⟨o.hg, o.hl, o.dl, o.fin, o.neg, o.q, fun e' he' h0 => ?_, o.root⟩
  rcases o.rel e' he' h0 with h3 | h3
  · rcases List.mem_cons.1 h3 with rfl | h3
    · refine .inr ?_
      by_cases h4 : 0 ≤ gt0 dist e'.t.toNat
      · exact .inl h4
      · refine .inr ⟨?_, ?_⟩
        · exact Int.not_lt.1 fun h5 => hc ⟨by omega, .inl h5⟩
        · exact Int.not_lt.1 fun h5 => hc ⟨by omega, .inr h5⟩
    · exact .inl h3
  · exact .inr h3
theorem DJ.put {es : List Edg} {r n a : Nat} (vg : VG es r n) {dist : List Int} {h : Hq} {e : Edg} {todo : List Edg} (he : e ∈ es) (o : DJ es n a dist h (e :: todo)) (hf : 0 ≤ gt0 dist e.f.toNat) (hb : gt0 dist e.f.toNat + 65535 ≤ 65535 * cntP dist)
    (hc : gt0 dist e.t.toNat < 0 ∧ (h.place e.t.toNat < 0 ∨ gt0 dist e.f.toNat + e.c < h.key e.t.toNat)) : DJ es n a dist (setH h e.t.toNat (gt0 dist e.f.toNat + e.c)) todo := by
  have hef := vg.f e he
  have het := vg.t e he
  have hec := vg.c e he
  have htl : e.t.toNat < h.pl.length := by rw [o.hl]; omega
  obtain ⟨s1, s2, s3, s4⟩ := o.hg.set htl (gt0 dist e.f.toNat + e.c)
  have hkey := key_set (by rw [← o.hg.hi.ok.len]; exact htl) s3
  have hw : Wk es a e.t.toNat (gt0 dist e.f.toNat + e.c) := .snoc (o.fin _ (by omega) hf).1 he
  refine ⟨s1, by rw [s2, o.hl], o.dl, o.fin, o.neg, fun v hv h0 => ?_, fun e' he' h0 => ?_, ?_⟩
  · rw [hkey]
    by_cases e1 : e.t.toNat = v
    · rw [if_pos e1]; subst e1; exact ⟨hc.1, hw, by omega⟩
    · rw [if_neg e1]
      rcases (s4 v).1 h0 with h1 | h1
      · exact absurd h1.symm e1
      · exact o.q v hv h1
  · rcases o.rel e' he' h0 with h3 | h3 | ⟨h3, h4⟩
    · rcases List.mem_cons.1 h3 with rfl | h3
      · refine .inr (.inr ⟨(s4 _).2 (.inl rfl), ?_⟩)
        rw [hkey, if_pos rfl]; exact Int.le_refl _
      · exact .inl h3
    · exact .inr (.inl h3)
    · refine .inr (.inr ⟨(s4 _).2 (.inr h3), ?_⟩)
      rw [hkey]
      by_cases e1 : e.t.toNat = e'.t.toNat
      · rw [if_pos e1]
        rcases hc.2 with h5 | h5
        · rw [← e1] at h3; omega
        · rw [← e1] at h4; omega
      · rw [if_neg e1]; exact h4
  · rcases o.root with h1 | ⟨h1, h2⟩
    · exact .inl h1
    · refine .inr ⟨(s4 _).2 (.inr h1), ?_⟩
      rw [hkey]
      by_cases e1 : e.t.toNat = a
      · rw [if_pos e1]
        rcases hc.2 with h5 | h5
        · rw [← e1] at h1; omega
        · rw [← e1] at h2; omega
      · rw [if_neg e1]; exact h2
theorem DJ.done {es : List Edg} {r n a : Nat} (vg : VG es r n) (ha : a < n) {dist : List Int} {h : Hq} (o : DJ es n a dist h []) (he : h.it = []) {v : Nat} (hv : v < n) : IsD es a v (gt0 dist v) := by
  by_cases h0 : 0 ≤ gt0 dist v
  · exact .inr (o.fin v hv h0)
  · refine .inl ⟨o.neg v hv (by omega), fun c w => ?_⟩
    rcases o.low vg ha w with h1 | ⟨y, y1, y2, y3⟩
    · exact h0 h1
    · have := (o.hg.hi.at_ y (by rw [o.hl]; exact y1) y2).1
      rw [he] at this; simp at this; omega
theorem checkI_vg {g : Gr} (h : checkI g = 0) : VG g.es g.r.toNat (g.r + g.n).toNat ∧ 0 ≤ g.r ∧ 0 ≤ g.n := by
  obtain ⟨⟨h1, h2, h3⟩, h4, h5⟩ := checkI_ok h
  have hal := chkL_alw _ _ h5
  have hn := fun e he => alwI_node (hal e he)
  have hx : ∀ e ∈ g.es, ¬ (e.f = e.t ∨ (g.r ≤ e.f ∧ g.r ≤ e.t) ∨ (g.r ≤ e.f ∧ e.c ≠ 0) ∨ (e.f < g.r ∧ (e.c < 1 ∨ 65535 < e.c))) := fun e he hh => by
    have h6 := hal e he
    unfold alwI at h6
    split at h6
    · cases h6
    · first | (rw [if_pos hh] at h6; cases h6) | cases h6
  have hasc : ∀ (l : List Edg) (p : Option Edg), chkL g p l = 0 → AscK l ∧ ∀ q, p = some q → ∀ e ∈ l, ltK q e := by
    intro l
    induction l with
    | nil => exact fun p _ => ⟨.nil, fun q _ e he => by cases he⟩
    | cons x l ih =>
      intro p hp
      simp only [chkL] at hp
      split at hp
      · next h7 => exact absurd hp h7
      · split at hp
        · cases hp
        · next h8 =>
          obtain ⟨i1, i2⟩ := ih _ hp
          refine ⟨List.pairwise_cons.2 ⟨fun y hy => i2 x rfl y hy, i1⟩, fun q hq e he => ?_⟩
          subst hq
          have h9 : ltK q x := by rw [← ltK_bef]; simpa [badP] using h8
          rcases List.mem_cons.1 he with rfl | he
          · exact h9
          · have := i2 x rfl e he; unfold ltK at *; omega
  refine ⟨⟨fun e he => ?_, fun e he => ?_, fun e he => ?_, fun e he hr => ?_, fun e he hr => ?_, fun e he hr => ?_, (hasc _ _ h5).1, by omega, by omega, h4⟩, h1, h2⟩
  · have := hn e he; omega
  · have := hn e he; omega
  · have := hx e he; omega
  · have := hx e he; omega
  · have := hx e he; omega
  · have := hx e he; omega
end Go.Pl
namespace Go.Pl
open Go Go.RT
set_option linter.all false
def newH (n : Nat) : Hq := ⟨[], List.replicate n (-1), List.replicate n 0⟩
def fillN (n k : Nat) : List Int := List.replicate k (-1) ++ List.replicate (n - k) 0
theorem fillN_len (n k : Nat) (h : k ≤ n) : (fillN n k).length = n := by simp [fillN]; omega
theorem fillN_set (n k : Nat) (h : k < n) : (fillN n k).set k (-1) = fillN n (k + 1) := by
  unfold fillN
  rw [List.set_append_right _ _ (by simp), List.length_replicate, Nat.sub_self, show n - k = (n - (k + 1)) + 1 by omega, List.replicate_succ, List.set_cons_zero, List.replicate_succ', List.append_assoc]; rfl
theorem fillN_0 (n : Nat) : fillN n 0 = List.replicate n 0 := by simp [fillN]
theorem fillN_n (n : Nat) : fillN n n = List.replicate n (-1) := by simp [fillN]
theorem getD_rep {α : Type} (n v : Nat) (x d : α) (h : v < n) : (List.replicate n x).getD v d = x := by
  rw [List.getD_eq_getElem?_getD, List.getElem?_replicate, if_pos h]; rfl
theorem HG.new (n : Nat) : HG (newH n) :=
  ⟨⟨⟨by simp [newH], fun v h => by simp [newH] at h⟩, fun v hv h0 => by
    have : (newH n).place v = -1 := getD_rep _ _ _ _ (by simpa [newH] using hv)
    rw [this] at h0; omega, fun i hi => by simp [newH] at hi⟩, fun j _ hj => by simp [newH] at hj⟩
theorem DJ.start {es : List Edg} {r n a : Nat} (vg : VG es r n) (ha : a < n) : DJ es n a (List.replicate n (-1)) (setH (newH n) a 0) [] ∧ cntP (List.replicate n (-1)) = 0 := by
  obtain ⟨s1, s2, s3, s4⟩ := (HG.new n).set (v := a) (by simpa [newH] using ha) 0
  have hg : ∀ v, v < n → gt0 (List.replicate n (-1)) v = -1 := fun v hv => getD_rep _ _ _ _ hv
  have hkey := key_set (h := newH n) (v := a) (by simpa [newH] using ha) s3
  have hp : ∀ v, v < n → (newH n).place v = -1 := fun v hv => getD_rep _ _ _ _ hv
  have hc : cntP (List.replicate n (-1)) = 0 := by unfold cntP; rw [List.countP_replicate]; simp
  refine ⟨⟨s1, by rw [s2]; simp [newH], by simp, fun v hv h0 => ?_, fun v hv _ => hg v hv, fun v hv h0 => ?_, fun e he h0 => ?_, .inr ⟨(s4 a).2 (.inl rfl), ?_⟩⟩, hc⟩
  · rw [hg v hv] at h0; omega
  · rw [hg v hv, hc]
    rcases (s4 v).1 h0 with rfl | h1
    · rw [hkey, if_pos rfl]; exact ⟨by omega, .nil, by omega⟩
    · rw [hp v hv] at h1; omega
  · have := vg.f e he
    rw [hg _ (by omega)] at h0; omega
  · rw [hkey, if_pos rfl]; exact Int.le_refl _
/- rows of own slices -/
theorem rng_len {β : Type} (n : Nat) (f : Nat → β) : ((List.range n).map f).length = n := by simp
theorem rng_get {β : Type} (n : Nat) (f : Nat → β) (v : Nat) (h : v < n) : ((List.range n).map f)[v]? = some (f v) := by simp [h]
theorem rng_set {β : Type} (n : Nat) (f f' : Nat → β) (v : Nat) (x : β) (hx : f' v = x) (h : ∀ w, w ≠ v → f' w = f w) : ((List.range n).map f).set v x = (List.range n).map f' := by
  apply List.ext_getElem?
  intro i
  rw [List.getElem?_set]
  by_cases e : v = i
  · subst e
    by_cases hv : v < n
    · simp [hv, hx]
    · simp [hv]
  · rw [if_neg e]
    by_cases hi : i < n
    · simp [hi, h i (fun e2 => e e2.symm)]
    · simp [hi]
theorem rng_const {β : Type} (n : Nat) (x : β) : List.replicate n x = (List.range n).map fun _ => x := by
  apply List.ext_getElem?
  intro i
  by_cases hi : i < n
  · simp [hi]
  · simp [hi]
def outE (es : List Edg) (v : Nat) : List Edg := es.filter fun e => decide (e.f = (v : Nat))
def rowsE (es : List Edg) (n : Nat) : List (List (List FV)) := (List.range n).map fun v => (outE es v).map encE
theorem outE_succ {es : List Edg} {i : Nat} (h : i < es.length) (v : Nat) : outE (es.take (i + 1)) v = outE (es.take i) v ++ if es[i].f = (v : Nat) then [es[i]] else [] := by
  unfold outE
  rw [← List.take_append_getElem h, List.filter_append]
  congr 1
  by_cases e : es[i].f = (v : Nat)
  · simp [e]
  · simp [e]
theorem rowsE_succ {es : List Edg} {i n : Nat} (h : i < es.length) (h0 : 0 ≤ es[i].f) : (rowsE (es.take i) n).set es[i].f.toNat ((outE (es.take i) es[i].f.toNat).map encE ++ [encE es[i]]) = rowsE (es.take (i + 1)) n := by
  refine rng_set n _ _ _ _ ?_ fun w hw => ?_
  · rw [outE_succ h, if_pos (by omega), List.map_append]; rfl
  · rw [outE_succ h, if_neg (by omega), List.append_nil]
theorem rowsE_get (es : List Edg) {n v : Nat} (h : v < n) : (rowsE es n)[v]? = some ((outE es v).map encE) := rng_get n _ v h
theorem rowsE_nil (n : Nat) : rowsE [] n = List.replicate n [] := (rng_const n _).symm
theorem rowsE_len (es : List Edg) (n : Nat) : (rowsE es n).length = n := rng_len n _
end Go.Pl
namespace Go.Proofs.Ytgbfkpcigipniaa
open Go Go.RT Go.Proofs Go.Pl
set_option linter.all false
set_option maxRecDepth 20000
abbrev HN (n k : Nat) : Hp := [(0, some (.refs 3 [[.sl 1 1 0 0, .sl 2 1 0 n, .sl 3 1 0 n]])), (1, OT []), (2, OI (fillN n k)), (3, OI (List.replicate n 0))]
theorem new_c (n : Nat) (hn : n ≤ 65536) : Meets Try.prog 47 [IV .i64 n] 0 [] (.ptr 0 3 0 0) (HH (newH n)) 4 := by
  refine Meets.intro Try.func47 rfl (Nat.le_of_ble_eq_true rfl) fun C hC => ?_
  simp only [List.map, argEnv, Nat.reduceAdd]
  refine nK2 ?_
  refine s_reg rfl ?_
  refine Run.pure (dd := some 2) rfl rfl (op_assign rfl (Opd.const _)) ?_
  refine Run.nil (FinR.mk ?_)
  refine nK2 ?_
  refine s_reg rfl ?_
  refine Run.pure (dd := some 5) rfl rfl (op_move rfl (Opd.tmp _ _ rfl)) ?_
  refine Run.pure (dd := some 6) rfl rfl (op_max rfl (Opd.tmp _ _ rfl) (Opd.const _)) ?_
  refine Run.pure (dd := some 7) rfl rfl (op_min rfl (Opd.tmp _ _ rfl) (Opd.const _)) ?_
  refine Run.pure (dd := some 0) rfl rfl (op_assign rfl (Opd.tmp _ _ rfl)) ?_
  refine Run.nil (FinR.mk ?_)
  refine nK2 ?_
  refine Next.weak [] [] (by rfl) (keepsN hC _ rfl) (G' := [(0, IV .i64 n)]) (H' := []) (by exact ⟨⟨_, rfl, .inl ⟨ivEq (by omega), rfl⟩⟩, trivial⟩) trivial (fun _ h => by simp at h) ?_
  refine nK2 ?_
  refine draw_tree2 [(3, .ptr 0 3 0 0)] (HN n 0) 4 mixed (fun hK => ?_) ?_
  · skip
    refine AnyN.two 0 2 (by kernel_rfl) (StepN.mk rfl (op_move rfl (Opd.tmp _ _ rfl) _ _) rfl rfl (by kernel_rfl) ?_) (StepN.mk rfl (op_move rfl (Opd.tmp _ _ rfl) _ _) rfl rfl (by kernel_rfl) ?_)
    · skip
      refine AnyN.two 1 2 (by kernel_rfl) (StepN.mk rfl (op_make (l := n) (c := n) rfl (Opd.tmp _ _ rfl) (Opd.tmp _ _ rfl) rfl rfl rfl rfl (by intro _; refine ⟨rfl, rfl, ?_⟩; omega)) rfl rfl (by kernel_rfl) ?_) (StepN.mk rfl (op_move rfl (Opd.tmp _ _ rfl) _ _) rfl rfl (by kernel_rfl) ?_)
      · skip
        refine AnyN.one 2 (by kernel_rfl) (StepN.mk rfl (op_move rfl (Opd.tmp _ _ rfl) _ _) rfl rfl (by kernel_rfl) ?_)
        refine AnyN.one 3 (by kernel_rfl) (StepN.mk rfl (op_make (l := n) (c := n) rfl (Opd.tmp _ _ rfl) (Opd.tmp _ _ rfl) rfl rfl rfl rfl (by intro _; refine ⟨rfl, rfl, ?_⟩; omega)) rfl rfl (by kernel_rfl) ?_)
        refine AnyN.one 4 (by kernel_rfl) (StepN.mk rfl (op_buildP rfl rfl rfl rfl (FillP.cons _ _ _ _ _ _ _ _ _ _ (by rfl) (Opd.tmp _ _ rfl) tP (by rfl) tR (FillP.cons _ _ _ _ _ _ _ _ _ _ (by rfl) (Opd.tmp _ _ rfl) tP (by rfl) tR (FillP.nil _))) _ _) rfl rfl (by kernel_rfl) ?_)
        refine AnyN.one 5 (by kernel_rfl) (StepN.mk rfl (op_box_refs rfl (Opd.tmp _ _ rfl) tP rfl) rfl rfl (by kernel_rfl) ?_)
        refine AnyN.one 6 (by kernel_rfl) (StepN.mk rfl (op_assign rfl (Opd.tmp _ _ rfl) _ _) rfl rfl (by kernel_rfl) ?_)
        refine AnyN.nil rfl ?_
        refine Next.adoptCell 2 0 0 1 rfl rfl rfl rfl (Next.weak [2, 3, 0, 1] [] (by rfl) (keepsN hC _ rfl) (by repeat (first | exact trivial | refine ⟨⟨_, rfl, .inl ⟨rfl, rfl⟩⟩, ?_⟩ | refine ⟨⟨_, rfl, .inl ⟨slEq rfl tN, rfl⟩⟩, ?_⟩ | refine ⟨⟨_, rfl, .inl ⟨ivEq tX, rfl⟩⟩, ?_⟩)) (by exact ⟨ent_same rfl rfl rfl tL, ⟨ent_same rfl rfl rfl tL, ⟨ent_same rfl rfl (flEq rfl (by rw [fillN_0, List.map_replicate]; rfl)) trivial, ⟨ent_same rfl rfl (flEq rfl (by rw [List.map_replicate]; rfl)) trivial, trivial⟩⟩⟩⟩) (fun _ h => by simp at h) hK)
      · skip
        refine AnyN.two 1 3 (by kernel_rfl) (StepN.mk rfl (op_make (l := n) (c := n) rfl (Opd.tmp _ _ rfl) (Opd.tmp _ _ rfl) rfl rfl rfl rfl (by intro _; refine ⟨rfl, rfl, ?_⟩; omega)) rfl rfl (by kernel_rfl) ?_) (StepN.mk rfl (op_make (l := n) (c := n) rfl (Opd.tmp _ _ rfl) (Opd.tmp _ _ rfl) rfl rfl rfl rfl (by intro _; refine ⟨rfl, rfl, ?_⟩; omega)) rfl rfl (by kernel_rfl) ?_)
        · skip
          refine AnyN.one 3 (by kernel_rfl) (StepN.mk rfl (op_make (l := n) (c := n) rfl (Opd.tmp _ _ rfl) (Opd.tmp _ _ rfl) rfl rfl rfl rfl (by intro _; refine ⟨rfl, rfl, ?_⟩; omega)) rfl rfl (by kernel_rfl) ?_)
          refine AnyN.one 4 (by kernel_rfl) (StepN.mk rfl (op_buildP rfl rfl rfl rfl (FillP.cons _ _ _ _ _ _ _ _ _ _ (by rfl) (Opd.tmp _ _ rfl) tP (by rfl) tR (FillP.cons _ _ _ _ _ _ _ _ _ _ (by rfl) (Opd.tmp _ _ rfl) tP (by rfl) tR (FillP.nil _))) _ _) rfl rfl (by kernel_rfl) ?_)
          refine AnyN.one 5 (by kernel_rfl) (StepN.mk rfl (op_box_refs rfl (Opd.tmp _ _ rfl) tP rfl) rfl rfl (by kernel_rfl) ?_)
          refine AnyN.one 6 (by kernel_rfl) (StepN.mk rfl (op_assign rfl (Opd.tmp _ _ rfl) _ _) rfl rfl (by kernel_rfl) ?_)
          refine AnyN.nil rfl ?_
          refine Next.adoptCell 2 0 0 1 rfl rfl rfl rfl (Next.weak [2, 3, 0, 1] [] (by rfl) (keepsN hC _ rfl) (by repeat (first | exact trivial | refine ⟨⟨_, rfl, .inl ⟨rfl, rfl⟩⟩, ?_⟩ | refine ⟨⟨_, rfl, .inl ⟨slEq rfl tN, rfl⟩⟩, ?_⟩ | refine ⟨⟨_, rfl, .inl ⟨ivEq tX, rfl⟩⟩, ?_⟩)) (by exact ⟨ent_same rfl rfl rfl tL, ⟨ent_same rfl rfl rfl tL, ⟨ent_same rfl rfl (flEq rfl (by rw [fillN_0, List.map_replicate]; rfl)) trivial, ⟨ent_same rfl rfl (flEq rfl (by rw [List.map_replicate]; rfl)) trivial, trivial⟩⟩⟩⟩) (fun _ h => by simp at h) hK)
        · skip
          refine AnyN.one 1 (by kernel_rfl) (StepN.mk rfl (op_make (l := n) (c := n) rfl (Opd.tmp _ _ rfl) (Opd.tmp _ _ rfl) rfl rfl rfl rfl (by intro _; refine ⟨rfl, rfl, ?_⟩; omega)) rfl rfl (by kernel_rfl) ?_)
          refine AnyN.one 4 (by kernel_rfl) (StepN.mk rfl (op_buildP rfl rfl rfl rfl (FillP.cons _ _ _ _ _ _ _ _ _ _ (by rfl) (Opd.tmp _ _ rfl) tP (by rfl) tR (FillP.cons _ _ _ _ _ _ _ _ _ _ (by rfl) (Opd.tmp _ _ rfl) tP (by rfl) tR (FillP.nil _))) _ _) rfl rfl (by kernel_rfl) ?_)
          refine AnyN.one 5 (by kernel_rfl) (StepN.mk rfl (op_box_refs rfl (Opd.tmp _ _ rfl) tP rfl) rfl rfl (by kernel_rfl) ?_)
          refine AnyN.one 6 (by kernel_rfl) (StepN.mk rfl (op_assign rfl (Opd.tmp _ _ rfl) _ _) rfl rfl (by kernel_rfl) ?_)
          refine AnyN.nil rfl ?_
          refine Next.adoptCell 2 0 0 1 rfl rfl rfl rfl (Next.weak [2, 3, 1, 0] [] (by rfl) (keepsN hC _ rfl) (by repeat (first | exact trivial | refine ⟨⟨_, rfl, .inl ⟨rfl, rfl⟩⟩, ?_⟩ | refine ⟨⟨_, rfl, .inl ⟨slEq rfl tN, rfl⟩⟩, ?_⟩ | refine ⟨⟨_, rfl, .inl ⟨ivEq tX, rfl⟩⟩, ?_⟩)) (by exact ⟨ent_same rfl rfl rfl tL, ⟨ent_same rfl rfl rfl tL, ⟨ent_same rfl rfl (flEq rfl (by rw [fillN_0, List.map_replicate]; rfl)) trivial, ⟨ent_same rfl rfl (flEq rfl (by rw [List.map_replicate]; rfl)) trivial, trivial⟩⟩⟩⟩) (fun _ h => by simp at h) hK)
    · skip
      refine AnyN.two 0 3 (by kernel_rfl) (StepN.mk rfl (op_move rfl (Opd.tmp _ _ rfl) _ _) rfl rfl (by kernel_rfl) ?_) (StepN.mk rfl (op_make (l := n) (c := n) rfl (Opd.tmp _ _ rfl) (Opd.tmp _ _ rfl) rfl rfl rfl rfl (by intro _; refine ⟨rfl, rfl, ?_⟩; omega)) rfl rfl (by kernel_rfl) ?_)
      · skip
        refine AnyN.two 1 3 (by kernel_rfl) (StepN.mk rfl (op_make (l := n) (c := n) rfl (Opd.tmp _ _ rfl) (Opd.tmp _ _ rfl) rfl rfl rfl rfl (by intro _; refine ⟨rfl, rfl, ?_⟩; omega)) rfl rfl (by kernel_rfl) ?_) (StepN.mk rfl (op_make (l := n) (c := n) rfl (Opd.tmp _ _ rfl) (Opd.tmp _ _ rfl) rfl rfl rfl rfl (by intro _; refine ⟨rfl, rfl, ?_⟩; omega)) rfl rfl (by kernel_rfl) ?_)
        · skip
          refine AnyN.one 3 (by kernel_rfl) (StepN.mk rfl (op_make (l := n) (c := n) rfl (Opd.tmp _ _ rfl) (Opd.tmp _ _ rfl) rfl rfl rfl rfl (by intro _; refine ⟨rfl, rfl, ?_⟩; omega)) rfl rfl (by kernel_rfl) ?_)
          refine AnyN.one 4 (by kernel_rfl) (StepN.mk rfl (op_buildP rfl rfl rfl rfl (FillP.cons _ _ _ _ _ _ _ _ _ _ (by rfl) (Opd.tmp _ _ rfl) tP (by rfl) tR (FillP.cons _ _ _ _ _ _ _ _ _ _ (by rfl) (Opd.tmp _ _ rfl) tP (by rfl) tR (FillP.nil _))) _ _) rfl rfl (by kernel_rfl) ?_)
          refine AnyN.one 5 (by kernel_rfl) (StepN.mk rfl (op_box_refs rfl (Opd.tmp _ _ rfl) tP rfl) rfl rfl (by kernel_rfl) ?_)
          refine AnyN.one 6 (by kernel_rfl) (StepN.mk rfl (op_assign rfl (Opd.tmp _ _ rfl) _ _) rfl rfl (by kernel_rfl) ?_)
          refine AnyN.nil rfl ?_
          refine Next.adoptCell 2 0 0 1 rfl rfl rfl rfl (Next.weak [2, 3, 0, 1] [] (by rfl) (keepsN hC _ rfl) (by repeat (first | exact trivial | refine ⟨⟨_, rfl, .inl ⟨rfl, rfl⟩⟩, ?_⟩ | refine ⟨⟨_, rfl, .inl ⟨slEq rfl tN, rfl⟩⟩, ?_⟩ | refine ⟨⟨_, rfl, .inl ⟨ivEq tX, rfl⟩⟩, ?_⟩)) (by exact ⟨ent_same rfl rfl rfl tL, ⟨ent_same rfl rfl rfl tL, ⟨ent_same rfl rfl (flEq rfl (by rw [fillN_0, List.map_replicate]; rfl)) trivial, ⟨ent_same rfl rfl (flEq rfl (by rw [List.map_replicate]; rfl)) trivial, trivial⟩⟩⟩⟩) (fun _ h => by simp at h) hK)
        · skip
          refine AnyN.one 1 (by kernel_rfl) (StepN.mk rfl (op_make (l := n) (c := n) rfl (Opd.tmp _ _ rfl) (Opd.tmp _ _ rfl) rfl rfl rfl rfl (by intro _; refine ⟨rfl, rfl, ?_⟩; omega)) rfl rfl (by kernel_rfl) ?_)
          refine AnyN.one 4 (by kernel_rfl) (StepN.mk rfl (op_buildP rfl rfl rfl rfl (FillP.cons _ _ _ _ _ _ _ _ _ _ (by rfl) (Opd.tmp _ _ rfl) tP (by rfl) tR (FillP.cons _ _ _ _ _ _ _ _ _ _ (by rfl) (Opd.tmp _ _ rfl) tP (by rfl) tR (FillP.nil _))) _ _) rfl rfl (by kernel_rfl) ?_)
          refine AnyN.one 5 (by kernel_rfl) (StepN.mk rfl (op_box_refs rfl (Opd.tmp _ _ rfl) tP rfl) rfl rfl (by kernel_rfl) ?_)
          refine AnyN.one 6 (by kernel_rfl) (StepN.mk rfl (op_assign rfl (Opd.tmp _ _ rfl) _ _) rfl rfl (by kernel_rfl) ?_)
          refine AnyN.nil rfl ?_
          refine Next.adoptCell 2 0 0 1 rfl rfl rfl rfl (Next.weak [2, 3, 1, 0] [] (by rfl) (keepsN hC _ rfl) (by repeat (first | exact trivial | refine ⟨⟨_, rfl, .inl ⟨rfl, rfl⟩⟩, ?_⟩ | refine ⟨⟨_, rfl, .inl ⟨slEq rfl tN, rfl⟩⟩, ?_⟩ | refine ⟨⟨_, rfl, .inl ⟨ivEq tX, rfl⟩⟩, ?_⟩)) (by exact ⟨ent_same rfl rfl rfl tL, ⟨ent_same rfl rfl rfl tL, ⟨ent_same rfl rfl (flEq rfl (by rw [fillN_0, List.map_replicate]; rfl)) trivial, ⟨ent_same rfl rfl (flEq rfl (by rw [List.map_replicate]; rfl)) trivial, trivial⟩⟩⟩⟩) (fun _ h => by simp at h) hK)
      · skip
        refine AnyN.one 0 (by kernel_rfl) (StepN.mk rfl (op_move rfl (Opd.tmp _ _ rfl) _ _) rfl rfl (by kernel_rfl) ?_)
        refine AnyN.one 1 (by kernel_rfl) (StepN.mk rfl (op_make (l := n) (c := n) rfl (Opd.tmp _ _ rfl) (Opd.tmp _ _ rfl) rfl rfl rfl rfl (by intro _; refine ⟨rfl, rfl, ?_⟩; omega)) rfl rfl (by kernel_rfl) ?_)
        refine AnyN.one 4 (by kernel_rfl) (StepN.mk rfl (op_buildP rfl rfl rfl rfl (FillP.cons _ _ _ _ _ _ _ _ _ _ (by rfl) (Opd.tmp _ _ rfl) tP (by rfl) tR (FillP.cons _ _ _ _ _ _ _ _ _ _ (by rfl) (Opd.tmp _ _ rfl) tP (by rfl) tR (FillP.nil _))) _ _) rfl rfl (by kernel_rfl) ?_)
        refine AnyN.one 5 (by kernel_rfl) (StepN.mk rfl (op_box_refs rfl (Opd.tmp _ _ rfl) tP rfl) rfl rfl (by kernel_rfl) ?_)
        refine AnyN.one 6 (by kernel_rfl) (StepN.mk rfl (op_assign rfl (Opd.tmp _ _ rfl) _ _) rfl rfl (by kernel_rfl) ?_)
        refine AnyN.nil rfl ?_
        refine Next.adoptCell 2 0 0 1 rfl rfl rfl rfl (Next.weak [2, 3, 1, 0] [] (by rfl) (keepsN hC _ rfl) (by repeat (first | exact trivial | refine ⟨⟨_, rfl, .inl ⟨rfl, rfl⟩⟩, ?_⟩ | refine ⟨⟨_, rfl, .inl ⟨slEq rfl tN, rfl⟩⟩, ?_⟩ | refine ⟨⟨_, rfl, .inl ⟨ivEq tX, rfl⟩⟩, ?_⟩)) (by exact ⟨ent_same rfl rfl rfl tL, ⟨ent_same rfl rfl rfl tL, ⟨ent_same rfl rfl (flEq rfl (by rw [fillN_0, List.map_replicate]; rfl)) trivial, ⟨ent_same rfl rfl (flEq rfl (by rw [List.map_replicate]; rfl)) trivial, trivial⟩⟩⟩⟩) (fun _ h => by simp at h) hK)
  refine nK2 ?_
  refine s_reg rfl ?_
  refine Run.pure (dd := some 14) rfl rfl (op_move rfl (Opd.tmp _ _ rfl)) ?_
  refine Run.pure (dd := some 15) rfl rfl (op_nilck_ptr rfl (Opd.tmp _ _ rfl)) ?_
  refine Run.pure (dd := some 16) rfl rfl (op_fld_ptr (by decide) rfl (Opd.tmp _ _ rfl)) ?_
  refine Run.load (dd := some 17) rfl rfl (op_load1_refs rfl (Opd.tmp _ _ rfl) tH rfl) ?_
  refine Run.pure (dd := some 18) rfl rfl (op_len_sl rfl (Opd.tmp _ _ rfl)) ?_
  refine Run.pure (dd := some 19) rfl rfl (op_move rfl (Opd.const _)) ?_
  refine Run.nil (FinR.mk ?_)
  refine nK2 ?_
  refine n_loop (ι := Nat) (fun k => ([(3, .ptr 0 3 0 0), (18, IV .i64 n), (19, IV .i64 k)], HN n k, 4)) (fun k => k ≤ n) (fun k => n - k) 0 (Nat.zero_le _) ?_ ?_
  · refine Next.weak [0, 1, 2, 3] [] (by rfl) (keepsN hC _ rfl) (by repeat (first | exact trivial | refine ⟨⟨_, rfl, .inl ⟨rfl, rfl⟩⟩, ?_⟩ | refine ⟨⟨_, rfl, .inl ⟨slEq rfl tN, rfl⟩⟩, ?_⟩ | refine ⟨⟨_, rfl, .inl ⟨ivEq tX, rfl⟩⟩, ?_⟩)) (by exact ⟨ent_same rfl rfl rfl tL, ⟨ent_same rfl rfl rfl tL, ⟨ent_same rfl rfl rfl tL, ⟨ent_same rfl rfl rfl tL, trivial⟩⟩⟩⟩) (fun _ h => by simp at h) rel_intro
  · intro k hk K hK
    try dsimp only at hk ⊢
    refine nK2 ?_
    refine s_reg rfl ?_
    refine Run.pure (dd := some 20) rfl rfl (op_lss rfl (Opd.tmp _ _ rfl) (Opd.tmp _ _ rfl)) ?_
    refine Run.nil (FinR.mk ?_)
    refine nK2 ?_
    refine n_cond _ rfl (fun hb => ?_) (fun hb => ?_)
    · have hlt : k < n := by simpa using hb
      have hrow := row_of encN (fillN n k) k 0 (by rw [fillN_len _ _ hk]; exact hlt)
      refine nK2 ?_
      refine s_reg rfl ?_
      refine Run.pure (dd := some 21) rfl rfl (op_move rfl (Opd.tmp _ _ rfl)) ?_
      refine Run.pure (dd := some 4) rfl rfl (op_assign rfl (Opd.tmp _ _ rfl)) ?_
      refine Run.nil (FinR.mk ?_)
      refine nK2 ?_
      refine s_reg rfl ?_
      refine Run.pure (dd := some 22) rfl rfl (op_move rfl (Opd.tmp _ _ rfl)) ?_
      refine Run.pure (dd := some 23) rfl rfl (op_nilck_ptr rfl (Opd.tmp _ _ rfl)) ?_
      refine Run.pure (dd := some 24) rfl rfl (op_fld_ptr (by decide) rfl (Opd.tmp _ _ rfl)) ?_
      refine Run.load (dd := some 25) rfl rfl (op_load1_refs rfl (Opd.tmp _ _ rfl) tH rfl) ?_
      refine Run.pure (dd := some 26) rfl rfl (op_move rfl (Opd.tmp _ _ rfl)) ?_
      refine Run.pure (dd := some 27) rfl rfl (op_idx_sl0 k rfl (Opd.tmp _ _ rfl) (Opd.tmp _ _ rfl) (by intro _; exact ⟨rfl, hlt⟩)) ?_
      refine Run.eff (dd := none) rfl rfl (op_store_flat rfl (Opd.tmp _ _ rfl) (Opd.const _) tC rfl rfl hrow tS) ?_
      refine Run.nil (FinR.mk ?_)
      refine nK2 ?_
      refine s_reg rfl ?_
      refine Run.pure (dd := some 28) rfl rfl (op_add rfl (Opd.tmp _ _ rfl) (Opd.const _) tI) ?_
      refine Run.pure (dd := some 19) rfl rfl (op_move rfl (Opd.tmp _ _ rfl)) ?_
      refine Run.nil (FinR.mk ?_)
      refine nK2 ?_
      refine Next.weak [0, 1, 2, 3] [] (by rfl) (keepsN hC _ rfl) (by repeat (first | exact trivial | refine ⟨⟨_, rfl, .inl ⟨rfl, rfl⟩⟩, ?_⟩ | refine ⟨⟨_, rfl, .inl ⟨slEq rfl tN, rfl⟩⟩, ?_⟩ | refine ⟨⟨_, rfl, .inl ⟨ivEq tX, rfl⟩⟩, ?_⟩)) (by exact ⟨ent_same rfl rfl rfl tL, ⟨ent_same rfl rfl rfl tL, ⟨ent_same rfl rfl (flEq rfl (by rw [← fillN_set n k hlt, List.map_set]; rfl)) trivial, ⟨ent_same rfl rfl rfl tL, trivial⟩⟩⟩⟩) (fun _ h => by simp at h) (hK (k + 1) hlt (by omega))
    · have hge : k = n := by simp at hb; omega
      subst hge
      refine nK2 ?_
      refine s_reg rfl ?_
      refine Run.pure (dd := some 29) rfl rfl (op_move rfl (Opd.tmp _ _ rfl)) ?_
      refine Run.pure (dd := some 2) rfl rfl (op_assign rfl (Opd.tmp _ _ rfl)) ?_
      refine Run.nil (FinR.mk ?_)
      refine nK2 ?_
      refine Next.weak [0, 1, 2, 3] [] (by rfl) (keepsN hC _ rfl) (G' := [(2, .ptr 0 3 0 0)]) (H' := HH (newH k)) (by repeat (first | exact trivial | refine ⟨⟨_, rfl, .inl ⟨rfl, rfl⟩⟩, ?_⟩ | refine ⟨⟨_, rfl, .inl ⟨slEq rfl tN, rfl⟩⟩, ?_⟩ | refine ⟨⟨_, rfl, .inl ⟨ivEq tX, rfl⟩⟩, ?_⟩)) (by exact ⟨ent_same rfl rfl (by simp only [newH, List.length_replicate]; rfl) tL, ⟨ent_same rfl rfl rfl trivial, ⟨ent_same rfl rfl (flEq rfl (by rw [fillN_n]; rfl)) trivial, ⟨ent_same rfl rfl rfl trivial, trivial⟩⟩⟩⟩) (fun _ h => by simp at h) ?_
      exact n_out1 rfl (by rfl) rfl rfl
end Go.Proofs.Ytgbfkpcigipniaa
namespace Go.Proofs.Ytgbfkpcigipniaa
open Go Go.RT Go.Proofs Go.Pl
set_option linter.all false
set_option maxRecDepth 20000
set_option maxHeartbeats 2000000
abbrev HD (h : Hq) : Hp := [(1, some (.refs 3 [[.sl 2 1 0 h.it.length, .sl 3 1 0 h.pl.length, .sl 4 1 0 h.ky.length]])), (2, OT h.it), (3, OI h.pl), (4, OI h.ky)]
abbrev HDS (d : List Int) (h : Hq) : Hp := (0, OI d) :: HD h
theorem set_i (h : Hq) (o : HI h) (b : Int) (v : Nat) (k : Int) (e : b = v) (hv : v < h.pl.length) (hm : h.it.length ≤ 1999999) : Meets Try.prog 48 [.ptr 0 3 0 0, IV .i64 b, IV .i64 k] 4 (HH h) (BV true) (HX (setH h v k)) 5 := by subst e; exact set_c h o v k hv hm
theorem key_i (h : Hq) (o : h.Ok) (b : Int) (v : Nat) (e : b = v) (hv : v < h.pl.length) : Meets Try.prog 50 [.ptr 0 3 0 0, IV .i64 b] 4 (HH h) (.fz (.tup [If .i64 (if 0 ≤ h.place v then h.key v else 0), Bf (decide (0 ≤ h.place v))])) (HH h) 4 := by subst e; exact key_c h o v hv
theorem dist_c (g : Gr) (a : Nat) (d : List Int) (hg : checkI g = 0) (hok : okG g) (ha : a < (g.r + g.n).toNat) (hd : d.length = (g.r + g.n).toNat) (hD : ∀ v, v < (g.r + g.n).toNat → IsD g.es a v (gt0 d v)) : Pure Try.prog 28 [.agg (encG g), If .i64 a] (VI d) := by
  obtain ⟨vg, hr0, hn0⟩ := checkI_vg hg
  have hn := vg.n128
  have hel := vg.e1024
  have hrn : g.r + g.n = ((g.r + g.n).toNat : Int) := by omega
  generalize hN : (g.r + g.n).toNat = n at *
  refine Meets.intro Try.func28 rfl (Nat.le_of_ble_eq_true rfl) fun C hC => ?_
  simp only [List.map, argEnv, Nat.reduceAdd]
  refine nK2 ?_
  refine s_reg rfl ?_
  refine Run.eff (dd := some 2) rfl rfl (op_box_flat rfl (Opd.tmp _ _ rfl) tC rfl) ?_
  refine Run.pure (dd := some 4) rfl rfl (op_assign rfl (Opd.const _)) ?_
  refine Run.nil (FinR.mk ?_)
  refine nK2 ?_
  refine s_reg rfl ?_
  refine Run.pure (dd := some 18) rfl rfl (op_fld_ptr (by decide) rfl (Opd.tmp _ _ rfl)) ?_
  refine Run.load (dd := some 19) rfl rfl (op_load1_flat rfl (Opd.tmp _ _ rfl) tH rfl) ?_
  refine Run.pure (dd := some 20) rfl rfl (op_fld_ptr (by decide) rfl (Opd.tmp _ _ rfl)) ?_
  refine Run.load (dd := some 21) rfl rfl (op_load1_flat rfl (Opd.tmp _ _ rfl) tH rfl) ?_
  refine Run.pure (dd := some 22) rfl rfl (op_add rfl (Opd.tmp _ _ rfl) (Opd.tmp _ _ rfl) tI) ?_
  refine Run.eff (dd := some 23) rfl rfl (op_make (l := n) (c := n) rfl (Opd.tmp _ _ rfl) (Opd.tmp _ _ rfl) rfl rfl rfl rfl (by intro _; refine ⟨hrn, hrn, ?_⟩; omega)) ?_
  refine Run.pure (dd := some 5) rfl rfl (op_assign rfl (Opd.tmp _ _ rfl)) ?_
  refine Run.nil (FinR.mk ?_)
  refine nK2 ?_
  refine Next.weak [0, 1] [] (by rfl) (keepsN hC _ rfl) (G' := [(1, IV .i64 a), (2, .ptr 0 3 0 0), (5, .sl 1 1 0 n)]) (H' := [(0, OG g), (1, OI (fillN n 0))]) (by repeat (first | exact trivial | refine ⟨⟨_, rfl, .inl ⟨rfl, rfl⟩⟩, ?_⟩ | refine ⟨⟨_, rfl, .inl ⟨slEq rfl tN, rfl⟩⟩, ?_⟩ | refine ⟨⟨_, rfl, .inl ⟨ivEq tX, rfl⟩⟩, ?_⟩)) (by exact ⟨ent_same rfl rfl rfl tL, ⟨ent_same rfl rfl (flEq rfl (by rw [fillN_0, List.map_replicate]; rfl)) trivial, trivial⟩⟩) (fun _ h => by simp at h) ?_
  refine nK2 ?_
  refine s_reg rfl ?_
  refine Run.pure (dd := some 24) rfl rfl (op_move rfl (Opd.tmp _ _ rfl)) ?_
  refine Run.pure (dd := some 25) rfl rfl (op_len_sl rfl (Opd.tmp _ _ rfl)) ?_
  refine Run.pure (dd := some 26) rfl rfl (op_move rfl (Opd.const _)) ?_
  refine Run.nil (FinR.mk ?_)
  refine nK2 ?_
  refine n_loop (ι := Nat) (fun k => ([(1, IV .i64 a), (2, .ptr 0 3 0 0), (5, .sl 1 1 0 n), (25, IV .i64 n), (26, IV .i64 k)], [(0, OG g), (1, OI (fillN n k))], 2)) (fun k => k ≤ n) (fun k => n - k) 0 (Nat.zero_le _) ?_ ?_
  · refine Next.weak [0, 1] [] (by rfl) (keepsN hC _ rfl) (by repeat (first | exact trivial | refine ⟨⟨_, rfl, .inl ⟨rfl, rfl⟩⟩, ?_⟩ | refine ⟨⟨_, rfl, .inl ⟨slEq rfl tN, rfl⟩⟩, ?_⟩ | refine ⟨⟨_, rfl, .inl ⟨ivEq tX, rfl⟩⟩, ?_⟩)) (by exact ⟨ent_same rfl rfl rfl tL, ⟨ent_same rfl rfl rfl tL, trivial⟩⟩) (fun _ h => by simp at h) rel_intro
  · intro k hk K hK
    try dsimp only at hk ⊢
    refine nK2 ?_
    refine s_reg rfl ?_
    refine Run.pure (dd := some 27) rfl rfl (op_lss rfl (Opd.tmp _ _ rfl) (Opd.tmp _ _ rfl)) ?_
    refine Run.nil (FinR.mk ?_)
    refine nK2 ?_
    refine n_cond _ rfl (fun hb => ?_) (fun hb => ?_)
    · have hlt : k < n := by simpa using hb
      have hrow := row_of encN (fillN n k) k 0 (by rw [fillN_len _ _ hk]; exact hlt)
      refine nK2 ?_
      refine s_reg rfl ?_
      refine Run.pure (dd := some 28) rfl rfl (op_move rfl (Opd.tmp _ _ rfl)) ?_
      refine Run.pure (dd := some 6) rfl rfl (op_assign rfl (Opd.tmp _ _ rfl)) ?_
      refine Run.nil (FinR.mk ?_)
      refine nK2 ?_
      refine s_reg rfl ?_
      refine Run.pure (dd := some 29) rfl rfl (op_move rfl (Opd.tmp _ _ rfl)) ?_
      refine Run.pure (dd := some 30) rfl rfl (op_move rfl (Opd.tmp _ _ rfl)) ?_
      refine Run.pure (dd := some 31) rfl rfl (op_idx_sl0 k rfl (Opd.tmp _ _ rfl) (Opd.tmp _ _ rfl) (by intro _; exact ⟨rfl, hlt⟩)) ?_
      refine Run.eff (dd := none) rfl rfl (op_store_flat rfl (Opd.tmp _ _ rfl) (Opd.const _) tC rfl rfl hrow tS) ?_
      refine Run.nil (FinR.mk ?_)
      refine nK2 ?_
      refine s_reg rfl ?_
      refine Run.pure (dd := some 32) rfl rfl (op_add rfl (Opd.tmp _ _ rfl) (Opd.const _) tI) ?_
      refine Run.pure (dd := some 26) rfl rfl (op_move rfl (Opd.tmp _ _ rfl)) ?_
      refine Run.nil (FinR.mk ?_)
      refine nK2 ?_
      refine Next.weak [0, 1] [] (by rfl) (keepsN hC _ rfl) (by repeat (first | exact trivial | refine ⟨⟨_, rfl, .inl ⟨rfl, rfl⟩⟩, ?_⟩ | refine ⟨⟨_, rfl, .inl ⟨slEq rfl tN, rfl⟩⟩, ?_⟩ | refine ⟨⟨_, rfl, .inl ⟨ivEq tX, rfl⟩⟩, ?_⟩)) (by exact ⟨ent_same rfl rfl rfl tL, ⟨ent_same rfl rfl (flEq rfl (by rw [← fillN_set n k hlt, List.map_set]; rfl)) trivial, trivial⟩⟩) (fun _ h => by simp at h) (hK (k + 1) hlt (by omega))
    · have hge : k = n := by simp at hb; omega
      subst hge
      rw [fillN_n]
      refine nK2 ?_
      refine s_reg rfl ?_
      refine Run.pure (dd := some 33) rfl rfl (op_move rfl (Opd.tmp _ _ rfl)) ?_
      refine Run.pure (dd := some 34) rfl rfl (op_len_sl rfl (Opd.tmp _ _ rfl)) ?_
      refine Run.eff (dd := some 35) rfl rfl (op_make (l := k) (c := k) rfl (Opd.tmp _ _ rfl) (Opd.tmp _ _ rfl) rfl rfl rfl rfl (by intro _; refine ⟨rfl, rfl, ?_⟩; omega)) ?_
      refine Run.pure (dd := some 7) rfl rfl (op_assign rfl (Opd.tmp _ _ rfl)) ?_
      refine Run.nil (FinR.mk ?_)
      refine nK2 ?_
      refine Next.toOwn 2 3 k rfl ?_
      refine Next.weak [0, 1, 2] [] (by rfl) (keepsN hC _ rfl) (G' := [(1, IV .i64 a), (2, .ptr 0 3 0 0), (5, .sl 1 1 0 k), (7, .sl 2 1 0 k)]) (H' := [(0, OG g), (1, OI (List.replicate k (-1))), (2, some (.refs 1 (ownL 3 (rowsE [] k))))]) (by repeat (first | exact trivial | refine ⟨⟨_, rfl, .inl ⟨rfl, rfl⟩⟩, ?_⟩ | refine ⟨⟨_, rfl, .inl ⟨slEq rfl tN, rfl⟩⟩, ?_⟩ | refine ⟨⟨_, rfl, .inl ⟨ivEq tX, rfl⟩⟩, ?_⟩)) (by exact ⟨ent_same rfl rfl rfl tL, ⟨ent_same rfl rfl rfl tL, ⟨ent_own rfl rfl (by rw [rowsE_nil, ← ownL_rep]; rfl), trivial⟩⟩⟩) (fun _ h => by simp at h) ?_
      refine nK2 ?_
      refine s_reg rfl ?_
      refine Run.pure (dd := some 36) rfl rfl (op_fld_ptr (by decide) rfl (Opd.tmp _ _ rfl)) ?_
      refine Run.load (dd := some 37) rfl rfl (op_load1_flat rfl (Opd.tmp _ _ rfl) tH rfl) ?_
      refine Run.pure (dd := some 38) rfl rfl (op_len_fz rfl (by first | exact Opd.tmp _ _ rfl | exact Opd.nil _ _ (Opd.tmp _ _ rfl)) (by first | exact List.length_map _ | rfl)) ?_
      refine Run.pure (dd := some 39) rfl rfl (op_move rfl (Opd.const _)) ?_
      refine Run.nil (FinR.mk ?_)
      refine nK2 ?_
      refine n_loop (ι := Nat) (fun i => ([(1, IV .i64 a), (5, .sl 1 1 0 k), (7, .sl 2 1 0 k), (37, .fz (VE g.es)), (38, IV .i64 g.es.length), (39, IV .i64 i)], [(0, OG g), (1, OI (List.replicate k (-1))), (2, some (.refs 1 (ownL 3 (rowsE (g.es.take i) k))))], 3)) (fun i => i ≤ g.es.length) (fun i => g.es.length - i) 0 (Nat.zero_le _) ?_ ?_
      · refine Next.weak [0, 1, 2] [] (by rfl) (keepsN hC _ rfl) (by repeat (first | exact trivial | refine ⟨⟨_, rfl, .inl ⟨rfl, rfl⟩⟩, ?_⟩ | refine ⟨⟨_, rfl, .inl ⟨slEq rfl tN, rfl⟩⟩, ?_⟩ | refine ⟨⟨_, rfl, .inl ⟨ivEq tX, rfl⟩⟩, ?_⟩)) (by exact ⟨ent_same rfl rfl rfl tL, ⟨ent_same rfl rfl rfl tL, ⟨ent_own rfl rfl rfl, trivial⟩⟩⟩) (fun _ h => by simp at h) rel_intro
      · intro i hi K hK
        try dsimp only at hi ⊢
        refine nK2 ?_
        refine s_reg rfl ?_
        refine Run.pure (dd := some 40) rfl rfl (op_lss rfl (Opd.tmp _ _ rfl) (Opd.tmp _ _ rfl)) ?_
        refine Run.nil (FinR.mk ?_)
        refine nK2 ?_
        refine n_cond _ rfl (fun hb => ?_) (fun hb => ?_)
        · have hlt : i < g.es.length := by simp at hb; omega
          have hr1 := row_at' encE g.es i hlt
          have hef := vg.f _ (List.getElem_mem hlt)
          have hst := rowsE_succ (n := k) hlt hef.1
          have hrg := rowsE_get (g.es.take i) (n := k) (v := g.es[i].f.toNat) (by omega)
          have hlen : (outE (g.es.take i) g.es[i].f.toNat).length ≤ 1024 := by
            have h1 : (outE (g.es.take i) g.es[i].f.toNat).length ≤ (g.es.take i).length := List.length_filter_le _ _
            have h2 : (g.es.take i).length ≤ g.es.length := List.length_take_le' _ _
            omega
          have hK1 := hK (i + 1) (by omega) (by omega)
          rw [← hst] at hK1
          have hrl := rowsE_len (g.es.take i) k
          generalize rowsE (g.es.take i) k = irs at *
          generalize outE (g.es.take i) g.es[i].f.toNat = row at *
          generalize g.es[i] = e at *
          refine nK2 ?_
          refine s_reg rfl ?_
          refine Run.pure (dd := some 41) rfl rfl (op_idx_fz _ rfl (Opd.tmp _ _ rfl) (Opd.tmp _ _ rfl) tF) ?_
          refine Run.pure (dd := some 42) rfl rfl (op_loadw_fz rfl (Opd.tmp _ _ rfl) rfl) ?_
          refine Run.eff (dd := some 9) rfl rfl (op_alloc rfl rfl rfl rfl) ?_
          refine Run.eff (dd := none) rfl rfl (op_store_flat rfl (Opd.tmp _ _ rfl) (Opd.tmp _ _ rfl) tC rfl rfl (by first | rfl | assumption) tS) ?_
          refine Run.nil (FinR.mk ?_)
          refine nK2 ?_
          refine Next.take 2 e.f.toNat 0 rfl (ownL_get hrg) rfl rfl ?_
          have hs1 := set_get (ownL 3 irs) e.f.toNat [.sl 4 3 0 (row.map encE).length] (by rw [ownL_len, hrl]; omega)
          refine nK2 ?_
          refine s_draw mixed ?_
          refine Run.pure (dd := some 43) rfl rfl (op_move rfl (Opd.tmp _ _ rfl)) ?_
          refine Run.pure (dd := some 44) rfl rfl (op_fld_ptr (by decide) rfl (Opd.tmp _ _ rfl)) ?_
          refine Run.load (dd := some 45) rfl rfl (op_load1_flat rfl (Opd.tmp _ _ rfl) tH rfl) ?_
          refine Run.pure (dd := some 46) rfl rfl (op_move rfl (Opd.tmp _ _ rfl)) ?_
          refine Run.pure (dd := some 47) rfl rfl (op_fld_ptr (by decide) rfl (Opd.tmp _ _ rfl)) ?_
          refine Run.load (dd := some 48) rfl rfl (op_load1_flat rfl (Opd.tmp _ _ rfl) tH rfl) ?_
          refine Run.pure (dd := some 49) rfl rfl (op_idx_sl0 e.f.toNat rfl (Opd.tmp _ _ rfl) (Opd.tmp _ _ rfl) (by intro _; omega)) ?_
          refine Run.load (dd := some 50) rfl rfl (op_load1_refs rfl (Opd.tmp _ _ rfl) (by intro _; exact ⟨rfl, hs1⟩) rfl) ?_
          refine Run.load (dd := some 51) rfl rfl (op_loadw_flat rfl (Opd.tmp _ _ rfl) tH rfl) ?_
          refine Run.pure (dd := some 52) rfl rfl (op_buildSlice_fz rfl (RowsF.cons _ _ _ _ _ _ (Opd.tmp _ _ rfl) tC (by rfl) (RowsF.nil _)) rfl rfl) ?_
          refine Run.effW (dd := some 53) rfl rfl (op_append rfl (Opd.tmp _ _ rfl) (by first | exact Opd.tmp _ _ rfl | exact Opd.nil _ _ (Opd.tmp _ _ rfl)) rfl (by first | rfl | simp) rfl rfl tB tB) (by first | exact ext_call | exact tE) ?_
          refine Run.pure (dd := some 54) rfl rfl (op_idx_sl0 e.f.toNat rfl (Opd.tmp _ _ rfl) (Opd.tmp _ _ rfl) (by intro _; omega)) ?_
          refine Run.effW (dd := none) rfl rfl (op_store_refs rfl (Opd.tmp _ _ rfl) (Opd.tmp _ _ rfl) tP rfl rfl hs1 tS) (by first | exact ext_call | exact tE) ?_
          refine Run.nil (FinD.mk (by kernel_rfl) ?_)
          refine nK2 ?_
          refine s_reg rfl ?_
          refine Run.pure (dd := some 55) rfl rfl (op_add rfl (Opd.tmp _ _ rfl) (Opd.const _) tI) ?_
          refine Run.pure (dd := some 39) rfl rfl (op_move rfl (Opd.tmp _ _ rfl)) ?_
          refine Run.nil (FinR.mk ?_)
          refine nK2 ?_
          refine Next.untake 2 e.f.toNat 0 rfl (set_get _ _ _ (by rw [List.length_set, ownL_len, hrl]; omega)) rfl rfl (by simp) rfl ?_
          refine Next.weak [0, 1, 2] [] (by rfl) (keepsN hC _ rfl) (by repeat (first | exact trivial | refine ⟨⟨_, rfl, .inl ⟨rfl, rfl⟩⟩, ?_⟩ | refine ⟨⟨_, rfl, .inl ⟨slEq rfl tN, rfl⟩⟩, ?_⟩ | refine ⟨⟨_, rfl, .inl ⟨ivEq tX, rfl⟩⟩, ?_⟩)) (by exact ⟨ent_same rfl rfl rfl tL, ⟨ent_same rfl rfl rfl tL, ⟨ent_own rfl rfl (congrArg (fun r => some (Ob.refs 1 r)) own_back), trivial⟩⟩⟩) (fun _ h => by simp at h) hK1
        · have hge : i = g.es.length := by simp at hb; omega
          subst hge
          rw [List.take_length]
          refine Next.freezeOwn 2 rfl rfl ?_
          have hFl : (fzL 3 (rowsE g.es k)).length = k := by rw [fzL_len, rowsE_len]
          refine Next.weakS [5] [7] (by rfl) (keepsN hC _ rfl) (G' := [(1, IV .i64 a), (5, .sl 0 1 0 k), (7, .fz (.vals 1 (fzL 3 (rowsE g.es k))))]) (H' := [(0, OI (List.replicate k (-1)))]) (by exact ⟨⟨_, rfl, .inl ⟨rfl, rfl⟩⟩, ⟨_, rfl, .inl ⟨rfl, rfl⟩⟩, ⟨_, rfl, .inr ⟨_, rfl, .sl _ _ _ _ _ _ rfl rfl (take_all0 hFl) (by rw [hFl])⟩⟩, trivial⟩) (by exact ⟨ent_same rfl rfl rfl tL, trivial⟩) rfl ?_
          have hSet := set_c (newH k) (HG.new k).hi a 0 (by simpa [newH] using ha) (by simp [newH])
          obtain ⟨hDJ, hcnt0⟩ := DJ.start vg ha
          refine nK2 ?_
          refine s_reg rfl ?_
          refine Run.pure (dd := some 56) rfl rfl (op_move rfl (Opd.tmp _ _ rfl)) ?_
          refine Run.pure (dd := some 57) rfl rfl (op_len_sl rfl (Opd.tmp _ _ rfl)) ?_
          refine Run.eff (dd := some 58) rfl rfl (op_call (n := 0) (n' := 4) [] (fun _ => new_c k (by omega)) rfl (Opd.func _) (Opds.cons _ _ _ _ (Opd.tmp _ _ rfl) Opds.nil) rfl rfl (Lent.of rfl rfl trivial rfl) rfl rfl rfl rfl rfl) ?_
          refine Run.pure (dd := some 10) rfl rfl (op_assign rfl (Opd.tmp _ _ rfl)) ?_
          refine Run.nil (FinR.mk ?_)
          refine nK2 ?_
          refine s_reg rfl ?_
          refine Run.pure (dd := some 59) rfl rfl (op_move rfl (Opd.tmp _ _ rfl)) ?_
          refine Run.pure (dd := some 60) rfl rfl (op_move rfl (Opd.tmp _ _ rfl)) ?_
          refine Run.eff (dd := some 61) rfl rfl (op_call (n := 4) (n' := 5) [1, 2, 3, 4] (fun _ => hSet) rfl (Opd.func _) (Opds.cons _ _ _ _ (Opd.tmp _ _ rfl) (Opds.cons _ _ _ _ (Opd.tmp _ _ rfl) (Opds.cons _ _ _ _ (Opd.const _) Opds.nil))) rfl rfl (Lent.of rfl rfl (by exact ⟨⟨rfl, rfl, rfl, tL⟩, ⟨rfl, rfl, rfl, trivial⟩, ⟨rfl, rfl, rfl, trivial⟩, ⟨rfl, rfl, rfl, trivial⟩, trivial⟩) rfl) rfl rfl rfl rfl rfl) ?_
          refine Run.nil (FinR.mk ?_)
          refine nK2 ?_
          refine n_loop (ι := List Int × Hq) (fun s => ([(5, .sl 0 1 0 k), (7, .fz (.vals 1 (fzL 3 (rowsE g.es k)))), (10, .ptr 1 3 0 0)], HDS s.1 s.2, 5)) (fun s => DJ g.es k a s.1 s.2 []) (fun s => k - cntP s.1) (List.replicate k (-1), setH (newH k) a 0) hDJ ?_ ?_
          · refine Next.weak [0, 1, 5, 3, 4] [] (by rfl) (keepsN hC _ rfl) (by repeat (first | exact trivial | refine ⟨⟨_, rfl, .inl ⟨rfl, rfl⟩⟩, ?_⟩ | refine ⟨⟨_, rfl, .inl ⟨slEq rfl tN, rfl⟩⟩, ?_⟩ | refine ⟨⟨_, rfl, .inl ⟨ivEq tX, rfl⟩⟩, ?_⟩)) (by exact ⟨ent_same rfl rfl rfl tL, ⟨ent_same rfl rfl rfl tL, ⟨ent_same rfl rfl rfl tL, ⟨ent_same rfl rfl rfl tL, ⟨ent_same rfl rfl rfl tL, trivial⟩⟩⟩⟩⟩) (fun _ h => by simp at h) rel_intro
          · intro ⟨dist, h⟩ hI K hK
            try dsimp only at hI hK ⊢
            have hok' := hI.hg.hi
            have hdl := hI.dl
            have hpl := hI.hl
            have hsm := hok'.small
            by_cases hit : h.it = []
            · have hpn := pop_none h hok' hit
              refine nK2 ?_
              refine s_reg rfl ?_
              refine Run.pure (dd := some 63) rfl rfl (op_move rfl (Opd.tmp _ _ rfl)) ?_
              refine Run.load (dd := some 64) rfl rfl (op_call_read (n := 4) [1, 2, 3, 4] (fun _ => hpn) rfl (Opd.func _) (Opds.cons _ _ _ _ (Opd.tmp _ _ rfl) Opds.nil) rfl rfl (Lent.of rfl rfl (by exact ⟨⟨rfl, rfl, rfl, tL⟩, ⟨rfl, rfl, rfl, trivial⟩, ⟨rfl, rfl, rfl, trivial⟩, ⟨rfl, rfl, rfl, trivial⟩, trivial⟩) rfl) rfl) ?_
              refine Run.pure (dd := some 62) rfl rfl (op_move rfl (Opd.tmp _ _ rfl)) ?_
              refine Run.pure (dd := some 65) rfl rfl (op_extract_fz rfl (Opd.tmp _ _ rfl) rfl) ?_
              refine Run.pure (dd := some 66) rfl rfl (op_extract_fz rfl (Opd.tmp _ _ rfl) rfl) ?_
              refine Run.pure (dd := some 67) rfl rfl (op_extract_fz rfl (Opd.tmp _ _ rfl) rfl) ?_
              refine Run.pure (dd := some 11) rfl rfl (op_assign rfl (Opd.tmp _ _ rfl)) ?_
              refine Run.pure (dd := some 12) rfl rfl (op_assign rfl (Opd.tmp _ _ rfl)) ?_
              refine Run.pure (dd := some 13) rfl rfl (op_assign rfl (Opd.tmp _ _ rfl)) ?_
              refine Run.nil (FinR.mk ?_)
              refine nK2 ?_
              refine s_reg rfl ?_
              refine Run.pure (dd := some 68) rfl rfl (op_move rfl (Opd.tmp _ _ rfl)) ?_
              refine Run.pure (dd := some 69) rfl rfl (op_not rfl (Opd.tmp _ _ rfl)) ?_
              refine Run.nil (FinR.mk ?_)
              refine nK2 ?_
              refine n_cond _ rfl (fun hb => ?_) (fun hb => ?_)
              · have hde : dist = d := by
                  apply List.ext_getElem (by omega)
                  intro v h1 h2
                  have := (hI.done vg ha hit (v := v) (by omega)).uniq (hD v (by omega))
                  simpa [gt0, List.getD_eq_getElem?_getD, h1, h2] using this
                subst hde
                refine nK2 ?_
                refine s_reg rfl ?_
                refine Run.pure (dd := some 117) rfl rfl (op_move rfl (Opd.tmp _ _ rfl)) ?_
                refine Run.pure (dd := some 4) rfl rfl (op_assign rfl (Opd.tmp _ _ rfl)) ?_
                refine Run.nil (FinR.mk ?_)
                refine nK2 ?_
                refine Next.weakS [] [4] (by rfl) (keeps0 hC _) (G' := [(4, .fz (VI dist))]) (H' := []) ⟨⟨_, rfl, .inr ⟨_, rfl, .sl _ _ _ _ _ _ rfl rfl (take_all0 (by rw [List.length_map]; exact hdl)) (by rw [List.length_map]; omega)⟩⟩, trivial⟩ trivial rfl ?_
                exact n_out1 rfl (by rfl) rfl rfl
              · simp at hb
            · have hne : 0 < h.it.length := Nat.pos_of_ne_zero fun e => hit (List.length_eq_zero_iff.1 e)
              have hps := pop_some h hok' hne (by omega)
              obtain ⟨x1, x2, x3, x4, x5, x6⟩ := hI.pop vg ha hne
              have hrx := row_of encN dist (h.item 0) 0 (by omega)
              have hcl := cntP_le (dist.set (h.item 0) (h.key (h.item 0)))
              rw [List.length_set] at hcl
              have hrE := fzL_get (sz := 3) (rowsE_get g.es x1)
              have hLsub : ∀ e ∈ outE g.es (h.item 0), e ∈ g.es ∧ e.f = (h.item 0 : Nat) := fun e he => by simpa [outE] using he
              have hLl : (outE g.es (h.item 0)).length ≤ 1024 := by
                have : (outE g.es (h.item 0)).length ≤ g.es.length := List.length_filter_le _ _
                omega
              have hdx : gt0 (dist.set (h.item 0) (h.key (h.item 0))) (h.item 0) = h.key (h.item 0) := by rw [gt0, getD_set _ _ _ _ _ (by omega), if_pos rfl]
              change DJ g.es k a (dist.set (h.item 0) (h.key (h.item 0))) (dropH h (h.item 0)) (outE g.es (h.item 0)) at x6
              generalize h.item 0 = x at *
              generalize h.key x = kx at *
              generalize dropH h x = h1 at *
              generalize outE g.es x = L at *
              refine nK2 ?_
              refine s_reg rfl ?_
              refine Run.pure (dd := some 63) rfl rfl (op_move rfl (Opd.tmp _ _ rfl)) ?_
              refine Run.eff (dd := some 64) rfl rfl (op_call (n := 4) (n' := 5) [1, 2, 3, 4] (fun _ => hps) rfl (Opd.func _) (Opds.cons _ _ _ _ (Opd.tmp _ _ rfl) Opds.nil) rfl rfl (Lent.of rfl rfl (by exact ⟨⟨rfl, rfl, rfl, tL⟩, ⟨rfl, rfl, rfl, trivial⟩, ⟨rfl, rfl, rfl, trivial⟩, ⟨rfl, rfl, rfl, trivial⟩, trivial⟩) rfl) rfl rfl rfl rfl rfl) ?_
              refine Run.pure (dd := some 62) rfl rfl (op_move rfl (Opd.tmp _ _ rfl)) ?_
              refine Run.pure (dd := some 65) rfl rfl (op_extract_fz rfl (Opd.tmp _ _ rfl) rfl) ?_
              refine Run.pure (dd := some 66) rfl rfl (op_extract_fz rfl (Opd.tmp _ _ rfl) rfl) ?_
              refine Run.pure (dd := some 67) rfl rfl (op_extract_fz rfl (Opd.tmp _ _ rfl) rfl) ?_
              refine Run.pure (dd := some 11) rfl rfl (op_assign rfl (Opd.tmp _ _ rfl)) ?_
              refine Run.pure (dd := some 12) rfl rfl (op_assign rfl (Opd.tmp _ _ rfl)) ?_
              refine Run.pure (dd := some 13) rfl rfl (op_assign rfl (Opd.tmp _ _ rfl)) ?_
              refine Run.nil (FinR.mk ?_)
              refine nK2 ?_
              refine s_reg rfl ?_
              refine Run.pure (dd := some 68) rfl rfl (op_move rfl (Opd.tmp _ _ rfl)) ?_
              refine Run.pure (dd := some 69) rfl rfl (op_not rfl (Opd.tmp _ _ rfl)) ?_
              refine Run.nil (FinR.mk ?_)
              refine nK2 ?_
              refine n_cond _ rfl (fun hb => ?_) (fun hb => ?_)
              · simp at hb
              · refine nK2 ?_
                refine s_reg rfl ?_
                refine Run.pure (dd := some 70) rfl rfl (op_move rfl (Opd.tmp _ _ rfl)) ?_
                refine Run.pure (dd := some 71) rfl rfl (op_move rfl (Opd.tmp _ _ rfl)) ?_
                refine Run.pure (dd := some 72) rfl rfl (op_move rfl (Opd.tmp _ _ rfl)) ?_
                refine Run.pure (dd := some 73) rfl rfl (op_idx_sl0 x rfl (Opd.tmp _ _ rfl) (Opd.tmp _ _ rfl) (by intro _; exact ⟨rfl, x1⟩)) ?_
                refine Run.eff (dd := none) rfl rfl (op_store_flat rfl (Opd.tmp _ _ rfl) (Opd.tmp _ _ rfl) tC rfl rfl hrx tS) ?_
                refine Run.nil (FinR.mk ?_)
                refine nK2 ?_
                refine s_reg rfl ?_
                refine Run.pure (dd := some 74) rfl rfl (op_move rfl (Opd.tmp _ _ rfl)) ?_
                refine Run.pure (dd := some 75) rfl rfl (op_move rfl (Opd.tmp _ _ rfl)) ?_
                refine Run.pure (dd := some 76) rfl rfl (op_idx_fz x rfl (Opd.tmp _ _ rfl) (Opd.tmp _ _ rfl) (by intro _; exact ⟨rfl, hrE⟩)) ?_
                refine Run.pure (dd := some 77) rfl rfl (op_load1_fz rfl (Opd.tmp _ _ rfl) rfl) ?_
                refine Run.pure (dd := some 78) rfl rfl (op_len_fz rfl (by first | exact Opd.tmp _ _ rfl | exact Opd.nil _ _ (Opd.tmp _ _ rfl)) (by first | exact List.length_map _ | rfl)) ?_
                refine Run.pure (dd := some 79) rfl rfl (op_move rfl (Opd.const _)) ?_
                refine Run.nil (FinR.mk ?_)
                refine nK2 ?_
                refine n_loop (ι := Nat × Hq) (fun s => ([(5, .sl 0 1 0 k), (7, .fz (.vals 1 (fzL 3 (rowsE g.es k)))), (10, .ptr 1 3 0 0), (12, IV .i64 kx), (77, .fz (VE L)), (78, IV .i64 L.length), (79, IV .i64 s.1)], HDS (dist.set x kx) s.2, 5)) (fun s => s.1 ≤ L.length ∧ DJ g.es k a (dist.set x kx) s.2 (L.drop s.1)) (fun s => L.length - s.1) (0, h1) ⟨Nat.zero_le _, x6⟩ ?_ ?_
                · refine Next.weak [0, 1, 5, 3, 4] [] (by rfl) (keepsN hC _ rfl) (by repeat (first | exact trivial | refine ⟨⟨_, rfl, .inl ⟨rfl, rfl⟩⟩, ?_⟩ | refine ⟨⟨_, rfl, .inl ⟨slEq rfl tN, rfl⟩⟩, ?_⟩ | refine ⟨⟨_, rfl, .inl ⟨ivEq tX, rfl⟩⟩, ?_⟩)) (by exact ⟨ent_same rfl rfl (flEq rfl (by rw [List.map_set]; rfl)) trivial, ⟨ent_same rfl rfl rfl tL, ⟨ent_same rfl rfl rfl tL, ⟨ent_same rfl rfl rfl tL, ⟨ent_same rfl rfl rfl tL, trivial⟩⟩⟩⟩⟩) (fun _ h => by simp at h) rel_intro
                · intro ⟨j, h2⟩ ⟨hj, hJ⟩ K2 hK2
                  try dsimp only at hj hJ hK2 ⊢
                  refine nK2 ?_
                  refine s_reg rfl ?_
                  refine Run.pure (dd := some 80) rfl rfl (op_lss rfl (Opd.tmp _ _ rfl) (Opd.tmp _ _ rfl)) ?_
                  refine Run.nil (FinR.mk ?_)
                  refine nK2 ?_
                  refine n_cond _ rfl (fun hb => ?_) (fun hb => ?_)
                  · have hlt : j < L.length := by simp at hb; omega
                    have hr1 := row_at' encE L j hlt
                    obtain ⟨he, hef⟩ := hLsub _ (List.getElem_mem hlt)
                    rw [List.drop_eq_getElem_cons hlt] at hJ
                    have hK3 := fun h3 hh => hK2 (j + 1, h3) ⟨by dsimp only; omega, hh⟩ (by dsimp only; omega)
                    dsimp only at hK3
                    generalize L[j] = e at *
                    have het := vg.t e he
                    have hec := vg.c e he
                    have hJo := hJ.hg.hi
                    have hJl := hJ.hl
                    have hJs := hJo.small
                    have hJd := hJ.dl
                    have hket := key_i h2 hJo.ok e.t e.t.toNat (by omega) (by omega)
                    have hrt := row_of encN (dist.set x kx) e.t.toNat 0 (by omega)
                    have hput := fun hc => hJ.put vg he (by rw [hef, Int.toNat_natCast, hdx]; exact x3) (by rw [hef, Int.toNat_natCast, hdx, x5]; omega) hc
                    have hskip := fun hc => hJ.skip vg hc
                    have hset := set_i h2 hJo e.t e.t.toNat (kx + e.c) (by omega) (by omega) (by omega)
                    have hfx : gt0 (dist.set x kx) e.f.toNat = kx := by rw [hef, Int.toNat_natCast]; exact hdx
                    rw [hfx] at hput hskip
                    have hgt : (dist.set x kx).getD e.t.toNat 0 = gt0 (dist.set x kx) e.t.toNat := rfl
                    rw [hgt] at hrt
                    have hqb := hJ.q e.t.toNat (by omega)
                    refine nK2 ?_
                    refine s_reg rfl ?_
                    refine Run.pure (dd := some 81) rfl rfl (op_idx_fz _ rfl (Opd.tmp _ _ rfl) (Opd.tmp _ _ rfl) tF) ?_
                    refine Run.pure (dd := some 82) rfl rfl (op_loadw_fz rfl (Opd.tmp _ _ rfl) rfl) ?_
                    refine Run.eff (dd := some 15) rfl rfl (op_alloc rfl rfl rfl rfl) ?_
                    refine Run.eff (dd := none) rfl rfl (op_store_flat rfl (Opd.tmp _ _ rfl) (Opd.tmp _ _ rfl) tC rfl rfl (by first | rfl | assumption) tS) ?_
                    refine Run.nil (FinR.mk ?_)
                    refine nK2 ?_
                    refine s_reg rfl ?_
                    refine Run.pure (dd := some 84) rfl rfl (op_move rfl (Opd.tmp _ _ rfl)) ?_
                    refine Run.pure (dd := some 85) rfl rfl (op_fld_ptr (by decide) rfl (Opd.tmp _ _ rfl)) ?_
                    refine Run.load (dd := some 86) rfl rfl (op_load1_flat rfl (Opd.tmp _ _ rfl) tH rfl) ?_
                    refine Run.load (dd := some 87) rfl rfl (op_call_read (n := 4) [1, 2, 3, 4] (fun _ => hket) rfl (Opd.func _) (Opds.cons _ _ _ _ (Opd.tmp _ _ rfl) (Opds.cons _ _ _ _ (Opd.tmp _ _ rfl) Opds.nil)) rfl rfl (Lent.of rfl rfl (by exact ⟨⟨rfl, rfl, rfl, tL⟩, ⟨rfl, rfl, rfl, trivial⟩, ⟨rfl, rfl, rfl, trivial⟩, ⟨rfl, rfl, rfl, trivial⟩, trivial⟩) rfl) rfl) ?_
                    refine Run.pure (dd := some 83) rfl rfl (op_move rfl (Opd.tmp _ _ rfl)) ?_
                    refine Run.pure (dd := some 88) rfl rfl (op_extract_fz rfl (Opd.tmp _ _ rfl) rfl) ?_
                    refine Run.pure (dd := some 89) rfl rfl (op_extract_fz rfl (Opd.tmp _ _ rfl) rfl) ?_
                    refine Run.pure (dd := some 16) rfl rfl (op_assign rfl (Opd.tmp _ _ rfl)) ?_
                    refine Run.pure (dd := some 17) rfl rfl (op_assign rfl (Opd.tmp _ _ rfl)) ?_
                    refine Run.nil (FinR.mk ?_)
                    refine nK2 ?_
                    refine s_reg rfl ?_
                    refine Run.pure (dd := some 90) rfl rfl (op_move rfl (Opd.tmp _ _ rfl)) ?_
                    refine Run.pure (dd := some 91) rfl rfl (op_fld_ptr (by decide) rfl (Opd.tmp _ _ rfl)) ?_
                    refine Run.load (dd := some 92) rfl rfl (op_load1_flat rfl (Opd.tmp _ _ rfl) tH rfl) ?_
                    refine Run.pure (dd := some 93) rfl rfl (op_idx_sl0 e.t.toNat rfl (Opd.tmp _ _ rfl) (Opd.tmp _ _ rfl) (by intro _; omega)) ?_
                    refine Run.load (dd := some 94) rfl rfl (op_load1_flat rfl (Opd.tmp _ _ rfl) (by intro _; exact ⟨rfl, hrt⟩) rfl) ?_
                    refine Run.pure (dd := some 95) rfl rfl (op_lss rfl (Opd.tmp _ _ rfl) (Opd.const _)) ?_
                    refine Run.pure (dd := some 96) rfl rfl (op_move rfl (Opd.tmp _ _ rfl)) ?_
                    refine Run.pureG (dd := some 97) rfl rfl rfl tG (op_move rfl (Opd.tmp _ _ rfl)) ?_
                    refine Run.pureG (dd := some 98) rfl rfl rfl tG (op_not rfl (Opd.topt _ _ _ rfl tO)) ?_
                    refine Run.pureG (dd := some 99) rfl rfl rfl tG (op_move rfl (Opd.topt _ _ _ rfl tO)) ?_
                    refine Run.pureG (dd := some 100) rfl rfl rfl tG (op_move rfl (Opd.tmp _ _ rfl)) ?_
                    refine Run.pureG (dd := some 101) rfl rfl rfl tG (op_fld_ptr (by decide) rfl (Opd.tmp _ _ rfl)) ?_
                    refine Run.loadG (dd := some 102) rfl rfl rfl tG (op_load1_flat rfl (Opd.topt _ _ _ rfl tO) tH rfl) ?_
                    refine Run.pureG (dd := some 103) rfl rfl rfl tG (op_add rfl (Opd.topt _ _ _ rfl tO) (Opd.topt _ _ _ rfl tO) tI) ?_
                    refine Run.pureG (dd := some 104) rfl rfl rfl tG (op_move rfl (Opd.tmp _ _ rfl)) ?_
                    refine Run.pureG (dd := some 105) rfl rfl rfl tG (op_lss rfl (Opd.topt _ _ _ rfl tO) (Opd.topt _ _ _ rfl tO)) ?_
                    refine Run.pureG (dd := some 106) rfl rfl rfl tG (op_pick_or rfl (Opd.topt _ _ _ rfl tO) (Opd.topt _ _ _ rfl tO)) ?_
                    refine Run.pure (dd := some 107) rfl rfl (op_pick_and rfl (Opd.tmp _ _ rfl) (Opd.topt _ _ _ rfl tO)) ?_
                    refine Run.nil (FinR.mk ?_)
                    refine nK2 ?_
                    refine n_cond _ rfl (fun hb => ?_) (fun hb => ?_)
                    · have hc : gt0 (dist.set x kx) e.t.toNat < 0 ∧ (h2.place e.t.toNat < 0 ∨ kx + e.c < h2.key e.t.toNat) := by
                        simp only [Bool.and_eq_true, Bool.or_eq_true, Bool.not_eq_true', decide_eq_true_eq, decide_eq_false_iff_not] at hb
                        refine ⟨hb.1, ?_⟩
                        rcases hb.2 with h5 | h5
                        · exact .inl (by omega)
                        · by_cases h6 : 0 ≤ h2.place e.t.toNat
                          · rw [if_pos h6] at h5; exact .inr h5
                          · exact .inl (by omega)
                      refine nK2 ?_
                      refine s_reg rfl ?_
                      refine Run.pure (dd := some 108) rfl rfl (op_move rfl (Opd.tmp _ _ rfl)) ?_
                      refine Run.pure (dd := some 109) rfl rfl (op_fld_ptr (by decide) rfl (Opd.tmp _ _ rfl)) ?_
                      refine Run.load (dd := some 110) rfl rfl (op_load1_flat rfl (Opd.tmp _ _ rfl) tH rfl) ?_
                      refine Run.pure (dd := some 111) rfl rfl (op_move rfl (Opd.tmp _ _ rfl)) ?_
                      refine Run.pure (dd := some 112) rfl rfl (op_fld_ptr (by decide) rfl (Opd.tmp _ _ rfl)) ?_
                      refine Run.load (dd := some 113) rfl rfl (op_load1_flat rfl (Opd.tmp _ _ rfl) tH rfl) ?_
                      refine Run.pure (dd := some 114) rfl rfl (op_add rfl (Opd.tmp _ _ rfl) (Opd.tmp _ _ rfl) tI) ?_
                      refine Run.eff (dd := some 115) rfl rfl (op_call (n := 4) (n' := 5) [1, 2, 3, 4] (fun _ => hset) rfl (Opd.func _) (Opds.cons _ _ _ _ (Opd.tmp _ _ rfl) (Opds.cons _ _ _ _ (Opd.tmp _ _ rfl) (Opds.cons _ _ _ _ (Opd.tmp _ _ rfl) Opds.nil))) rfl rfl (Lent.of rfl rfl (by exact ⟨⟨rfl, rfl, rfl, tL⟩, ⟨rfl, rfl, rfl, trivial⟩, ⟨rfl, rfl, rfl, trivial⟩, ⟨rfl, rfl, rfl, trivial⟩, trivial⟩) rfl) rfl rfl rfl rfl rfl) ?_
                      refine Run.nil (FinR.mk ?_)
                      refine nK2 ?_
                      refine s_reg rfl ?_
                      refine Run.pure (dd := some 116) rfl rfl (op_add rfl (Opd.tmp _ _ rfl) (Opd.const _) tI) ?_
                      refine Run.pure (dd := some 79) rfl rfl (op_move rfl (Opd.tmp _ _ rfl)) ?_
                      refine Run.nil (FinR.mk ?_)
                      refine nK2 ?_
                      refine Next.weak [0, 1, 6, 3, 4] [] (by rfl) (keepsN hC _ rfl) (by repeat (first | exact trivial | refine ⟨⟨_, rfl, .inl ⟨rfl, rfl⟩⟩, ?_⟩ | refine ⟨⟨_, rfl, .inl ⟨slEq rfl tN, rfl⟩⟩, ?_⟩ | refine ⟨⟨_, rfl, .inl ⟨ivEq tX, rfl⟩⟩, ?_⟩)) (by exact ⟨ent_same rfl rfl rfl tL, ⟨ent_same rfl rfl rfl tL, ⟨ent_same rfl rfl rfl tL, ⟨ent_same rfl rfl rfl tL, ⟨ent_same rfl rfl rfl tL, trivial⟩⟩⟩⟩⟩) (fun _ h => by simp at h) (hK3 _ (hput hc))
                    · have hc : ¬ (gt0 (dist.set x kx) e.t.toNat < 0 ∧ (h2.place e.t.toNat < 0 ∨ kx + e.c < h2.key e.t.toNat)) := fun hc => by
                        rw [Bool.eq_false_iff] at hb
                        apply hb
                        simp only [Bool.and_eq_true, Bool.or_eq_true, Bool.not_eq_true', decide_eq_true_eq, decide_eq_false_iff_not]
                        refine ⟨hc.1, ?_⟩
                        by_cases h6 : 0 ≤ h2.place e.t.toNat
                        · rw [if_pos h6]
                          rcases hc.2 with h5 | h5
                          · omega
                          · exact .inr h5
                        · exact .inl (by omega)
                      refine nK2 ?_
                      refine s_reg rfl ?_
                      refine Run.pure (dd := some 116) rfl rfl (op_add rfl (Opd.tmp _ _ rfl) (Opd.const _) tI) ?_
                      refine Run.pure (dd := some 79) rfl rfl (op_move rfl (Opd.tmp _ _ rfl)) ?_
                      refine Run.nil (FinR.mk ?_)
                      refine nK2 ?_
                      refine Next.weak [0, 1, 2, 3, 4] [] (by rfl) (keepsN hC _ rfl) (by repeat (first | exact trivial | refine ⟨⟨_, rfl, .inl ⟨rfl, rfl⟩⟩, ?_⟩ | refine ⟨⟨_, rfl, .inl ⟨slEq rfl tN, rfl⟩⟩, ?_⟩ | refine ⟨⟨_, rfl, .inl ⟨ivEq tX, rfl⟩⟩, ?_⟩)) (by exact ⟨ent_same rfl rfl rfl tL, ⟨ent_same rfl rfl rfl tL, ⟨ent_same rfl rfl rfl tL, ⟨ent_same rfl rfl rfl tL, ⟨ent_same rfl rfl rfl tL, trivial⟩⟩⟩⟩⟩) (fun _ h => by simp at h) (hK3 _ (hskip hc))
                  · have hje : j = L.length := by simp at hb; omega
                    subst hje
                    rw [List.drop_length] at hJ
                    refine nK2 ?_
                    refine Next.weak [0, 1, 2, 3, 4] [] (by rfl) (keepsN hC _ rfl) (by repeat (first | exact trivial | refine ⟨⟨_, rfl, .inl ⟨rfl, rfl⟩⟩, ?_⟩ | refine ⟨⟨_, rfl, .inl ⟨slEq rfl tN, rfl⟩⟩, ?_⟩ | refine ⟨⟨_, rfl, .inl ⟨ivEq tX, rfl⟩⟩, ?_⟩)) (by exact ⟨ent_same rfl rfl rfl tL, ⟨ent_same rfl rfl rfl tL, ⟨ent_same rfl rfl rfl tL, ⟨ent_same rfl rfl rfl tL, ⟨ent_same rfl rfl rfl tL, trivial⟩⟩⟩⟩⟩) (fun _ h => by simp at h) (hK (dist.set x kx, h2) hJ (by dsimp only; omega))
end Go.Proofs.Ytgbfkpcigipniaa
namespace Go.Pl
open Go Go.RT
set_option linter.all false
def encL (l : List Int) : List FV := [VI l]
abbrev VLL (ll : List (List Int)) : FV := .vals 1 (ll.map encL)
def rowsI (ll : List (List Int)) : List (List (List FV)) := ll.map fun l => l.map encN
theorem fz_rowsI (ll : List (List Int)) : fzL 1 (rowsI ll) = ll.map encL := by simp [fzL, rowsI, encL]
theorem rowsI_len (ll : List (List Int)) : (rowsI ll).length = ll.length := by simp [rowsI]
theorem rowsI_set (ll : List (List Int)) (v : Nat) (l : List Int) : (rowsI ll).set v (l.map encN) = rowsI (ll.set v l) := by unfold rowsI; rw [List.map_set]
theorem rowsI_get {ll : List (List Int)} {v : Nat} (h : v < ll.length) : (rowsI ll)[v]? = some ((ll.getD v []).map encN) := by
  unfold rowsI; rw [List.getElem?_map, List.getD_eq_getElem?_getD, List.getElem?_eq_getElem h]; rfl
theorem rowsI_nil (n : Nat) : rowsI (List.replicate n []) = List.replicate n [] := by simp [rowsI]
def parC (a : Nat) (d : List Int) (e : Edg) : Bool := decide (e.t ≠ (a : Int)) && decide (gt0 d e.f.toNat ≠ -1) && decide (gt0 d e.f.toNat + e.c = gt0 d e.t.toNat)
def parE (es : List Edg) (a : Nat) (d : List Int) (v : Nat) : List Int := (es.filter fun e => parC a d e && decide (e.t = (v : Int))).map (·.f)
def parL (es : List Edg) (a : Nat) (d : List Int) (n : Nat) : List (List Int) := (List.range n).map (parE es a d)
theorem parE_succ {es : List Edg} {i a : Nat} {d : List Int} (h : i < es.length) (v : Nat) : parE (es.take (i + 1)) a d v = parE (es.take i) a d v ++ if parC a d es[i] = true ∧ es[i].t = (v : Int) then [es[i].f] else [] := by
  unfold parE
  rw [← List.take_append_getElem h, List.filter_append, List.map_append]
  congr 1
  by_cases e : parC a d es[i] = true ∧ es[i].t = (v : Int)
  · rw [if_pos e]; simp [e.1, e.2]
  · rw [if_neg e]
    have : (parC a d es[i] && decide (es[i].t = (v : Int))) = false := by
      rw [Bool.eq_false_iff]; intro h; exact e (by simpa using h)
    simp [this]
theorem parL_len (es : List Edg) (a : Nat) (d : List Int) (n : Nat) : (parL es a d n).length = n := rng_len n _
theorem parL_get (es : List Edg) (a : Nat) (d : List Int) {n v : Nat} (h : v < n) : (parL es a d n).getD v [] = parE es a d v := by
  rw [List.getD_eq_getElem?_getD]; unfold parL; rw [rng_get n _ v h]; rfl
theorem parL_yes {es : List Edg} {i a n : Nat} {d : List Int} (h : i < es.length) (h0 : 0 ≤ es[i].t) (hc : parC a d es[i] = true) : (parL (es.take i) a d n).set es[i].t.toNat (parE (es.take i) a d es[i].t.toNat ++ [es[i].f]) = parL (es.take (i + 1)) a d n := by
  refine rng_set n _ _ _ _ ?_ fun w hw => ?_
  · rw [parE_succ h, if_pos ⟨hc, by omega⟩]
  · rw [parE_succ h, if_neg (by omega), List.append_nil]
theorem parL_no {es : List Edg} {i a n : Nat} {d : List Int} (h : i < es.length) (hc : ¬ parC a d es[i] = true) : parL (es.take i) a d n = parL (es.take (i + 1)) a d n := by
  unfold parL
  refine List.map_congr_left fun v _ => ?_
  rw [parE_succ h, if_neg (fun e => hc e.1), List.append_nil]
theorem parL_nil (a : Nat) (d : List Int) (n : Nat) : parL [] a d n = List.replicate n [] := (rng_const n _).symm
end Go.Pl
namespace Go.Proofs.Ytgbfkpcigipniaa
open Go Go.RT Go.Proofs Go.Pl
set_option linter.all false
set_option maxRecDepth 20000
set_option maxHeartbeats 2000000
theorem parents_c (g : Gr) (a : Nat) (d : List Int) (hg : checkI g = 0) (hd : d.length = (g.r + g.n).toNat) (hD : ∀ v, v < (g.r + g.n).toNat → -1 ≤ gt0 d v ∧ gt0 d v ≤ 10000000) : Pure Try.prog 29 [.agg (encG g), If .i64 a, VI d] (VLL (parL g.es a d (g.r + g.n).toNat)) := by
  obtain ⟨vg, hr0, hn0⟩ := checkI_vg hg
  have hn := vg.n128
  have hel := vg.e1024
  generalize hN : (g.r + g.n).toNat = n at *
  refine Meets.intro Try.func29 rfl (Nat.le_of_ble_eq_true rfl) fun C hC => ?_
  simp only [List.map, argEnv, Nat.reduceAdd]
  refine nK2 ?_
  refine s_reg rfl ?_
  refine Run.eff (dd := some 3) rfl rfl (op_box_flat rfl (Opd.tmp _ _ rfl) tC rfl) ?_
  refine Run.pure (dd := some 6) rfl rfl (op_assign rfl (Opd.const _)) ?_
  refine Run.nil (FinR.mk ?_)
  refine nK2 ?_
  refine s_reg rfl ?_
  refine Run.pure (dd := some 10) rfl rfl (op_move rfl (Opd.tmp _ _ rfl)) ?_
  refine Run.pure (dd := some 11) rfl rfl (op_len_fz rfl (by first | exact Opd.tmp _ _ rfl | exact Opd.nil _ _ (Opd.tmp _ _ rfl)) (by first | exact List.length_map _ | rfl)) ?_
  refine Run.eff (dd := some 12) rfl rfl (op_make (l := n) (c := n) rfl (Opd.tmp _ _ rfl) (Opd.tmp _ _ rfl) rfl rfl rfl rfl (by intro _; rw [hd]; refine ⟨rfl, rfl, ?_⟩; omega)) ?_
  refine Run.pure (dd := some 7) rfl rfl (op_assign rfl (Opd.tmp _ _ rfl)) ?_
  refine Run.nil (FinR.mk ?_)
  refine nK2 ?_
  refine Next.toOwn 1 1 n rfl ?_
  refine Next.weak [0, 1] [] (by rfl) (keepsN hC _ rfl) (G' := [(1, IV .i64 a), (2, .fz (VI d)), (3, .ptr 0 3 0 0), (7, .sl 1 1 0 n)]) (H' := [(0, OG g), (1, some (.refs 1 (ownL 1 (rowsI (parL [] a d n)))))]) (by repeat (first | exact trivial | refine ⟨⟨_, rfl, .inl ⟨rfl, rfl⟩⟩, ?_⟩ | refine ⟨⟨_, rfl, .inl ⟨slEq rfl tN, rfl⟩⟩, ?_⟩ | refine ⟨⟨_, rfl, .inl ⟨ivEq tX, rfl⟩⟩, ?_⟩)) (by exact ⟨ent_same rfl rfl rfl tL, ⟨ent_own rfl rfl (by rw [parL_nil, rowsI_nil, ← ownL_rep]; rfl), trivial⟩⟩) (fun _ h => by simp at h) ?_
  refine nK2 ?_
  refine s_reg rfl ?_
  refine Run.pure (dd := some 13) rfl rfl (op_fld_ptr (by decide) rfl (Opd.tmp _ _ rfl)) ?_
  refine Run.load (dd := some 14) rfl rfl (op_load1_flat rfl (Opd.tmp _ _ rfl) tH rfl) ?_
  refine Run.pure (dd := some 15) rfl rfl (op_len_fz rfl (by first | exact Opd.tmp _ _ rfl | exact Opd.nil _ _ (Opd.tmp _ _ rfl)) (by first | exact List.length_map _ | rfl)) ?_
  refine Run.pure (dd := some 16) rfl rfl (op_move rfl (Opd.const _)) ?_
  refine Run.nil (FinR.mk ?_)
  refine nK2 ?_
  refine n_loop (ι := Nat) (fun i => ([(1, IV .i64 a), (2, .fz (VI d)), (7, .sl 0 1 0 n), (14, .fz (VE g.es)), (15, IV .i64 g.es.length), (16, IV .i64 i)], [(0, some (.refs 1 (ownL 1 (rowsI (parL (g.es.take i) a d n)))))], 1)) (fun i => i ≤ g.es.length) (fun i => g.es.length - i) 0 (Nat.zero_le _) ?_ ?_
  · refine Next.weak [1] [] (by rfl) (keepsN hC _ rfl) (by repeat (first | exact trivial | refine ⟨⟨_, rfl, .inl ⟨rfl, rfl⟩⟩, ?_⟩ | refine ⟨⟨_, rfl, .inl ⟨slEq rfl tN, rfl⟩⟩, ?_⟩ | refine ⟨⟨_, rfl, .inl ⟨ivEq tX, rfl⟩⟩, ?_⟩)) (by exact ⟨ent_own rfl rfl rfl, trivial⟩) (fun _ h => by simp at h) rel_intro
  · intro i hi K hK
    try dsimp only at hi ⊢
    refine nK2 ?_
    refine s_reg rfl ?_
    refine Run.pure (dd := some 17) rfl rfl (op_lss rfl (Opd.tmp _ _ rfl) (Opd.tmp _ _ rfl)) ?_
    refine Run.nil (FinR.mk ?_)
    refine nK2 ?_
    refine n_cond _ rfl (fun hb => ?_) (fun hb => ?_)
    · have hlt : i < g.es.length := by simp at hb; omega
      have hr1 := row_at' encE g.es i hlt
      have hef := vg.f _ (List.getElem_mem hlt)
      have het := vg.t _ (List.getElem_mem hlt)
      have hec := vg.c _ (List.getElem_mem hlt)
      have hyes := parL_yes (n := n) (a := a) (d := d) hlt het.1
      have hno := parL_no (n := n) (a := a) (d := d) hlt
      have hgt := parL_get (g.es.take i) a d (n := n) (v := g.es[i].t.toNat) (by omega)
      have hpl := parL_len (g.es.take i) a d n
      have hlen : (parE (g.es.take i) a d g.es[i].t.toNat).length ≤ 1024 := by
        have h1 : (parE (g.es.take i) a d g.es[i].t.toNat).length ≤ (g.es.take i).length := by unfold parE; rw [List.length_map]; exact List.length_filter_le _ _
        have h2 : (g.es.take i).length ≤ g.es.length := List.length_take_le' _ _
        omega
      have hK1 := hK (i + 1) (by omega) (by omega)
      generalize parL (g.es.take (i + 1)) a d n = ll2 at *
      generalize parL (g.es.take i) a d n = ll at *
      have hrg := rowsI_get (ll := ll) (v := g.es[i].t.toNat) (by omega)
      rw [hgt] at hrg
      generalize parE (g.es.take i) a d g.es[i].t.toNat = row at *
      generalize g.es[i] = e at *
      have hrf := row_of encN d e.f.toNat 0 (by omega)
      have hrt := row_of encN d e.t.toNat 0 (by omega)
      have hDf := hD e.f.toNat (by omega)
      have hgf : d.getD e.f.toNat 0 = gt0 d e.f.toNat := rfl
      have hgt2 : d.getD e.t.toNat 0 = gt0 d e.t.toNat := rfl
      rw [hgf] at hrf; rw [hgt2] at hrt
      refine nK2 ?_
      refine s_reg rfl ?_
      refine Run.pure (dd := some 18) rfl rfl (op_idx_fz _ rfl (Opd.tmp _ _ rfl) (Opd.tmp _ _ rfl) tF) ?_
      refine Run.pure (dd := some 19) rfl rfl (op_loadw_fz rfl (Opd.tmp _ _ rfl) rfl) ?_
      refine Run.eff (dd := some 9) rfl rfl (op_alloc rfl rfl rfl rfl) ?_
      refine Run.eff (dd := none) rfl rfl (op_store_flat rfl (Opd.tmp _ _ rfl) (Opd.tmp _ _ rfl) tC rfl rfl (by first | rfl | assumption) tS) ?_
      refine Run.nil (FinR.mk ?_)
      refine nK2 ?_
      refine s_draw mixed ?_
      refine Run.pure (dd := some 20) rfl rfl (op_fld_ptr (by decide) rfl (Opd.tmp _ _ rfl)) ?_
      refine Run.load (dd := some 21) rfl rfl (op_load1_flat rfl (Opd.tmp _ _ rfl) tH rfl) ?_
      refine Run.pure (dd := some 22) rfl rfl (op_move rfl (Opd.tmp _ _ rfl)) ?_
      refine Run.pure (dd := some 23) rfl rfl (op_neq rfl (Opd.tmp _ _ rfl) (Opd.tmp _ _ rfl)) ?_
      refine Run.pure (dd := some 24) rfl rfl (op_move rfl (Opd.tmp _ _ rfl)) ?_
      refine Run.pureG (dd := some 25) rfl rfl rfl tG (op_move rfl (Opd.tmp _ _ rfl)) ?_
      refine Run.pureG (dd := some 26) rfl rfl rfl tG (op_fld_ptr (by decide) rfl (Opd.tmp _ _ rfl)) ?_
      refine Run.loadG (dd := some 27) rfl rfl rfl tG (op_load1_flat rfl (Opd.topt _ _ _ rfl tO) tH rfl) ?_
      refine Run.pureG (dd := some 28) rfl rfl rfl tG (op_idx_fz e.f.toNat rfl (Opd.topt _ _ _ rfl tO) (Opd.topt _ _ _ rfl tO) (by intro _; exact ⟨by omega, hrf⟩)) ?_
      refine Run.pureG (dd := some 29) rfl rfl rfl tG (op_load1_fz rfl (Opd.topt _ _ _ rfl tO) rfl) ?_
      refine Run.pureG (dd := some 30) rfl rfl rfl tG (op_neq rfl (Opd.topt _ _ _ rfl tO) (Opd.const _)) ?_
      refine Run.pure (dd := some 31) rfl rfl (op_pick_and rfl (Opd.tmp _ _ rfl) (Opd.topt _ _ _ rfl tO)) ?_
      refine Run.pure (dd := some 32) rfl rfl (op_move rfl (Opd.tmp _ _ rfl)) ?_
      refine Run.pureG (dd := some 33) rfl rfl rfl tG (op_move rfl (Opd.tmp _ _ rfl)) ?_
      refine Run.pureG (dd := some 34) rfl rfl rfl tG (op_fld_ptr (by decide) rfl (Opd.tmp _ _ rfl)) ?_
      refine Run.loadG (dd := some 35) rfl rfl rfl tG (op_load1_flat rfl (Opd.topt _ _ _ rfl tO) tH rfl) ?_
      refine Run.pureG (dd := some 36) rfl rfl rfl tG (op_idx_fz e.f.toNat rfl (Opd.topt _ _ _ rfl tO) (Opd.topt _ _ _ rfl tO) (by intro _; exact ⟨by omega, hrf⟩)) ?_
      refine Run.pureG (dd := some 37) rfl rfl rfl tG (op_load1_fz rfl (Opd.topt _ _ _ rfl tO) rfl) ?_
      refine Run.pureG (dd := some 38) rfl rfl rfl tG (op_fld_ptr (by decide) rfl (Opd.tmp _ _ rfl)) ?_
      refine Run.loadG (dd := some 39) rfl rfl rfl tG (op_load1_flat rfl (Opd.topt _ _ _ rfl tO) tH rfl) ?_
      refine Run.pureG (dd := some 40) rfl rfl rfl tG (op_add rfl (Opd.topt _ _ _ rfl tO) (Opd.topt _ _ _ rfl tO) tI) ?_
      refine Run.pureG (dd := some 41) rfl rfl rfl tG (op_move rfl (Opd.tmp _ _ rfl)) ?_
      refine Run.pureG (dd := some 42) rfl rfl rfl tG (op_fld_ptr (by decide) rfl (Opd.tmp _ _ rfl)) ?_
      refine Run.loadG (dd := some 43) rfl rfl rfl tG (op_load1_flat rfl (Opd.topt _ _ _ rfl tO) tH rfl) ?_
      refine Run.pureG (dd := some 44) rfl rfl rfl tG (op_idx_fz e.t.toNat rfl (Opd.topt _ _ _ rfl tO) (Opd.topt _ _ _ rfl tO) (by intro _; exact ⟨by omega, hrt⟩)) ?_
      refine Run.pureG (dd := some 45) rfl rfl rfl tG (op_load1_fz rfl (Opd.topt _ _ _ rfl tO) rfl) ?_
      refine Run.pureG (dd := some 46) rfl rfl rfl tG (op_eql rfl (Opd.topt _ _ _ rfl tO) (Opd.topt _ _ _ rfl tO)) ?_
      refine Run.pure (dd := some 47) rfl rfl (op_pick_and rfl (Opd.tmp _ _ rfl) (Opd.topt _ _ _ rfl tO)) ?_
      refine Run.nil (FinD.mk (by kernel_rfl) ?_)
      refine nK2 ?_
      refine n_cond _ rfl (fun hb => ?_) (fun hb => ?_)
      · rw [← hyes hb] at hK1
        refine nK2 ?_
        refine Next.take 0 e.t.toNat 0 rfl (ownL_get hrg) rfl rfl ?_
        have hs1 := set_get (ownL 1 (rowsI ll)) e.t.toNat [.sl 2 1 0 (row.map encN).length] (by rw [ownL_len, rowsI_len, hpl]; omega)
        refine nK2 ?_
        refine s_draw mixed ?_
        refine Run.pure (dd := some 48) rfl rfl (op_move rfl (Opd.tmp _ _ rfl)) ?_
        refine Run.pure (dd := some 49) rfl rfl (op_fld_ptr (by decide) rfl (Opd.tmp _ _ rfl)) ?_
        refine Run.load (dd := some 50) rfl rfl (op_load1_flat rfl (Opd.tmp _ _ rfl) tH rfl) ?_
        refine Run.pure (dd := some 51) rfl rfl (op_move rfl (Opd.tmp _ _ rfl)) ?_
        refine Run.pure (dd := some 52) rfl rfl (op_fld_ptr (by decide) rfl (Opd.tmp _ _ rfl)) ?_
        refine Run.load (dd := some 53) rfl rfl (op_load1_flat rfl (Opd.tmp _ _ rfl) tH rfl) ?_
        refine Run.pure (dd := some 54) rfl rfl (op_idx_sl0 e.t.toNat rfl (Opd.tmp _ _ rfl) (Opd.tmp _ _ rfl) (by intro _; omega)) ?_
        refine Run.load (dd := some 55) rfl rfl (op_load1_refs rfl (Opd.tmp _ _ rfl) (by intro _; exact ⟨rfl, hs1⟩) rfl) ?_
        refine Run.pure (dd := some 56) rfl rfl (op_fld_ptr (by decide) rfl (Opd.tmp _ _ rfl)) ?_
        refine Run.load (dd := some 57) rfl rfl (op_load1_flat rfl (Opd.tmp _ _ rfl) tH rfl) ?_
        refine Run.pure (dd := some 58) rfl rfl (op_buildSlice_fz rfl (RowsF.cons _ _ _ _ _ _ (Opd.tmp _ _ rfl) tC (by rfl) (RowsF.nil _)) rfl rfl) ?_
        refine Run.effW (dd := some 59) rfl rfl (op_append rfl (Opd.tmp _ _ rfl) (by first | exact Opd.tmp _ _ rfl | exact Opd.nil _ _ (Opd.tmp _ _ rfl)) rfl (by first | rfl | simp) rfl rfl tB tB) (by first | exact ext_call | exact tE) ?_
        refine Run.pure (dd := some 60) rfl rfl (op_idx_sl0 e.t.toNat rfl (Opd.tmp _ _ rfl) (Opd.tmp _ _ rfl) (by intro _; omega)) ?_
        refine Run.effW (dd := none) rfl rfl (op_store_refs rfl (Opd.tmp _ _ rfl) (Opd.tmp _ _ rfl) tP rfl rfl hs1 tS) (by first | exact ext_call | exact tE) ?_
        refine Run.nil (FinD.mk (by kernel_rfl) ?_)
        refine nK2 ?_
        refine s_reg rfl ?_
        refine Run.pure (dd := some 61) rfl rfl (op_add rfl (Opd.tmp _ _ rfl) (Opd.const _) tI) ?_
        refine Run.pure (dd := some 16) rfl rfl (op_move rfl (Opd.tmp _ _ rfl)) ?_
        refine Run.nil (FinR.mk ?_)
        refine nK2 ?_
        refine Next.untake 0 e.t.toNat 0 rfl (set_get _ _ _ (by rw [List.length_set, ownL_len, rowsI_len, hpl]; omega)) rfl rfl (by simp) rfl ?_
        refine Next.weak [0] [] (by rfl) (keepsN hC _ rfl) (by repeat (first | exact trivial | refine ⟨⟨_, rfl, .inl ⟨rfl, rfl⟩⟩, ?_⟩ | refine ⟨⟨_, rfl, .inl ⟨slEq rfl tN, rfl⟩⟩, ?_⟩ | refine ⟨⟨_, rfl, .inl ⟨ivEq tX, rfl⟩⟩, ?_⟩)) (by exact ⟨ent_own rfl rfl (congrArg (fun r => some (Ob.refs 1 r)) (own_back.trans (congrArg _ (by rw [← rowsI_set, List.map_append]; rfl)))), trivial⟩) (fun _ h => by simp at h) hK1
      · rw [← hno (by rw [Bool.not_eq_true]; exact hb)] at hK1
        refine nK2 ?_
        refine s_reg rfl ?_
        refine Run.pure (dd := some 61) rfl rfl (op_add rfl (Opd.tmp _ _ rfl) (Opd.const _) tI) ?_
        refine Run.pure (dd := some 16) rfl rfl (op_move rfl (Opd.tmp _ _ rfl)) ?_
        refine Run.nil (FinR.mk ?_)
        refine nK2 ?_
        refine Next.weak [0] [] (by rfl) (keepsN hC _ rfl) (by repeat (first | exact trivial | refine ⟨⟨_, rfl, .inl ⟨rfl, rfl⟩⟩, ?_⟩ | refine ⟨⟨_, rfl, .inl ⟨slEq rfl tN, rfl⟩⟩, ?_⟩ | refine ⟨⟨_, rfl, .inl ⟨ivEq tX, rfl⟩⟩, ?_⟩)) (by exact ⟨ent_own rfl rfl rfl, trivial⟩) (fun _ h => by simp at h) hK1
    · have hge : i = g.es.length := by simp at hb; omega
      subst hge
      rw [List.take_length]
      refine Next.freezeOwn 0 rfl rfl ?_
      refine nK2 ?_
      refine s_reg rfl ?_
      refine Run.pure (dd := some 62) rfl rfl (op_move rfl (Opd.tmp _ _ rfl)) ?_
      refine Run.pure (dd := some 6) rfl rfl (op_assign rfl (Opd.tmp _ _ rfl)) ?_
      refine Run.nil (FinR.mk ?_)
      refine nK2 ?_
      have hFl : (fzL 1 (rowsI (parL g.es a d n))).length = n := by rw [fzL_len, rowsI_len, parL_len]
      refine Next.weakS [] [6] (by rfl) (keeps0 hC _) (G' := [(6, .fz (VLL (parL g.es a d n)))]) (H' := []) ⟨⟨_, rfl, .inr ⟨_, rfl, .sl _ _ _ _ _ _ rfl rfl ((take_all0 hFl).trans (fz_rowsI _)) (by rw [← fz_rowsI, hFl])⟩⟩, trivial⟩ trivial rfl ?_
      exact n_out1 rfl (by rfl) rfl rfl
end Go.Proofs.Ytgbfkpcigipniaa
/- The reference's search: passes over all edges. -/
namespace Go.Pl
open Go.RT
set_option linter.all false
/-- one edge of a pass -/
def passE (out : List Bool) (e : Edg) : List Bool := if out[e.f.toNat]? = some true then out.set e.t.toNat true else out
def pass (es : List Edg) (out : List Bool) : List Bool := es.foldl passE out
theorem passE_len (out : List Bool) (e : Edg) : (passE out e).length = out.length := by unfold passE; split <;> simp
theorem pass_len : ∀ (es : List Edg) (out : List Bool), (pass es out).length = out.length
  | [], out => rfl
  | e :: es, out => by
    show (pass es (passE out e)).length = _
    rw [pass_len es, passE_len]
theorem passE_mono {out : List Bool} {e : Edg} {v : Nat} (h : out[v]? = some true) : (passE out e)[v]? = some true := by
  unfold passE; split
  · exact set_true h
  · exact h
theorem pass_mono : ∀ {es : List Edg} {out : List Bool} {v : Nat}, out[v]? = some true → (pass es out)[v]? = some true
  | [], out, v, h => h
  | e :: es, out, v, h => pass_mono (es := es) (passE_mono h)
theorem cntT_cons (x : Bool) (l : List Bool) : cntT (x :: l) = cntT l + if x = true then 1 else 0 := by
  unfold cntT; rw [List.countP_cons]; cases x <;> rfl
theorem cnt_mono : ∀ {a b : List Bool}, a.length = b.length → (∀ v : Nat, a[v]? = some true → b[v]? = some true) → cntT a ≤ cntT b ∧ (cntT a = cntT b → a = b)
  | [], [], _, _ => ⟨Nat.le_refl _, fun _ => rfl⟩
  | [], _ :: _, h, _ => by simp at h
  | _ :: _, [], h, _ => by simp at h
  | x :: a, y :: b, hl, h => by
    obtain ⟨i1, i2⟩ := cnt_mono (a := a) (b := b) (by simpa using hl) (fun v hv => by simpa using h (v + 1) (by simpa using hv))
    have h0 := h 0
    simp only [List.getElem?_cons_zero, Option.some.injEq] at h0
    rw [cntT_cons, cntT_cons]
    cases x <;> cases y
    · exact ⟨by simpa using i1, fun hh => by rw [i2 (by simpa using hh)]⟩
    · exact ⟨by simp; omega, fun hh => by simp at hh; omega⟩
    · simp at h0
    · exact ⟨by simpa using i1, fun hh => by rw [i2 (by simpa using hh)]⟩
/-- a pass that changes nothing: closed under the edges -/
theorem pass_fix : ∀ {es : List Edg} {out : List Bool}, pass es out = out → (∀ e ∈ es, 0 ≤ e.t ∧ e.t.toNat < out.length) → ∀ e ∈ es, out[e.f.toNat]? = some true → out[e.t.toNat]? = some true := by
  intro es out h hin
  -- every prefix of the pass leaves the list as it is
  have key : ∀ (es : List Edg) (out o : List Bool), o.length = out.length → (∀ v : Nat, out[v]? = some true → o[v]? = some true) → pass es o = out → (∀ e ∈ es, 0 ≤ e.t ∧ e.t.toNat < out.length) → o = out ∧ ∀ e ∈ es, out[e.f.toNat]? = some true → out[e.t.toNat]? = some true := by
    intro es
    induction es with
    | nil => intro out o _ _ h _; exact ⟨h, fun e he => by cases he⟩
    | cons e es ih =>
      intro out o hl hm hp hin
      have hp' : pass es (passE o e) = out := hp
      obtain ⟨i1, i2⟩ := ih out (passE o e) (by rw [passE_len]; exact hl) (fun v hv => passE_mono (hm v hv)) hp' (fun e' he' => hin e' (List.mem_cons_of_mem _ he'))
      have hle : ∀ v : Nat, o[v]? = some true → out[v]? = some true := fun v hv => by rw [← i1]; exact passE_mono hv
      have hoe : o = out := by
        have c1 := (cnt_mono hl hle)
        have c2 := (cnt_mono hl.symm hm)
        exact c1.2 (Nat.le_antisymm c1.1 c2.1)
      refine ⟨hoe, fun e' he' hf => ?_⟩
      rcases List.mem_cons.1 he' with rfl | he'
      · subst hoe
        unfold passE at i1
        rw [if_pos hf] at i1
        have := hin e' (List.mem_cons_self ..)
        rw [← i1, List.getElem?_set, if_pos rfl, if_pos this.2]
      · exact i2 e' he' hf
  exact (key es out out rfl (fun v h => h) h hin).2
/-- what the passes keep -/
structure Pas (g : Gr) (a : Int) (out : List Bool) : Prop where
  len : out.length = (g.r + g.n).toNat
  from_ : out[a.toNat]? = some true
  sound : ∀ v : Nat, out[v]? = some true → Rch g.es a (v : Int)
theorem Pas.stepE {g : Gr} {a : Int} {out : List Bool} {e : Edg} (h : Pas g a out) (he : e ∈ g.es) (h0 : 0 ≤ e.f ∧ 0 ≤ e.t) : Pas g a (passE out e) := by
  refine ⟨by rw [passE_len]; exact h.len, passE_mono h.from_, fun v hv => ?_⟩
  unfold passE at hv
  split at hv
  · rename_i hf
    rw [List.getElem?_set] at hv
    split at hv
    · rename_i e2
      have := h.sound _ hf
      rw [Int.toNat_of_nonneg h0.1] at this
      rw [← e2, Int.toNat_of_nonneg h0.2]
      exact .step e he this
    · exact h.sound v hv
  · exact h.sound v hv
theorem Pas.pass {g : Gr} {a : Int} : ∀ {es : List Edg} {out : List Bool}, Pas g a out → (∀ e ∈ es, e ∈ g.es ∧ 0 ≤ e.f ∧ 0 ≤ e.t) → Pas g a (Pl.pass es out)
  | [], out, h, _ => h
  | e :: es, out, h, he => Pas.pass (es := es) (h.stepE (he e (List.mem_cons_self ..)).1 (he e (List.mem_cons_self ..)).2) (fun e' h' => he e' (List.mem_cons_of_mem _ h'))
/-- after k passes: closed, or more than k nodes marked -/
def Far (g : Gr) (out : List Bool) (k : Nat) : Prop := (∀ e ∈ g.es, out[e.f.toNat]? = some true → out[e.t.toNat]? = some true) ∨ k + 1 ≤ cntT out
theorem Far.next {g : Gr} {out : List Bool} {k : Nat} (h : Far g out k) (hin : ∀ e ∈ g.es, 0 ≤ e.t ∧ e.t.toNat < out.length) : Far g (pass g.es out) (k + 1) := by
  by_cases hf : pass g.es out = out
  · rw [hf]; exact .inl (pass_fix hf hin)
  · have hc := cnt_mono (a := out) (b := pass g.es out) (pass_len _ _).symm (fun v => pass_mono)
    have hlt : cntT out < cntT (pass g.es out) := by
      rcases Nat.lt_or_ge (cntT out) (cntT (pass g.es out)) with h1 | h1
      · exact h1
      · exact absurd (hc.2 (by omega)).symm hf
    rcases h with h | h
    · -- closed already: a pass changes nothing
      exfalso
      apply hf
      have : ∀ (es : List Edg), (∀ e ∈ es, e ∈ g.es) → pass es out = out := by
        intro es
        induction es with
        | nil => exact fun _ => rfl
        | cons e es ih =>
          intro hes
          have hee := hes e (List.mem_cons_self ..)
          have he : passE out e = out := by
            unfold passE
            split
            · rename_i ht
              have hh := h e hee ht
              obtain ⟨q1, q2⟩ := List.getElem?_eq_some_iff.1 hh
              rw [← q2]; exact List.set_getElem_self q1
            · rfl
          show pass es (passE out e) = out
          rw [he]; exact ih fun e' h' => hes e' (List.mem_cons_of_mem _ h')
      exact this g.es fun e h => h
    · exact .inr (by omega)
end Go.Pl
/- The valid graph of edges, as the reference puts it together. -/
namespace Go.Pl
open Go.RT
set_option linter.all false
end Go.Pl
/- Elements that a test holds for are dropped. -/
namespace Go.Pl
set_option linter.all false
def idxAt {α : Type} (p : α → Bool) : Nat → List α → Int
  | _, [] => -1
  | k, x :: l => bif p x then (k : Int) else idxAt p (k + 1) l
end Go.Pl
namespace Go.Pl
set_option linter.all false
/-- binary search: the least place in [i, j) whose element is not below -/
def bsGo {α : Type} (p : α → Bool) (l : List α) (i j : Nat) : Nat :=
  if h : i < j then
    (if h2 : (i + j) / 2 < l.length then
      (bif p l[(i + j) / 2] then bsGo p l ((i + j) / 2 + 1) j else bsGo p l i ((i + j) / 2))
    else i)
  else i
termination_by j - i
theorem bsGo_end {α : Type} (p : α → Bool) (l : List α) (i : Nat) : bsGo p l i i = i := by
  rw [bsGo]; simp
theorem bsGo_step {α : Type} (p : α → Bool) (l : List α) (i j : Nat) (h : i < j) (hj : j ≤ l.length) :
    bsGo p l i j = (bif p (l[(i + j) / 2]'(by omega)) then bsGo p l ((i + j) / 2 + 1) j else bsGo p l i ((i + j) / 2)) := by
  rw [bsGo]; simp [h, show (i + j) / 2 < l.length by omega]
def hitAt {α : Type} (p : α → Bool) (l : List α) (i : Nat) : Bool := match l[i]? with | some e => p e | none => false
theorem bsGo_le {α : Type} (p : α → Bool) (l : List α) : ∀ (n i j : Nat), j - i ≤ n → i ≤ j → j ≤ l.length → i ≤ bsGo p l i j ∧ bsGo p l i j ≤ j
  | n, i, j, hn, hi, hj => by
    rw [bsGo]
    by_cases h : i < j
    · have hm : (i + j) / 2 < l.length := by omega
      simp only [h, hm, dif_pos]
      cases n with
      | zero => omega
      | succ n =>
        cases p l[(i + j) / 2] with
        | true => have := bsGo_le p l n ((i + j) / 2 + 1) j (by omega) (by omega) hj; simp only [cond_true]; omega
        | false => have := bsGo_le p l n i ((i + j) / 2) (by omega) (by omega) (by omega); simp only [cond_false]; omega
    · simp only [h, dif_neg, not_false_eq_true]; omega
/-- over a list on which p is first true and then false -/
theorem bsGo_spec {α : Type} (p : α → Bool) (l : List α) (hm : ∀ a b (ha : a < b) (hb : b < l.length), p l[b] = true → p (l[a]'(by omega)) = true) :
    ∀ (n i j : Nat), j - i ≤ n → (hi : i ≤ j) → (hj : j ≤ l.length) →
      (∀ k (hk : k < i), p (l[k]'(by omega)) = true) → (∀ k (hk : j ≤ k) (hl : k < l.length), p l[k] = false) →
      (∀ k (hk : k < bsGo p l i j) (hl : k < l.length), p l[k] = true) ∧ (∀ k (hk : bsGo p l i j ≤ k) (hl : k < l.length), p l[k] = false)
  | n, i, j, hn, hi, hj, h1, h2 => by
    rw [bsGo]
    by_cases h : i < j
    · have hmm : (i + j) / 2 < l.length := by omega
      simp only [h, hmm, dif_pos]
      cases n with
      | zero => omega
      | succ n =>
        cases hp : p l[(i + j) / 2] with
        | true =>
          simp only [cond_true]
          refine bsGo_spec p l hm n ((i + j) / 2 + 1) j (by omega) (by omega) hj ?_ h2
          intro k hk
          by_cases e : k = (i + j) / 2
          · subst e; exact hp
          · exact hm k ((i + j) / 2) (by omega) hmm hp
        | false =>
          simp only [cond_false]
          refine bsGo_spec p l hm n i ((i + j) / 2) (by omega) (by omega) (by omega) h1 ?_
          intro k hk hl
          by_cases e : k = (i + j) / 2
          · subst e; exact hp
          · cases hq : p l[k] with
            | false => rfl
            | true => have := hm ((i + j) / 2) k (by omega) hl hq; rw [hp] at this; exact absurd this (by simp)
    · simp only [h, dif_neg, not_false_eq_true]
      have : i = j := by omega
      exact ⟨fun k hk _ => h1 k hk, fun k hk hl => h2 k (by omega) hl⟩
end Go.Pl
namespace Go.Pl
theorem hitAt_eq {α : Type} [Inhabited α] (l : List α) (i : Nat) (p : α → Bool) : ∃ q, (i < l.length → l[i]? = some q) ∧ hitAt p l i = (decide ((i : Int) < (l.length : Int)) && p q) := by
  by_cases h : i < l.length
  · exact ⟨l[i], fun _ => List.getElem?_eq_getElem h, by simp [hitAt, h]⟩
  · exact ⟨default, fun h' => absurd h' h, by simp [hitAt, h]⟩
end Go.Pl
namespace Go.Pl
open Go.RT
end Go.Pl
namespace Go.Pl
set_option linter.all false
/-- x put in ahead of place i -/
def insL {α : Type} (l : List α) (i : Nat) (x : α) : List α := l.take i ++ x :: l.drop i
theorem insL_len {α : Type} (l : List α) (i : Nat) (x : α) (h : i ≤ l.length) : (insL l i x).length = l.length + 1 := by simp [insL]; omega
theorem insL_map {α β : Type} (f : α → β) (l : List α) (i : Nat) (x : α) : (insL l i x).map f = insL (l.map f) i (f x) := by simp [insL]
/-- the rows behind the copies of slices.Insert, where it grows -/
theorem ins_grow {β : Type} (l : List β) (i : Nat) (x z : β) (h : i < l.length) :
    (((l.take i ++ List.replicate (l.length + 1 - i) z).take i ++ [x] ++ (l.take i ++ List.replicate (l.length + 1 - i) z).drop (i + 1)).take (i + 1) ++ l.drop i ++
      ((l.take i ++ List.replicate (l.length + 1 - i) z).take i ++ [x] ++ (l.take i ++ List.replicate (l.length + 1 - i) z).drop (i + 1)).drop (i + 1 + (l.length - i))) = insL l i x := by
  have h1 : (l.take i).length = i := by simp; omega
  have e1 : (l.take i ++ List.replicate (l.length + 1 - i) z).take i = l.take i := by rw [List.take_append_of_le_length (by omega), List.take_take]; simp
  rw [e1]
  generalize hd : (l.take i ++ List.replicate (l.length + 1 - i) z).drop (i + 1) = d
  have hdl : d.length = l.length - i := by rw [← hd]; simp; omega
  have h2 : (l.take i ++ [x]).length = i + 1 := by simp; omega
  have e2 : (l.take i ++ [x] ++ d).take (i + 1) = l.take i ++ [x] := by rw [List.take_append_of_le_length (by omega), List.take_of_length_le (by omega)]
  have e3 : (l.take i ++ [x] ++ d).drop (i + 1 + (l.length - i)) = [] := List.drop_of_length_le (by rw [List.length_append, h2, hdl]; omega)
  rw [e2, e3]
  simp [insL]
/-- .. where there is room -/
theorem ins_room {β : Type} (l : List β) (i : Nat) (x : β) (h : i < l.length) :
    ((l.take (i + 1) ++ l.drop i ++ l.drop (i + 1 + (l.length - i))).take i ++ [x] ++ (l.take (i + 1) ++ l.drop i ++ l.drop (i + 1 + (l.length - i))).drop (i + 1)) = insL l i x := by
  have e0 : l.drop (i + 1 + (l.length - i)) = [] := List.drop_of_length_le (by omega)
  have h1 : (l.take (i + 1)).length = i + 1 := by simp; omega
  rw [e0, List.append_nil]
  have e1 : (l.take (i + 1) ++ l.drop i).take i = l.take i := by rw [List.take_append_of_le_length (by omega), List.take_take, Nat.min_eq_left (by omega)]
  have e2 : (l.take (i + 1) ++ l.drop i).drop (i + 1) = l.drop i := by rw [List.drop_append_of_le_length (by omega), List.drop_of_length_le (by omega)]; rfl
  rw [e1, e2]
  simp [insL]
end Go.Pl
/- The kit's contract of slices.SortFunc at elements of one cell, with a closure over frozen data. -/
namespace Go.RT
open Go Go.Proofs Go.Sort Go.Shelf
set_option linter.all false
variable {P : Program} {ρ : Ren}
theorem cmp_lays1 {g : Nat} {β : Type} [Inhabited β] {ev : β → Value} {cf : β → β → Int} {caps : List FV} (hc : ∀ x y, Pure P g ([.lit (ev x), .lit (ev y)] ++ caps) (If .i64 (cf x y))) {blk off size : Nat} {w : World} {S : Nat → Prop} {cb : Array Value} (hblk : ¬ S blk) (hS : ∀ b, S b → b < w.heap.size)
    (hcl : cb.size = caps.length) (hcr : ∀ (i : Nat) (v : Value) (f : FV), cb[i]? = some v → caps[i]? = some f → FRep w S v f) {c : Array Value} {e : TypeId} (hb : w.heap[blk]? = some (.cells c e (0, 0))) : CmpLays1 P g cb ev cf blk off size w := by
  intro m os dk _ x y
  have hsame : ∀ b, S b → (sortWorld ev w blk off m dk os).heap[b]? = w.heap[b]? := fun b hs => by
    have hbl := hS b hs
    have hne : b ≠ blk := fun e => hblk (e ▸ hs)
    unfold sortWorld putRow
    rw [mapBlock_setRow (w := Go.Sort.ahead w m) (b := blk) (c := c) (e := e) (fr := (0, 0)) _ hb]
    have : (grow ((Go.Sort.ahead w m).setRow blk (putCells ev off dk c)) os) = grown (w.setRow blk (putCells ev off dk c)) os m := rfl
    rw [this, grown_old _ _ _ (by simpa using hbl), setRow_other w blk b _ hne]
  have hsz : w.heap.size ≤ (sortWorld ev w blk off m dk os).heap.size := by
    unfold sortWorld putRow
    rw [mapBlock_setRow (w := Go.Sort.ahead w m) (b := blk) (c := c) (e := e) (fr := (0, 0)) _ hb]
    have : (grow ((Go.Sort.ahead w m).setRow blk (putCells ev off dk c)) os) = grown (w.setRow blk (putCells ev off dk c)) os m := rfl
    rw [this]; simp [grown]
  generalize sortWorld ev w blk off m dk os = W at hsame hsz
  let C : Cx := ⟨W, fun _ => False, S, fun _ => none, 0⟩
  have hm : Mem C [] 0 C.S0 C.m0 C.w0 := ⟨⟨rfl, Nat.le_refl _⟩, rfl, rfl, fun _ _ => rfl, Nat.le_refl _, fun _ _ _ => rfl, Le.refl _ _ _, fun b h => .inl h, fun i x hx => (by cases hx), fun i o h => (by cases h), fun i o b h => (by cases h), fun i j o1 o2 b h => (by cases h), fun b hb => Nat.lt_of_lt_of_le (hS b hb) hsz, fun _ _ => rfl, nst_nil⟩
  have := (hc x y).run C ([ev x, ev y] ++ cb.toList) rfl hm (by simp [hcl]) (fun i v p hi hp => by
    rw [List.getElem?_map] at hp
    obtain ⟨f, hf, rfl⟩ := Option.map_eq_some_iff.1 hp
    match i with
    | 0 => simp at hi hf; subst hi; subst hf; exact .fz _ _ (.lit _)
    | 1 => simp at hi hf; subst hi; subst hf; exact .fz _ _ (.lit _)
    | i + 2 =>
      simp at hi hf
      exact .fz _ _ ((hcr i v f hi hf).mono (fun _ h => h) hsame))
  have h2 : Calls P g (#[ev x, ev y] ++ cb) W (fun e w' => ∃ v S' m', e = .returned v ∧ Mem C [] 0 S' m' w' ∧ Rep w' S' m' v (.fz (If .i64 (cf x y)))) := by
    have e1 : ([ev x, ev y] ++ cb.toList).toArray = #[ev x, ev y] ++ cb := by simp
    rw [e1] at this; exact this
  refine h2.mono fun e w' ⟨v, S', m', he, hm', hr⟩ => ?_
  obtain ⟨q, os', hw⟩ := hm'.is_grown (fun b h => h)
  refine ⟨by rw [he]; cases hr with | fz _ _ h => cases h; rfl, q, os', hw⟩
theorem sort1_meets (L : SlLaysF.n6 P ρ) {β : Type} [Inhabited β] {ev : β → Value} (h1 : OneCell ev) {cf : β → β → Int} (hO : SWO (ltOf cf)) {g : Nat} [FnB P g] {caps : List FV}
    (hc : ∀ x y, Pure P g ([.lit (ev x), .lit (ev y)] ++ caps) (If .i64 (cf x y))) {l : List β} (hl : l.length < 4611686018427387904) :
    Meets P (ρ.f 6) [.sl 0 1 0 l.length, .fz (.clo g caps)] 1 [(0, some (.flat 1 (l.map fun x => [.lit (ev x)])))] (.fz (.tup [])) [(0, some (.flat 1 ((sortBy cf l).map fun x => [.lit (ev x)])))] 1 := by
  refine ⟨fun C vs hn hm hlv hr => ?_⟩
  have hg : ∀ args w, (callFunc g args).run P w = .ok (.enter g args) w := fun args w => by
    obtain ⟨fn, q1, q2, q3⟩ := (inferInstance : FnB P g).h
    have h4 : ¬ (fn.body = none) := by intro e; rw [e] at q3; cases q3
    have h5 : ¬ (fn.name = "runtime.NumGoroutine") := by simpa using q2
    simp [callFunc, q1, h4, h5]
  have tupR : ∀ w' S' m', Rep w' S' m' (.tuple #[]) (.fz (.tup [])) := fun w' S' m' => .fz _ _ (.tup #[] [] rfl (fun i c f hc => by simp at hc))
  match vs, hlv, hr with
  | [v0, v1], _, hr =>
  have r0 := hr 0 v0 _ rfl rfl
  have r1 := (hr 1 v1 _ rfl rfl).frz
  have ho := hm.objs 0 _ rfl
  obtain ⟨hs1, hs2, _⟩ := sortBy_spec cf hO l
  cases r1 with
  | clo _ cb _ hcl hcr =>
  generalize hll : l.length = n at r0 hl
  cases r0 with
  | sl0 =>
    have : l = [] := List.length_eq_zero_iff.1 hll
    subst this
    have e : sortBy cf ([] : List β) = [] := List.length_eq_zero_iff.1 hs2
    rw [e]
    refine (AnyF.slices_SortFunc_none (P := P) (ρ := ρ) { L with } none 0 (.func (.func g) #[] cb) C.w0).mono fun e w' ⟨he, hw⟩ => ?_
    subst hw
    exact ⟨_, _, _, he, hm, tupR _ _ _⟩
  | sl _ _ _ _ b cap h hroom hcap hmx =>
    rcases ho with ⟨h2, _⟩ | ⟨b', c, e, h2, h3, h4⟩
    · rw [h] at h2; cases h2
    · rw [h] at h2; cases h2
      obtain ⟨hsz, _, hR⟩ := h4
      obtain ⟨hb1, hb2, hb3⟩ := hm.blk 0 _ b rfl h
      have hcells : ∀ j (hj : j < l.length), c[j]? = some (ev l[j]) := fun j hj => by
        obtain ⟨u, hu, _, hf⟩ := hR j 0 [.lit (ev l[j])] (.lit (ev l[j])) (by simp [hj]) rfl
        cases hf
        simpa using hu
      have hH : Holds ev C.w0 b (0 * 1) l.toArray := by
        intro j hj
        simp at hj
        refine ⟨?_, ?_⟩
        · simp only [World.cell?, h3, Nat.zero_mul, Nat.zero_add]
          rw [getElem!_pos _ j (by simpa using hj)]
          simpa using hcells j hj
        · simp [World.frozen?, h3]
      have hcall := Any.slices_SortFunc_eq L ev h1 cf hO g cb b (0 * 1) cap l.toArray C.w0 hg (cmp_lays1 hc hb1 hm.stab hcl hcr h3) hH hb2 (by simpa [hll] using hl)
      rw [show l.toArray.size = n by simpa using hll] at hcall
      refine hcall.mono fun ex w' ⟨he, q, os, hw⟩ => ?_
      subst hw
      have hd : pdq (ltOf cf) l.toArray 0 n (Lib.bitLen n) true true = (sortBy cf l).toArray := by rw [← hll]; simp [sortBy]
      rw [hd]
      have hset : sortWorld ev C.w0 b (0 * 1) q (sortBy cf l).toArray os = grown (C.w0.setRow b (putCells ev 0 (sortBy cf l).toArray c)) os q := by
        unfold sortWorld putRow
        rw [mapBlock_setRow (w := Go.Sort.ahead C.w0 q) (b := b) (c := c) (e := e) (fr := (0, 0)) _ h3, Nat.zero_mul]
        rfl
      rw [hset]
      have hps : (putCells ev 0 (sortBy cf l).toArray c).size = c.size := by simp [putCells]
      have hrr : ∀ w' : World, RowsRep (FRep w' C.S0) (putCells ev 0 (sortBy cf l).toArray c) 1 ((sortBy cf l).map fun x => [FV.lit (ev x)]) := fun w' => by
        refine ⟨by rw [hps]; simpa [hs2] using hsz, fun r hr => ?_, fun i j r p hi hj => ?_⟩
        · obtain ⟨x, _, rfl⟩ := List.mem_map.1 hr
          rfl
        · rw [List.getElem?_map] at hi
          obtain ⟨x, hx, rfl⟩ := Option.map_eq_some_iff.1 hi
          have hin : i < (sortBy cf l).length := (List.getElem?_eq_some_iff.1 hx).1
          match j, hj with
          | 0, hj =>
            cases hj
            have hlt2 : i < c.size := by simp at hsz; omega
            refine ⟨ev x, ?_, h1 x, .lit _⟩
            unfold putCells
            rw [Nat.mul_one, Nat.add_zero, Array.getElem?_mapIdx, Array.getElem?_eq_getElem hlt2]
            simp only [Option.map_some, Nat.zero_le, true_and, Nat.zero_add, List.size_toArray, Nat.sub_zero]
            rw [if_pos hin, getElem!_pos _ i (by simpa using hin)]
            rw [List.getElem?_eq_getElem hin] at hx
            cases hx; simp
          | j + 1, hj => simp at hj
      obtain ⟨m1, hle1⟩ := hm.write (id := 0) (o' := .flat 1 ((sortBy cf l).map fun x => [.lit (ev x)])) rfl h h3 hps (plain_hown (by exact trivial)) (fun w' hle hb => .inr ⟨b, _, e, h, hb, hrr w'⟩)
      refine ⟨_, _, _, he, ((m1.reheap (H' := [(0, some (.flat 1 ((sortBy cf l).map fun x => [.lit (ev x)])))]) (fun id => ?_)).grow os q).1, tupR _ _ _⟩
      simp only [hlook]
      cases Nat.beq 0 id <;> rfl
end Go.RT
namespace Go.Proofs.Ytgbfkpcigipniaa
open Go Go.RT Go.Proofs Go.Pl
set_option linter.all false
set_option maxRecDepth 20000
set_option maxHeartbeats 2000000
instance : FnOv Try.prog 72 25   := ⟨_, 4, Try.func72, by decide +kernel, rfl, by kernel_rfl, by kernel_rfl⟩
theorem inserti_c (l : List Int) (x : Int) (i : Nat) (hn : l.length ≤ 2000000) (hi : i ≤ l.length) : Meets Try.prog 57 [.sl 0 1 0 l.length, IV .i64 i, .sl 1 1 0 1] 2 [(0, OI l), (1, OI [x])] (.sl 2 1 0 (l.length + 1)) [(2, OI (insL l i x))] 3 := by
  have hil := insL_len l i x hi
  have e0 : ∀ xs ys : List Int, List.map encN (xs ++ ys) = xs.map encN ++ ys.map encN := fun xs ys => List.map_append
  refine Meets.intro Try.func57 rfl (Nat.le_of_ble_eq_true rfl) fun C hC => ?_
  simp only [List.map, argEnv, Nat.reduceAdd]
  by_cases hie : i = l.length
  · refine nK ?_
    refine s_reg rfl ?_
    refine Run.pure (dd := some 6) rfl rfl (op_assign rfl (Opd.const _)) ?_
    refine Run.nil (FinR.mk ?_)
    refine nK ?_
    refine s_reg rfl ?_
    refine Run.pure (dd := some 10) rfl rfl (op_move rfl (Opd.tmp _ _ rfl)) ?_
    refine Run.pure (dd := some 11) rfl rfl (op_move rfl (Opd.tmp _ _ rfl)) ?_
    refine Run.load (dd := some 12) rfl rfl (op_slice_end (l := i) (h := l.length) rfl (Opd.tmp _ _ rfl) (Bnd.yes _ _ _ _ _ (Opd.tmp _ _ rfl) tQ) (Bnd.no _) (by intro _; refine ⟨rfl, ?_⟩; rw [List.length_map]; omega)) ?_
    refine Run.nil (FinR.mk ?_)
    refine nK ?_
    refine s_reg rfl ?_
    refine Run.pure (dd := some 13) rfl rfl (op_move rfl (Opd.tmp _ _ rfl)) ?_
    refine Run.pure (dd := some 14) rfl rfl (op_len_sl rfl (Opd.tmp _ _ rfl)) ?_
    refine Run.pure (dd := some 7) rfl rfl (op_assign rfl (Opd.tmp _ _ rfl)) ?_
    refine Run.nil (FinR.mk ?_)
    refine nK ?_
    refine s_reg rfl ?_
    refine Run.pure (dd := some 15) rfl rfl (op_move rfl (Opd.tmp _ _ rfl)) ?_
    refine Run.pure (dd := some 16) rfl rfl (op_eql rfl (Opd.tmp _ _ rfl) (Opd.const _)) ?_
    refine Run.nil (FinR.mk ?_)
    refine nK ?_
    refine n_cond _ rfl (fun hb => ?_) (fun hb => ?_)
    · simp at hb
    · refine nK ?_
      refine s_reg rfl ?_
      refine Run.pure (dd := some 18) rfl rfl (op_move rfl (Opd.tmp _ _ rfl)) ?_
      refine Run.pure (dd := some 19) rfl rfl (op_len_sl rfl (Opd.tmp _ _ rfl)) ?_
      refine Run.pure (dd := some 8) rfl rfl (op_assign rfl (Opd.tmp _ _ rfl)) ?_
      refine Run.nil (FinR.mk ?_)
      refine nK ?_
      refine s_reg rfl ?_
      refine Run.pure (dd := some 20) rfl rfl (op_move rfl (Opd.tmp _ _ rfl)) ?_
      refine Run.pure (dd := some 21) rfl rfl (op_move rfl (Opd.tmp _ _ rfl)) ?_
      refine Run.pure (dd := some 22) rfl rfl (op_eql rfl (Opd.tmp _ _ rfl) (Opd.tmp _ _ rfl)) ?_
      refine Run.nil (FinR.mk ?_)
      refine nK ?_
      refine n_cond _ rfl (fun hb => ?_) (fun hb => ?_)
      · have e4 : insL l i x = l ++ [x] := by rw [hie]; simp [insL]
        refine nK ?_
        refine s_reg rfl ?_
        refine Run.pure (dd := some 23) rfl rfl (op_move rfl (Opd.tmp _ _ rfl)) ?_
        refine Run.pure (dd := some 24) rfl rfl (op_move rfl (Opd.tmp _ _ rfl)) ?_
        refine Run.eff (dd := some 25) rfl rfl (op_append_own0 rfl (Opd.tmp _ _ rfl) (Opd.tmp _ _ rfl) rfl (by first | rfl | simp) rfl (by first | rfl | simp) rfl rfl tB tB) ?_
        refine Run.pure (dd := some 6) rfl rfl (op_assign rfl (Opd.tmp _ _ rfl)) ?_
        refine Run.nil (FinR.mk ?_)
        refine nK ?_
        refine Next.weakS [0, 2, 6] [] (by rfl) (keepsN hC _ rfl) (G' := [(6, .sl 2 1 0 (l.length + 1))]) (H' := [(2, OI (insL l i x))]) (by exact ⟨⟨_, rfl, .inl ⟨rfl, rfl⟩⟩, trivial⟩) (by exact ⟨ent_same rfl rfl (by rw [e4, e0]; rfl) trivial, trivial⟩) rfl ?_
        exact n_out1 rfl (by rfl) rfl rfl
      · exfalso; simp at hb; omega
  · refine nK ?_
    refine s_reg rfl ?_
    refine Run.pure (dd := some 6) rfl rfl (op_assign rfl (Opd.const _)) ?_
    refine Run.nil (FinR.mk ?_)
    refine nK ?_
    refine s_reg rfl ?_
    refine Run.pure (dd := some 10) rfl rfl (op_move rfl (Opd.tmp _ _ rfl)) ?_
    refine Run.pure (dd := some 11) rfl rfl (op_move rfl (Opd.tmp _ _ rfl)) ?_
    refine Run.load (dd := some 12) rfl rfl (op_slice_view (l := i) (h := l.length) rfl (Opd.tmp _ _ rfl) (Bnd.yes _ _ _ _ _ (Opd.tmp _ _ rfl) tQ) (Bnd.no _) (by intro _; refine ⟨rfl, ?_⟩; rw [List.length_map]; omega)) ?_
    refine Run.nil (FinR.mk ?_)
    refine nK ?_
    refine s_reg rfl ?_
    refine Run.pure (dd := some 13) rfl rfl (op_move rfl (Opd.tmp _ _ rfl)) ?_
    refine Run.pure (dd := some 14) rfl rfl (op_len_sl rfl (Opd.tmp _ _ rfl)) ?_
    refine Run.pure (dd := some 7) rfl rfl (op_assign rfl (Opd.tmp _ _ rfl)) ?_
    refine Run.nil (FinR.mk ?_)
    refine nK ?_
    refine s_reg rfl ?_
    refine Run.pure (dd := some 15) rfl rfl (op_move rfl (Opd.tmp _ _ rfl)) ?_
    refine Run.pure (dd := some 16) rfl rfl (op_eql rfl (Opd.tmp _ _ rfl) (Opd.const _)) ?_
    refine Run.nil (FinR.mk ?_)
    refine nK ?_
    refine n_cond _ rfl (fun hb => ?_) (fun hb => ?_)
    · simp at hb
    · refine nK ?_
      refine s_reg rfl ?_
      refine Run.pure (dd := some 18) rfl rfl (op_move rfl (Opd.tmp _ _ rfl)) ?_
      refine Run.pure (dd := some 19) rfl rfl (op_len_sl rfl (Opd.tmp _ _ rfl)) ?_
      refine Run.pure (dd := some 8) rfl rfl (op_assign rfl (Opd.tmp _ _ rfl)) ?_
      refine Run.nil (FinR.mk ?_)
      refine nK ?_
      refine s_reg rfl ?_
      refine Run.pure (dd := some 20) rfl rfl (op_move rfl (Opd.tmp _ _ rfl)) ?_
      refine Run.pure (dd := some 21) rfl rfl (op_move rfl (Opd.tmp _ _ rfl)) ?_
      refine Run.pure (dd := some 22) rfl rfl (op_eql rfl (Opd.tmp _ _ rfl) (Opd.tmp _ _ rfl)) ?_
      refine Run.nil (FinR.mk ?_)
      refine nK ?_
      refine n_cond _ rfl (fun hb => ?_) (fun hb => ?_)
      · exfalso; simp at hb; omega
      · refine Next.capE 0 rfl rfl rfl (Nat.zero_le _) fun cap hc1 hc2 hc3 => ?_
        unfold maxLen at hc3
        refine nK ?_
        refine s_reg rfl ?_
        refine Run.pure (dd := some 26) rfl rfl (op_move rfl (Opd.tmp _ _ rfl)) ?_
        refine Run.pure (dd := some 27) rfl rfl (op_move rfl (Opd.tmp _ _ rfl)) ?_
        refine Run.pure (dd := some 28) rfl rfl (op_add rfl (Opd.tmp _ _ rfl) (Opd.tmp _ _ rfl) tI) ?_
        refine Run.pure (dd := some 29) rfl rfl (op_move rfl (Opd.tmp _ _ rfl)) ?_
        refine Run.pure (dd := some 30) rfl rfl (op_cap rfl (Opd.tmp _ _ rfl)) ?_
        refine Run.pure (dd := some 31) rfl rfl (op_gtr rfl (Opd.tmp _ _ rfl) (Opd.tmp _ _ rfl)) ?_
        refine Run.nil (FinR.mk ?_)
        refine nK ?_
        refine n_cond _ rfl (fun hb => ?_) (fun hb => ?_)
        · have hc4 : cap < l.length + 1 := by simp at hb; omega
          have hlen2 : ((l.map encN).take i ++ List.replicate (l.length + 1 - i) (encN 0)).length = l.length + 1 := by simp; omega
          refine nK ?_
          refine s_reg rfl ?_
          refine Run.pure (dd := some 32) rfl rfl (op_move rfl (Opd.tmp _ _ rfl)) ?_
          refine Run.pure (dd := some 33) rfl rfl (op_move rfl (Opd.tmp _ _ rfl)) ?_
          refine Run.pure (dd := some 34) rfl rfl (op_slice_room (h := i) rfl (Opd.tmp _ _ rfl) (Bnd.yes _ _ _ _ _ (Opd.tmp _ _ rfl) tQ) (by intro _; omega)) ?_
          refine Run.pure (dd := some 35) rfl rfl (op_move rfl (Opd.tmp _ _ rfl)) ?_
          refine Run.pure (dd := some 36) rfl rfl (op_move rfl (Opd.tmp _ _ rfl)) ?_
          refine Run.pure (dd := some 37) rfl rfl (op_add rfl (Opd.tmp _ _ rfl) (Opd.tmp _ _ rfl) tI) ?_
          refine Run.pure (dd := some 38) rfl rfl (op_move rfl (Opd.tmp _ _ rfl)) ?_
          refine Run.pure (dd := some 39) rfl rfl (op_sub rfl (Opd.tmp _ _ rfl) (Opd.tmp _ _ rfl) tI) ?_
          refine Run.eff (dd := some 40) rfl rfl (op_append_zg (k := l.length + 1 - i) (zs := encN 0) rfl (Opd.tmp _ _ rfl) (opdI (Opd.tmp _ _ rfl) (by omega)) rfl rfl rfl rfl rfl (by rw [List.length_map]; omega) (by omega) (by omega) (by omega) (by omega)) ?_
          refine Run.pure (dd := some 9) rfl rfl (op_assign rfl (Opd.tmp _ _ rfl)) ?_
          refine Run.nil (FinR.mk ?_)
          refine nK ?_
          have hz : ∀ k : Nat, (some (Ob.flat 1 ((l.map encN).take i ++ List.replicate k [If .i64 0]))) = some (.flat 1 ((l.map encN).take i ++ List.replicate k (encN 0))) := fun _ => rfl
          refine nK ?_
          refine s_reg rfl ?_
          refine Run.pure (dd := some 41) rfl rfl (op_move rfl (Opd.tmp _ _ rfl)) ?_
          refine Run.pure (dd := some 42) rfl rfl (op_move rfl (Opd.tmp _ _ rfl)) ?_
          refine Run.load (dd := some 43) rfl rfl (op_slice_view (l := i) (h := i + (l.length + 1 - i)) rfl (Opd.tmp _ _ rfl) (Bnd.yes _ _ _ _ _ (Opd.tmp _ _ rfl) tQ) (Bnd.no _) (by intro _; refine ⟨rfl, ?_⟩; rw [hlen2]; omega)) ?_
          refine Run.pure (dd := some 44) rfl rfl (op_move rfl (Opd.tmp _ _ rfl)) ?_
          refine Run.eff (dd := some 45) rfl rfl (op_copy (n := 1) (rs := [x].map encN) rfl (Opd.tmp _ _ rfl) (Opd.tmp _ _ rfl) rfl rfl (by show min _ _ = _; omega) rfl rfl (by rw [hlen2]; omega)) ?_
          refine Run.nil (FinR.mk ?_)
          refine nK ?_
          have hlen3 : (((l.map encN).take i ++ List.replicate (l.length + 1 - i) (encN 0)).take (0 + i) ++ [x].map encN ++ ((l.map encN).take i ++ List.replicate (l.length + 1 - i) (encN 0)).drop (0 + i + 1)).length = l.length + 1 := by simp; omega
          refine nK ?_
          refine s_draw mixed ?_
          refine Run.pure (dd := some 46) rfl rfl (op_move rfl (Opd.tmp _ _ rfl)) ?_
          refine Run.pure (dd := some 47) rfl rfl (op_move rfl (Opd.tmp _ _ rfl)) ?_
          refine Run.pure (dd := some 48) rfl rfl (op_move rfl (Opd.tmp _ _ rfl)) ?_
          refine Run.pure (dd := some 49) rfl rfl (op_add rfl (Opd.tmp _ _ rfl) (Opd.tmp _ _ rfl) tI) ?_
          refine Run.load (dd := some 50) rfl rfl (op_slice_view (l := i + 1) (h := i + (l.length + 1 - i)) rfl (Opd.tmp _ _ rfl) (Bnd.yes _ _ _ _ _ (Opd.tmp _ _ rfl) tQ) (Bnd.no _) (by intro _; refine ⟨rfl, ?_⟩; rw [hlen3]; omega)) ?_
          refine Run.pure (dd := some 51) rfl rfl (op_move rfl (Opd.tmp _ _ rfl)) ?_
          refine Run.pure (dd := some 52) rfl rfl (op_move rfl (Opd.tmp _ _ rfl)) ?_
          refine Run.load (dd := some 53) rfl rfl (op_slice_view (l := i) (h := l.length) rfl (Opd.wc _ _ _ (Opd.tmp _ _ rfl)) (Bnd.yes _ _ _ _ _ (Opd.tmp _ _ rfl) tQ) (Bnd.no _) (by intro _; refine ⟨rfl, ?_⟩; rw [List.length_map]; omega)) ?_
          refine Run.effW (dd := some 54) rfl rfl (op_copy (n := l.length - i) (rs := (l.map encN).drop i) rfl (Opd.tmp _ _ rfl) (Opd.tmp _ _ rfl) rfl rfl (by show min _ _ = _; omega) (by rw [Nat.zero_add, List.take_of_length_le (by simp)]) (by simp) (by rw [hlen3]; omega)) tE ?_
          refine Run.nil (FinD.mk (by kernel_rfl) ?_)
          refine nK ?_
          have hgr := ins_grow (l.map encN) i (encN x) (encN 0) (by rw [List.length_map]; omega)
          rw [List.length_map, ← insL_map] at hgr
          refine nK ?_
          refine s_reg rfl ?_
          refine Run.pure (dd := some 55) rfl rfl (op_move rfl (Opd.tmp _ _ rfl)) ?_
          refine Run.pure (dd := some 6) rfl rfl (op_assign rfl (Opd.tmp _ _ rfl)) ?_
          refine Run.nil (FinR.mk ?_)
          refine nK ?_
          refine Next.weakS [0, 2, 6] [] (by rfl) (keepsN hC _ rfl) (G' := [(6, .sl 2 1 0 (l.length + 1))]) (H' := [(2, OI (insL l i x))]) (by exact ⟨⟨_, rfl, .inl ⟨slEq rfl (by omega), rfl⟩⟩, trivial⟩) (by exact ⟨ent_same rfl rfl (by rw [← hgr]; simp only [Nat.zero_add]; rfl) trivial, trivial⟩) rfl ?_
          exact n_out1 rfl (by rfl) rfl rfl
        · have hc4 : l.length + 1 ≤ cap := by simp at hb; omega
          refine nK ?_
          refine s_reg rfl ?_
          refine Run.pure (dd := some 56) rfl rfl (op_move rfl (Opd.tmp _ _ rfl)) ?_
          refine Run.pure (dd := some 57) rfl rfl (op_move rfl (Opd.tmp _ _ rfl)) ?_
          refine Run.pure (dd := some 58) rfl rfl (op_move rfl (Opd.tmp _ _ rfl)) ?_
          refine Run.pure (dd := some 59) rfl rfl (op_add rfl (Opd.tmp _ _ rfl) (Opd.tmp _ _ rfl) tI) ?_
          refine Run.pure (dd := some 60) rfl rfl (op_slice_room (h := l.length + 1) rfl (Opd.tmp _ _ rfl) (Bnd.yes _ _ _ _ _ (Opd.tmp _ _ rfl) (by intro _; simp)) (by intro _; omega)) ?_
          refine Run.pure (dd := some 0) rfl rfl (op_assign rfl (Opd.tmp _ _ rfl)) ?_
          refine Run.nil (FinR.mk ?_)
          refine nK ?_
          refine nK ?_
          refine s_reg rfl ?_
          refine Run.pure (dd := some 61) rfl rfl (op_move rfl (Opd.tmp _ _ rfl)) ?_
          refine Run.pure (dd := some 62) rfl rfl (op_move rfl (Opd.tmp _ _ rfl)) ?_
          refine Run.pure (dd := some 63) rfl rfl (op_move rfl (Opd.tmp _ _ rfl)) ?_
          refine Run.pure (dd := some 64) rfl rfl (op_move rfl (Opd.tmp _ _ rfl)) ?_
          refine Run.pure (dd := some 65) rfl rfl (op_add rfl (Opd.tmp _ _ rfl) (Opd.tmp _ _ rfl) tI) ?_
          refine Run.pure (dd := some 66) rfl rfl (op_slice_fromR (l := i + 1) rfl (Opd.tmp _ _ rfl) (Bnd.yes _ _ _ _ _ (Opd.tmp _ _ rfl) tQ) (by intro _; omega)) ?_
          refine Run.load (dd := some 67) rfl rfl (op_overlaps rfl (Opd.tmp _ _ rfl) (Opd.tmp _ _ rfl) rfl rfl rfl (by rw [List.length_map]; omega) rfl) ?_
          refine Run.pure (dd := some 68) rfl rfl (op_not rfl (Opd.tmp _ _ rfl)) ?_
          refine Run.nil (FinR.mk ?_)
          refine nK ?_
          refine n_cond _ rfl (fun hb => ?_) (fun hb => ?_)
          · refine nK ?_
            refine s_draw mixed ?_
            refine Run.pure (dd := some 69) rfl rfl (op_move rfl (Opd.tmp _ _ rfl)) ?_
            refine Run.pure (dd := some 70) rfl rfl (op_move rfl (Opd.tmp _ _ rfl)) ?_
            refine Run.pure (dd := some 71) rfl rfl (op_move rfl (Opd.tmp _ _ rfl)) ?_
            refine Run.pure (dd := some 72) rfl rfl (op_add rfl (Opd.tmp _ _ rfl) (Opd.tmp _ _ rfl) tI) ?_
            refine Run.pure (dd := some 73) rfl rfl (op_slice_fromR (l := i + 1) rfl (Opd.tmp _ _ rfl) (Bnd.yes _ _ _ _ _ (Opd.tmp _ _ rfl) tQ) (by intro _; omega)) ?_
            refine Run.pure (dd := some 74) rfl rfl (op_move rfl (Opd.tmp _ _ rfl)) ?_
            refine Run.pure (dd := some 75) rfl rfl (op_move rfl (Opd.tmp _ _ rfl)) ?_
            refine Run.pure (dd := some 76) rfl rfl (op_slice_fromR (l := i) rfl (Opd.tmp _ _ rfl) (Bnd.yes _ _ _ _ _ (Opd.tmp _ _ rfl) tQ) (by intro _; omega)) ?_
            refine Run.effW (dd := some 77) rfl rfl (op_copy (n := l.length - i) (rs := (l.map encN).drop i) rfl (Opd.tmp _ _ rfl) (Opd.tmp _ _ rfl) rfl rfl (by show min _ _ = _; omega) (by rw [Nat.zero_add, List.take_of_length_le (by simp)]) (by simp) (by rw [List.length_map]; omega)) tE ?_
            refine Run.nil (FinD.mk (by kernel_rfl) ?_)
            refine nK ?_
            have hl5 : ((l.map encN).take (0 + (i + 1)) ++ (l.map encN).drop i ++ (l.map encN).drop (0 + (i + 1) + (l.length - i))).length = l.length + 1 := by simp; omega
            have hgr := ins_room (l.map encN) i (encN x) (by rw [List.length_map]; omega)
            rw [List.length_map, ← insL_map] at hgr
            refine nK ?_
            refine s_reg rfl ?_
            refine Run.pure (dd := some 78) rfl rfl (op_move rfl (Opd.tmp _ _ rfl)) ?_
            refine Run.pure (dd := some 79) rfl rfl (op_move rfl (Opd.tmp _ _ rfl)) ?_
            refine Run.load (dd := some 80) rfl rfl (op_slice_view (l := i) (h := l.length + 1) rfl (Opd.wc _ _ _ (Opd.tmp _ _ rfl)) (Bnd.yes _ _ _ _ _ (Opd.tmp _ _ rfl) tQ) (Bnd.no _) (by intro _; refine ⟨rfl, ?_⟩; rw [hl5]; omega)) ?_
            refine Run.pure (dd := some 81) rfl rfl (op_move rfl (Opd.tmp _ _ rfl)) ?_
            refine Run.eff (dd := some 82) rfl rfl (op_copy (n := 1) (rs := [x].map encN) rfl (Opd.tmp _ _ rfl) (Opd.tmp _ _ rfl) rfl rfl (by show min _ _ = _; omega) rfl rfl (by rw [hl5]; omega)) ?_
            refine Run.nil (FinR.mk ?_)
            refine nK ?_
            refine s_reg rfl ?_
            refine Run.pure (dd := some 83) rfl rfl (op_move rfl (Opd.tmp _ _ rfl)) ?_
            refine Run.pure (dd := some 6) rfl rfl (op_assign rfl (Opd.tmp _ _ rfl)) ?_
            refine Run.nil (FinR.mk ?_)
            refine nK ?_
            refine Next.unwc 6 rfl ?_
            refine Next.retag 6 rfl rfl ?_
            refine Next.weakS [0, 2, 6] [] (by rfl) (keepsN hC _ rfl) (G' := [(6, .sl 2 1 0 (l.length + 1))]) (H' := [(2, OI (insL l i x))]) (by exact ⟨⟨_, rfl, .inl ⟨rfl, rfl⟩⟩, trivial⟩) (by exact ⟨ent_same rfl rfl (by rw [← hgr]; simp only [Nat.zero_add]; rfl) trivial, trivial⟩) rfl ?_
            exact n_out1 rfl (by rfl) rfl rfl
          · exfalso; simp at hb
end Go.Proofs.Ytgbfkpcigipniaa
namespace Go.Proofs.Ytgbfkpcigipniaa
open Go Go.RT Go.Proofs Go.Pl
set_option linter.all false
set_option maxRecDepth 20000
set_option maxHeartbeats 2000000
theorem snan_c (a : Int) : Pure Try.prog 71 [If .i64 a] (Bf false) := by
  refine Meets.intro Try.func71 rfl (Nat.le_of_ble_eq_true rfl) fun C hC => ?_
  simp only [List.map, argEnv, Nat.reduceAdd]
  refine nK ?_
  refine s_reg rfl ?_
  refine Run.pure (dd := some 2) rfl rfl (op_assign rfl (Opd.const _)) ?_
  refine Run.nil (FinR.mk ?_)
  refine nK ?_
  refine s_reg rfl ?_
  refine Run.pure (dd := some 3) rfl rfl (op_move rfl (Opd.tmp _ _ rfl)) ?_
  refine Run.pure (dd := some 4) rfl rfl (op_move rfl (Opd.tmp _ _ rfl)) ?_
  refine Run.pure (dd := some 5) rfl rfl (op_neq rfl (Opd.tmp _ _ rfl) (Opd.tmp _ _ rfl)) ?_
  refine Run.pure (dd := some 2) rfl rfl (op_assign rfl (Opd.tmp _ _ rfl)) ?_
  refine Run.nil (FinR.mk ?_)
  refine nK ?_
  refine Next.weakS [] [] (by rfl) (keeps0 hC _) (G' := [(2, BV false)]) (H' := []) ⟨⟨_, rfl, .inl ⟨by simp [renP], rfl⟩⟩, trivial⟩ trivial rfl ?_
  (first | exact s_o1 hC rfl tV | exact s_o2 hC rfl tV tV | exact s_o3 hC rfl tV tV tV | exact s_out0 hC rfl | exact s_outO hC rfl rfl rfl)
theorem cless_c (a b : Int) : Pure Try.prog 70 [If .i64 a, If .i64 b] (Bf (decide (a < b))) := by
  refine Meets.intro Try.func70 rfl (Nat.le_of_ble_eq_true rfl) fun C hC => ?_
  simp only [List.map, argEnv, Nat.reduceAdd]
  refine nK ?_
  refine s_reg rfl ?_
  refine Run.pure (dd := some 4) rfl rfl (op_assign rfl (Opd.const _)) ?_
  refine Run.nil (FinR.mk ?_)
  refine nK ?_
  refine s_reg rfl ?_
  refine Run.pure (dd := some 5) rfl rfl (op_move rfl (Opd.tmp _ _ rfl)) ?_
  refine Run.pure (dd := some 6) rfl rfl (op_call_pure (fun _ => nan_c _) rfl (Opd.func _) (Opds.cons _ _ _ _ (Opd.tmp _ _ rfl) Opds.nil)) ?_
  refine Run.pure (dd := some 7) rfl rfl (op_move rfl (Opd.tmp _ _ rfl)) ?_
  refine Run.pureG (dd := some 8) rfl rfl rfl tG (op_move rfl (Opd.tmp _ _ rfl)) ?_
  refine Run.pureG (dd := some 9) rfl rfl rfl tG (op_call_pure (fun _ => nan_c _) rfl (Opd.func _) (Opds.cons _ _ _ _ (Opd.topt _ _ _ rfl tO) Opds.nil)) ?_
  refine Run.pureG (dd := some 10) rfl rfl rfl tG (op_not rfl (Opd.topt _ _ _ rfl tO)) ?_
  refine Run.pure (dd := some 11) rfl rfl (op_pick_and rfl (Opd.tmp _ _ rfl) (Opd.topt _ _ _ rfl tO)) ?_
  refine Run.pure (dd := some 12) rfl rfl (op_move rfl (Opd.tmp _ _ rfl)) ?_
  refine Run.pureG (dd := some 13) rfl rfl rfl tG (op_move rfl (Opd.tmp _ _ rfl)) ?_
  refine Run.pureG (dd := some 14) rfl rfl rfl tG (op_move rfl (Opd.tmp _ _ rfl)) ?_
  refine Run.pureG (dd := some 15) rfl rfl rfl tG (op_lss rfl (Opd.topt _ _ _ rfl tO) (Opd.topt _ _ _ rfl tO)) ?_
  refine Run.pure (dd := some 16) rfl rfl (op_pick_or rfl (Opd.tmp _ _ rfl) (Opd.topt _ _ _ rfl tO)) ?_
  refine Run.pure (dd := some 4) rfl rfl (op_assign rfl (Opd.tmp _ _ rfl)) ?_
  refine Run.nil (FinR.mk ?_)
  refine nK ?_
  (first | exact s_o1 hC rfl tV | exact s_o2 hC rfl tV tV | exact s_o3 hC rfl tV tV tV | exact s_out0 hC rfl | exact s_outO hC rfl rfl rfl)
theorem bsearchi_c (l : List Int) (x : Int) (hn : l.length ≤ 2000000) : Pure Try.prog 56 [VI l, If .i64 x] (.tup [If .i64 (bsGo (fun e => decide (e < x)) l 0 l.length : Nat), Bf (hitAt (fun e => decide (e = x)) l (bsGo (fun e => decide (e < x)) l 0 l.length))]) := by
  refine Meets.intro Try.func56 rfl (Nat.le_of_ble_eq_true rfl) fun C hC => ?_
  simp only [List.map, argEnv, Nat.reduceAdd]
  refine nK ?_
  refine s_reg rfl ?_
  refine Run.pure (dd := some 4) rfl rfl (op_assign rfl (Opd.const _)) ?_
  refine Run.pure (dd := some 5) rfl rfl (op_assign rfl (Opd.const _)) ?_
  refine Run.nil (FinR.mk ?_)
  refine nK ?_
  refine s_reg rfl ?_
  refine Run.pure (dd := some 10) rfl rfl (op_move rfl (Opd.tmp _ _ rfl)) ?_
  refine Run.pure (dd := some 11) rfl rfl (op_len_fz rfl (by first | exact Opd.tmp _ _ rfl | exact Opd.nil _ _ (Opd.tmp _ _ rfl)) (by first | exact List.length_map _ | rfl)) ?_
  refine Run.pure (dd := some 6) rfl rfl (op_assign rfl (Opd.tmp _ _ rfl)) ?_
  refine Run.nil (FinR.mk ?_)
  refine nK ?_
  refine s_reg rfl ?_
  refine Run.pure (dd := some 12) rfl rfl (op_move rfl (Opd.tmp _ _ rfl)) ?_
  refine Run.pure (dd := some 7) rfl rfl (op_assign rfl (Opd.const _)) ?_
  refine Run.pure (dd := some 8) rfl rfl (op_assign rfl (Opd.tmp _ _ rfl)) ?_
  refine Run.nil (FinR.mk ?_)
  refine nK ?_
  refine n_loop (ι := Nat × Nat) (fun g => ([(0, .fz (VI l)), (1, IV .i64 x), (6, IV .i64 l.length), (7, IV .i64 g.1), (8, IV .i64 g.2)], [], 0)) (fun g => g.1 ≤ g.2 ∧ g.2 ≤ l.length ∧ bsGo (fun e => decide (e < x)) l g.1 g.2 = bsGo (fun e => decide (e < x)) l 0 l.length) (fun g => g.2 - g.1) (0, l.length) ⟨Nat.zero_le _, Nat.le_refl _, rfl⟩ ?_ ?_
  · refine Next.weak [] [] (by rfl) (keeps0 hC _) (by repeat (first | exact trivial | refine ⟨⟨_, rfl, .inl ⟨rfl, rfl⟩⟩, ?_⟩)) (by repeat (first | exact trivial | refine ⟨ent_same rfl rfl rfl tL, ?_⟩ | refine ⟨ent_same rfl rfl (rfEq rfl tU) tL, ?_⟩ | refine ⟨ent_same rfl rfl (flEq rfl (by first | (simp; done) | (simp; omega) | (simp [encE, encN, encB, encT, encL]; done) | simp [maxC, minC])) trivial, ?_⟩)) (fun _ h => by simp at h) rel_intro
  · intro ⟨i, j⟩ ⟨hi, hj, ho⟩ K hK
    dsimp only at hi hj ho ⊢
    refine nK ?_
    refine s_reg rfl ?_
    refine Run.pure (dd := some 13) rfl rfl (op_move rfl (Opd.tmp _ _ rfl)) ?_
    refine Run.pure (dd := some 14) rfl rfl (op_move rfl (Opd.tmp _ _ rfl)) ?_
    refine Run.pure (dd := some 15) rfl rfl (op_lss rfl (Opd.tmp _ _ rfl) (Opd.tmp _ _ rfl)) ?_
    refine Run.nil (FinR.mk ?_)
    refine nK ?_
    refine n_cond _ rfl (fun hb => ?_) (fun hb => ?_)
    · have hlt : i < j := by simp at hb; omega
      have hm : (i + j) / 2 < l.length := by omega
      have hr1 := row_at' encN l ((i + j) / 2) hm
      have hst := bsGo_step (fun e => decide (e < x)) l i j hlt hj
      rw [ho] at hst
      have hKl := fun h => hK (((i + j) / 2) + 1, j) ⟨by dsimp only; omega, by dsimp only; omega, h⟩ (by dsimp only; omega)
      have hKr := fun h => hK (i, (i + j) / 2) ⟨by dsimp only; omega, by dsimp only; omega, h⟩ (by dsimp only; omega)
      generalize l[(i + j) / 2] = e at *
      refine nK ?_
      refine s_reg rfl ?_
      refine Run.pure (dd := some 16) rfl rfl (op_move rfl (Opd.tmp _ _ rfl)) ?_
      refine Run.pure (dd := some 17) rfl rfl (op_move rfl (Opd.tmp _ _ rfl)) ?_
      refine Run.pure (dd := some 18) rfl rfl (op_add rfl (Opd.tmp _ _ rfl) (Opd.tmp _ _ rfl) tI) ?_
      refine Run.pure (dd := some 19) rfl rfl (op_conv rfl (Opd.tmp _ _ rfl) tI) ?_
      refine Run.pure (dd := some 20) rfl rfl (op_shr (n := 1) rfl (Opd.tmp _ _ rfl) (Opd.const _) (by intro _; simp only [IntKind.bits]; omega)) ?_
      refine Run.pure (dd := some 21) rfl rfl (op_conv rfl (Opd.tmp _ _ rfl) tI) ?_
      refine Run.pure (dd := some 9) rfl rfl (op_assign rfl (Opd.tmp _ _ rfl)) ?_
      refine Run.nil (FinR.mk ?_)
      refine nK ?_
      refine s_reg rfl ?_
      refine Run.pure (dd := some 22) rfl rfl (op_move rfl (Opd.tmp _ _ rfl)) ?_
      refine Run.pure (dd := some 23) rfl rfl (op_move rfl (Opd.tmp _ _ rfl)) ?_
      refine Run.pure (dd := some 24) rfl rfl (op_idx_fz ((i + j) / 2) rfl (Opd.tmp _ _ rfl) (Opd.tmp _ _ rfl) (by intro _; exact ⟨by omega, hr1⟩)) ?_
      refine Run.pure (dd := some 25) rfl rfl (op_load1_fz rfl (Opd.tmp _ _ rfl) rfl) ?_
      refine Run.pure (dd := some 26) rfl rfl (op_move rfl (Opd.tmp _ _ rfl)) ?_
      refine Run.pure (dd := some 27) rfl rfl (op_call_pure (fun _ => cless_c _ _) rfl (Opd.func _) (Opds.cons _ _ _ _ (Opd.tmp _ _ rfl) (Opds.cons _ _ _ _ (Opd.tmp _ _ rfl) Opds.nil))) ?_
      refine Run.nil (FinR.mk ?_)
      refine nK ?_
      refine n_cond _ rfl (fun hb => ?_) (fun hb => ?_)
      · simp only [hb, cond_true] at hst
        refine nK ?_
        refine s_reg rfl ?_
        refine Run.pure (dd := some 28) rfl rfl (op_move rfl (Opd.tmp _ _ rfl)) ?_
        refine Run.pure (dd := some 29) rfl rfl (op_add rfl (Opd.tmp _ _ rfl) (Opd.const _) tI) ?_
        refine Run.pure (dd := some 7) rfl rfl (op_assign rfl (Opd.tmp _ _ rfl)) ?_
        refine Run.nil (FinR.mk ?_)
        refine nK ?_
        refine Next.weak [] [] (by rfl) (keeps0 hC _) (by repeat (first | exact trivial | refine ⟨⟨_, rfl, .inl ⟨rfl, rfl⟩⟩, ?_⟩)) (by repeat (first | exact trivial | refine ⟨ent_same rfl rfl rfl tL, ?_⟩ | refine ⟨ent_same rfl rfl (rfEq rfl tU) tL, ?_⟩ | refine ⟨ent_same rfl rfl (flEq rfl (by first | (simp; done) | (simp; omega) | (simp [encE, encN, encB, encT, encL]; done) | simp [maxC, minC])) trivial, ?_⟩)) (fun _ h => by simp at h) (hKl hst.symm)
      · simp only [hb, cond_false] at hst
        refine nK ?_
        refine s_reg rfl ?_
        refine Run.pure (dd := some 30) rfl rfl (op_move rfl (Opd.tmp _ _ rfl)) ?_
        refine Run.pure (dd := some 8) rfl rfl (op_assign rfl (Opd.tmp _ _ rfl)) ?_
        refine Run.nil (FinR.mk ?_)
        refine nK ?_
        refine Next.weak [] [] (by rfl) (keeps0 hC _) (by repeat (first | exact trivial | refine ⟨⟨_, rfl, .inl ⟨rfl, rfl⟩⟩, ?_⟩)) (by repeat (first | exact trivial | refine ⟨ent_same rfl rfl rfl tL, ?_⟩ | refine ⟨ent_same rfl rfl (rfEq rfl tU) tL, ?_⟩ | refine ⟨ent_same rfl rfl (flEq rfl (by first | (simp; done) | (simp; omega) | (simp [encE, encN, encB, encT, encL]; done) | simp [maxC, minC])) trivial, ?_⟩)) (fun _ h => by simp at h) (hKr hst.symm)
    · have hie : i = j := by simp at hb; omega
      rw [hie, bsGo_end] at ho
      rw [← ho]
      rw [hie] at hi ⊢
      obtain ⟨q, hq, hh⟩ := hitAt_eq l j (fun e => decide (e = x))
      rw [hh]
      have hr : j < l.length → (l.map encN)[j]? = some (encN q) := fun h => by rw [List.getElem?_map, hq h]; rfl
      refine nK ?_
      refine s_reg rfl ?_
      refine Run.pure (dd := some 31) rfl rfl (op_move rfl (Opd.tmp _ _ rfl)) ?_
      refine Run.pure (dd := some 32) rfl rfl (op_move rfl (Opd.tmp _ _ rfl)) ?_
      refine Run.pure (dd := some 33) rfl rfl (op_move rfl (Opd.tmp _ _ rfl)) ?_
      refine Run.pure (dd := some 34) rfl rfl (op_lss rfl (Opd.tmp _ _ rfl) (Opd.tmp _ _ rfl)) ?_
      refine Run.pure (dd := some 35) rfl rfl (op_move rfl (Opd.tmp _ _ rfl)) ?_
      refine Run.pureG (dd := some 36) rfl rfl rfl tG (op_move rfl (Opd.tmp _ _ rfl)) ?_
      refine Run.pureG (dd := some 37) rfl rfl rfl tG (op_move rfl (Opd.tmp _ _ rfl)) ?_
      refine Run.pureG (dd := some 38) rfl rfl rfl tG (op_idx_fz j rfl (Opd.topt _ _ _ rfl tO) (Opd.topt _ _ _ rfl tO) (by intro hg; exact ⟨rfl, hr (by simp at hg; omega)⟩)) ?_
      refine Run.pureG (dd := some 39) rfl rfl rfl tG (op_load1_fz rfl (Opd.topt _ _ _ rfl tO) rfl) ?_
      refine Run.pureG (dd := some 40) rfl rfl rfl tG (op_move rfl (Opd.tmp _ _ rfl)) ?_
      refine Run.pureG (dd := some 41) rfl rfl rfl tG (op_eql rfl (Opd.topt _ _ _ rfl tO) (Opd.topt _ _ _ rfl tO)) ?_
      refine Run.pureG (dd := some 42) rfl rfl rfl tG (op_move rfl (Opd.topt _ _ _ rfl tO)) ?_
      refine Run.pureG (dd := some 43) rfl rfl rfl tG (op_move rfl (Opd.tmp _ _ rfl)) ?_
      refine Run.pureG (dd := some 44) rfl rfl rfl tG (op_move rfl (Opd.tmp _ _ rfl)) ?_
      refine Run.pureG (dd := some 45) rfl rfl rfl tG (op_idx_fz j rfl (Opd.topt _ _ _ rfl tO) (Opd.topt _ _ _ rfl tO) (by intro hg; exact ⟨rfl, hr (by simp at hg; omega)⟩)) ?_
      refine Run.pureG (dd := some 46) rfl rfl rfl tG (op_load1_fz rfl (Opd.topt _ _ _ rfl tO) rfl) ?_
      refine Run.pureG (dd := some 47) rfl rfl rfl tG (op_call_pure (fun _ => snan_c _) rfl (Opd.func _) (Opds.cons _ _ _ _ (Opd.topt _ _ _ rfl tO) Opds.nil)) ?_
      refine Run.pureG (dd := some 48) rfl rfl rfl tG (op_move rfl (Opd.topt _ _ _ rfl tO)) ?_
      refine Run.pureG (dd := some 49) rfl rfl rfl tG (op_move rfl (Opd.tmp _ _ rfl)) ?_
      refine Run.pureG (dd := some 50) rfl rfl rfl tG (op_call_pure (fun _ => snan_c _) rfl (Opd.func _) (Opds.cons _ _ _ _ (Opd.topt _ _ _ rfl tO) Opds.nil)) ?_
      refine Run.pureG (dd := some 51) rfl rfl rfl tG (op_pick_and rfl (Opd.topt _ _ _ rfl tO) (Opd.topt _ _ _ rfl tO)) ?_
      refine Run.pureG (dd := some 52) rfl rfl rfl tG (op_pick_or rfl (Opd.topt _ _ _ rfl tO) (Opd.topt _ _ _ rfl tO)) ?_
      refine Run.pure (dd := some 53) rfl rfl (op_pick_and rfl (Opd.tmp _ _ rfl) (Opd.topt _ _ _ rfl tO)) ?_
      refine Run.pure (dd := some 4) rfl rfl (op_assign rfl (Opd.tmp _ _ rfl)) ?_
      refine Run.pure (dd := some 5) rfl rfl (op_assign rfl (Opd.tmp _ _ rfl)) ?_
      refine Run.nil (FinR.mk ?_)
      refine nK ?_
      refine Next.weakS [] [] (by rfl) (keeps0 hC _) (G' := [(4, IV .i64 j), (5, BV (decide ((j : Int) < (l.length : Int)) && decide (q = x)))]) (H' := []) ⟨⟨_, rfl, .inl ⟨rfl, rfl⟩⟩, ⟨_, rfl, .inl ⟨by simp [renP], rfl⟩⟩, trivial⟩ trivial rfl ?_
      (first | exact s_o1 hC rfl tV | exact s_o2 hC rfl tV tV | exact s_o3 hC rfl tV tV tV | exact s_out0 hC rfl | exact s_outO hC rfl rfl rfl)
end Go.Proofs.Ytgbfkpcigipniaa
namespace Go.Pl
open Go Go.RT
set_option linter.all false
/- the order of the nodes in hops -/
theorem perm_sorted_eq {α : Type} {le : α → α → Prop} (anti : ∀ a b, le a b → le b a → a = b) : ∀ (l1 l2 : List α), l1.Perm l2 → l1.Pairwise le → l2.Pairwise le → l1 = l2
  | [], l2, h, _, _ => (List.nil_perm.1 h).symm
  | x :: a, [], h, _, _ => by have := h.length_eq; simp at this
  | x :: a, y :: b, h, h1, h2 => by
    obtain ⟨a1, a2⟩ := List.pairwise_cons.1 h1
    obtain ⟨b1, b2⟩ := List.pairwise_cons.1 h2
    have e : x = y := by
      rcases List.mem_cons.1 (h.mem_iff.1 (List.mem_cons_self ..)) with e | q1
      · exact e
      · rcases List.mem_cons.1 (h.mem_iff.2 (List.mem_cons_self ..)) with e | q2
        · exact e.symm
        · exact anti _ _ (a1 _ q2) (b1 _ q1)
    subst e
    exact congrArg _ (perm_sorted_eq anti a b ((List.perm_cons x).1 h) a2 b2)
open Go.Proofs.Ytgbfkpcigipniaa in
def ordH (d : List Int) (x y : Nat) : Int := orI [cmpI (gt0 d x) (gt0 d y), cmpI (y : Int) (x : Int)]
theorem ordH_neg (d : List Int) (x y : Nat) : ordH d x y < 0 ↔ gt0 d x < gt0 d y ∨ gt0 d x = gt0 d y ∧ y < x := by
  have h1 := cmpI_neg (gt0 d x) (gt0 d y)
  have h2 := cmpI_neg (y : Int) (x : Int)
  have h3 := cmpI_zero (gt0 d x) (gt0 d y)
  unfold ordH
  simp only [Go.Proofs.Ytgbfkpcigipniaa.orI]
  by_cases e : cmpI (gt0 d x) (gt0 d y) ≠ 0
  · rw [if_pos e, h1]; rw [ne_eq, h3] at e; omega
  · rw [if_neg e]
    have e2 : gt0 d x = gt0 d y := h3.1 (by omega)
    by_cases e3 : cmpI (y : Int) (x : Int) ≠ 0
    · rw [if_pos e3, h2]; omega
    · rw [if_neg e3]
      have := (cmpI_zero (y : Int) (x : Int)).1 (by omega)
      omega
def ltHd (d : List Int) (x y : Nat) : Prop := gt0 d x < gt0 d y ∨ gt0 d x = gt0 d y ∧ y < x
end Go.Pl
namespace Go.Proofs.Ytgbfkpcigipniaa
open Go Go.RT Go.Proofs Go.Pl
set_option linter.all false
set_option maxRecDepth 20000
set_option maxHeartbeats 2000000
theorem hcmp_c (d : List Int) (x y : Nat) (hx : x < d.length) (hy : y < d.length) : Pure Try.prog 52 [If .i64 x, If .i64 y, .cellp [VI d]] (If .i64 (ordH d x y)) := by
  have rx := row_of encN d x 0 hx
  have ry := row_of encN d y 0 hy
  have hgx : d.getD x 0 = gt0 d x := rfl
  have hgy : d.getD y 0 = gt0 d y := rfl
  rw [hgx] at rx; rw [hgy] at ry
  unfold ordH
  refine Meets.intro Try.func52 rfl (Nat.le_of_ble_eq_true rfl) fun C hC => ?_
  simp only [List.map, argEnv, Nat.reduceAdd]
  refine nK ?_
  refine s_reg rfl ?_
  refine Run.pure (dd := some 5) rfl rfl (op_assign rfl (Opd.const _)) ?_
  refine Run.nil (FinR.mk ?_)
  refine nK ?_
  refine s_draw mixed ?_
  refine Run.pure (dd := some 6) rfl rfl (op_load1_fz rfl (Opd.tmp _ _ rfl) rfl) ?_
  refine Run.pure (dd := some 7) rfl rfl (op_move rfl (Opd.tmp _ _ rfl)) ?_
  refine Run.pure (dd := some 8) rfl rfl (op_idx_fz x rfl (Opd.tmp _ _ rfl) (Opd.tmp _ _ rfl) (by intro _; exact ⟨rfl, rx⟩)) ?_
  refine Run.pure (dd := some 9) rfl rfl (op_load1_fz rfl (Opd.tmp _ _ rfl) rfl) ?_
  refine Run.pure (dd := some 10) rfl rfl (op_load1_fz rfl (Opd.tmp _ _ rfl) rfl) ?_
  refine Run.pure (dd := some 11) rfl rfl (op_move rfl (Opd.tmp _ _ rfl)) ?_
  refine Run.pure (dd := some 12) rfl rfl (op_idx_fz y rfl (Opd.tmp _ _ rfl) (Opd.tmp _ _ rfl) (by intro _; exact ⟨rfl, ry⟩)) ?_
  refine Run.pure (dd := some 13) rfl rfl (op_load1_fz rfl (Opd.tmp _ _ rfl) rfl) ?_
  refine Run.pure (dd := some 14) rfl rfl (op_call_pure (fun _ => cmp_c _ _) rfl (Opd.func _) (Opds.cons _ _ _ _ (Opd.tmp _ _ rfl) (Opds.cons _ _ _ _ (Opd.tmp _ _ rfl) Opds.nil))) ?_
  refine Run.pure (dd := some 15) rfl rfl (op_move rfl (Opd.tmp _ _ rfl)) ?_
  refine Run.pure (dd := some 16) rfl rfl (op_move rfl (Opd.tmp _ _ rfl)) ?_
  refine Run.pure (dd := some 17) rfl rfl (op_call_pure (fun _ => cmp_c _ _) rfl (Opd.func _) (Opds.cons _ _ _ _ (Opd.tmp _ _ rfl) (Opds.cons _ _ _ _ (Opd.tmp _ _ rfl) Opds.nil))) ?_
  refine Run.pure (dd := some 18) rfl rfl (op_buildSlice_fz rfl (RowsF.cons _ _ _ _ _ _ (Opd.tmp _ _ rfl) tC (by rfl) (RowsF.cons _ _ _ _ _ _ (Opd.tmp _ _ rfl) tC (by rfl) (RowsF.nil _))) rfl rfl) ?_
  refine Run.pure (dd := some 19) rfl rfl (op_call_pure (fun _ => or_c [_, _] (by simp)) rfl (Opd.func _) (Opds.cons _ _ _ _ (Opd.tmp _ _ rfl) Opds.nil)) ?_
  refine Run.pure (dd := some 5) rfl rfl (op_assign rfl (Opd.tmp _ _ rfl)) ?_
  refine Run.nil (FinD.mk (by kernel_rfl) ?_)
  refine nK ?_
  (first | exact s_o1 hC rfl tV | exact s_o2 hC rfl tV tV | exact s_o3 hC rfl tV tV tV | exact s_out0 hC rfl | exact s_outO hC rfl rfl rfl)
theorem swo_h (d : List Int) (n : Nat) : Go.Sort.SWO (ltOf fun x y : Fin n => ordH d x y) := by
  have e : ∀ x y : Fin n, ltOf (fun x y : Fin n => ordH d x y) x y = decide (gt0 d x < gt0 d y ∨ gt0 d x = gt0 d y ∧ y.val < x.val) := fun x y => by
    unfold ltOf; rw [Bool.eq_iff_iff]; simp [ordH_neg]
  refine ⟨fun x => ?_, fun x y z h1 h2 => ?_, fun x y z h1 h2 => ?_⟩
  · rw [e]; simp
  · rw [e] at *; simp only [decide_eq_true_eq] at *; omega
  · rw [e] at *; simp only [decide_eq_false_iff_not] at *; omega
theorem sorth_c (d : List Int) (l l2 : List Nat) (hd : 0 < d.length) (hl : ∀ v ∈ l, v < d.length) (hm : l.length ≤ 2000000) (hp : l2.Perm l) (hs : l2.Pairwise (ltHd d)) : Meets Try.prog 51 [.sl 0 1 0 l.length, .fz (.clo 52 [.cellp [VI d]])] 1 [(0, OT l)] (.fz (.tup [])) [(0, OT l2)] 1 := by
  haveI : Inhabited (Fin d.length) := ⟨⟨0, hd⟩⟩
  have hl' : ∀ v ∈ l, v < d.length := hl
  let lf : List (Fin d.length) := l.pmap (fun v h => ⟨v, h⟩) hl'
  have hlf : lf.map (fun x => x.val) = l := by simp [lf, List.map_pmap]
  have hll : lf.length = l.length := by simp [lf]
  obtain ⟨s1, s2, s3⟩ := sortBy_spec (fun x y : Fin d.length => ordH d x y) (swo_h d d.length) lf
  have hr : (sortBy (fun x y : Fin d.length => ordH d x y) lf).map (fun x => x.val) = l2 := by
    refine perm_sorted_eq (le := fun x y => ¬ ltHd d y x) (fun a b h1 h2 => by unfold ltHd at *; omega) _ _ ?_ ?_ ?_
    · exact ((s1.map _).trans (by rw [hlf])).trans hp.symm
    · rw [List.pairwise_map, List.pairwise_iff_getElem]
      intro i j hi hj hij h
      exact s3 i j _ _ hij (List.getElem?_eq_getElem hi) (List.getElem?_eq_getElem hj) ((ordH_neg _ _ _).2 h)
    · exact hs.imp fun h1 h2 => by unfold ltHd at *; omega
  have := sort1_meets (ρ := Try.sortFI_ren) Try.sortFI (ev := fun x : Fin d.length => .int .i64 (x.val : Int)) (fun x => rfl) (swo_h d d.length) (g := 52) (caps := [.cellp [VI d]]) (fun x y => hcmp_c d x y x.isLt y.isLt) (l := lf) (by omega)
  rw [hll] at this
  have e1 : ∀ q : List (Fin d.length), q.map (fun x => [FV.lit (.int .i64 (x.val : Int))]) = (q.map (fun x => x.val)).map encT := fun q => by rw [List.map_map]; rfl
  rw [e1, e1, hlf, hr] at this
  exact this
end Go.Proofs.Ytgbfkpcigipniaa
namespace Go.Pl
open Go Go.RT
set_option linter.all false
/- merge: a number put into an ascending list, once -/
def bsI (l : List Int) (x : Int) : Nat := bsGo (fun e => decide (e < x)) l 0 l.length
def hitI (l : List Int) (x : Int) : Bool := hitAt (fun e => decide (e = x)) l (bsI l x)
def insU (l : List Int) (x : Int) : List Int := if hitI l x = true then l else insL l (bsI l x) x
theorem bsI_le (l : List Int) (x : Int) : bsI l x ≤ l.length := (bsGo_le (fun e => decide (e < x)) l (l.length) 0 l.length (by omega) (Nat.zero_le _) (Nat.le_refl _)).2
def capV (r : Int) (v : Nat) (h : Int) : Int := if r ≤ h then (v : Int) else h
end Go.Pl
namespace Go.Pl
open Go Go.RT
set_option linter.all false
/- hops, as the program makes them -/
theorem insU_spec {l : List Int} (h : Asc l) (x : Int) : Asc (insU l x) ∧ ∀ y, y ∈ insU l x ↔ y = x ∨ y ∈ l := by
  have hle := bsI_le l x
  have hg : ∀ a b (ha : a < b) (hb : b < l.length), l[a] < l[b] := fun a b ha hb => List.pairwise_iff_getElem.1 h a b (by omega) hb ha
  have h2 := bsGo_spec (fun e => decide (e < x)) l (fun a b ha hb hp => by
    have := hg a b ha hb
    simp only [decide_eq_true_eq] at hp ⊢; omega) l.length 0 l.length (by omega) (Nat.zero_le _) (Nat.le_refl _) (fun k hk => absurd hk (Nat.not_lt_zero _)) (fun k hk hl => absurd hl (by omega))
  have h3 : ∀ k (hk : k < bsI l x) (hl : k < l.length), l[k] < x := fun k hk hl => by simpa using h2.1 k hk hl
  have h4 : ∀ k (hk : bsI l x ≤ k) (hl : k < l.length), x ≤ l[k] := fun k hk hl => by simpa using h2.2 k hk hl
  unfold insU hitI hitAt
  by_cases hb : bsI l x < l.length
  · rw [List.getElem?_eq_getElem hb]
    simp only [decide_eq_true_eq]
    by_cases he : l[bsI l x] = x
    · rw [if_pos he]
      refine ⟨h, fun y => ⟨fun hy => .inr hy, fun hy => ?_⟩⟩
      rcases hy with h5 | hy
      · rw [h5, ← he]; exact List.getElem_mem hb
      · exact hy
    · rw [if_neg he]
      refine ⟨?_, fun y => ?_⟩
      · unfold insL
        refine List.pairwise_append.2 ⟨h.sublist (List.take_sublist _ _), List.pairwise_cons.2 ⟨fun y hy => ?_, h.sublist (List.drop_sublist _ _)⟩, fun a ha b hb2 => ?_⟩
        · obtain ⟨k, hk, rfl⟩ := List.mem_iff_getElem.1 hy
          rw [List.getElem_drop]
          have q1 := h4 (bsI l x + k) (by omega) (by simp at hk; omega)
          by_cases e : k = 0
          · subst e; simp only [Nat.add_zero] at q1 ⊢; omega
          · have := hg (bsI l x) (bsI l x + k) (by omega) (by simp at hk; omega)
            have := h4 (bsI l x) (Nat.le_refl _) hb
            omega
        · obtain ⟨k, hk, rfl⟩ := List.mem_iff_getElem.1 ha
          rw [List.getElem_take]
          rw [List.length_take] at hk
          have q1 := h3 k (by omega) (by omega)
          rcases List.mem_cons.1 hb2 with rfl | hb2
          · exact q1
          · obtain ⟨k2, hk2, rfl⟩ := List.mem_iff_getElem.1 hb2
            rw [List.getElem_drop]
            simp at hk2
            exact hg k (bsI l x + k2) (by omega) (by omega)
      · unfold insL
        rw [List.mem_append, List.mem_cons]
        have : y ∈ l ↔ y ∈ l.take (bsI l x) ∨ y ∈ l.drop (bsI l x) := by rw [← List.mem_append, List.take_append_drop]
        rw [this]; constructor
        · rintro (h | h | h)
          · exact .inr (.inl h)
          · exact .inl h
          · exact .inr (.inr h)
        · rintro (h | h | h)
          · exact .inr (.inl h)
          · exact .inl h
          · exact .inr (.inr h)
  · have hbe : bsI l x = l.length := by omega
    rw [List.getElem?_eq_none (by omega)]
    rw [if_neg (by simp), hbe]
    unfold insL
    rw [List.take_length, List.drop_length]
    refine ⟨List.pairwise_append.2 ⟨h, by simp, fun a ha b hb2 => ?_⟩, fun y => by simp [or_comm]⟩
    have : b = x := by simpa using hb2
    subst this
    obtain ⟨k, hk, rfl⟩ := List.mem_iff_getElem.1 ha
    exact h3 k (by omega) hk
/-- ascending, all of them nodes -/
def RowOk (n : Nat) (l : List Int) : Prop := Asc l ∧ ∀ x ∈ l, 0 ≤ x ∧ x < n
theorem RowOk.len {n : Nat} {l : List Int} (h : RowOk n l) : l.length ≤ n := by
  have := nodup_len n (l.map Int.toNat) (by
    rw [List.Nodup, List.pairwise_map]
    refine h.1.imp_of_mem fun ha hb hab e => ?_
    have := h.2 _ ha; have := h.2 _ hb; omega) (fun x hx => by
      obtain ⟨y, hy, rfl⟩ := List.mem_map.1 hx
      have := h.2 y hy; omega)
  simpa using this
theorem RowOk.ins {n : Nat} {l : List Int} (h : RowOk n l) {x : Int} (hx : 0 ≤ x ∧ x < n) : RowOk n (insU l x) :=
  ⟨(insU_spec h.1 x).1, fun y hy => by
    rcases ((insU_spec h.1 x).2 y).1 hy with rfl | hy
    · exact hx
    · exact h.2 y hy⟩
abbrev rowAt' (ll : List (List Int)) (v : Nat) : List Int := ll.getD v []
def mergeL (r : Int) (v : Nat) (ll : List (List Int)) (h : Int) : List (List Int) := ll.set v (insU (rowAt' ll v) (capV r v h))
def stepU (r : Int) (a v : Nat) (ll : List (List Int)) (u : Int) : List (List Int) :=
  (rowAt' ll u.toNat).foldl (mergeL r v) (if u = (a : Int) then mergeL r v ll (v : Int) else ll)
def hopsV (r : Int) (a : Nat) (up : List (List Int)) (ll : List (List Int)) (v : Nat) : List (List Int) := (rowAt' up v).foldl (stepU r a v) ll
def hopsL (r : Int) (a n : Nat) (up : List (List Int)) (order : List Nat) : List (List Int) := order.foldl (hopsV r a up) (List.replicate n [])
structure LLok (n : Nat) (ll : List (List Int)) : Prop where
  len : ll.length = n
  row : ∀ v, v < n → RowOk n (rowAt' ll v)
theorem LLok.merge {n : Nat} {ll : List (List Int)} (h : LLok n ll) (r : Int) {v : Nat} (hv : v < n) {x : Int} (hx : 0 ≤ x ∧ x < n) : LLok n (mergeL r v ll x) := by
  refine ⟨by rw [mergeL, List.length_set, h.len], fun w hw => ?_⟩
  unfold mergeL rowAt'
  rw [getD_set _ _ _ _ _ (by rw [h.len]; exact hv)]
  by_cases e : v = w
  · rw [if_pos e]; exact (h.row v hv).ins (by unfold capV; split <;> omega)
  · rw [if_neg e]; exact h.row w hw
theorem merge_other (r : Int) (v : Nat) (ll : List (List Int)) (x : Int) {u : Nat} (h : u ≠ v) : rowAt' (mergeL r v ll x) u = rowAt' ll u := by
  unfold mergeL rowAt'
  rw [List.getD_eq_getElem?_getD, List.getElem?_set_ne (fun e => h e.symm), ← List.getD_eq_getElem?_getD]
theorem foldl_take_succ {α β : Type} (f : β → α → β) (b : β) (l : List α) (i : Nat) (h : i < l.length) : (l.take (i + 1)).foldl f b = f ((l.take i).foldl f b) l[i] := by
  rw [← List.take_append_getElem h, List.foldl_append]; rfl
/-- rows with one cell taken -/
def tkL (irs : List (List (List FV))) (u k : Nat) : List (List PV) := (ownL 1 irs).set u [PV.sl 2 1 0 k]
theorem renO_tk {L : List Nat} (h : renI L 2 = 2) (irs : List (List (List FV))) (u k : Nat) : renO L (.refs 1 (tkL irs u k)) = .refs 1 (tkL irs u k) := by
  have h1 := renO_own L 1 irs
  simp only [renO, Ob.refs.injEq, true_and] at h1 ⊢
  unfold tkL
  rw [List.map_set, h1]
  simp [renPs, renP, h]
theorem ltO_tk {n : Nat} (h : 2 < n) (irs : List (List (List FV))) (u k : Nat) : ltO n (.refs 1 (tkL irs u k)) := fun r hr => by
  rcases List.mem_or_eq_of_mem_set hr with h1 | rfl
  · exact ltO_own n 1 irs r h1
  · simp [ltPs, ltP, Nat.blt_eq, h]
theorem ent_tk {L F : List Nat} {H : Hp} {id : Nat} {irs : List (List (List FV))} {u k : Nat} (h1 : Nat.blt id L.length = true) (h2 : F.contains (renI L id) = false) (hr : renI L 2 = 2) (hl : 2 < L.length) (h3 : hlook H (renI L id) = some (.refs 1 (tkL irs u k))) : Nat.blt id L.length = true ∧ F.contains (renI L id) = false ∧ EntO L F H (renI L id) (.refs 1 (tkL irs u k)) :=
  ent_same h1 h2 (by rw [renO_tk hr]; exact h3) (ltO_tk hl _ _ _)
theorem tk_get {irs : List (List (List FV))} {u v k : Nat} {r : List (List FV)} (hne : u ≠ v) (h : irs[v]? = some r) : (tkL irs u k)[v]? = some [PV.own 1 r] := by
  unfold tkL; rw [List.getElem?_set_ne hne]; exact ownL_get h
theorem tk_len (irs : List (List (List FV))) (u k : Nat) : (tkL irs u k).length = irs.length := by unfold tkL; rw [List.length_set, ownL_len]
theorem tk_back {irs : List (List (List FV))} {u v k : Nat} {x y : List PV} {r : List (List FV)} (hne : u ≠ v) : (((tkL irs u k).set v x).set v y).set v [PV.own 1 r] = tkL (irs.set v r) u k := by
  rw [List.set_set, List.set_set]; unfold tkL
  rw [List.set_comm _ _ (by omega), ownL_set]
theorem tk_back2 {irs : List (List (List FV))} {u v k : Nat} {x : List PV} {r : List (List FV)} (hne : u ≠ v) : ((tkL irs u k).set v x).set v [PV.own 1 r] = tkL (irs.set v r) u k := by
  rw [List.set_set]; unfold tkL
  rw [List.set_comm _ _ (by omega), ownL_set]
theorem tk_put {irs : List (List (List FV))} {u k : Nat} {r : List (List FV)} (h : irs[u]? = some r) : (tkL irs u k).set u [PV.own 1 r] = ownL 1 irs := by
  unfold tkL
  rw [List.set_set, ownL_set]
  congr 1
  apply List.ext_getElem?
  intro i
  rw [List.getElem?_set]
  by_cases e : u = i
  · subst e
    have hlt := (List.getElem?_eq_some_iff.1 h).1
    rw [if_pos rfl, if_pos hlt, h]
  · rw [if_neg e]
end Go.Pl
namespace Go.Proofs.Ytgbfkpcigipniaa
open Go Go.RT Go.Proofs Go.Pl
set_option linter.all false
set_option maxRecDepth 20000
set_option maxHeartbeats 2000000
theorem merge_c (g : Gr) (u v n k0 : Nat) (ru : List Int) (ll : List (List Int)) (h : Int) (huv : u ≠ v) (hll : ll.length = n) (hv : v < n) (hn : n ≤ 128) (hrow : (ll.getD v []).length ≤ 2000) : Meets Try.prog 55 [IV .i64 h, .fz (.cellp (encG g)), .fz (.cellp [If .i64 v]), .ptr 0 1 0 0] 3 [(0, some (.refs 1 [[.sl 1 1 0 n]])), (1, some (.refs 1 (tkL (rowsI ll) u k0))), (2, OI ru)] (.fz (.tup [])) [(0, some (.refs 1 [[.sl 1 1 0 n]])), (1, some (.refs 1 (tkL (rowsI (mergeL g.r v ll h)) u k0))), (2, OI ru)] 3 := by
  have hrg := rowsI_get (ll := ll) (v := v) (by omega)
  unfold mergeL capV rowAt'
  generalize ll.getD v [] = row at *
  refine Meets.intro Try.func55 rfl (Nat.le_of_ble_eq_true rfl) fun C hC => ?_
  simp only [List.map, argEnv, Nat.reduceAdd]
  refine Next.take 1 v 0 rfl (tk_get huv hrg) rfl rfl ?_
  have hs1 := set_get (tkL (rowsI ll) u k0) v [.sl 3 1 0 (row.map encN).length] (by rw [tk_len, rowsI_len]; omega)
  refine nK ?_
  refine s_reg rfl ?_
  refine Run.pure (dd := some 7) rfl rfl (op_move rfl (Opd.tmp _ _ rfl)) ?_
  refine Run.pure (dd := some 8) rfl rfl (op_fld_fz (by decide) rfl (Opd.tmp _ _ rfl) tR) ?_
  refine Run.pure (dd := some 9) rfl rfl (op_load1_fz rfl (Opd.tmp _ _ rfl) rfl) ?_
  refine Run.pure (dd := some 10) rfl rfl (op_geq rfl (Opd.tmp _ _ rfl) (Opd.tmp _ _ rfl)) ?_
  refine Run.nil (FinR.mk ?_)
  refine nK ?_
  refine n_cond _ rfl (fun hb => ?_) (fun hb => ?_)
  · have hq0 : g.r ≤ h := by simpa using hb
    rw [if_pos hq0]
    refine nK ?_
    refine s_reg rfl ?_
    refine Run.pure (dd := some 11) rfl rfl (op_load1_fz rfl (Opd.tmp _ _ rfl) rfl) ?_
    refine Run.pure (dd := some 0) rfl rfl (op_assign rfl (Opd.tmp _ _ rfl)) ?_
    refine Run.nil (FinR.mk ?_)
    refine nK ?_
    generalize hqe : (v : Int) = hq at *
    have hbs := bsearchi_c row hq (by omega)
    have hble := bsI_le row hq
    have hiu : insU row hq = if hitI row hq = true then row else insL row (bsI row hq) hq := rfl
    change Pure Try.prog 56 [VI row, If .i64 hq] (.tup [If .i64 (bsI row hq : Nat), Bf (hitI row hq)]) at hbs
    rw [hiu]
    generalize bsI row hq = k at *
    generalize hitI row hq = hit at *
    refine nK ?_
    refine s_reg rfl ?_
    refine Run.load (dd := some 13) rfl rfl (op_load1_refs rfl (Opd.tmp _ _ rfl) tH rfl) ?_
    refine Run.pure (dd := some 14) rfl rfl (op_load1_fz rfl (Opd.tmp _ _ rfl) rfl) ?_
    refine Run.pure (dd := some 15) rfl rfl (op_idx_sl0 v rfl (Opd.tmp _ _ rfl) (Opd.tmp _ _ rfl) (by intro _; exact ⟨by omega, by omega⟩)) ?_
    refine Run.load (dd := some 16) rfl rfl (op_load1_refs rfl (Opd.tmp _ _ rfl) (by intro _; exact ⟨rfl, hs1⟩) rfl) ?_
    refine Run.pure (dd := some 17) rfl rfl (op_move rfl (Opd.tmp _ _ rfl)) ?_
    refine Run.load (dd := some 18) rfl rfl (op_call_lend [3] (fun _ => hbs) rfl (Opd.func _) (Opds.cons _ _ _ _ (Opd.tmp _ _ rfl) (Opds.cons _ _ _ _ (Opd.tmp _ _ rfl) Opds.nil)) (by exact .cons _ _ _ _ tW (.cons _ _ _ _ tW .nil)) rfl rfl) ?_
    refine Run.pure (dd := some 12) rfl rfl (op_move rfl (Opd.tmp _ _ rfl)) ?_
    refine Run.pure (dd := some 19) rfl rfl (op_extract_fz rfl (Opd.tmp _ _ rfl) rfl) ?_
    refine Run.pure (dd := some 20) rfl rfl (op_extract_fz rfl (Opd.tmp _ _ rfl) rfl) ?_
    refine Run.pure (dd := some 5) rfl rfl (op_assign rfl (Opd.tmp _ _ rfl)) ?_
    refine Run.pure (dd := some 6) rfl rfl (op_assign rfl (Opd.tmp _ _ rfl)) ?_
    refine Run.nil (FinR.mk ?_)
    refine nK ?_
    refine s_reg rfl ?_
    refine Run.pure (dd := some 21) rfl rfl (op_move rfl (Opd.tmp _ _ rfl)) ?_
    refine Run.pure (dd := some 22) rfl rfl (op_not rfl (Opd.tmp _ _ rfl)) ?_
    refine Run.nil (FinR.mk ?_)
    refine nK ?_
    refine n_cond _ rfl (fun hb => ?_) (fun hb => ?_)
    · have hh : hit = false := by simpa using hb
      subst hh
      rw [if_neg (by simp)]
      have hins := inserti_c row hq k (by omega) hble
      have hil := insL_len row k hq hble
      have hle : (row.map encN).length = row.length := List.length_map _
      rw [← hle] at hins
      refine nK ?_
      refine s_draw mixed ?_
      refine Run.load (dd := some 23) rfl rfl (op_load1_refs rfl (Opd.tmp _ _ rfl) tH rfl) ?_
      refine Run.pure (dd := some 24) rfl rfl (op_load1_fz rfl (Opd.tmp _ _ rfl) rfl) ?_
      refine Run.load (dd := some 25) rfl rfl (op_load1_refs rfl (Opd.tmp _ _ rfl) tH rfl) ?_
      refine Run.pure (dd := some 26) rfl rfl (op_load1_fz rfl (Opd.tmp _ _ rfl) rfl) ?_
      refine Run.pure (dd := some 27) rfl rfl (op_idx_sl0 v rfl (Opd.tmp _ _ rfl) (Opd.tmp _ _ rfl) (by intro _; exact ⟨by omega, by omega⟩)) ?_
      refine Run.load (dd := some 28) rfl rfl (op_load1_refs rfl (Opd.tmp _ _ rfl) (by intro _; exact ⟨rfl, hs1⟩) rfl) ?_
      refine Run.pure (dd := some 29) rfl rfl (op_move rfl (Opd.tmp _ _ rfl)) ?_
      refine Run.pure (dd := some 30) rfl rfl (op_move rfl (Opd.tmp _ _ rfl)) ?_
      refine Run.effW (dd := some 31) rfl rfl (op_buildSlice_own rfl (RowsF.cons _ _ _ _ _ _ (Opd.tmp _ _ rfl) tC (by rfl) (RowsF.nil _)) rfl rfl rfl) (by first | exact ext_call | exact tE) ?_
      refine Run.effW (dd := some 32) rfl rfl (op_call (n := 2) (n' := 3) [3, 4] (fun _ => hins) rfl (Opd.func _) (Opds.cons _ _ _ _ (Opd.tmp _ _ rfl) (Opds.cons _ _ _ _ (Opd.tmp _ _ rfl) (Opds.cons _ _ _ _ (Opd.tmp _ _ rfl) Opds.nil))) rfl rfl (Lent.of rfl rfl (by exact ⟨⟨rfl, rfl, rfl, trivial⟩, ⟨rfl, rfl, rfl, trivial⟩, trivial⟩) rfl) rfl rfl rfl rfl rfl) (by first | exact ext_call | exact tE) ?_
      refine Run.pure (dd := some 33) rfl rfl (op_idx_sl0 v rfl (Opd.tmp _ _ rfl) (Opd.tmp _ _ rfl) (by intro _; exact ⟨by omega, by omega⟩)) ?_
      refine Run.effW (dd := none) rfl rfl (op_store_refs rfl (Opd.tmp _ _ rfl) (Opd.tmp _ _ rfl) tP rfl rfl hs1 tS) (by first | exact ext_call | exact tE) ?_
      refine Run.nil (FinD.mk (by kernel_rfl) ?_)
      refine Next.untake 1 v 0 rfl (set_get _ _ _ (by rw [List.length_set, tk_len, rowsI_len]; omega)) rfl rfl (by rw [List.length_map, hil, hle]) rfl ?_
      refine Next.weak [0, 1, 2] [] (by rfl) (keepsN hC _ rfl) (G' := []) (H' := [(0, some (.refs 1 [[.sl 1 1 0 n]])), (1, some (.refs 1 (tkL (rowsI (ll.set v (insL row k hq))) u k0))), (2, OI ru)]) trivial (by exact ⟨ent_same rfl rfl rfl tL, ⟨ent_tk rfl rfl rfl (by decide) (congrArg (fun r => some (Ob.refs 1 r)) ((tk_back huv).trans (by rw [rowsI_set]))), ⟨ent_same rfl rfl rfl tL, trivial⟩⟩⟩) (fun _ h => by simp at h) ?_
      exact n_out0 rfl
    · have hh : hit = true := by simpa using hb
      subst hh
      rw [if_pos rfl]
      refine Next.untake 1 v 0 rfl hs1 rfl rfl (by rw [List.length_map]) rfl ?_
      refine Next.weak [0, 1, 2] [] (by rfl) (keepsN hC _ rfl) (G' := []) (H' := [(0, some (.refs 1 [[.sl 1 1 0 n]])), (1, some (.refs 1 (tkL (rowsI (ll.set v (row))) u k0))), (2, OI ru)]) trivial (by exact ⟨ent_same rfl rfl rfl tL, ⟨ent_tk rfl rfl rfl (by decide) (congrArg (fun r => some (Ob.refs 1 r)) ((tk_back2 huv).trans (by rw [rowsI_set]))), ⟨ent_same rfl rfl rfl tL, trivial⟩⟩⟩) (fun _ h => by simp at h) ?_
      refine nK2 ?_
      exact n_out0 rfl
  · have hq0 : ¬ g.r ≤ h := by simpa using hb
    rw [if_neg hq0]
    refine nK ?_
    generalize hqe : h = hq at *
    have hbs := bsearchi_c row hq (by omega)
    have hble := bsI_le row hq
    have hiu : insU row hq = if hitI row hq = true then row else insL row (bsI row hq) hq := rfl
    change Pure Try.prog 56 [VI row, If .i64 hq] (.tup [If .i64 (bsI row hq : Nat), Bf (hitI row hq)]) at hbs
    rw [hiu]
    generalize bsI row hq = k at *
    generalize hitI row hq = hit at *
    refine nK ?_
    refine s_reg rfl ?_
    refine Run.load (dd := some 13) rfl rfl (op_load1_refs rfl (Opd.tmp _ _ rfl) tH rfl) ?_
    refine Run.pure (dd := some 14) rfl rfl (op_load1_fz rfl (Opd.tmp _ _ rfl) rfl) ?_
    refine Run.pure (dd := some 15) rfl rfl (op_idx_sl0 v rfl (Opd.tmp _ _ rfl) (Opd.tmp _ _ rfl) (by intro _; exact ⟨by omega, by omega⟩)) ?_
    refine Run.load (dd := some 16) rfl rfl (op_load1_refs rfl (Opd.tmp _ _ rfl) (by intro _; exact ⟨rfl, hs1⟩) rfl) ?_
    refine Run.pure (dd := some 17) rfl rfl (op_move rfl (Opd.tmp _ _ rfl)) ?_
    refine Run.load (dd := some 18) rfl rfl (op_call_lend [3] (fun _ => hbs) rfl (Opd.func _) (Opds.cons _ _ _ _ (Opd.tmp _ _ rfl) (Opds.cons _ _ _ _ (Opd.tmp _ _ rfl) Opds.nil)) (by exact .cons _ _ _ _ tW (.cons _ _ _ _ tW .nil)) rfl rfl) ?_
    refine Run.pure (dd := some 12) rfl rfl (op_move rfl (Opd.tmp _ _ rfl)) ?_
    refine Run.pure (dd := some 19) rfl rfl (op_extract_fz rfl (Opd.tmp _ _ rfl) rfl) ?_
    refine Run.pure (dd := some 20) rfl rfl (op_extract_fz rfl (Opd.tmp _ _ rfl) rfl) ?_
    refine Run.pure (dd := some 5) rfl rfl (op_assign rfl (Opd.tmp _ _ rfl)) ?_
    refine Run.pure (dd := some 6) rfl rfl (op_assign rfl (Opd.tmp _ _ rfl)) ?_
    refine Run.nil (FinR.mk ?_)
    refine nK ?_
    refine s_reg rfl ?_
    refine Run.pure (dd := some 21) rfl rfl (op_move rfl (Opd.tmp _ _ rfl)) ?_
    refine Run.pure (dd := some 22) rfl rfl (op_not rfl (Opd.tmp _ _ rfl)) ?_
    refine Run.nil (FinR.mk ?_)
    refine nK ?_
    refine n_cond _ rfl (fun hb => ?_) (fun hb => ?_)
    · have hh : hit = false := by simpa using hb
      subst hh
      rw [if_neg (by simp)]
      have hins := inserti_c row hq k (by omega) hble
      have hil := insL_len row k hq hble
      have hle : (row.map encN).length = row.length := List.length_map _
      rw [← hle] at hins
      refine nK ?_
      refine s_draw mixed ?_
      refine Run.load (dd := some 23) rfl rfl (op_load1_refs rfl (Opd.tmp _ _ rfl) tH rfl) ?_
      refine Run.pure (dd := some 24) rfl rfl (op_load1_fz rfl (Opd.tmp _ _ rfl) rfl) ?_
      refine Run.load (dd := some 25) rfl rfl (op_load1_refs rfl (Opd.tmp _ _ rfl) tH rfl) ?_
      refine Run.pure (dd := some 26) rfl rfl (op_load1_fz rfl (Opd.tmp _ _ rfl) rfl) ?_
      refine Run.pure (dd := some 27) rfl rfl (op_idx_sl0 v rfl (Opd.tmp _ _ rfl) (Opd.tmp _ _ rfl) (by intro _; exact ⟨by omega, by omega⟩)) ?_
      refine Run.load (dd := some 28) rfl rfl (op_load1_refs rfl (Opd.tmp _ _ rfl) (by intro _; exact ⟨rfl, hs1⟩) rfl) ?_
      refine Run.pure (dd := some 29) rfl rfl (op_move rfl (Opd.tmp _ _ rfl)) ?_
      refine Run.pure (dd := some 30) rfl rfl (op_move rfl (Opd.tmp _ _ rfl)) ?_
      refine Run.effW (dd := some 31) rfl rfl (op_buildSlice_own rfl (RowsF.cons _ _ _ _ _ _ (Opd.tmp _ _ rfl) tC (by rfl) (RowsF.nil _)) rfl rfl rfl) (by first | exact ext_call | exact tE) ?_
      refine Run.effW (dd := some 32) rfl rfl (op_call (n := 2) (n' := 3) [3, 4] (fun _ => hins) rfl (Opd.func _) (Opds.cons _ _ _ _ (Opd.tmp _ _ rfl) (Opds.cons _ _ _ _ (Opd.tmp _ _ rfl) (Opds.cons _ _ _ _ (Opd.tmp _ _ rfl) Opds.nil))) rfl rfl (Lent.of rfl rfl (by exact ⟨⟨rfl, rfl, rfl, trivial⟩, ⟨rfl, rfl, rfl, trivial⟩, trivial⟩) rfl) rfl rfl rfl rfl rfl) (by first | exact ext_call | exact tE) ?_
      refine Run.pure (dd := some 33) rfl rfl (op_idx_sl0 v rfl (Opd.tmp _ _ rfl) (Opd.tmp _ _ rfl) (by intro _; exact ⟨by omega, by omega⟩)) ?_
      refine Run.effW (dd := none) rfl rfl (op_store_refs rfl (Opd.tmp _ _ rfl) (Opd.tmp _ _ rfl) tP rfl rfl hs1 tS) (by first | exact ext_call | exact tE) ?_
      refine Run.nil (FinD.mk (by kernel_rfl) ?_)
      refine Next.untake 1 v 0 rfl (set_get _ _ _ (by rw [List.length_set, tk_len, rowsI_len]; omega)) rfl rfl (by rw [List.length_map, hil, hle]) rfl ?_
      refine Next.weak [0, 1, 2] [] (by rfl) (keepsN hC _ rfl) (G' := []) (H' := [(0, some (.refs 1 [[.sl 1 1 0 n]])), (1, some (.refs 1 (tkL (rowsI (ll.set v (insL row k hq))) u k0))), (2, OI ru)]) trivial (by exact ⟨ent_same rfl rfl rfl tL, ⟨ent_tk rfl rfl rfl (by decide) (congrArg (fun r => some (Ob.refs 1 r)) ((tk_back huv).trans (by rw [rowsI_set]))), ⟨ent_same rfl rfl rfl tL, trivial⟩⟩⟩) (fun _ h => by simp at h) ?_
      exact n_out0 rfl
    · have hh : hit = true := by simpa using hb
      subst hh
      rw [if_pos rfl]
      refine Next.untake 1 v 0 rfl hs1 rfl rfl (by rw [List.length_map]) rfl ?_
      refine Next.weak [0, 1, 2] [] (by rfl) (keepsN hC _ rfl) (G' := []) (H' := [(0, some (.refs 1 [[.sl 1 1 0 n]])), (1, some (.refs 1 (tkL (rowsI (ll.set v (row))) u k0))), (2, OI ru)]) trivial (by exact ⟨ent_same rfl rfl rfl tL, ⟨ent_tk rfl rfl rfl (by decide) (congrArg (fun r => some (Ob.refs 1 r)) ((tk_back2 huv).trans (by rw [rowsI_set]))), ⟨ent_same rfl rfl rfl tL, trivial⟩⟩⟩) (fun _ h => by simp at h) ?_
      refine nK2 ?_
      exact n_out0 rfl
end Go.Proofs.Ytgbfkpcigipniaa
namespace Go.Pl
open Go Go.RT
set_option linter.all false
def ordP (d : List Int) (a : Nat) (v : Nat) : Bool := decide (gt0 d v ≠ -1) && decide ((v : Int) ≠ (a : Int))
def ordA (d : List Int) (a i : Nat) : List Nat := (List.range i).filter (ordP d a)
theorem ordA_succ (d : List Int) (a i : Nat) : ordA d a (i + 1) = ordA d a i ++ if ordP d a i = true then [i] else [] := by
  unfold ordA
  rw [List.range_succ, List.filter_append]
  congr 1
  by_cases h : ordP d a i = true
  · simp [h]
  · simp [h]
theorem ordA_len (d : List Int) (a i : Nat) : (ordA d a i).length ≤ i := by
  have := List.length_filter_le (ordP d a) (List.range i)
  simpa [ordA] using this
theorem ordA_lt {d : List Int} {a i v : Nat} (h : v ∈ ordA d a i) : v < i := by
  have := (List.mem_filter.1 h).1; simpa using this
theorem LLok.nil (n : Nat) : LLok n (List.replicate n []) := ⟨by simp, fun v hv => by
  have : rowAt' (List.replicate n []) v = [] := getD_rep _ _ _ _ hv
  rw [this]; exact ⟨.nil, fun x h => by cases h⟩⟩
/-- parents: nodes, and others than the node itself -/
structure UpOk (n : Nat) (up : List (List Int)) : Prop where
  len : up.length = n
  row : ∀ v, v < n → (rowAt' up v).length ≤ 2000 ∧ ∀ u ∈ rowAt' up v, 0 ≤ u ∧ u < n ∧ u ≠ (v : Int)
theorem LLok.fold {n : Nat} {r : Int} {v : Nat} (hv : v < n) : ∀ (l : List Int) {ll : List (List Int)}, LLok n ll → (∀ x ∈ l, 0 ≤ x ∧ x < n) → LLok n (l.foldl (mergeL r v) ll)
  | [], _, h, _ => h
  | x :: l, _, h, hx => LLok.fold hv l (h.merge r hv (hx x (by simp))) fun y hy => hx y (by simp [hy])
theorem fold_other {r : Int} {v u : Nat} (huv : u ≠ v) : ∀ (l : List Int) (ll : List (List Int)), rowAt' (l.foldl (mergeL r v) ll) u = rowAt' ll u
  | [], _ => rfl
  | x :: l, ll => (fold_other huv l (mergeL r v ll x)).trans (merge_other r v ll x huv)
theorem LLok.step {n : Nat} {ll : List (List Int)} (h : LLok n ll) (r : Int) {a v : Nat} (hv : v < n) {u : Int} (hu : 0 ≤ u ∧ u < n) : LLok n (stepU r a v ll u) := by
  unfold stepU
  refine LLok.fold hv _ ?_ (h.row u.toNat (by omega)).2
  split
  · exact h.merge r hv (by omega)
  · exact h
theorem LLok.steps {n : Nat} {r : Int} {a v : Nat} (hv : v < n) : ∀ (l : List Int) {ll : List (List Int)}, LLok n ll → (∀ x ∈ l, 0 ≤ x ∧ x < n) → LLok n (l.foldl (stepU r a v) ll)
  | [], _, h, _ => h
  | x :: l, _, h, hx => LLok.steps hv l (h.step r hv (hx x (by simp))) fun y hy => hx y (by simp [hy])
theorem LLok.hops {n : Nat} {r : Int} {a : Nat} {up : List (List Int)} (hu : UpOk n up) : ∀ (l : List Nat) {ll : List (List Int)}, LLok n ll → (∀ x ∈ l, x < n) → LLok n (l.foldl (hopsV r a up) ll)
  | [], _, h, _ => h
  | x :: l, _, h, hx => LLok.hops hu l (LLok.steps (hx x (by simp)) _ h fun y hy => by have := (hu.row x (hx x (by simp))).2 y hy; omega) fun y hy => hx y (by simp [hy])
end Go.Pl
