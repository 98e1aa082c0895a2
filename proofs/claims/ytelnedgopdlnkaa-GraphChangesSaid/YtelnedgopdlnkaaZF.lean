/- A part of the proof: G17, RT27, G18, GP11, G19, G20, GP12, G21, LG. -/
import Derived.Test.YtelnedgopdlnkaaZE
set_option linter.all false
namespace Go.Proofs.Ytelnedgopdlnkaa
open Go Go.RT Go.Proofs Go.Pl
set_option linter.all false
set_option maxRecDepth 20000
instance : FnOv Try.prog 90 22   := ⟨_, 4, Try.func90, by decide +kernel, rfl, by kernel_rfl, by kernel_rfl⟩
theorem insert_c (l : List Edg) (x : Edg) (i : Nat) (hn : l.length ≤ 2000000) (hi : i ≤ l.length) : Meets Try.prog 68 [.sl 0 3 0 l.length, IV .i64 i, .sl 1 3 0 1] 2 [(0, OE l), (1, OE [x])] (.sl 2 3 0 (l.length + 1)) [(2, OE (insL l i x))] 3 := by
  have hil := insL_len l i x hi
  have e0 : ∀ xs ys : List Edg, List.map encE (xs ++ ys) = xs.map encE ++ ys.map encE := fun xs ys => List.map_append
  refine Meets.intro Try.func68 rfl (Nat.le_of_ble_eq_true rfl) fun C hC => ?_
  simp only [List.map, argEnv, Nat.reduceAdd]
  by_cases hie : i = l.length
  · refine nK ?_
    refine s_reg rfl ?_
    first | refine Run.pure (dd := some 6) rfl rfl (op_assign rfl (Opd.const _)) ?_ | refine Run.pure (dd := some 6) rfl rfl (op_junk (.inr rfl)) ?_
    refine Run.nil (FinR.mk ?_)
    refine nK ?_
    refine s_reg rfl ?_
    first | refine Run.pure (dd := some 10) rfl rfl (op_move rfl (Opd.tmp _ _ rfl)) ?_ | refine Run.pure (dd := some 10) rfl rfl (op_junk (.inl rfl)) ?_
    first | refine Run.pure (dd := some 11) rfl rfl (op_move rfl (Opd.tmp _ _ rfl)) ?_ | refine Run.pure (dd := some 11) rfl rfl (op_junk (.inl rfl)) ?_
    refine Run.load (dd := some 12) rfl rfl (op_slice_end (l := i) (h := l.length) rfl (Opd.tmp _ _ rfl) (Bnd.yes _ _ _ _ _ (Opd.tmp _ _ rfl) tQ) (Bnd.no _) (by intro _; refine ⟨rfl, ?_⟩; rw [List.length_map]; omega)) ?_
    refine Run.nil (FinR.mk ?_)
    refine nK ?_
    refine s_reg rfl ?_
    first | refine Run.pure (dd := some 13) rfl rfl (op_move rfl (Opd.tmp _ _ rfl)) ?_ | refine Run.pure (dd := some 13) rfl rfl (op_junk (.inl rfl)) ?_
    first | refine Run.pure (dd := some 14) rfl rfl (op_len_fz rfl (by first | exact Opd.tmp _ _ rfl | exact Opd.nil _ _ (Opd.tmp _ _ rfl)) (by first | exact List.length_map _ | rfl)) ?_ | refine Run.pure (dd := some 14) rfl rfl (op_len_sl rfl (Opd.tmp _ _ rfl)) ?_
    first | refine Run.pure (dd := some 7) rfl rfl (op_assign rfl (Opd.tmp _ _ rfl)) ?_ | refine Run.pure (dd := some 7) rfl rfl (op_junk (.inr rfl)) ?_
    refine Run.nil (FinR.mk ?_)
    refine nK ?_
    refine s_reg rfl ?_
    first | refine Run.pure (dd := some 15) rfl rfl (op_move rfl (Opd.tmp _ _ rfl)) ?_ | refine Run.pure (dd := some 15) rfl rfl (op_junk (.inl rfl)) ?_
    refine Run.pure (dd := some 16) rfl rfl (op_eql rfl (Opd.tmp _ _ rfl) (Opd.const _)) ?_
    refine Run.nil (FinR.mk ?_)
    refine nK ?_
    refine n_cond _ rfl (fun hb => ?_) (fun hb => ?_)
    · simp at hb
    · refine nK ?_
      refine s_reg rfl ?_
      first | refine Run.pure (dd := some 18) rfl rfl (op_move rfl (Opd.tmp _ _ rfl)) ?_ | refine Run.pure (dd := some 18) rfl rfl (op_junk (.inl rfl)) ?_
      first | refine Run.pure (dd := some 19) rfl rfl (op_len_fz rfl (by first | exact Opd.tmp _ _ rfl | exact Opd.nil _ _ (Opd.tmp _ _ rfl)) (by first | exact List.length_map _ | rfl)) ?_ | refine Run.pure (dd := some 19) rfl rfl (op_len_sl rfl (Opd.tmp _ _ rfl)) ?_
      first | refine Run.pure (dd := some 8) rfl rfl (op_assign rfl (Opd.tmp _ _ rfl)) ?_ | refine Run.pure (dd := some 8) rfl rfl (op_junk (.inr rfl)) ?_
      refine Run.nil (FinR.mk ?_)
      refine nK ?_
      refine s_reg rfl ?_
      first | refine Run.pure (dd := some 20) rfl rfl (op_move rfl (Opd.tmp _ _ rfl)) ?_ | refine Run.pure (dd := some 20) rfl rfl (op_junk (.inl rfl)) ?_
      first | refine Run.pure (dd := some 21) rfl rfl (op_move rfl (Opd.tmp _ _ rfl)) ?_ | refine Run.pure (dd := some 21) rfl rfl (op_junk (.inl rfl)) ?_
      refine Run.pure (dd := some 22) rfl rfl (op_eql rfl (Opd.tmp _ _ rfl) (Opd.tmp _ _ rfl)) ?_
      refine Run.nil (FinR.mk ?_)
      refine nK ?_
      refine n_cond _ rfl (fun hb => ?_) (fun hb => ?_)
      · have e4 : insL l i x = l ++ [x] := by rw [hie]; simp [insL]
        refine nK ?_
        refine s_reg rfl ?_
        first | refine Run.pure (dd := some 23) rfl rfl (op_move rfl (Opd.tmp _ _ rfl)) ?_ | refine Run.pure (dd := some 23) rfl rfl (op_junk (.inl rfl)) ?_
        first | refine Run.pure (dd := some 24) rfl rfl (op_move rfl (Opd.tmp _ _ rfl)) ?_ | refine Run.pure (dd := some 24) rfl rfl (op_junk (.inl rfl)) ?_
        first | refine Run.eff (dd := some 25) rfl rfl (op_append_own0 rfl (Opd.tmp _ _ rfl) (Opd.tmp _ _ rfl) rfl (by first | rfl | simp) rfl (by first | rfl | simp) rfl rfl tB tB) ?_ | refine Run.eff (dd := some 25) rfl rfl (op_append rfl (Opd.tmp _ _ rfl) (by first | exact Opd.tmp _ _ rfl | exact Opd.nil _ _ (Opd.tmp _ _ rfl)) rfl (by first | rfl | simp) rfl rfl tB tB) ?_
        first | refine Run.pure (dd := some 6) rfl rfl (op_assign rfl (Opd.tmp _ _ rfl)) ?_ | refine Run.pure (dd := some 6) rfl rfl (op_junk (.inr rfl)) ?_
        refine Run.nil (FinR.mk ?_)
        refine nK ?_
        refine Next.weakS [0, 2, 6] [] (by rfl) (keepsN hC _ rfl) (G' := [(6, .sl 2 3 0 (l.length + 1))]) (H' := [(2, OE (insL l i x))]) (by exact ⟨⟨_, rfl, .inl ⟨rfl, rfl⟩⟩, trivial⟩) (by exact ⟨ent_same rfl rfl (by rw [e4, e0]; rfl) trivial, trivial⟩) rfl ?_
        exact n_out1 rfl (by rfl) rfl rfl
      · exfalso; simp at hb; omega
  · refine nK ?_
    refine s_reg rfl ?_
    first | refine Run.pure (dd := some 6) rfl rfl (op_assign rfl (Opd.const _)) ?_ | refine Run.pure (dd := some 6) rfl rfl (op_junk (.inr rfl)) ?_
    refine Run.nil (FinR.mk ?_)
    refine nK ?_
    refine s_reg rfl ?_
    first | refine Run.pure (dd := some 10) rfl rfl (op_move rfl (Opd.tmp _ _ rfl)) ?_ | refine Run.pure (dd := some 10) rfl rfl (op_junk (.inl rfl)) ?_
    first | refine Run.pure (dd := some 11) rfl rfl (op_move rfl (Opd.tmp _ _ rfl)) ?_ | refine Run.pure (dd := some 11) rfl rfl (op_junk (.inl rfl)) ?_
    refine Run.load (dd := some 12) rfl rfl (op_slice_view (l := i) (h := l.length) rfl (Opd.tmp _ _ rfl) (Bnd.yes _ _ _ _ _ (Opd.tmp _ _ rfl) tQ) (Bnd.no _) (by intro _; refine ⟨rfl, ?_⟩; rw [List.length_map]; omega)) ?_
    refine Run.nil (FinR.mk ?_)
    refine nK ?_
    refine s_reg rfl ?_
    first | refine Run.pure (dd := some 13) rfl rfl (op_move rfl (Opd.tmp _ _ rfl)) ?_ | refine Run.pure (dd := some 13) rfl rfl (op_junk (.inl rfl)) ?_
    first | refine Run.pure (dd := some 14) rfl rfl (op_len_fz rfl (by first | exact Opd.tmp _ _ rfl | exact Opd.nil _ _ (Opd.tmp _ _ rfl)) (by first | exact List.length_map _ | rfl)) ?_ | refine Run.pure (dd := some 14) rfl rfl (op_len_sl rfl (Opd.tmp _ _ rfl)) ?_
    first | refine Run.pure (dd := some 7) rfl rfl (op_assign rfl (Opd.tmp _ _ rfl)) ?_ | refine Run.pure (dd := some 7) rfl rfl (op_junk (.inr rfl)) ?_
    refine Run.nil (FinR.mk ?_)
    refine nK ?_
    refine s_reg rfl ?_
    first | refine Run.pure (dd := some 15) rfl rfl (op_move rfl (Opd.tmp _ _ rfl)) ?_ | refine Run.pure (dd := some 15) rfl rfl (op_junk (.inl rfl)) ?_
    refine Run.pure (dd := some 16) rfl rfl (op_eql rfl (Opd.tmp _ _ rfl) (Opd.const _)) ?_
    refine Run.nil (FinR.mk ?_)
    refine nK ?_
    refine n_cond _ rfl (fun hb => ?_) (fun hb => ?_)
    · simp at hb
    · refine nK ?_
      refine s_reg rfl ?_
      first | refine Run.pure (dd := some 18) rfl rfl (op_move rfl (Opd.tmp _ _ rfl)) ?_ | refine Run.pure (dd := some 18) rfl rfl (op_junk (.inl rfl)) ?_
      first | refine Run.pure (dd := some 19) rfl rfl (op_len_fz rfl (by first | exact Opd.tmp _ _ rfl | exact Opd.nil _ _ (Opd.tmp _ _ rfl)) (by first | exact List.length_map _ | rfl)) ?_ | refine Run.pure (dd := some 19) rfl rfl (op_len_sl rfl (Opd.tmp _ _ rfl)) ?_
      first | refine Run.pure (dd := some 8) rfl rfl (op_assign rfl (Opd.tmp _ _ rfl)) ?_ | refine Run.pure (dd := some 8) rfl rfl (op_junk (.inr rfl)) ?_
      refine Run.nil (FinR.mk ?_)
      refine nK ?_
      refine s_reg rfl ?_
      first | refine Run.pure (dd := some 20) rfl rfl (op_move rfl (Opd.tmp _ _ rfl)) ?_ | refine Run.pure (dd := some 20) rfl rfl (op_junk (.inl rfl)) ?_
      first | refine Run.pure (dd := some 21) rfl rfl (op_move rfl (Opd.tmp _ _ rfl)) ?_ | refine Run.pure (dd := some 21) rfl rfl (op_junk (.inl rfl)) ?_
      refine Run.pure (dd := some 22) rfl rfl (op_eql rfl (Opd.tmp _ _ rfl) (Opd.tmp _ _ rfl)) ?_
      refine Run.nil (FinR.mk ?_)
      refine nK ?_
      refine n_cond _ rfl (fun hb => ?_) (fun hb => ?_)
      · exfalso; simp at hb; omega
      · refine Next.capE 0 rfl rfl rfl (Nat.zero_le _) fun cap hc1 hc2 hc3 => ?_
        unfold maxLen at hc3
        refine nK ?_
        refine s_reg rfl ?_
        first | refine Run.pure (dd := some 26) rfl rfl (op_move rfl (Opd.tmp _ _ rfl)) ?_ | refine Run.pure (dd := some 26) rfl rfl (op_junk (.inl rfl)) ?_
        first | refine Run.pure (dd := some 27) rfl rfl (op_move rfl (Opd.tmp _ _ rfl)) ?_ | refine Run.pure (dd := some 27) rfl rfl (op_junk (.inl rfl)) ?_
        refine Run.pure (dd := some 28) rfl rfl (op_add rfl (Opd.tmp _ _ rfl) (Opd.tmp _ _ rfl) tI) ?_
        first | refine Run.pure (dd := some 29) rfl rfl (op_move rfl (Opd.tmp _ _ rfl)) ?_ | refine Run.pure (dd := some 29) rfl rfl (op_junk (.inl rfl)) ?_
        refine Run.pure (dd := some 30) rfl rfl (op_cap rfl (Opd.tmp _ _ rfl)) ?_
        refine Run.pure (dd := some 31) rfl rfl (op_gtr rfl (Opd.tmp _ _ rfl) (Opd.tmp _ _ rfl)) ?_
        refine Run.nil (FinR.mk ?_)
        refine nK ?_
        refine n_cond _ rfl (fun hb => ?_) (fun hb => ?_)
        · have hc4 : cap < l.length + 1 := by simp at hb; omega
          have hlen2 : ((l.map encE).take i ++ List.replicate (l.length + 1 - i) (encE zE)).length = l.length + 1 := by simp; omega
          refine nK ?_
          refine s_reg rfl ?_
          first | refine Run.pure (dd := some 32) rfl rfl (op_move rfl (Opd.tmp _ _ rfl)) ?_ | refine Run.pure (dd := some 32) rfl rfl (op_junk (.inl rfl)) ?_
          first | refine Run.pure (dd := some 33) rfl rfl (op_move rfl (Opd.tmp _ _ rfl)) ?_ | refine Run.pure (dd := some 33) rfl rfl (op_junk (.inl rfl)) ?_
          refine Run.pure (dd := some 34) rfl rfl (op_slice_room (h := i) rfl (Opd.tmp _ _ rfl) (Bnd.yes _ _ _ _ _ (Opd.tmp _ _ rfl) tQ) (by intro _; omega)) ?_
          first | refine Run.pure (dd := some 35) rfl rfl (op_move rfl (Opd.tmp _ _ rfl)) ?_ | refine Run.pure (dd := some 35) rfl rfl (op_junk (.inl rfl)) ?_
          first | refine Run.pure (dd := some 36) rfl rfl (op_move rfl (Opd.tmp _ _ rfl)) ?_ | refine Run.pure (dd := some 36) rfl rfl (op_junk (.inl rfl)) ?_
          refine Run.pure (dd := some 37) rfl rfl (op_add rfl (Opd.tmp _ _ rfl) (Opd.tmp _ _ rfl) tI) ?_
          first | refine Run.pure (dd := some 38) rfl rfl (op_move rfl (Opd.tmp _ _ rfl)) ?_ | refine Run.pure (dd := some 38) rfl rfl (op_junk (.inl rfl)) ?_
          refine Run.pure (dd := some 39) rfl rfl (op_sub rfl (Opd.tmp _ _ rfl) (Opd.tmp _ _ rfl) tI) ?_
          refine Run.eff (dd := some 40) rfl rfl (op_append_zg (k := l.length + 1 - i) (zs := encE zE) rfl (Opd.tmp _ _ rfl) (opdI (Opd.tmp _ _ rfl) (by omega)) rfl rfl rfl rfl rfl (by rw [List.length_map]; omega) (by omega) (by omega) (by omega) (by omega)) ?_
          first | refine Run.pure (dd := some 9) rfl rfl (op_assign rfl (Opd.tmp _ _ rfl)) ?_ | refine Run.pure (dd := some 9) rfl rfl (op_junk (.inr rfl)) ?_
          refine Run.nil (FinR.mk ?_)
          refine nK ?_
          have hz : ∀ k : Nat, (some (Ob.flat 3 ((l.map encE).take i ++ List.replicate k [If .i64 0, If .i64 0, If .i64 0]))) = some (.flat 3 ((l.map encE).take i ++ List.replicate k (encE zE))) := fun _ => rfl
          refine nK ?_
          refine s_reg rfl ?_
          first | refine Run.pure (dd := some 41) rfl rfl (op_move rfl (Opd.tmp _ _ rfl)) ?_ | refine Run.pure (dd := some 41) rfl rfl (op_junk (.inl rfl)) ?_
          first | refine Run.pure (dd := some 42) rfl rfl (op_move rfl (Opd.tmp _ _ rfl)) ?_ | refine Run.pure (dd := some 42) rfl rfl (op_junk (.inl rfl)) ?_
          refine Run.load (dd := some 43) rfl rfl (op_slice_view (l := i) (h := i + (l.length + 1 - i)) rfl (Opd.tmp _ _ rfl) (Bnd.yes _ _ _ _ _ (Opd.tmp _ _ rfl) tQ) (Bnd.no _) (by intro _; refine ⟨rfl, ?_⟩; rw [hlen2]; omega)) ?_
          first | refine Run.pure (dd := some 44) rfl rfl (op_move rfl (Opd.tmp _ _ rfl)) ?_ | refine Run.pure (dd := some 44) rfl rfl (op_junk (.inl rfl)) ?_
          refine Run.eff (dd := some 45) rfl rfl (op_copy (n := 1) (rs := [x].map encE) rfl (Opd.tmp _ _ rfl) (Opd.tmp _ _ rfl) rfl rfl (by show min _ _ = _; omega) rfl rfl (by rw [hlen2]; omega)) ?_
          refine Run.nil (FinR.mk ?_)
          refine nK ?_
          have hlen3 : (((l.map encE).take i ++ List.replicate (l.length + 1 - i) (encE zE)).take (0 + i) ++ [x].map encE ++ ((l.map encE).take i ++ List.replicate (l.length + 1 - i) (encE zE)).drop (0 + i + 1)).length = l.length + 1 := by simp; omega
          refine nK ?_
          refine s_draw mixed ?_
          first | refine Run.pure (dd := some 46) rfl rfl (op_move rfl (Opd.tmp _ _ rfl)) ?_ | refine Run.pure (dd := some 46) rfl rfl (op_junk (.inl rfl)) ?_
          first | refine Run.pure (dd := some 47) rfl rfl (op_move rfl (Opd.tmp _ _ rfl)) ?_ | refine Run.pure (dd := some 47) rfl rfl (op_junk (.inl rfl)) ?_
          first | refine Run.pure (dd := some 48) rfl rfl (op_move rfl (Opd.tmp _ _ rfl)) ?_ | refine Run.pure (dd := some 48) rfl rfl (op_junk (.inl rfl)) ?_
          refine Run.pure (dd := some 49) rfl rfl (op_add rfl (Opd.tmp _ _ rfl) (Opd.tmp _ _ rfl) tI) ?_
          refine Run.load (dd := some 50) rfl rfl (op_slice_view (l := i + 1) (h := i + (l.length + 1 - i)) rfl (Opd.tmp _ _ rfl) (Bnd.yes _ _ _ _ _ (Opd.tmp _ _ rfl) tQ) (Bnd.no _) (by intro _; refine ⟨rfl, ?_⟩; rw [hlen3]; omega)) ?_
          first | refine Run.pure (dd := some 51) rfl rfl (op_move rfl (Opd.tmp _ _ rfl)) ?_ | refine Run.pure (dd := some 51) rfl rfl (op_junk (.inl rfl)) ?_
          first | refine Run.pure (dd := some 52) rfl rfl (op_move rfl (Opd.tmp _ _ rfl)) ?_ | refine Run.pure (dd := some 52) rfl rfl (op_junk (.inl rfl)) ?_
          refine Run.load (dd := some 53) rfl rfl (op_slice_view (l := i) (h := l.length) rfl (Opd.wc _ _ _ (Opd.tmp _ _ rfl)) (Bnd.yes _ _ _ _ _ (Opd.tmp _ _ rfl) tQ) (Bnd.no _) (by intro _; refine ⟨rfl, ?_⟩; rw [List.length_map]; omega)) ?_
          refine Run.effW (dd := some 54) rfl rfl (op_copy (n := l.length - i) (rs := (l.map encE).drop i) rfl (Opd.tmp _ _ rfl) (Opd.tmp _ _ rfl) rfl rfl (by show min _ _ = _; omega) (by rw [Nat.zero_add, List.take_of_length_le (by simp)]) (by simp) (by rw [hlen3]; omega)) tE ?_
          refine Run.nil (FinD.mk (by kernel_rfl) ?_)
          refine nK ?_
          have hgr := ins_grow (l.map encE) i (encE x) (encE zE) (by rw [List.length_map]; omega)
          rw [List.length_map, ← insL_map] at hgr
          refine nK ?_
          refine s_reg rfl ?_
          first | refine Run.pure (dd := some 55) rfl rfl (op_move rfl (Opd.tmp _ _ rfl)) ?_ | refine Run.pure (dd := some 55) rfl rfl (op_junk (.inl rfl)) ?_
          first | refine Run.pure (dd := some 6) rfl rfl (op_assign rfl (Opd.tmp _ _ rfl)) ?_ | refine Run.pure (dd := some 6) rfl rfl (op_junk (.inr rfl)) ?_
          refine Run.nil (FinR.mk ?_)
          refine nK ?_
          refine Next.weakS [0, 2, 6] [] (by rfl) (keepsN hC _ rfl) (G' := [(6, .sl 2 3 0 (l.length + 1))]) (H' := [(2, OE (insL l i x))]) (by exact ⟨⟨_, rfl, .inl ⟨slEq rfl (by omega), rfl⟩⟩, trivial⟩) (by exact ⟨ent_same rfl rfl (by rw [← hgr]; simp only [Nat.zero_add]; rfl) trivial, trivial⟩) rfl ?_
          exact n_out1 rfl (by rfl) rfl rfl
        · have hc4 : l.length + 1 ≤ cap := by simp at hb; omega
          refine nK ?_
          refine s_reg rfl ?_
          first | refine Run.pure (dd := some 56) rfl rfl (op_move rfl (Opd.tmp _ _ rfl)) ?_ | refine Run.pure (dd := some 56) rfl rfl (op_junk (.inl rfl)) ?_
          first | refine Run.pure (dd := some 57) rfl rfl (op_move rfl (Opd.tmp _ _ rfl)) ?_ | refine Run.pure (dd := some 57) rfl rfl (op_junk (.inl rfl)) ?_
          first | refine Run.pure (dd := some 58) rfl rfl (op_move rfl (Opd.tmp _ _ rfl)) ?_ | refine Run.pure (dd := some 58) rfl rfl (op_junk (.inl rfl)) ?_
          refine Run.pure (dd := some 59) rfl rfl (op_add rfl (Opd.tmp _ _ rfl) (Opd.tmp _ _ rfl) tI) ?_
          refine Run.pure (dd := some 60) rfl rfl (op_slice_room (h := l.length + 1) rfl (Opd.tmp _ _ rfl) (Bnd.yes _ _ _ _ _ (Opd.tmp _ _ rfl) (by intro _; simp)) (by intro _; omega)) ?_
          first | refine Run.pure (dd := some 0) rfl rfl (op_assign rfl (Opd.tmp _ _ rfl)) ?_ | refine Run.pure (dd := some 0) rfl rfl (op_junk (.inr rfl)) ?_
          refine Run.nil (FinR.mk ?_)
          refine nK ?_
          refine nK ?_
          refine s_reg rfl ?_
          first | refine Run.pure (dd := some 61) rfl rfl (op_move rfl (Opd.tmp _ _ rfl)) ?_ | refine Run.pure (dd := some 61) rfl rfl (op_junk (.inl rfl)) ?_
          first | refine Run.pure (dd := some 62) rfl rfl (op_move rfl (Opd.tmp _ _ rfl)) ?_ | refine Run.pure (dd := some 62) rfl rfl (op_junk (.inl rfl)) ?_
          first | refine Run.pure (dd := some 63) rfl rfl (op_move rfl (Opd.tmp _ _ rfl)) ?_ | refine Run.pure (dd := some 63) rfl rfl (op_junk (.inl rfl)) ?_
          first | refine Run.pure (dd := some 64) rfl rfl (op_move rfl (Opd.tmp _ _ rfl)) ?_ | refine Run.pure (dd := some 64) rfl rfl (op_junk (.inl rfl)) ?_
          refine Run.pure (dd := some 65) rfl rfl (op_add rfl (Opd.tmp _ _ rfl) (Opd.tmp _ _ rfl) tI) ?_
          refine Run.pure (dd := some 66) rfl rfl (op_slice_fromR (l := i + 1) rfl (Opd.tmp _ _ rfl) (Bnd.yes _ _ _ _ _ (Opd.tmp _ _ rfl) tQ) (by intro _; omega)) ?_
          refine Run.load (dd := some 67) rfl rfl (op_overlaps rfl (Opd.tmp _ _ rfl) (Opd.tmp _ _ rfl) rfl rfl rfl (by rw [List.length_map]; omega) rfl) ?_
          refine Run.pure (dd := some 68) rfl rfl (op_not rfl (Opd.tmp _ _ rfl)) ?_
          refine Run.nil (FinR.mk ?_)
          refine nK ?_
          refine n_cond _ rfl (fun hb => ?_) (fun hb => ?_)
          · refine nK ?_
            refine s_draw mixed ?_
            first | refine Run.pure (dd := some 69) rfl rfl (op_move rfl (Opd.tmp _ _ rfl)) ?_ | refine Run.pure (dd := some 69) rfl rfl (op_junk (.inl rfl)) ?_
            first | refine Run.pure (dd := some 70) rfl rfl (op_move rfl (Opd.tmp _ _ rfl)) ?_ | refine Run.pure (dd := some 70) rfl rfl (op_junk (.inl rfl)) ?_
            first | refine Run.pure (dd := some 71) rfl rfl (op_move rfl (Opd.tmp _ _ rfl)) ?_ | refine Run.pure (dd := some 71) rfl rfl (op_junk (.inl rfl)) ?_
            refine Run.pure (dd := some 72) rfl rfl (op_add rfl (Opd.tmp _ _ rfl) (Opd.tmp _ _ rfl) tI) ?_
            refine Run.pure (dd := some 73) rfl rfl (op_slice_fromR (l := i + 1) rfl (Opd.tmp _ _ rfl) (Bnd.yes _ _ _ _ _ (Opd.tmp _ _ rfl) tQ) (by intro _; omega)) ?_
            first | refine Run.pure (dd := some 74) rfl rfl (op_move rfl (Opd.tmp _ _ rfl)) ?_ | refine Run.pure (dd := some 74) rfl rfl (op_junk (.inl rfl)) ?_
            first | refine Run.pure (dd := some 75) rfl rfl (op_move rfl (Opd.tmp _ _ rfl)) ?_ | refine Run.pure (dd := some 75) rfl rfl (op_junk (.inl rfl)) ?_
            refine Run.pure (dd := some 76) rfl rfl (op_slice_fromR (l := i) rfl (Opd.tmp _ _ rfl) (Bnd.yes _ _ _ _ _ (Opd.tmp _ _ rfl) tQ) (by intro _; omega)) ?_
            refine Run.effW (dd := some 77) rfl rfl (op_copy (n := l.length - i) (rs := (l.map encE).drop i) rfl (Opd.tmp _ _ rfl) (Opd.tmp _ _ rfl) rfl rfl (by show min _ _ = _; omega) (by rw [Nat.zero_add, List.take_of_length_le (by simp)]) (by simp) (by rw [List.length_map]; omega)) tE ?_
            refine Run.nil (FinD.mk (by kernel_rfl) ?_)
            refine nK ?_
            have hl5 : ((l.map encE).take (0 + (i + 1)) ++ (l.map encE).drop i ++ (l.map encE).drop (0 + (i + 1) + (l.length - i))).length = l.length + 1 := by simp; omega
            have hgr := ins_room (l.map encE) i (encE x) (by rw [List.length_map]; omega)
            rw [List.length_map, ← insL_map] at hgr
            refine nK ?_
            refine s_reg rfl ?_
            first | refine Run.pure (dd := some 78) rfl rfl (op_move rfl (Opd.tmp _ _ rfl)) ?_ | refine Run.pure (dd := some 78) rfl rfl (op_junk (.inl rfl)) ?_
            first | refine Run.pure (dd := some 79) rfl rfl (op_move rfl (Opd.tmp _ _ rfl)) ?_ | refine Run.pure (dd := some 79) rfl rfl (op_junk (.inl rfl)) ?_
            refine Run.load (dd := some 80) rfl rfl (op_slice_view (l := i) (h := l.length + 1) rfl (Opd.wc _ _ _ (Opd.tmp _ _ rfl)) (Bnd.yes _ _ _ _ _ (Opd.tmp _ _ rfl) tQ) (Bnd.no _) (by intro _; refine ⟨rfl, ?_⟩; rw [hl5]; omega)) ?_
            first | refine Run.pure (dd := some 81) rfl rfl (op_move rfl (Opd.tmp _ _ rfl)) ?_ | refine Run.pure (dd := some 81) rfl rfl (op_junk (.inl rfl)) ?_
            refine Run.eff (dd := some 82) rfl rfl (op_copy (n := 1) (rs := [x].map encE) rfl (Opd.tmp _ _ rfl) (Opd.tmp _ _ rfl) rfl rfl (by show min _ _ = _; omega) rfl rfl (by rw [hl5]; omega)) ?_
            refine Run.nil (FinR.mk ?_)
            refine nK ?_
            refine s_reg rfl ?_
            first | refine Run.pure (dd := some 83) rfl rfl (op_move rfl (Opd.tmp _ _ rfl)) ?_ | refine Run.pure (dd := some 83) rfl rfl (op_junk (.inl rfl)) ?_
            first | refine Run.pure (dd := some 6) rfl rfl (op_assign rfl (Opd.tmp _ _ rfl)) ?_ | refine Run.pure (dd := some 6) rfl rfl (op_junk (.inr rfl)) ?_
            refine Run.nil (FinR.mk ?_)
            refine nK ?_
            refine Next.unwc 6 rfl ?_
            refine Next.retag 6 rfl rfl ?_
            refine Next.weakS [0, 2, 6] [] (by rfl) (keepsN hC _ rfl) (G' := [(6, .sl 2 3 0 (l.length + 1))]) (H' := [(2, OE (insL l i x))]) (by exact ⟨⟨_, rfl, .inl ⟨rfl, rfl⟩⟩, trivial⟩) (by exact ⟨ent_same rfl rfl (by rw [← hgr]; simp only [Nat.zero_add]; rfl) trivial, trivial⟩) rfl ?_
            exact n_out1 rfl (by rfl) rfl rfl
          · exfalso; simp at hb
end Go.Proofs.Ytelnedgopdlnkaa
/- Nil checks. Slices that one cell alone leads to: taken out as an object of its own, put back, frozen. -/
namespace Go.RT
open Go
set_option linter.all false
section
variable {P : Program} {o : Oper} {g : Bool} {G : Env} {x y : Operand} {t t' : TypeId} {H : Hp} {nx : Nat}
theorem op_nilck_ptr {id sz row col : Nat} (ho : o.op = .nilCheck x) (hx : Opd G g x (.ptr id sz row col)) : OpP P o g G (.ptr id sz row col) :=
  .of fun S m a w hg ha => by
    have h1 := hx.rep hg (by simp [ho, Op.operands]) ha
    generalize hv : a.eval x = v at h1
    refine ⟨v, ?_, h1⟩
    cases h1 with
    | ptr => simp [execOp, ho, hv]
theorem op_nilck_fz {fs : List FV} (ho : o.op = .nilCheck x) (hx : Opd G g x (.fz (.cellp fs))) : OpP P o g G (.fz (.cellp fs)) :=
  .of fun S m a w hg ha => by
    have h1 := hx.rep hg (by simp [ho, Op.operands]) ha
    generalize hv : a.eval x = v at h1
    refine ⟨v, ?_, h1⟩
    cases h1 with
    | fz _ _ h => cases h with
      | cellp => simp [execOp, ho, hv]
theorem op_nilck_clo {f : FuncId} {ps qs : List PV} (ho : o.op = .nilCheck x) (hx : Opd G g x (.clo f ps qs)) : OpP P o g G (.clo f ps qs) :=
  .of fun S m a w hg ha => by
    have h1 := hx.rep hg (by simp [ho, Op.operands]) ha
    generalize hv : a.eval x = v at h1
    refine ⟨v, ?_, h1⟩
    cases h1 with
    | clo => simp [execOp, ho, hv]
theorem op_nilck_fclo {f : FuncId} {qs : List FV} (ho : o.op = .nilCheck x) (hx : Opd G g x (.fz (.clo f qs))) : OpP P o g G (.fz (.clo f qs)) :=
  .of fun S m a w hg ha => by
    have h1 := hx.rep hg (by simp [ho, Op.operands]) ha
    generalize hv : a.eval x = v at h1
    refine ⟨v, ?_, h1⟩
    cases h1 with
    | fz _ _ h => cases h with
      | clo => simp [execOp, ho, hv]
theorem RowsRep.setCell {α : Type} {R : Value → α → Prop} {c : Array Value} {s : Nat} {rows : List (List α)} (h : RowsRep R c s rows) {i j : Nat} {r : List α} {p q : α} (hrow : rows[i]? = some r) (hcol : r[j]? = some p) (hq : ∀ u, c[i * s + j]? = some u → R u p → R u q) :
    RowsRep R c s (rows.set i (r.set j q)) := by
  refine ⟨by simpa using h.1, fun r' hr' => ?_, fun i2 j2 r2 p2 hi hj => ?_⟩
  · rcases List.mem_or_eq_of_mem_set hr' with h1 | rfl
    · exact h.2.1 r' h1
    · simpa using h.2.1 r (List.mem_of_getElem? hrow)
  · rw [List.getElem?_set] at hi
    by_cases h1 : i = i2
    · subst h1
      have hlt : i < rows.length := (List.getElem?_eq_some_iff.1 hrow).1
      simp only [if_true, hlt] at hi
      cases hi
      rw [List.getElem?_set] at hj
      by_cases h2 : j = j2
      · subst h2
        have hlt2 : j < r.length := (List.getElem?_eq_some_iff.1 hcol).1
        simp only [if_true, hlt2] at hj
        cases hj
        obtain ⟨u, hu, ho1, hp⟩ := h.2.2 i j r _ hrow hcol
        exact ⟨u, hu, ho1, hq u hu hp⟩
      · rw [if_neg h2] at hj
        exact h.2.2 i j2 r p2 hrow hj
    · rw [if_neg h1] at hi
      exact h.2.2 i2 j2 r2 p2 hi hj
/-- which cells own, behind a cell set anew -/
theorem own_set_other {id s i j : Nat} {rows : List (List PV)} {r : List PV} {q : PV} (hrow : rows[i]? = some r) (hl : hlook H id = some (.refs s rows)) {H1 : Hp} {id2 s2 i2 j2 isz : Nat} {irows : List (List FV)} (hO : OwnE ((id, some (.refs s (rows.set i (r.set j q)))) :: H1) id2 s2 i2 j2 isz irows)
    (hh : ∀ o, id ≠ id2 → hlook H1 id2 = some o → (∃ rows r, o = .refs s2 rows ∧ rows[i2]? = some r ∧ r[j2]? = some (.own isz irows)) → hlook H id2 = some o) : (id2 = id ∧ i2 = i ∧ j2 = j ∧ q = .own isz irows ∧ s2 = s) ∨ (OwnE H id2 s2 i2 j2 isz irows ∧ ¬ (id2 = id ∧ i2 = i ∧ j2 = j)) := by
  obtain ⟨rows2, r2, h1, h2, h3⟩ := hO
  rw [hlook_cons] at h1
  by_cases he : id = id2
  · rw [if_pos he] at h1
    subst he
    cases h1
    rw [List.getElem?_set] at h2
    by_cases hi : i = i2
    · subst hi
      rw [if_pos rfl, if_pos (List.getElem?_eq_some_iff.1 hrow).1] at h2
      cases h2
      rw [List.getElem?_set] at h3
      by_cases hj : j = j2
      · subst hj
        rw [if_pos rfl] at h3
        split at h3
        · exact .inl ⟨rfl, rfl, rfl, Option.some.inj h3, rfl⟩
        · cases h3
      · rw [if_neg hj] at h3
        exact .inr ⟨⟨rows, r, hl, hrow, h3⟩, fun ⟨_, _, e⟩ => hj e.symm⟩
    · rw [if_neg hi] at h2
      exact .inr ⟨⟨rows, r2, hl, h2, h3⟩, fun ⟨_, e, _⟩ => hi e.symm⟩
  · rw [if_neg he] at h1
    exact .inr ⟨⟨rows2, r2, hh _ he h1 ⟨rows2, r2, rfl, h2, h3⟩, h2, h3⟩, fun ⟨e, _, _⟩ => he e.symm⟩
/-- a slice that a cell owns, taken out -/
theorem Next.take {C : Cx} {N : Nat} {K : Act → World → Prop} (id i j : Nat) {s isz : Nat} {rows rows' : List (List PV)} {r : List PV} {irows : List (List FV)} (hl : hlook H id = some (.refs s rows)) (hrow : rows[i]? = some r) (hcol : r[j]? = some (.own isz irows)) (hr : rows.set i (r.set j (.sl nx isz 0 irows.length)) = rows')
    (h : Next C N G ((id, some (.refs s rows')) :: (nx, some (.flat isz irows)) :: H) (nx + 1) K) : Next C N G H nx K := by
  subst hr
  intro ac w hR
  obtain ⟨S, m, hm, hsl⟩ := hR.mem
  obtain ⟨ib, hn⟩ := hm.nst
  have hO : OwnE H id s i j isz irows := ⟨rows, r, hl, hrow, hcol⟩
  obtain ⟨b, c, e, u, k1, k2, k3, k4⟩ := hn.at_ _ _ _ _ _ _ hO
  have hids : ∀ i y, m i = some y → i ≠ nx := fun i y hi => by have := hm.lt hi; omega
  have hle : Le S m w S (setM m nx (ib id i j)) w := ⟨fun _ h => h, fun _ _ => rfl, fun i y hi => by rw [setM_other (hids i y hi)]; exact hi, fun _ _ h => h⟩
  have hidne : id ≠ nx := hids _ _ k1
  have hHne : ∀ id2 o2, hlook H id2 = some o2 → id2 ≠ nx := fun id2 o2 h2 => by obtain ⟨y, hy⟩ := (hm.objs id2 _ h2).known; exact hids _ _ hy
  have ex : ∀ id2 o2, hlook ((id, some (Ob.refs s (rows.set i (r.set j (.sl nx isz 0 irows.length))))) :: (nx, some (.flat isz irows)) :: H) id2 = some o2 → (id2 = id ∧ o2 = .refs s (rows.set i (r.set j (.sl nx isz 0 irows.length)))) ∨ (id2 = nx ∧ o2 = .flat isz irows) ∨ (id2 ≠ id ∧ id2 ≠ nx ∧ hlook H id2 = some o2) := fun id2 o2 h2 => by
    rw [hlook_cons] at h2
    by_cases h3 : id = id2
    · rw [if_pos h3] at h2; cases h2; exact .inl ⟨h3.symm, rfl⟩
    · rw [if_neg h3, hlook_cons] at h2
      by_cases h4 : nx = id2
      · rw [if_pos h4] at h2; cases h2; exact .inr (.inl ⟨h4.symm, rfl⟩)
      · rw [if_neg h4] at h2; exact .inr (.inr ⟨fun e => h3 e.symm, fun e => h4 e.symm, h2⟩)
  have hrep : Rep w S (setM m nx (ib id i j)) u (.sl nx isz 0 irows.length) := by
    rcases k4 with ⟨q1, q2, q3⟩ | ⟨b', c', e', cap, q1, q2, q3, q4, q5, q6, q7, q8, q9, q10⟩
    · subst q2; subst q3; exact .sl0 _ _ (by rw [setM_self, q1])
    · subst q2
      have := Rep.sl (w := w) (S := S) (m := setM m nx (ib id i j)) nx isz 0 irows.length b' cap (by rw [setM_self, q1]) ⟨c', e', _, q5, by rw [q6, Nat.zero_add]⟩ q3 (by omega)
      simpa using this
  have hxb : ∀ b', ib id i j = some b' → ¬ S b' ∧ b' < w.heap.size ∧ (C.w0.heap.size ≤ b' ∨ C.own0 b') := fun b' hb => by
    rcases k4 with ⟨q1, _⟩ | ⟨b2, c', e', cap, q1, q2, q3, q4, q5, q6, q7, q8, q9, q10⟩
    · rw [hb] at q1; cases q1
    · rw [hb] at q1; cases q1; exact ⟨q8, q9, q10⟩
  refine h ac w ⟨hR.defers, hR.size, S, setM m nx (ib id i j), hm.step hle ⟨rfl, Nat.le_refl _⟩ rfl rfl (fun _ _ => rfl) (Nat.le_refl _) (fun _ _ _ => rfl) (fun _ h => .inl h) (fun id2 o2 h2 => ?_) (fun id2 o2 b2 h2 hb2 => ?_) (fun i1 i2 o1 o2 b2 h1 h2 h3 h4 => ?_) hm.stab (fun i2 hi2 => ?_) ?_, fun t q hq => (hsl t q hq).mono hle⟩
  · rcases ex id2 o2 h2 with ⟨rfl, rfl⟩ | ⟨rfl, rfl⟩ | ⟨_, _, h3⟩
    · rcases hm.objs _ _ hl with ⟨q1, q2⟩ | ⟨b2, c2, e2, q1, q2, q3⟩
      · subst q2; simp at hrow
      · rw [k1] at q1; cases q1
        rw [k2] at q2; cases q2
        exact .inr ⟨_, _, _, hle.ids _ _ k1, k2, (q3.mono fun v p h => h.mono hle).setCell hrow hcol (fun u2 hu2 _ => by rw [k3] at hu2; cases hu2; exact hrep)⟩
    · rcases k4 with ⟨q1, q2, q3⟩ | ⟨b', c', e', cap, q1, q2, q3, q4, q5, q6, q7, q8, q9, q10⟩
      · exact .inl ⟨by rw [setM_self, q1], q3⟩
      · exact .inr ⟨b', c', e', by rw [setM_self, q1], q5, q7⟩
    · exact (hm.objs _ _ h3).mono hle (fun _ _ => rfl)
  · rcases ex id2 o2 h2 with ⟨rfl, rfl⟩ | ⟨rfl, rfl⟩ | ⟨_, hne, h3⟩
    · rw [setM_other hidne] at hb2; exact hm.blk _ _ b2 hl hb2
    · rw [setM_self] at hb2; exact hxb b2 (by simpa using hb2)
    · rw [setM_other hne] at hb2; exact hm.blk _ _ b2 h3 hb2
  · have old : ∀ i1 o1, hlook ((id, some (Ob.refs s (rows.set i (r.set j (.sl nx isz 0 irows.length))))) :: (nx, some (.flat isz irows)) :: H) i1 = some o1 → i1 ≠ nx → ∃ o3, hlook H i1 = some o3 := fun i1 o1 h1 hne => by
      rcases ex i1 o1 h1 with ⟨rfl, _⟩ | ⟨rfl, _⟩ | ⟨_, _, h3⟩
      · exact ⟨_, hl⟩
      · exact absurd rfl hne
      · exact ⟨_, h3⟩
    by_cases a1 : i1 = nx <;> by_cases a2 : i2 = nx
    · rw [a1, a2]
    · subst a1
      obtain ⟨o3, ho3⟩ := old i2 o2 h2 a2
      rw [setM_self] at h3; rw [setM_other a2] at h4
      exact absurd h4 (hn.apart _ _ _ _ _ _ b2 hO (by simpa using h3) _ _ ho3)
    · subst a2
      obtain ⟨o3, ho3⟩ := old i1 o1 h1 a1
      rw [setM_self] at h4; rw [setM_other a1] at h3
      exact absurd h3 (hn.apart _ _ _ _ _ _ b2 hO (by simpa using h4) _ _ ho3)
    · obtain ⟨o3, ho3⟩ := old i1 o1 h1 a1
      obtain ⟨o4, ho4⟩ := old i2 o2 h2 a2
      rw [setM_other a1] at h3; rw [setM_other a2] at h4
      exact hm.inj _ _ _ _ b2 ho3 ho4 h3 h4
  · rw [setM_other (by omega)]; exact hm.fresh i2 (by omega)
  · have hOE : ∀ id2 s2 i2 j2 isz2 irows2, OwnE ((id, some (Ob.refs s (rows.set i (r.set j (.sl nx isz 0 irows.length))))) :: (nx, some (.flat isz irows)) :: H) id2 s2 i2 j2 isz2 irows2 → OwnE H id2 s2 i2 j2 isz2 irows2 ∧ ¬ (id2 = id ∧ i2 = i ∧ j2 = j) := fun id2 s2 i2 j2 isz2 irows2 h2 => by
      rcases own_set_other (H := H) hrow hl h2 (fun o hne h3 ⟨rows2, r2, ho, _, _⟩ => by
        rw [hlook_cons] at h3
        by_cases h4 : nx = id2
        · rw [if_pos h4] at h3; cases h3; cases ho
        · rwa [if_neg h4] at h3) with ⟨_, _, _, q, _⟩ | q
      · cases q
      · exact q
    refine ⟨ib, hn.keep (fun i => i) (fun id2 s2 i2 j2 isz2 irows2 h2 => ⟨(hOE _ _ _ _ _ _ h2).1, ?_⟩) (fun _ _ _ _ _ _ _ _ _ _ _ _ _ _ h => h) (fun _ h => h) (fun _ _ => rfl) (fun _ _ _ _ _ _ _ c e _ _ _ k2 k3 => ⟨c, e, k2, k3⟩) (fun id2 s2 i2 j2 isz2 irows2 b' h2 hb g1 g2 g3 g4 => ⟨rfl, g1, g2, g3, fun id3 o3 h3 hc => ?_⟩)⟩
    · obtain ⟨rows3, r3, q1, _⟩ := (hOE _ _ _ _ _ _ h2).1
      rw [setM_other (hHne _ _ q1)]
    · rcases ex id3 o3 h3 with ⟨rfl, rfl⟩ | ⟨rfl, rfl⟩ | ⟨_, hne, h5⟩
      · rw [setM_other hidne] at hc; exact g4 _ _ hl hc
      · rw [setM_self] at hc
        exact (hOE _ _ _ _ _ _ h2).2 (hn.inj _ _ _ _ _ _ _ _ _ _ _ _ b' (hOE _ _ _ _ _ _ h2).1 hO hb (by simpa using hc))
      · rw [setM_other hne] at hc; exact g4 _ _ h5 hc
/-- a slice put back into the cell that leads to it: the cell owns it from then on -/
theorem Next.untake {C : Cx} {N : Nat} {K : Act → World → Prop} (id i j : Nat) {s a isz n : Nat} {rows rows' : List (List PV)} {r : List PV} {irows : List (List FV)} (hl : hlook H id = some (.refs s rows)) (hrow : rows[i]? = some r) (hcol : r[j]? = some (.sl a isz 0 n)) (ha : hlook H a = some (.flat isz irows)) (hn : irows.length = n)
    (hr : rows.set i (r.set j (.own isz irows)) = rows') (h : Next C N G ((id, some (.refs s rows')) :: (a, none) :: H) nx K) : Next C N G H nx K := by
  subst hr; subst hn
  intro ac w hR
  obtain ⟨S, m, hm, hsl⟩ := hR.mem
  obtain ⟨ib, hn⟩ := hm.nst
  have hida : id ≠ a := fun e => by subst e; rw [hl] at ha; cases ha
  rcases hm.objs _ _ hl with ⟨q1, q2⟩ | ⟨b, c, e, k1, k2, k3⟩
  · subst q2; simp at hrow
  obtain ⟨u, hu, hu1, hrep⟩ := k3.2.2 i j r _ hrow hcol
  have ex : ∀ id2 o2, hlook ((id, some (Ob.refs s (rows.set i (r.set j (.own isz irows))))) :: (a, none) :: H) id2 = some o2 → (id2 = id ∧ o2 = .refs s (rows.set i (r.set j (.own isz irows)))) ∨ (id2 ≠ id ∧ id2 ≠ a ∧ hlook H id2 = some o2) := fun id2 o2 h2 => by
    rw [hlook_cons] at h2
    by_cases h3 : id = id2
    · rw [if_pos h3] at h2; cases h2; exact .inl ⟨h3.symm, rfl⟩
    · rw [if_neg h3, hlook_cons] at h2
      by_cases h4 : a = id2
      · rw [if_pos h4] at h2; cases h2
      · rw [if_neg h4] at h2; exact .inr ⟨fun e => h3 e.symm, fun e => h4 e.symm, h2⟩
  have exo : ∀ id2 o2, hlook ((id, some (Ob.refs s (rows.set i (r.set j (.own isz irows))))) :: (a, none) :: H) id2 = some o2 → id2 ≠ a ∧ ∃ o3, hlook H id2 = some o3 := fun id2 o2 h2 => by
    rcases ex id2 o2 h2 with ⟨rfl, _⟩ | ⟨_, h3, h4⟩
    · exact ⟨hida, _, hl⟩
    · exact ⟨h3, _, h4⟩
  have hOE : ∀ id2 s2 i2 j2 isz2 irows2, OwnE ((id, some (Ob.refs s (rows.set i (r.set j (.own isz irows))))) :: (a, none) :: H) id2 s2 i2 j2 isz2 irows2 → (id2 = id ∧ i2 = i ∧ j2 = j ∧ isz2 = isz ∧ irows2 = irows ∧ s2 = s) ∨ (OwnE H id2 s2 i2 j2 isz2 irows2 ∧ ¬ (id2 = id ∧ i2 = i ∧ j2 = j)) := fun id2 s2 i2 j2 isz2 irows2 h2 => by
    rcases own_set_other (H := H) hrow hl h2 (fun o hne h3 _ => by
      rw [hlook_cons] at h3
      by_cases h4 : a = id2
      · rw [if_pos h4] at h3; cases h3
      · rwa [if_neg h4] at h3) with ⟨q1, q2, q3, q4, q5⟩ | q
    · cases q4; exact .inl ⟨q1, q2, q3, rfl, rfl, q5⟩
    · exact .inr q
  obtain ⟨x, hx⟩ := (hm.objs _ _ ha).known
  have hin : InAt C S w isz irows u x := by
    generalize hnn : irows.length = n at hrep
    cases hrep with
    | sl0 _ _ q => exact .inl ⟨by rw [q] at hx; cases hx; rfl, rfl, List.eq_nil_of_length_eq_zero hnn⟩
    | sl _ _ _ _ b' cap q hrm hc hmx =>
      rw [q] at hx; cases hx
      obtain ⟨p1, p2, p3⟩ := hm.blk _ _ b' ha q
      rcases hm.objs _ _ ha with ⟨z1, _⟩ | ⟨b2, c2, e2, z1, z2, z3⟩
      · rw [q] at z1; cases z1
      · rw [q] at z1; cases z1
        obtain ⟨c3, e3, fr, y1, y2⟩ := hrm
        rw [z2] at y1; cases y1
        refine .inr ⟨b', c2, e2, cap, rfl, ?_, by omega, by omega, z2, by rw [y2, Nat.zero_add], z3, p1, p2, p3⟩
        rw [hnn]; simp
  let ibn : Nat → Nat → Nat → Option Nat := fun id2 i2 j2 => if id2 = id ∧ i2 = i ∧ j2 = j then x else ib id2 i2 j2
  have ibs : ibn id i j = x := by simp [ibn]
  have ibo : ∀ id2 i2 j2, ¬ (id2 = id ∧ i2 = i ∧ j2 = j) → ibn id2 i2 j2 = ib id2 i2 j2 := fun id2 i2 j2 h => by simp only [ibn, if_neg h]
  refine h ac w ⟨hR.defers, hR.size, S, m, hm.step (Le.refl _ _ _) ⟨rfl, Nat.le_refl _⟩ rfl rfl (fun _ _ => rfl) (Nat.le_refl _) (fun _ _ _ => rfl) (fun _ h => .inl h) (fun id2 o2 h2 => ?_) (fun id2 o2 b2 h2 hb2 => ?_) (fun i1 i2 o1 o2 b2 h1 h2 h3 h4 => ?_) hm.stab hm.fresh ⟨ibn, ?_⟩, hsl⟩
  · rcases ex id2 o2 h2 with ⟨rfl, rfl⟩ | ⟨_, _, h3⟩
    · exact .inr ⟨b, c, e, k1, k2, k3.setCell hrow hcol (fun u2 _ _ => .own u2 isz irows)⟩
    · exact hm.objs _ _ h3
  · obtain ⟨_, o3, h3⟩ := exo id2 o2 h2; exact hm.blk _ _ b2 h3 hb2
  · obtain ⟨_, o3, h5⟩ := exo i1 o1 h1
    obtain ⟨_, o4, h6⟩ := exo i2 o2 h2
    exact hm.inj _ _ _ _ b2 h5 h6 h3 h4
  · refine ⟨fun id2 s2 i2 j2 isz2 irows2 hO => ?_, fun id2 s2 i2 j2 isz2 irows2 b' hO hb id3 o3 h3 hc => ?_, fun id2 s2 i2 j2 isz2 irows2 id3 s3 i3 j3 isz3 irows3 b' hO hO2 h1 h2 => ?_⟩
    · rcases hOE _ _ _ _ _ _ hO with ⟨rfl, rfl, rfl, rfl, rfl, rfl⟩ | ⟨q1, q2⟩
      · rw [ibs]; exact ⟨b, c, e, u, k1, k2, hu, hin⟩
      · rw [ibo _ _ _ q2]; exact hn.at_ _ _ _ _ _ _ q1
    · obtain ⟨hne, o4, h4⟩ := exo id3 o3 h3
      rcases hOE _ _ _ _ _ _ hO with ⟨rfl, rfl, rfl, rfl, rfl, rfl⟩ | ⟨q1, q2⟩
      · rw [ibs] at hb; subst hb
        exact hne (hm.inj _ _ _ _ b' h4 ha hc hx)
      · rw [ibo _ _ _ q2] at hb; exact hn.apart _ _ _ _ _ _ b' q1 hb _ _ h4 hc
    · rcases hOE _ _ _ _ _ _ hO with ⟨rfl, rfl, rfl, rfl, rfl, rfl⟩ | ⟨q1, q2⟩ <;> rcases hOE _ _ _ _ _ _ hO2 with ⟨rfl, rfl, rfl, rfl, rfl, rfl⟩ | ⟨q3, q4⟩
      · exact ⟨rfl, rfl, rfl⟩
      · rw [ibs] at h1; subst h1; rw [ibo _ _ _ q4] at h2
        exact absurd hx (hn.apart _ _ _ _ _ _ b' q3 h2 _ _ ha)
      · rw [ibs] at h2; subst h2; rw [ibo _ _ _ q2] at h1
        exact absurd hx (hn.apart _ _ _ _ _ _ b' q1 h1 _ _ ha)
      · rw [ibo _ _ _ q2] at h1; rw [ibo _ _ _ q4] at h2
        exact hn.inj _ _ _ _ _ _ _ _ _ _ _ _ b' q1 q3 h1 h2
/-- what a cell owns, read as frozen -/
theorem InAt.frep {C : Cx} {S S' : Nat → Prop} {w : World} {isz : Nat} {irows : List (List FV)} {u : Value} {x : Option Nat} (h : InAt C S w isz irows u x) (hS : ∀ b, S b → S' b) (hx : ∀ b, x = some b → S' b) : FRep w S' u (.vals isz irows) := by
  rcases h with ⟨q1, q2, q3⟩ | ⟨b', c', e', cap, q1, q2, q3, q4, q5, q6, q7, q8, q9, q10⟩
  · subst q2; subst q3; exact .nil _ _ _
  · subst q2
    have hU : ∀ i j : Nat, ∃ u, ∀ r f, irows[i]? = some r → r[j]? = some f → c'[i * isz + j]? = some u ∧ u.oneCell' = true ∧ FRep w S u f := fun i j => by
      cases hi : irows[i]? with
      | none => exact ⟨undef, fun _ _ h => by cases h⟩
      | some r =>
        cases hj : r[j]? with
        | none => exact ⟨undef, fun r' f h1 h2 => by cases h1; rw [hj] at h2; cases h2⟩
        | some f =>
          obtain ⟨u, hu, ho1, hp⟩ := q7.2.2 i j r f hi hj
          exact ⟨u, fun r' f' h1 h2 => by cases h1; rw [hj] at h2; cases h2; exact ⟨hu, ho1, hp⟩⟩
    have hU' : ∃ U : Nat → Nat → Value, ∀ i j r f, irows[i]? = some r → r[j]? = some f → c'[i * isz + j]? = some (U i j) ∧ (U i j).oneCell' = true ∧ FRep w S (U i j) f :=
      ⟨fun i j => Classical.choose (hU i j), fun i j r f h1 h2 => Classical.choose_spec (hU i j) r f h1 h2⟩
    obtain ⟨U, hU⟩ := hU'
    refine .vals b' 0 cap isz irows U (hx b' q1) q3 q7.2.1 (fun i j r f h1 h2 => ⟨?_, (hU i j r f h1 h2).2.1⟩) (fun i j r f h1 h2 => (hU i j r f h1 h2).2.2.mono hS fun _ _ => rfl)
    have := (hU i j r f h1 h2).1
    simp only [World.cell?]
    rw [Nat.zero_add, ← this]
    simp only [*]
    simp
/-- the slices that an object's cells own, and they alone, taken as frozen -/
theorem Next.freezeOwn {C : Cx} {N : Nat} {K : Act → World → Prop} (id : Nat) {sz : Nat} {irs : List (List (List FV))} {rows : List (List PV)} (hl : hlook H id = some (.refs 1 rows)) (hrows : rows = irs.map fun r => [PV.own sz r])
    (h : Next C N G ((id, some (.flat 1 (irs.map fun r => [FV.vals sz r]))) :: H) nx K) : Next C N G H nx K := by
  subst hrows
  intro ac w hR
  obtain ⟨S, m, hm, hsl⟩ := hR.mem
  obtain ⟨ib, hn⟩ := hm.nst
  have hOi : ∀ i (r : List (List FV)), irs[i]? = some r → OwnE H id 1 i 0 sz r := fun i r hr => ⟨_, [.own sz r], hl, by rw [List.getElem?_map, hr]; rfl, rfl⟩
  let S' : Nat → Prop := fun b => S b ∨ ∃ i r, irs[i]? = some r ∧ ib id i 0 = some b
  have hS : ∀ b, S b → S' b := fun b h => .inl h
  have hinner : ∀ i r b, irs[i]? = some r → ib id i 0 = some b → ¬ S b ∧ b < w.heap.size ∧ (C.w0.heap.size ≤ b ∨ C.own0 b) := fun i r b hr hb => by
    obtain ⟨_, _, _, _, _, _, _, k4⟩ := hn.at_ _ _ _ _ _ _ (hOi i r hr)
    rcases k4 with ⟨k4, _⟩ | ⟨b2, c', e', cap, r1, r2, r3, r4, r5, r6, r7, r8, r9, r10⟩
    · rw [hb] at k4; cases k4
    · rw [hb] at r1; cases r1; exact ⟨r8, r9, r10⟩
  have hle : Le S m w S' m w := ⟨hS, fun _ _ => rfl, fun _ _ h => h, fun _ _ h => h⟩
  have ex : ∀ id2 o2, hlook ((id, some (Ob.flat 1 (irs.map fun r => [FV.vals sz r]))) :: H) id2 = some o2 → (id2 = id ∧ o2 = .flat 1 (irs.map fun r => [FV.vals sz r])) ∨ (id2 ≠ id ∧ hlook H id2 = some o2) := fun id2 o2 h2 => by
    rw [hlook_cons] at h2
    by_cases h3 : id = id2
    · rw [if_pos h3] at h2; cases h2; exact .inl ⟨h3.symm, rfl⟩
    · rw [if_neg h3] at h2; exact .inr ⟨fun e => h3 e.symm, h2⟩
  have exo : ∀ id2 o2, hlook ((id, some (Ob.flat 1 (irs.map fun r => [FV.vals sz r]))) :: H) id2 = some o2 → ∃ o3, hlook H id2 = some o3 := fun id2 o2 h2 => by
    rcases ex id2 o2 h2 with ⟨rfl, _⟩ | ⟨_, h4⟩
    · exact ⟨_, hl⟩
    · exact ⟨_, h4⟩
  have hOE : ∀ id2 s2 i2 j2 isz2 irows2, OwnE ((id, some (Ob.flat 1 (irs.map fun r => [FV.vals sz r]))) :: H) id2 s2 i2 j2 isz2 irows2 → id2 ≠ id ∧ OwnE H id2 s2 i2 j2 isz2 irows2 := fun id2 s2 i2 j2 isz2 irows2 ⟨rows2, r2, h1, h2, h3⟩ => by
    rcases ex id2 _ h1 with ⟨_, q⟩ | ⟨q1, q2⟩
    · cases q
    · exact ⟨q1, _, _, q2, h2, h3⟩
  refine h ac w ⟨hR.defers, hR.size, S', m, hm.step hle ⟨rfl, Nat.le_refl _⟩ rfl rfl (fun _ _ => rfl) (Nat.le_refl _) (fun _ _ _ => rfl) (fun b hb => ?_) (fun id2 o2 h2 => ?_) (fun id2 o2 b2 h2 hb2 => ?_) (fun i1 i2 o1 o2 b2 h1 h2 h3 h4 => ?_) (fun b hb => ?_) hm.fresh ?_, fun t q hq => (hsl t q hq).mono hle⟩
  · rcases hb with hb | ⟨i, r, hr, hb⟩
    · exact .inl hb
    · rcases (hinner i r b hr hb).2.2 with h | h
      · exact .inr (.inr h)
      · exact .inr (.inl h)
  · rcases ex id2 o2 h2 with ⟨rfl, rfl⟩ | ⟨_, h3⟩
    · rcases hm.objs _ _ hl with ⟨q1, q2⟩ | ⟨b, c, e, k1, k2, k3⟩
      · exact .inl ⟨q1, by cases irs <;> simp at q2 ⊢⟩
      · refine .inr ⟨b, c, e, k1, k2, by simpa using k3.1, fun r hr => ?_, fun i j r p hi hj => ?_⟩
        · obtain ⟨r0, _, rfl⟩ := List.mem_map.1 hr; rfl
        · rw [List.getElem?_map] at hi
          obtain ⟨r0, h0, rfl⟩ := Option.map_eq_some_iff.1 hi
          match j with
          | 0 =>
            simp at hj; subst hj
            obtain ⟨u, hu, hu1, _⟩ := k3.2.2 i 0 [.own sz r0] _ (by rw [List.getElem?_map, h0]; rfl) rfl
            obtain ⟨b2, c2, e2, u2, z1, z2, z3, z4⟩ := hn.at_ _ _ _ _ _ _ (hOi i r0 h0)
            rw [k1] at z1; cases z1
            rw [k2] at z2; cases z2
            rw [hu] at z3; cases z3
            exact ⟨u, hu, hu1, z4.frep hS fun b hb => .inr ⟨i, r0, h0, hb⟩⟩
          | j + 1 => simp at hj
    · exact (hm.objs _ _ h3).mono hle (fun _ _ => rfl)
  · obtain ⟨o3, h3⟩ := exo id2 o2 h2
    obtain ⟨q1, q2, q3⟩ := hm.blk _ _ b2 h3 hb2
    refine ⟨?_, q2, q3⟩
    rintro (h | ⟨i, r, hr, hb⟩)
    · exact q1 h
    · exact hn.apart _ _ _ _ _ _ b2 (hOi i r hr) hb _ _ h3 hb2
  · obtain ⟨o3, h5⟩ := exo i1 o1 h1
    obtain ⟨o4, h6⟩ := exo i2 o2 h2
    exact hm.inj _ _ _ _ b2 h5 h6 h3 h4
  · rcases hb with hb | ⟨i, r, hr, hb⟩
    · exact hm.stab b hb
    · exact (hinner i r b hr hb).2.1
  · refine ⟨ib, hn.keep (fun i => i) (fun _ _ _ _ _ _ h => ⟨(hOE _ _ _ _ _ _ h).2, rfl⟩) (fun _ _ _ _ _ _ _ _ _ _ _ _ _ _ h => h) hS (fun _ _ => rfl) (fun _ _ _ _ _ _ _ c e _ _ _ k2 k3 => ⟨c, e, k2, k3⟩) (fun id2 s2 i2 j2 isz2 irows2 b' h2 hb g1 g2 g3 g4 => ⟨rfl, ?_, g2, g3, fun id3 o3 h3 => ?_⟩)⟩
    · rintro (h | ⟨i, r, hr, hb2⟩)
      · exact g1 h
      · obtain ⟨q1, q2⟩ := hOE _ _ _ _ _ _ h2
        exact q1 (hn.inj _ _ _ _ _ _ _ _ _ _ _ _ b' q2 (hOi i r hr) hb hb2).1
    · obtain ⟨o4, h4⟩ := exo id3 o3 h3; exact g4 _ _ h4
/-- fresh cells that hold nil slices: each owns an empty one -/
theorem Next.toOwn {C : Cx} {N : Nat} {K : Act → World → Prop} (id sz n : Nat) (hl : hlook H id = some (.flat 1 (List.replicate n [.lit (.slice none 0 0)]))) (h : Next C N G ((id, some (.refs 1 (List.replicate n [.own sz []]))) :: H) nx K) : Next C N G H nx K := by
  intro ac w hR
  obtain ⟨S, m, hm, hsl⟩ := hR.mem
  obtain ⟨ib, hn⟩ := hm.nst
  have ex : ∀ id2 o2, hlook ((id, some (Ob.refs 1 (List.replicate n [.own sz []]))) :: H) id2 = some o2 → (id2 = id ∧ o2 = .refs 1 (List.replicate n [.own sz []])) ∨ (id2 ≠ id ∧ hlook H id2 = some o2) := fun id2 o2 h2 => by
    rw [hlook_cons] at h2
    by_cases h3 : id = id2
    · rw [if_pos h3] at h2; cases h2; exact .inl ⟨h3.symm, rfl⟩
    · rw [if_neg h3] at h2; exact .inr ⟨fun e => h3 e.symm, h2⟩
  have exo : ∀ id2 o2, hlook ((id, some (Ob.refs 1 (List.replicate n [.own sz []]))) :: H) id2 = some o2 → ∃ o3, hlook H id2 = some o3 := fun id2 o2 h2 => by
    rcases ex id2 o2 h2 with ⟨rfl, _⟩ | ⟨_, h4⟩
    · exact ⟨_, hl⟩
    · exact ⟨_, h4⟩
  have hOE : ∀ id2 s2 i2 j2 isz2 irows2, OwnE ((id, some (Ob.refs 1 (List.replicate n [.own sz []]))) :: H) id2 s2 i2 j2 isz2 irows2 → (id2 = id ∧ s2 = 1 ∧ i2 < n ∧ j2 = 0 ∧ isz2 = sz ∧ irows2 = []) ∨ (id2 ≠ id ∧ OwnE H id2 s2 i2 j2 isz2 irows2) := fun id2 s2 i2 j2 isz2 irows2 ⟨rows2, r2, h1, h2, h3⟩ => by
    rcases ex id2 _ h1 with ⟨q1, q⟩ | ⟨q1, q2⟩
    · cases q
      rw [List.getElem?_replicate] at h2
      split at h2
      · cases h2
        match j2, h3 with
        | 0, h3 => simp at h3; exact .inl ⟨q1, rfl, by assumption, rfl, h3.1.symm, h3.2⟩
        | j + 1, h3 => simp at h3
      · cases h2
    · exact .inr ⟨q1, _, _, q2, h2, h3⟩
  let ibn : Nat → Nat → Nat → Option Nat := fun id2 i2 j2 => if id2 = id then none else ib id2 i2 j2
  have ibs : ∀ i j, ibn id i j = none := fun i j => by simp [ibn]
  have ibo : ∀ id2 i2 j2, id2 ≠ id → ibn id2 i2 j2 = ib id2 i2 j2 := fun id2 i2 j2 h => by simp only [ibn, if_neg h]
  refine h ac w ⟨hR.defers, hR.size, S, m, hm.step (Le.refl _ _ _) ⟨rfl, Nat.le_refl _⟩ rfl rfl (fun _ _ => rfl) (Nat.le_refl _) (fun _ _ _ => rfl) (fun _ h => .inl h) (fun id2 o2 h2 => ?_) (fun id2 o2 b2 h2 hb2 => ?_) (fun i1 i2 o1 o2 b2 h1 h2 h3 h4 => ?_) hm.stab hm.fresh ⟨ibn, ?_⟩, hsl⟩
  · rcases ex id2 o2 h2 with ⟨rfl, rfl⟩ | ⟨_, h3⟩
    · rcases hm.objs _ _ hl with ⟨q1, q2⟩ | ⟨b, c, e, k1, k2, k3⟩
      · refine .inl ⟨q1, ?_⟩
        have : n = 0 := by simpa using congrArg List.length q2
        subst this; rfl
      · refine .inr ⟨b, c, e, k1, k2, by simpa using k3.1, fun r hr => ?_, fun i j r p hi hj => ?_⟩
        · rw [List.eq_of_mem_replicate hr]; rfl
        · rw [List.getElem?_replicate] at hi
          split at hi
          · rename_i hin
            cases hi
            match j, hj with
            | 0, hj =>
              simp at hj; subst hj
              obtain ⟨u, hu, hu1, _⟩ := k3.2.2 i 0 [.lit (.slice none 0 0)] _ (by rw [List.getElem?_replicate, if_pos hin]) rfl
              exact ⟨u, hu, hu1, .own u sz []⟩
            | j + 1, hj => simp at hj
          · cases hi
    · exact hm.objs _ _ h3
  · obtain ⟨o3, h3⟩ := exo id2 o2 h2; exact hm.blk _ _ b2 h3 hb2
  · obtain ⟨o3, h5⟩ := exo i1 o1 h1
    obtain ⟨o4, h6⟩ := exo i2 o2 h2
    exact hm.inj _ _ _ _ b2 h5 h6 h3 h4
  · refine ⟨fun id2 s2 i2 j2 isz2 irows2 hO => ?_, fun id2 s2 i2 j2 isz2 irows2 b' hO hb id3 o3 h3 hc => ?_, fun id2 s2 i2 j2 isz2 irows2 id3 s3 i3 j3 isz3 irows3 b' hO hO2 h1 h2 => ?_⟩
    · rcases hOE _ _ _ _ _ _ hO with ⟨rfl, rfl, hi, rfl, rfl, rfl⟩ | ⟨q1, q2⟩
      · rw [ibs]
        rcases hm.objs _ _ hl with ⟨q1, q2⟩ | ⟨b, c, e, k1, k2, k3⟩
        · have : n = 0 := by simpa using congrArg List.length q2
          omega
        · obtain ⟨u, hu, hu1, hr⟩ := k3.2.2 i2 0 [.lit (.slice none 0 0)] _ (by rw [List.getElem?_replicate, if_pos hi]) rfl
          cases hr
          exact ⟨b, c, e, _, k1, k2, hu, .inl ⟨rfl, rfl, rfl⟩⟩
      · rw [ibo _ _ _ q1]; exact hn.at_ _ _ _ _ _ _ q2
    · obtain ⟨o4, h4⟩ := exo id3 o3 h3
      rcases hOE _ _ _ _ _ _ hO with ⟨rfl, rfl, hi, rfl, rfl, rfl⟩ | ⟨q1, q2⟩
      · rw [ibs] at hb; cases hb
      · rw [ibo _ _ _ q1] at hb; exact hn.apart _ _ _ _ _ _ b' q2 hb _ _ h4 hc
    · rcases hOE _ _ _ _ _ _ hO with ⟨rfl, rfl, hi, rfl, rfl, rfl⟩ | ⟨q1, q2⟩
      · rw [ibs] at h1; cases h1
      · rcases hOE _ _ _ _ _ _ hO2 with ⟨rfl, rfl, hi, rfl, rfl, rfl⟩ | ⟨q3, q4⟩
        · rw [ibs] at h2; cases h2
        · rw [ibo _ _ _ q1] at h1; rw [ibo _ _ _ q3] at h2
          exact hn.inj _ _ _ _ _ _ _ _ _ _ _ _ b' q2 q4 h1 h2
theorem ext_app (A H : Hp) : Ext (A ++ H) H (A.map (·.1)) := by
  induction A with
  | nil => exact .refl _
  | cons a A ih => obtain ⟨i, o⟩ := a; exact .cons i o _ _ _ ih
theorem ext_call {L' L : List Nat} {Hout H : Hp} : Ext (callH L' Hout L H) H ((Hout.map (renE L') ++ L.map fun i => (i, (none : Option Ob))).map (·.1)) := ext_app _ _
end
end Go.RT
namespace Go.Proofs.Ytelnedgopdlnkaa
open Go Go.RT Go.Proofs Go.Pl
set_option linter.all false
set_option maxRecDepth 20000
theorem ordbs (x : Edg) (l : List Edg) (hn : l.length ≤ 2000000) : Pure Try.prog 66 [VE l, .agg (encE x), .clo 36 []] (.tup [If .i64 (bsAt l x : Nat), Bf (bsHit l x)]) := bsearch_c l x hn 36 [] ordE (fun a b => order_c a b)
theorem change_c (g : Gr) (c : Edg) (hs : szOk g) (hn : g.es.length ≤ 1999999) : Meets Try.prog 58 [.ptr 0 3 0 0, .fz (.agg (encE c))] 2 [(0, some (.refs 3 [[IV .i64 g.r, IV .i64 g.n, .sl 1 3 0 g.es.length]])), (1, OE g.es)] (IV .i64 (chgF g c).2) [(0, some (.refs 3 [[IV .i64 g.r, IV .i64 g.n, .sl 2 3 0 (chgF g c).1.es.length]])), (2, OE (chgF g c).1.es)] 3 := by
  have hbs := ordbs c g.es (by omega)
  have hin := fun x => isnode_c g x hs
  have hal := allowed_c g c hs
  have hhit : bsHit g.es c = true → ∃ h : bsAt g.es c < g.es.length, g.es[bsAt g.es c].f = c.f ∧ g.es[bsAt g.es c].t = c.t := fun h => by
    obtain ⟨h1, h2⟩ := hitAt_lt h
    exact ⟨h1, by simpa [ordE_zero] using h2⟩
  have hble := (bsGo_le (fun e => decide (ordE e c < 0)) g.es (g.es.length) 0 g.es.length (by omega) (Nat.zero_le _) (Nat.le_refl _)).2
  unfold chgF
  have hble : bsAt g.es c ≤ g.es.length := hble
  generalize bsAt g.es c = k at *
  generalize bsHit g.es c = hit at *
  refine Meets.intro Try.func58 rfl (Nat.le_of_ble_eq_true rfl) fun C hC => ?_
  simp only [List.map, argEnv, Nat.reduceAdd]
  refine nK ?_
  refine s_reg rfl ?_
  first | refine Run.eff (dd := some 3) rfl rfl (op_box_flat rfl (Opd.tmp _ _ rfl) tC rfl) ?_ | refine Run.eff (dd := some 3) rfl rfl (op_box_refs rfl (Opd.tmp _ _ rfl) tP rfl) ?_
  first | refine Run.pure (dd := some 4) rfl rfl (op_assign rfl (Opd.const _)) ?_ | refine Run.pure (dd := some 4) rfl rfl (op_junk (.inr rfl)) ?_
  refine Run.nil (FinR.mk ?_)
  refine nK ?_
  refine s_reg rfl ?_
  first | refine Run.pure (dd := some 9) rfl rfl (op_fld_ptr (by decide) rfl (Opd.tmp _ _ rfl)) ?_ | refine Run.pure (dd := some 9) rfl rfl (op_fld_fz (by decide) rfl (Opd.tmp _ _ rfl) tR) ?_
  first | refine Run.load (dd := some 10) rfl rfl (op_load1_flat rfl (Opd.tmp _ _ rfl) tH rfl) ?_ | refine Run.pure (dd := some 10) rfl rfl (op_load1_fz rfl (Opd.tmp _ _ rfl) rfl) ?_ | refine Run.load (dd := some 10) rfl rfl (op_load1_refs rfl (Opd.tmp _ _ rfl) tH rfl) ?_
  first | refine Run.pure (dd := some 11) rfl rfl (op_fld_ptr (by decide) rfl (Opd.tmp _ _ rfl)) ?_ | refine Run.pure (dd := some 11) rfl rfl (op_fld_fz (by decide) rfl (Opd.tmp _ _ rfl) tR) ?_
  first | refine Run.load (dd := some 12) rfl rfl (op_load1_flat rfl (Opd.tmp _ _ rfl) tH rfl) ?_ | refine Run.pure (dd := some 12) rfl rfl (op_load1_fz rfl (Opd.tmp _ _ rfl) rfl) ?_ | refine Run.load (dd := some 12) rfl rfl (op_load1_refs rfl (Opd.tmp _ _ rfl) tH rfl) ?_
  first | refine Run.pure (dd := some 13) rfl rfl (op_fld_ptr (by decide) rfl (Opd.tmp _ _ rfl)) ?_ | refine Run.pure (dd := some 13) rfl rfl (op_fld_fz (by decide) rfl (Opd.tmp _ _ rfl) tR) ?_
  first | refine Run.load (dd := some 14) rfl rfl (op_load1_flat rfl (Opd.tmp _ _ rfl) tH rfl) ?_ | refine Run.pure (dd := some 14) rfl rfl (op_load1_fz rfl (Opd.tmp _ _ rfl) rfl) ?_ | refine Run.load (dd := some 14) rfl rfl (op_load1_refs rfl (Opd.tmp _ _ rfl) tH rfl) ?_
  first | refine Run.pure (dd := some 15) rfl rfl (op_build rfl rfl rfl (FillF.cons _ _ _ _ _ _ _ _ _ _ (by rfl) (Opd.tmp _ _ rfl) tC (by rfl) tR (FillF.cons _ _ _ _ _ _ _ _ _ _ (by rfl) (Opd.tmp _ _ rfl) tC (by rfl) tR (FillF.cons _ _ _ _ _ _ _ _ _ _ (by rfl) (Opd.tmp _ _ rfl) tC (by rfl) tR (FillF.nil _))))) ?_ | refine Run.pure (dd := some 15) rfl rfl (op_buildP rfl rfl rfl rfl (FillP.cons _ _ _ _ _ _ _ _ _ _ (by rfl) (Opd.tmp _ _ rfl) tP (by rfl) tR (FillP.cons _ _ _ _ _ _ _ _ _ _ (by rfl) (Opd.tmp _ _ rfl) tP (by rfl) tR (FillP.cons _ _ _ _ _ _ _ _ _ _ (by rfl) (Opd.tmp _ _ rfl) tP (by rfl) tR (FillP.nil _))))) ?_
  refine Run.eff (dd := some 5) rfl rfl (op_alloc rfl rfl rfl rfl) ?_
  first | refine Run.eff (dd := none) rfl rfl (op_store_flat rfl (Opd.tmp _ _ rfl) (Opd.tmp _ _ rfl) tC rfl rfl (by first | rfl | assumption) tS) ?_ | refine Run.eff (dd := none) rfl rfl (op_store_refs rfl (Opd.tmp _ _ rfl) (Opd.tmp _ _ rfl) tP rfl rfl rfl tS) ?_
  refine Run.nil (FinR.mk ?_)
  refine nK ?_
  refine s_draw mixed ?_
  first | refine Run.pure (dd := some 16) rfl rfl (op_move rfl (Opd.tmp _ _ rfl)) ?_ | refine Run.pure (dd := some 16) rfl rfl (op_junk (.inl rfl)) ?_
  first | refine Run.pure (dd := some 17) rfl rfl (op_nilck_ptr rfl (Opd.tmp _ _ rfl)) ?_ | refine Run.pure (dd := some 17) rfl rfl (op_nilck_fz rfl (Opd.tmp _ _ rfl)) ?_ | refine Run.pure (dd := some 17) rfl rfl (op_nilck_clo rfl (Opd.tmp _ _ rfl)) ?_ | refine Run.pure (dd := some 17) rfl rfl (op_nilck_fclo rfl (Opd.tmp _ _ rfl)) ?_
  first | refine Run.load (dd := some 18) rfl rfl (op_loadw_flat rfl (Opd.tmp _ _ rfl) tH rfl) ?_ | refine Run.pure (dd := some 18) rfl rfl (op_loadw_fz rfl (Opd.tmp _ _ rfl) rfl) ?_ | refine Run.load (dd := some 18) rfl rfl (op_loadn_flat rfl (Opd.tmp _ _ rfl) tH tR tR) ?_ | refine Run.pure (dd := some 18) rfl rfl (op_loadn_fz rfl (Opd.tmp _ _ rfl) tR) ?_ | refine Run.load (dd := some 18) rfl rfl (op_loadn_refs rfl (Opd.tmp _ _ rfl) tH tR tR) ?_
  first | refine Run.pure (dd := some 19) rfl rfl (op_fld_ptr (by decide) rfl (Opd.tmp _ _ rfl)) ?_ | refine Run.pure (dd := some 19) rfl rfl (op_fld_fz (by decide) rfl (Opd.tmp _ _ rfl) tR) ?_
  first | refine Run.load (dd := some 20) rfl rfl (op_load1_flat rfl (Opd.tmp _ _ rfl) tH rfl) ?_ | refine Run.pure (dd := some 20) rfl rfl (op_load1_fz rfl (Opd.tmp _ _ rfl) rfl) ?_ | refine Run.load (dd := some 20) rfl rfl (op_load1_refs rfl (Opd.tmp _ _ rfl) tH rfl) ?_
  refine Run.load (dd := some 21) rfl rfl (op_call_lend (args := [.agg (encG g), If .i64 c.f]) [1] (fun _ => hin c.f) rfl (Opd.func _) (Opds.cons _ _ _ _ (Opd.tmp _ _ rfl) (Opds.cons _ _ _ _ (Opd.tmp _ _ rfl) Opds.nil)) (by exact .cons _ _ _ _ tW (.cons _ _ _ _ tW .nil)) rfl rfl) ?_
  refine Run.pure (dd := some 22) rfl rfl (op_not rfl (Opd.tmp _ _ rfl)) ?_
  first | refine Run.pure (dd := some 23) rfl rfl (op_move rfl (Opd.tmp _ _ rfl)) ?_ | refine Run.pure (dd := some 23) rfl rfl (op_junk (.inl rfl)) ?_
  first | refine Run.pureG (dd := some 24) rfl rfl rfl tG (op_move rfl (Opd.tmp _ _ rfl)) ?_ | refine Run.pureG (dd := some 24) rfl rfl rfl tG (op_junk (.inl rfl)) ?_
  first | refine Run.pureG (dd := some 25) rfl rfl rfl tG (op_nilck_ptr rfl (Opd.topt _ _ _ rfl tO)) ?_ | refine Run.pureG (dd := some 25) rfl rfl rfl tG (op_nilck_fz rfl (Opd.topt _ _ _ rfl tO)) ?_ | refine Run.pureG (dd := some 25) rfl rfl rfl tG (op_nilck_clo rfl (Opd.topt _ _ _ rfl tO)) ?_ | refine Run.pureG (dd := some 25) rfl rfl rfl tG (op_nilck_fclo rfl (Opd.topt _ _ _ rfl tO)) ?_
  first | refine Run.loadG (dd := some 26) rfl rfl rfl tG (op_loadw_flat rfl (Opd.topt _ _ _ rfl tO) tH rfl) ?_ | refine Run.pureG (dd := some 26) rfl rfl rfl tG (op_loadw_fz rfl (Opd.topt _ _ _ rfl tO) rfl) ?_ | refine Run.loadG (dd := some 26) rfl rfl rfl tG (op_loadn_flat rfl (Opd.topt _ _ _ rfl tO) tH tR tR) ?_ | refine Run.pureG (dd := some 26) rfl rfl rfl tG (op_loadn_fz rfl (Opd.topt _ _ _ rfl tO) tR) ?_ | refine Run.loadG (dd := some 26) rfl rfl rfl tG (op_loadn_refs rfl (Opd.topt _ _ _ rfl tO) tH tR tR) ?_
  first | refine Run.pureG (dd := some 27) rfl rfl rfl tG (op_fld_ptr (by decide) rfl (Opd.tmp _ _ rfl)) ?_ | refine Run.pureG (dd := some 27) rfl rfl rfl tG (op_fld_fz (by decide) rfl (Opd.tmp _ _ rfl) tR) ?_
  first | refine Run.loadG (dd := some 28) rfl rfl rfl tG (op_load1_flat rfl (Opd.topt _ _ _ rfl tO) tH rfl) ?_ | refine Run.pureG (dd := some 28) rfl rfl rfl tG (op_load1_fz rfl (Opd.topt _ _ _ rfl tO) rfl) ?_ | refine Run.loadG (dd := some 28) rfl rfl rfl tG (op_load1_refs rfl (Opd.topt _ _ _ rfl tO) tH rfl) ?_
  refine Run.loadG (dd := some 29) rfl rfl rfl tG (op_call_lend (args := [.agg (encG g), If .i64 c.t]) [1] (fun _ => hin c.t) rfl (Opd.func _) (Opds.cons _ _ _ _ (Opd.topt _ _ _ rfl tO) (Opds.cons _ _ _ _ (Opd.topt _ _ _ rfl tO) Opds.nil)) (by exact .cons _ _ _ _ tW (.cons _ _ _ _ tW .nil)) rfl rfl) ?_
  refine Run.pureG (dd := some 30) rfl rfl rfl tG (op_not rfl (Opd.topt _ _ _ rfl tO)) ?_
  refine Run.pure (dd := some 31) rfl rfl (op_pick_or rfl (Opd.tmp _ _ rfl) (Opd.topt _ _ _ rfl tO)) ?_
  refine Run.nil (FinD.mk (by kernel_rfl) ?_)
  refine nK ?_
  refine n_cond _ rfl (fun hb => ?_) (fun hb => ?_)
  · have hz : nodeB g c.f = false ∨ nodeB g c.t = false := by simpa using hb
    rw [if_pos hz]
    refine nK ?_
    refine s_reg rfl ?_
    first | refine Run.pure (dd := some 4) rfl rfl (op_assign rfl (Opd.const _)) ?_ | refine Run.pure (dd := some 4) rfl rfl (op_junk (.inr rfl)) ?_
    refine Run.nil (FinR.mk ?_)
    refine nK ?_
    (refine Next.weak [0, 1] [] (by rfl) (keepsN hC _ rfl) (G' := [(4, .fz _)]) (H' := [(0, some (.refs 3 [[IV .i64 g.r, IV .i64 g.n, .sl 1 3 0 g.es.length]])), (1, OE g.es)]) (by repeat (first | exact trivial | refine ⟨⟨_, rfl, .inl ⟨rfl, rfl⟩⟩, ?_⟩ | refine ⟨⟨_, rfl, .inl ⟨slEq rfl tN, rfl⟩⟩, ?_⟩ | refine ⟨⟨_, rfl, .inl ⟨ivEq tX, rfl⟩⟩, ?_⟩)) (by repeat (first | exact trivial | refine ⟨ent_same rfl rfl rfl tL, ?_⟩ | refine ⟨ent_same rfl rfl (rfEq rfl tU) tL, ?_⟩ | refine ⟨ent_same rfl rfl (flEq rfl (by first | (simp; done) | (simp; omega) | (simp [encE, encN, encB]; done) | simp [maxC, minC])) trivial, ?_⟩)) (fun _ h => by simp at h) ?_; refine Next.retagCell 0 0 2 rfl rfl rfl rfl rfl ?_; refine Next.weak [0, 1, 2] [] (by rfl) (keepsN hC _ rfl) (G' := [(4, .fz _)]) (H' := [(0, some (.refs 3 [[IV .i64 g.r, IV .i64 g.n, .sl 2 3 0 g.es.length]])), (2, OE g.es)]) (by repeat (first | exact trivial | refine ⟨⟨_, rfl, .inl ⟨rfl, rfl⟩⟩, ?_⟩ | refine ⟨⟨_, rfl, .inl ⟨slEq rfl tN, rfl⟩⟩, ?_⟩ | refine ⟨⟨_, rfl, .inl ⟨ivEq tX, rfl⟩⟩, ?_⟩)) (by repeat (first | exact trivial | refine ⟨ent_same rfl rfl rfl tL, ?_⟩ | refine ⟨ent_same rfl rfl (rfEq rfl tU) tL, ?_⟩ | refine ⟨ent_same rfl rfl (flEq rfl (by first | (simp; done) | (simp; omega) | (simp [encE, encN, encB]; done) | simp [maxC, minC])) trivial, ?_⟩)) (fun _ h => by simp at h) ?_; exact n_out1 rfl (by rfl) rfl rfl)
  · have hz : ¬ (nodeB g c.f = false ∨ nodeB g c.t = false) := by simpa using hb
    rw [if_neg hz]
    refine nK ?_
    refine s_draw mixed ?_
    first | refine Run.pure (dd := some 33) rfl rfl (op_move rfl (Opd.tmp _ _ rfl)) ?_ | refine Run.pure (dd := some 33) rfl rfl (op_junk (.inl rfl)) ?_
    first | refine Run.pure (dd := some 34) rfl rfl (op_nilck_ptr rfl (Opd.tmp _ _ rfl)) ?_ | refine Run.pure (dd := some 34) rfl rfl (op_nilck_fz rfl (Opd.tmp _ _ rfl)) ?_ | refine Run.pure (dd := some 34) rfl rfl (op_nilck_clo rfl (Opd.tmp _ _ rfl)) ?_ | refine Run.pure (dd := some 34) rfl rfl (op_nilck_fclo rfl (Opd.tmp _ _ rfl)) ?_
    first | refine Run.pure (dd := some 35) rfl rfl (op_fld_ptr (by decide) rfl (Opd.tmp _ _ rfl)) ?_ | refine Run.pure (dd := some 35) rfl rfl (op_fld_fz (by decide) rfl (Opd.tmp _ _ rfl) tR) ?_
    first | refine Run.load (dd := some 36) rfl rfl (op_load1_flat rfl (Opd.tmp _ _ rfl) tH rfl) ?_ | refine Run.pure (dd := some 36) rfl rfl (op_load1_fz rfl (Opd.tmp _ _ rfl) rfl) ?_ | refine Run.load (dd := some 36) rfl rfl (op_load1_refs rfl (Opd.tmp _ _ rfl) tH rfl) ?_
    first | refine Run.load (dd := some 37) rfl rfl (op_loadw_flat rfl (Opd.tmp _ _ rfl) tH rfl) ?_ | refine Run.pure (dd := some 37) rfl rfl (op_loadw_fz rfl (Opd.tmp _ _ rfl) rfl) ?_ | refine Run.load (dd := some 37) rfl rfl (op_loadn_flat rfl (Opd.tmp _ _ rfl) tH tR tR) ?_ | refine Run.pure (dd := some 37) rfl rfl (op_loadn_fz rfl (Opd.tmp _ _ rfl) tR) ?_ | refine Run.load (dd := some 37) rfl rfl (op_loadn_refs rfl (Opd.tmp _ _ rfl) tH tR tR) ?_
    refine Run.load (dd := some 38) rfl rfl (op_call_lend [1] (fun _ => hbs) rfl (Opd.func _) (.cons _ _ _ _ (Opd.tmp _ _ rfl) (.cons _ _ _ _ (Opd.tmp _ _ rfl) (.cons _ _ _ _ (Opd.funcF _) .nil))) (by exact .cons _ _ _ _ tW (.cons _ _ _ _ tW (.cons _ _ _ _ tW .nil))) rfl rfl) ?_
    first | refine Run.pure (dd := some 32) rfl rfl (op_move rfl (Opd.tmp _ _ rfl)) ?_ | refine Run.pure (dd := some 32) rfl rfl (op_junk (.inl rfl)) ?_
    first | refine Run.pure (dd := some 39) rfl rfl (op_extract_fz rfl (Opd.tmp _ _ rfl) rfl) ?_ | refine Run.pure (dd := some 39) rfl rfl (op_extract rfl (Opd.tmp _ _ rfl) rfl) ?_
    first | refine Run.pure (dd := some 40) rfl rfl (op_extract_fz rfl (Opd.tmp _ _ rfl) rfl) ?_ | refine Run.pure (dd := some 40) rfl rfl (op_extract rfl (Opd.tmp _ _ rfl) rfl) ?_
    first | refine Run.pure (dd := some 6) rfl rfl (op_assign rfl (Opd.tmp _ _ rfl)) ?_ | refine Run.pure (dd := some 6) rfl rfl (op_junk (.inr rfl)) ?_
    first | refine Run.pure (dd := some 7) rfl rfl (op_assign rfl (Opd.tmp _ _ rfl)) ?_ | refine Run.pure (dd := some 7) rfl rfl (op_junk (.inr rfl)) ?_
    refine Run.nil (FinD.mk (by kernel_rfl) ?_)
    refine nK ?_
    refine s_reg rfl ?_
    first | refine Run.pure (dd := some 41) rfl rfl (op_fld_ptr (by decide) rfl (Opd.tmp _ _ rfl)) ?_ | refine Run.pure (dd := some 41) rfl rfl (op_fld_fz (by decide) rfl (Opd.tmp _ _ rfl) tR) ?_
    first | refine Run.load (dd := some 42) rfl rfl (op_load1_flat rfl (Opd.tmp _ _ rfl) tH rfl) ?_ | refine Run.pure (dd := some 42) rfl rfl (op_load1_fz rfl (Opd.tmp _ _ rfl) rfl) ?_ | refine Run.load (dd := some 42) rfl rfl (op_load1_refs rfl (Opd.tmp _ _ rfl) tH rfl) ?_
    refine Run.pure (dd := some 43) rfl rfl (op_lss rfl (Opd.tmp _ _ rfl) (Opd.const _)) ?_
    refine Run.nil (FinR.mk ?_)
    refine nK ?_
    refine n_cond _ rfl (fun hb => ?_) (fun hb => ?_)
    · rw [if_pos (by simpa using hb)]
      refine nK ?_
      refine s_reg rfl ?_
      first | refine Run.pure (dd := some 44) rfl rfl (op_move rfl (Opd.tmp _ _ rfl)) ?_ | refine Run.pure (dd := some 44) rfl rfl (op_junk (.inl rfl)) ?_
      refine Run.pure (dd := some 45) rfl rfl (op_not rfl (Opd.tmp _ _ rfl)) ?_
      refine Run.nil (FinR.mk ?_)
      refine nK ?_
      refine n_cond _ rfl (fun hb => ?_) (fun hb => ?_)
      · have hz2 : hit = false := by simpa using hb
        rw [if_pos hz2]
        refine nK ?_
        refine s_reg rfl ?_
        first | refine Run.pure (dd := some 4) rfl rfl (op_assign rfl (Opd.const _)) ?_ | refine Run.pure (dd := some 4) rfl rfl (op_junk (.inr rfl)) ?_
        refine Run.nil (FinR.mk ?_)
        refine nK ?_
        (refine Next.weak [0, 1] [] (by rfl) (keepsN hC _ rfl) (G' := [(4, .fz _)]) (H' := [(0, some (.refs 3 [[IV .i64 g.r, IV .i64 g.n, .sl 1 3 0 g.es.length]])), (1, OE g.es)]) (by repeat (first | exact trivial | refine ⟨⟨_, rfl, .inl ⟨rfl, rfl⟩⟩, ?_⟩ | refine ⟨⟨_, rfl, .inl ⟨slEq rfl tN, rfl⟩⟩, ?_⟩ | refine ⟨⟨_, rfl, .inl ⟨ivEq tX, rfl⟩⟩, ?_⟩)) (by repeat (first | exact trivial | refine ⟨ent_same rfl rfl rfl tL, ?_⟩ | refine ⟨ent_same rfl rfl (rfEq rfl tU) tL, ?_⟩ | refine ⟨ent_same rfl rfl (flEq rfl (by first | (simp; done) | (simp; omega) | (simp [encE, encN, encB]; done) | simp [maxC, minC])) trivial, ?_⟩)) (fun _ h => by simp at h) ?_; refine Next.retagCell 0 0 2 rfl rfl rfl rfl rfl ?_; refine Next.weak [0, 1, 2] [] (by rfl) (keepsN hC _ rfl) (G' := [(4, .fz _)]) (H' := [(0, some (.refs 3 [[IV .i64 g.r, IV .i64 g.n, .sl 2 3 0 g.es.length]])), (2, OE g.es)]) (by repeat (first | exact trivial | refine ⟨⟨_, rfl, .inl ⟨rfl, rfl⟩⟩, ?_⟩ | refine ⟨⟨_, rfl, .inl ⟨slEq rfl tN, rfl⟩⟩, ?_⟩ | refine ⟨⟨_, rfl, .inl ⟨ivEq tX, rfl⟩⟩, ?_⟩)) (by repeat (first | exact trivial | refine ⟨ent_same rfl rfl rfl tL, ?_⟩ | refine ⟨ent_same rfl rfl (rfEq rfl tU) tL, ?_⟩ | refine ⟨ent_same rfl rfl (flEq rfl (by first | (simp; done) | (simp; omega) | (simp [encE, encN, encB]; done) | simp [maxC, minC])) trivial, ?_⟩)) (fun _ h => by simp at h) ?_; exact n_out1 rfl (by rfl) rfl rfl)
      · have hz2 : hit = true := by simpa using hb
        subst hz2
        obtain ⟨hk, _⟩ := hhit rfl
        have hdl := delete_c g.es 0 k (k + 1) (by omega) (by omega) (by omega)
        have hdn := delL_len g.es k (k + 1) (by omega) (by omega)
        have e1 : k + 1 - k = 1 := by omega
        rw [e1] at hdn
        simp only [List.replicate_zero, List.append_nil, e1, Nat.zero_add] at hdl
        rw [if_neg (by simp)]
        have hrl : (List.map encE (delL g.es k (k + 1)) ++ List.replicate 1 (encE zE)).take (g.es.length - 1) = (delL g.es k (k + 1)).map encE := by
          rw [List.take_append_of_le_length (by simp; omega), List.take_of_length_le (by simp; omega)]
        refine nK ?_
        refine s_reg rfl ?_
        first | refine Run.pure (dd := some 46) rfl rfl (op_move rfl (Opd.tmp _ _ rfl)) ?_ | refine Run.pure (dd := some 46) rfl rfl (op_junk (.inl rfl)) ?_
        first | refine Run.pure (dd := some 47) rfl rfl (op_move rfl (Opd.tmp _ _ rfl)) ?_ | refine Run.pure (dd := some 47) rfl rfl (op_junk (.inl rfl)) ?_
        first | refine Run.pure (dd := some 48) rfl rfl (op_nilck_ptr rfl (Opd.tmp _ _ rfl)) ?_ | refine Run.pure (dd := some 48) rfl rfl (op_nilck_fz rfl (Opd.tmp _ _ rfl)) ?_ | refine Run.pure (dd := some 48) rfl rfl (op_nilck_clo rfl (Opd.tmp _ _ rfl)) ?_ | refine Run.pure (dd := some 48) rfl rfl (op_nilck_fclo rfl (Opd.tmp _ _ rfl)) ?_
        first | refine Run.pure (dd := some 49) rfl rfl (op_fld_ptr (by decide) rfl (Opd.tmp _ _ rfl)) ?_ | refine Run.pure (dd := some 49) rfl rfl (op_fld_fz (by decide) rfl (Opd.tmp _ _ rfl) tR) ?_
        first | refine Run.load (dd := some 50) rfl rfl (op_load1_flat rfl (Opd.tmp _ _ rfl) tH rfl) ?_ | refine Run.pure (dd := some 50) rfl rfl (op_load1_fz rfl (Opd.tmp _ _ rfl) rfl) ?_ | refine Run.load (dd := some 50) rfl rfl (op_load1_refs rfl (Opd.tmp _ _ rfl) tH rfl) ?_
        first | refine Run.pure (dd := some 51) rfl rfl (op_move rfl (Opd.tmp _ _ rfl)) ?_ | refine Run.pure (dd := some 51) rfl rfl (op_junk (.inl rfl)) ?_
        first | refine Run.pure (dd := some 52) rfl rfl (op_move rfl (Opd.tmp _ _ rfl)) ?_ | refine Run.pure (dd := some 52) rfl rfl (op_junk (.inl rfl)) ?_
        refine Run.pure (dd := some 53) rfl rfl (op_add rfl (Opd.tmp _ _ rfl) (Opd.const _) tI) ?_
        refine Run.eff (dd := some 54) rfl rfl (op_call (n := 1) (n' := 1) [1] (fun _ => hdl) rfl (Opd.func _) (Opds.cons _ _ _ _ (Opd.tmp _ _ rfl) (Opds.cons _ _ _ _ (Opd.tmp _ _ rfl) (Opds.cons _ _ _ _ (Opd.tmp _ _ rfl) Opds.nil))) rfl rfl (Lent.of rfl rfl (by exact ⟨⟨rfl, rfl, rfl, trivial⟩, trivial⟩) rfl) rfl rfl rfl rfl rfl) ?_
        first | refine Run.pure (dd := some 55) rfl rfl (op_nilck_ptr rfl (Opd.tmp _ _ rfl)) ?_ | refine Run.pure (dd := some 55) rfl rfl (op_nilck_fz rfl (Opd.tmp _ _ rfl)) ?_ | refine Run.pure (dd := some 55) rfl rfl (op_nilck_clo rfl (Opd.tmp _ _ rfl)) ?_ | refine Run.pure (dd := some 55) rfl rfl (op_nilck_fclo rfl (Opd.tmp _ _ rfl)) ?_
        first | refine Run.pure (dd := some 56) rfl rfl (op_fld_ptr (by decide) rfl (Opd.tmp _ _ rfl)) ?_ | refine Run.pure (dd := some 56) rfl rfl (op_fld_fz (by decide) rfl (Opd.tmp _ _ rfl) tR) ?_
        first | refine Run.eff (dd := none) rfl rfl (op_store_flat rfl (Opd.tmp _ _ rfl) (Opd.tmp _ _ rfl) tC rfl rfl (by first | rfl | assumption) tS) ?_ | refine Run.eff (dd := none) rfl rfl (op_store_refs rfl (Opd.tmp _ _ rfl) (Opd.tmp _ _ rfl) tP rfl rfl rfl tS) ?_
        refine Run.nil (FinR.mk ?_)
        refine nK ?_
        refine s_reg rfl ?_
        first | refine Run.pure (dd := some 4) rfl rfl (op_assign rfl (Opd.const _)) ?_ | refine Run.pure (dd := some 4) rfl rfl (op_junk (.inr rfl)) ?_
        refine Run.nil (FinR.mk ?_)
        refine nK ?_
        refine Next.trim 1 (g.es.length - 1) rfl ?_
        refine Next.weak [0, 1] [] (by rfl) (keepsN hC _ rfl) (G' := [(4, IV .i64 0)]) (H' := [(0, some (.refs 3 [[IV .i64 g.r, IV .i64 g.n, .sl 1 3 0 (delL g.es k (k + 1)).length]])), (1, OE (delL g.es k (k + 1)))]) (by repeat (first | exact trivial | refine ⟨⟨_, rfl, .inl ⟨rfl, rfl⟩⟩, ?_⟩ | refine ⟨⟨_, rfl, .inl ⟨slEq rfl tN, rfl⟩⟩, ?_⟩ | refine ⟨⟨_, rfl, .inl ⟨ivEq tX, rfl⟩⟩, ?_⟩)) (by exact ⟨ent_same rfl rfl (by rw [hdn]; rfl) tL, ent_same rfl rfl (flEq rfl (by rw [List.map_append]; exact hrl)) trivial, trivial⟩) (fun _ h => by simp at h) ?_
        refine Next.retagCell 0 0 2 rfl rfl rfl rfl rfl ?_
        refine Next.weak [0, 1, 2] [] (by rfl) (keepsN hC _ rfl) (G' := [(4, .fz _)]) (H' := [(0, some (.refs 3 [[IV .i64 g.r, IV .i64 g.n, .sl 2 3 0 (delL g.es k (k + 1)).length]])), (2, OE (delL g.es k (k + 1)))]) (by repeat (first | exact trivial | refine ⟨⟨_, rfl, .inl ⟨rfl, rfl⟩⟩, ?_⟩ | refine ⟨⟨_, rfl, .inl ⟨slEq rfl tN, rfl⟩⟩, ?_⟩ | refine ⟨⟨_, rfl, .inl ⟨ivEq tX, rfl⟩⟩, ?_⟩)) (by repeat (first | exact trivial | refine ⟨ent_same rfl rfl rfl tL, ?_⟩ | refine ⟨ent_same rfl rfl (rfEq rfl tU) tL, ?_⟩ | refine ⟨ent_same rfl rfl (flEq rfl (by first | (simp; done) | (simp; omega) | (simp [encE, encN, encB]; done) | simp [maxC, minC])) trivial, ?_⟩)) (fun _ h => by simp at h) ?_
        exact n_out1 rfl (by rfl) rfl rfl
    · rw [if_neg (by simpa using hb)]
      refine nK ?_
      refine s_draw mixed ?_
      first | refine Run.pure (dd := some 57) rfl rfl (op_move rfl (Opd.tmp _ _ rfl)) ?_ | refine Run.pure (dd := some 57) rfl rfl (op_junk (.inl rfl)) ?_
      first | refine Run.pure (dd := some 58) rfl rfl (op_nilck_ptr rfl (Opd.tmp _ _ rfl)) ?_ | refine Run.pure (dd := some 58) rfl rfl (op_nilck_fz rfl (Opd.tmp _ _ rfl)) ?_ | refine Run.pure (dd := some 58) rfl rfl (op_nilck_clo rfl (Opd.tmp _ _ rfl)) ?_ | refine Run.pure (dd := some 58) rfl rfl (op_nilck_fclo rfl (Opd.tmp _ _ rfl)) ?_
      first | refine Run.load (dd := some 59) rfl rfl (op_loadw_flat rfl (Opd.tmp _ _ rfl) tH rfl) ?_ | refine Run.pure (dd := some 59) rfl rfl (op_loadw_fz rfl (Opd.tmp _ _ rfl) rfl) ?_ | refine Run.load (dd := some 59) rfl rfl (op_loadn_flat rfl (Opd.tmp _ _ rfl) tH tR tR) ?_ | refine Run.pure (dd := some 59) rfl rfl (op_loadn_fz rfl (Opd.tmp _ _ rfl) tR) ?_ | refine Run.load (dd := some 59) rfl rfl (op_loadn_refs rfl (Opd.tmp _ _ rfl) tH tR tR) ?_
      first | refine Run.load (dd := some 60) rfl rfl (op_loadw_flat rfl (Opd.tmp _ _ rfl) tH rfl) ?_ | refine Run.pure (dd := some 60) rfl rfl (op_loadw_fz rfl (Opd.tmp _ _ rfl) rfl) ?_ | refine Run.load (dd := some 60) rfl rfl (op_loadn_flat rfl (Opd.tmp _ _ rfl) tH tR tR) ?_ | refine Run.pure (dd := some 60) rfl rfl (op_loadn_fz rfl (Opd.tmp _ _ rfl) tR) ?_ | refine Run.load (dd := some 60) rfl rfl (op_loadn_refs rfl (Opd.tmp _ _ rfl) tH tR tR) ?_
      refine Run.load (dd := some 61) rfl rfl (op_call_lend (args := [.agg (encG g), .agg (encE c)]) [1] (fun _ => hal) rfl (Opd.func _) (Opds.cons _ _ _ _ (Opd.tmp _ _ rfl) (Opds.cons _ _ _ _ (Opd.tmp _ _ rfl) Opds.nil)) (by exact .cons _ _ _ _ tW (.cons _ _ _ _ tW .nil)) rfl rfl) ?_
      first | refine Run.pure (dd := some 8) rfl rfl (op_assign rfl (Opd.tmp _ _ rfl)) ?_ | refine Run.pure (dd := some 8) rfl rfl (op_junk (.inr rfl)) ?_
      refine Run.nil (FinD.mk (by kernel_rfl) ?_)
      refine nK ?_
      refine s_reg rfl ?_
      first | refine Run.pure (dd := some 62) rfl rfl (op_move rfl (Opd.tmp _ _ rfl)) ?_ | refine Run.pure (dd := some 62) rfl rfl (op_junk (.inl rfl)) ?_
      refine Run.pure (dd := some 63) rfl rfl (op_neq rfl (Opd.tmp _ _ rfl) (Opd.const _)) ?_
      refine Run.nil (FinR.mk ?_)
      refine nK ?_
      refine n_cond _ rfl (fun hb => ?_) (fun hb => ?_)
      · have hz2 : alwI g c ≠ 0 := by simpa using hb
        rw [if_pos hz2]
        refine nK ?_
        refine s_reg rfl ?_
        first | refine Run.pure (dd := some 64) rfl rfl (op_move rfl (Opd.tmp _ _ rfl)) ?_ | refine Run.pure (dd := some 64) rfl rfl (op_junk (.inl rfl)) ?_
        first | refine Run.pure (dd := some 4) rfl rfl (op_assign rfl (Opd.tmp _ _ rfl)) ?_ | refine Run.pure (dd := some 4) rfl rfl (op_junk (.inr rfl)) ?_
        refine Run.nil (FinR.mk ?_)
        refine nK ?_
        (refine Next.weak [0, 1] [] (by rfl) (keepsN hC _ rfl) (G' := [(4, .fz _)]) (H' := [(0, some (.refs 3 [[IV .i64 g.r, IV .i64 g.n, .sl 1 3 0 g.es.length]])), (1, OE g.es)]) (by repeat (first | exact trivial | refine ⟨⟨_, rfl, .inl ⟨rfl, rfl⟩⟩, ?_⟩ | refine ⟨⟨_, rfl, .inl ⟨slEq rfl tN, rfl⟩⟩, ?_⟩ | refine ⟨⟨_, rfl, .inl ⟨ivEq tX, rfl⟩⟩, ?_⟩)) (by repeat (first | exact trivial | refine ⟨ent_same rfl rfl rfl tL, ?_⟩ | refine ⟨ent_same rfl rfl (rfEq rfl tU) tL, ?_⟩ | refine ⟨ent_same rfl rfl (flEq rfl (by first | (simp; done) | (simp; omega) | (simp [encE, encN, encB]; done) | simp [maxC, minC])) trivial, ?_⟩)) (fun _ h => by simp at h) ?_; refine Next.retagCell 0 0 2 rfl rfl rfl rfl rfl ?_; refine Next.weak [0, 1, 2] [] (by rfl) (keepsN hC _ rfl) (G' := [(4, .fz _)]) (H' := [(0, some (.refs 3 [[IV .i64 g.r, IV .i64 g.n, .sl 2 3 0 g.es.length]])), (2, OE g.es)]) (by repeat (first | exact trivial | refine ⟨⟨_, rfl, .inl ⟨rfl, rfl⟩⟩, ?_⟩ | refine ⟨⟨_, rfl, .inl ⟨slEq rfl tN, rfl⟩⟩, ?_⟩ | refine ⟨⟨_, rfl, .inl ⟨ivEq tX, rfl⟩⟩, ?_⟩)) (by repeat (first | exact trivial | refine ⟨ent_same rfl rfl rfl tL, ?_⟩ | refine ⟨ent_same rfl rfl (rfEq rfl tU) tL, ?_⟩ | refine ⟨ent_same rfl rfl (flEq rfl (by first | (simp; done) | (simp; omega) | (simp [encE, encN, encB]; done) | simp [maxC, minC])) trivial, ?_⟩)) (fun _ h => by simp at h) ?_; exact n_out1 rfl (by rfl) rfl rfl)
      · have hz2 : ¬ (alwI g c ≠ 0) := by simpa using hb
        rw [if_neg hz2]
        have hq : ∃ q : Edg, (hit = true → g.es[k]? = some q ∧ q.f = c.f ∧ q.t = c.t) := by
          cases hit with
          | false => exact ⟨c, fun h => by cases h⟩
          | true => obtain ⟨h1, h2⟩ := hhit rfl; exact ⟨g.es[k], fun _ => ⟨List.getElem?_eq_getElem h1, h2⟩⟩
        obtain ⟨q, hq⟩ := hq
        have hrow : hit = true → (g.es.map encE)[k]? = some (encE q) := fun h => by rw [List.getElem?_map, (hq h).1]; rfl
        have hkl : hit = true → k < g.es.length := fun h => (List.getElem?_eq_some_iff.1 (hq h).1).1
        refine nK ?_
        refine s_draw mixed ?_
        first | refine Run.pure (dd := some 66) rfl rfl (op_move rfl (Opd.tmp _ _ rfl)) ?_ | refine Run.pure (dd := some 66) rfl rfl (op_junk (.inl rfl)) ?_
        first | refine Run.pure (dd := some 67) rfl rfl (op_move rfl (Opd.tmp _ _ rfl)) ?_ | refine Run.pure (dd := some 67) rfl rfl (op_junk (.inl rfl)) ?_
        first | refine Run.pureG (dd := some 68) rfl rfl rfl tG (op_move rfl (Opd.tmp _ _ rfl)) ?_ | refine Run.pureG (dd := some 68) rfl rfl rfl tG (op_junk (.inl rfl)) ?_
        first | refine Run.pureG (dd := some 69) rfl rfl rfl tG (op_nilck_ptr rfl (Opd.topt _ _ _ rfl tO)) ?_ | refine Run.pureG (dd := some 69) rfl rfl rfl tG (op_nilck_fz rfl (Opd.topt _ _ _ rfl tO)) ?_ | refine Run.pureG (dd := some 69) rfl rfl rfl tG (op_nilck_clo rfl (Opd.topt _ _ _ rfl tO)) ?_ | refine Run.pureG (dd := some 69) rfl rfl rfl tG (op_nilck_fclo rfl (Opd.topt _ _ _ rfl tO)) ?_
        first | refine Run.pureG (dd := some 70) rfl rfl rfl tG (op_fld_ptr (by decide) rfl (Opd.topt _ _ _ rfl tO)) ?_ | refine Run.pureG (dd := some 70) rfl rfl rfl tG (op_fld_fz (by decide) rfl (Opd.topt _ _ _ rfl tO) tR) ?_
        first | refine Run.loadG (dd := some 71) rfl rfl rfl tG (op_load1_flat rfl (Opd.topt _ _ _ rfl tO) tH rfl) ?_ | refine Run.pureG (dd := some 71) rfl rfl rfl tG (op_load1_fz rfl (Opd.topt _ _ _ rfl tO) rfl) ?_ | refine Run.loadG (dd := some 71) rfl rfl rfl tG (op_load1_refs rfl (Opd.topt _ _ _ rfl tO) tH rfl) ?_
        first | refine Run.pureG (dd := some 72) rfl rfl rfl tG (op_move rfl (Opd.tmp _ _ rfl)) ?_ | refine Run.pureG (dd := some 72) rfl rfl rfl tG (op_junk (.inl rfl)) ?_
        refine Run.pureG (dd := some 73) rfl rfl rfl tG (op_idx_sl0 k rfl (Opd.topt _ _ _ rfl tO) (Opd.topt _ _ _ rfl tO) (by intro h; simp at h; exact ⟨rfl, hkl h⟩)) ?_
        refine Run.loadG (dd := some 74) rfl rfl rfl tG (op_loadw_flat rfl (Opd.topt _ _ _ rfl tO) (by intro h; simp at h; exact ⟨rfl, hrow h⟩) rfl) ?_
        first | refine Run.loadG (dd := some 75) rfl rfl rfl tG (op_loadw_flat rfl (Opd.tmp _ _ rfl) tH rfl) ?_ | refine Run.pureG (dd := some 75) rfl rfl rfl tG (op_loadw_fz rfl (Opd.tmp _ _ rfl) rfl) ?_ | refine Run.loadG (dd := some 75) rfl rfl rfl tG (op_loadn_flat rfl (Opd.tmp _ _ rfl) tH tR tR) ?_ | refine Run.pureG (dd := some 75) rfl rfl rfl tG (op_loadn_fz rfl (Opd.tmp _ _ rfl) tR) ?_ | refine Run.loadG (dd := some 75) rfl rfl rfl tG (op_loadn_refs rfl (Opd.tmp _ _ rfl) tH tR tR) ?_
        refine Run.pureG (dd := some 76) rfl rfl rfl tG (op_neS rfl (Opd.topt _ _ _ rfl tO) (Opd.topt _ _ _ rfl tO) (by kernel_rfl)) ?_
        refine Run.pure (dd := some 77) rfl rfl (op_pick_and rfl (Opd.tmp _ _ rfl) (Opd.topt _ _ _ rfl tO)) ?_
        first | refine Run.pure (dd := some 65) rfl rfl (op_assign rfl (Opd.tmp _ _ rfl)) ?_ | refine Run.pure (dd := some 65) rfl rfl (op_junk (.inr rfl)) ?_
        refine Run.nil (FinD.mk (by kernel_rfl) ?_)
        refine nK ?_
        refine n_cond _ rfl (fun hb => ?_) (fun hb => ?_)
        · have hb2 : hit = true ∧ q ≠ c := by have e : eqFs (encE q) [If .i64 c.f, If .i64 c.t, If .i64 c.c] = decide (q = c) := eqFs_encE q c; simpa [e] using hb
          obtain ⟨hh, hqc⟩ := hb2
          have hr := hrow hh
          have hlt := hkl hh
          subst hh
          rw [if_pos rfl]
          refine nK ?_
          refine s_draw mixed ?_
          first | refine Run.pure (dd := some 78) rfl rfl (op_move rfl (Opd.tmp _ _ rfl)) ?_ | refine Run.pure (dd := some 78) rfl rfl (op_junk (.inl rfl)) ?_
          first | refine Run.pure (dd := some 79) rfl rfl (op_nilck_ptr rfl (Opd.tmp _ _ rfl)) ?_ | refine Run.pure (dd := some 79) rfl rfl (op_nilck_fz rfl (Opd.tmp _ _ rfl)) ?_ | refine Run.pure (dd := some 79) rfl rfl (op_nilck_clo rfl (Opd.tmp _ _ rfl)) ?_ | refine Run.pure (dd := some 79) rfl rfl (op_nilck_fclo rfl (Opd.tmp _ _ rfl)) ?_
          first | refine Run.pure (dd := some 80) rfl rfl (op_fld_ptr (by decide) rfl (Opd.tmp _ _ rfl)) ?_ | refine Run.pure (dd := some 80) rfl rfl (op_fld_fz (by decide) rfl (Opd.tmp _ _ rfl) tR) ?_
          first | refine Run.load (dd := some 81) rfl rfl (op_load1_flat rfl (Opd.tmp _ _ rfl) tH rfl) ?_ | refine Run.pure (dd := some 81) rfl rfl (op_load1_fz rfl (Opd.tmp _ _ rfl) rfl) ?_ | refine Run.load (dd := some 81) rfl rfl (op_load1_refs rfl (Opd.tmp _ _ rfl) tH rfl) ?_
          first | refine Run.pure (dd := some 82) rfl rfl (op_move rfl (Opd.tmp _ _ rfl)) ?_ | refine Run.pure (dd := some 82) rfl rfl (op_junk (.inl rfl)) ?_
          first | refine Run.load (dd := some 83) rfl rfl (op_loadw_flat rfl (Opd.tmp _ _ rfl) tH rfl) ?_ | refine Run.pure (dd := some 83) rfl rfl (op_loadw_fz rfl (Opd.tmp _ _ rfl) rfl) ?_ | refine Run.load (dd := some 83) rfl rfl (op_loadn_flat rfl (Opd.tmp _ _ rfl) tH tR tR) ?_ | refine Run.pure (dd := some 83) rfl rfl (op_loadn_fz rfl (Opd.tmp _ _ rfl) tR) ?_ | refine Run.load (dd := some 83) rfl rfl (op_loadn_refs rfl (Opd.tmp _ _ rfl) tH tR tR) ?_
          refine Run.pure (dd := some 84) rfl rfl (op_idx_sl0 k rfl (Opd.tmp _ _ rfl) (Opd.tmp _ _ rfl) (by intro _; exact ⟨rfl, hlt⟩)) ?_
          refine Run.effW (dd := none) rfl rfl (op_store_flat rfl (Opd.tmp _ _ rfl) (Opd.tmp _ _ rfl) tC rfl rfl hr tS) (by first | exact ext_call | exact tE) ?_
          refine Run.nil (FinD.mk (by kernel_rfl) ?_)
          refine nK ?_
          refine s_reg rfl ?_
          first | refine Run.pure (dd := some 4) rfl rfl (op_assign rfl (Opd.const _)) ?_ | refine Run.pure (dd := some 4) rfl rfl (op_junk (.inr rfl)) ?_
          refine Run.nil (FinR.mk ?_)
          refine nK ?_
          refine Next.weak [0, 1] [] (by rfl) (keepsN hC _ rfl) (G' := [(4, IV .i64 0)]) (H' := [(0, some (.refs 3 [[IV .i64 g.r, IV .i64 g.n, .sl 1 3 0 (g.es.set k c).length]])), (1, OE (g.es.set k c))]) (by repeat (first | exact trivial | refine ⟨⟨_, rfl, .inl ⟨rfl, rfl⟩⟩, ?_⟩ | refine ⟨⟨_, rfl, .inl ⟨slEq rfl tN, rfl⟩⟩, ?_⟩ | refine ⟨⟨_, rfl, .inl ⟨ivEq tX, rfl⟩⟩, ?_⟩)) (by exact ⟨ent_same rfl rfl (by rw [List.length_set]; rfl) tL, ent_same rfl rfl (flEq rfl (by rw [List.map_set]; rfl)) trivial, trivial⟩) (fun _ h => by simp at h) ?_
          refine Next.retagCell 0 0 2 rfl rfl rfl rfl rfl ?_
          refine Next.weak [0, 1, 2] [] (by rfl) (keepsN hC _ rfl) (G' := [(4, .fz _)]) (H' := [(0, some (.refs 3 [[IV .i64 g.r, IV .i64 g.n, .sl 2 3 0 (g.es.set k c).length]])), (2, OE (g.es.set k c))]) (by repeat (first | exact trivial | refine ⟨⟨_, rfl, .inl ⟨rfl, rfl⟩⟩, ?_⟩ | refine ⟨⟨_, rfl, .inl ⟨slEq rfl tN, rfl⟩⟩, ?_⟩ | refine ⟨⟨_, rfl, .inl ⟨ivEq tX, rfl⟩⟩, ?_⟩)) (by repeat (first | exact trivial | refine ⟨ent_same rfl rfl rfl tL, ?_⟩ | refine ⟨ent_same rfl rfl (rfEq rfl tU) tL, ?_⟩ | refine ⟨ent_same rfl rfl (flEq rfl (by first | (simp; done) | (simp; omega) | (simp [encE, encN, encB]; done) | simp [maxC, minC])) trivial, ?_⟩)) (fun _ h => by simp at h) ?_
          exact n_out1 rfl (by rfl) rfl rfl
        · have hb2 : hit = true → q = c := by have e : eqFs (encE q) [If .i64 c.f, If .i64 c.t, If .i64 c.c] = decide (q = c) := eqFs_encE q c; simpa [e] using hb
          refine nK ?_
          refine s_reg rfl ?_
          first | refine Run.pure (dd := some 86) rfl rfl (op_move rfl (Opd.tmp _ _ rfl)) ?_ | refine Run.pure (dd := some 86) rfl rfl (op_junk (.inl rfl)) ?_
          refine Run.pure (dd := some 87) rfl rfl (op_not rfl (Opd.tmp _ _ rfl)) ?_
          first | refine Run.pure (dd := some 88) rfl rfl (op_move rfl (Opd.tmp _ _ rfl)) ?_ | refine Run.pure (dd := some 88) rfl rfl (op_junk (.inl rfl)) ?_
          first | refine Run.pureG (dd := some 89) rfl rfl rfl tG (op_move rfl (Opd.tmp _ _ rfl)) ?_ | refine Run.pureG (dd := some 89) rfl rfl rfl tG (op_junk (.inl rfl)) ?_
          first | refine Run.pureG (dd := some 90) rfl rfl rfl tG (op_nilck_ptr rfl (Opd.topt _ _ _ rfl tO)) ?_ | refine Run.pureG (dd := some 90) rfl rfl rfl tG (op_nilck_fz rfl (Opd.topt _ _ _ rfl tO)) ?_ | refine Run.pureG (dd := some 90) rfl rfl rfl tG (op_nilck_clo rfl (Opd.topt _ _ _ rfl tO)) ?_ | refine Run.pureG (dd := some 90) rfl rfl rfl tG (op_nilck_fclo rfl (Opd.topt _ _ _ rfl tO)) ?_
          first | refine Run.pureG (dd := some 91) rfl rfl rfl tG (op_fld_ptr (by decide) rfl (Opd.topt _ _ _ rfl tO)) ?_ | refine Run.pureG (dd := some 91) rfl rfl rfl tG (op_fld_fz (by decide) rfl (Opd.topt _ _ _ rfl tO) tR) ?_
          first | refine Run.loadG (dd := some 92) rfl rfl rfl tG (op_load1_flat rfl (Opd.topt _ _ _ rfl tO) tH rfl) ?_ | refine Run.pureG (dd := some 92) rfl rfl rfl tG (op_load1_fz rfl (Opd.topt _ _ _ rfl tO) rfl) ?_ | refine Run.loadG (dd := some 92) rfl rfl rfl tG (op_load1_refs rfl (Opd.topt _ _ _ rfl tO) tH rfl) ?_
          first | refine Run.pureG (dd := some 93) rfl rfl rfl tG (op_len_fz rfl (by first | exact Opd.topt _ _ _ rfl tO | exact Opd.nil _ _ (Opd.topt _ _ _ rfl tO)) (by first | exact List.length_map _ | rfl)) ?_ | refine Run.pureG (dd := some 93) rfl rfl rfl tG (op_len_sl rfl (Opd.topt _ _ _ rfl tO)) ?_
          refine Run.pureG (dd := some 94) rfl rfl rfl tG (op_eql rfl (Opd.topt _ _ _ rfl tO) (Opd.const _)) ?_
          refine Run.pure (dd := some 95) rfl rfl (op_pick_and rfl (Opd.tmp _ _ rfl) (Opd.topt _ _ _ rfl tO)) ?_
          first | refine Run.pure (dd := some 85) rfl rfl (op_assign rfl (Opd.tmp _ _ rfl)) ?_ | refine Run.pure (dd := some 85) rfl rfl (op_junk (.inr rfl)) ?_
          refine Run.nil (FinR.mk ?_)
          refine nK ?_
          refine n_cond _ rfl (fun hb => ?_) (fun hb => ?_)
          · have hb3 : hit = false ∧ g.es.length = 1024 := by simp at hb; exact ⟨hb.1, by omega⟩
            rw [if_neg (by rw [hb3.1]; simp), if_pos hb3.2]
            refine nK ?_
            refine s_reg rfl ?_
            first | refine Run.pure (dd := some 4) rfl rfl (op_assign rfl (Opd.const _)) ?_ | refine Run.pure (dd := some 4) rfl rfl (op_junk (.inr rfl)) ?_
            refine Run.nil (FinR.mk ?_)
            refine nK ?_
            (refine Next.weak [0, 1] [] (by rfl) (keepsN hC _ rfl) (G' := [(4, .fz _)]) (H' := [(0, some (.refs 3 [[IV .i64 g.r, IV .i64 g.n, .sl 1 3 0 g.es.length]])), (1, OE g.es)]) (by repeat (first | exact trivial | refine ⟨⟨_, rfl, .inl ⟨rfl, rfl⟩⟩, ?_⟩ | refine ⟨⟨_, rfl, .inl ⟨slEq rfl tN, rfl⟩⟩, ?_⟩ | refine ⟨⟨_, rfl, .inl ⟨ivEq tX, rfl⟩⟩, ?_⟩)) (by repeat (first | exact trivial | refine ⟨ent_same rfl rfl rfl tL, ?_⟩ | refine ⟨ent_same rfl rfl (rfEq rfl tU) tL, ?_⟩ | refine ⟨ent_same rfl rfl (flEq rfl (by first | (simp; done) | (simp; omega) | (simp [encE, encN, encB]; done) | simp [maxC, minC])) trivial, ?_⟩)) (fun _ h => by simp at h) ?_; refine Next.retagCell 0 0 2 rfl rfl rfl rfl rfl ?_; refine Next.weak [0, 1, 2] [] (by rfl) (keepsN hC _ rfl) (G' := [(4, .fz _)]) (H' := [(0, some (.refs 3 [[IV .i64 g.r, IV .i64 g.n, .sl 2 3 0 g.es.length]])), (2, OE g.es)]) (by repeat (first | exact trivial | refine ⟨⟨_, rfl, .inl ⟨rfl, rfl⟩⟩, ?_⟩ | refine ⟨⟨_, rfl, .inl ⟨slEq rfl tN, rfl⟩⟩, ?_⟩ | refine ⟨⟨_, rfl, .inl ⟨ivEq tX, rfl⟩⟩, ?_⟩)) (by repeat (first | exact trivial | refine ⟨ent_same rfl rfl rfl tL, ?_⟩ | refine ⟨ent_same rfl rfl (rfEq rfl tU) tL, ?_⟩ | refine ⟨ent_same rfl rfl (flEq rfl (by first | (simp; done) | (simp; omega) | (simp [encE, encN, encB]; done) | simp [maxC, minC])) trivial, ?_⟩)) (fun _ h => by simp at h) ?_; exact n_out1 rfl (by rfl) rfl rfl)
          · have hb3 : hit = false → g.es.length ≠ 1024 := by simp at hb; intro h; have := hb h; omega
            refine nK ?_
            refine s_reg rfl ?_
            first | refine Run.pure (dd := some 97) rfl rfl (op_move rfl (Opd.tmp _ _ rfl)) ?_ | refine Run.pure (dd := some 97) rfl rfl (op_junk (.inl rfl)) ?_
            refine Run.pure (dd := some 98) rfl rfl (op_not rfl (Opd.tmp _ _ rfl)) ?_
            first | refine Run.pure (dd := some 96) rfl rfl (op_assign rfl (Opd.tmp _ _ rfl)) ?_ | refine Run.pure (dd := some 96) rfl rfl (op_junk (.inr rfl)) ?_
            refine Run.nil (FinR.mk ?_)
            refine nK ?_
            refine n_cond _ rfl (fun hb => ?_) (fun hb => ?_)
            · have hh : hit = false := by simpa using hb
              subst hh
              have hins := insert_c g.es c k (by omega) hble
              have hil := insL_len g.es k c hble
              rw [if_neg (by simp), if_neg (hb3 rfl)]
              refine nK ?_
              refine s_draw mixed ?_
              first | refine Run.pure (dd := some 99) rfl rfl (op_move rfl (Opd.tmp _ _ rfl)) ?_ | refine Run.pure (dd := some 99) rfl rfl (op_junk (.inl rfl)) ?_
              first | refine Run.pure (dd := some 100) rfl rfl (op_move rfl (Opd.tmp _ _ rfl)) ?_ | refine Run.pure (dd := some 100) rfl rfl (op_junk (.inl rfl)) ?_
              first | refine Run.pure (dd := some 101) rfl rfl (op_nilck_ptr rfl (Opd.tmp _ _ rfl)) ?_ | refine Run.pure (dd := some 101) rfl rfl (op_nilck_fz rfl (Opd.tmp _ _ rfl)) ?_ | refine Run.pure (dd := some 101) rfl rfl (op_nilck_clo rfl (Opd.tmp _ _ rfl)) ?_ | refine Run.pure (dd := some 101) rfl rfl (op_nilck_fclo rfl (Opd.tmp _ _ rfl)) ?_
              first | refine Run.pure (dd := some 102) rfl rfl (op_fld_ptr (by decide) rfl (Opd.tmp _ _ rfl)) ?_ | refine Run.pure (dd := some 102) rfl rfl (op_fld_fz (by decide) rfl (Opd.tmp _ _ rfl) tR) ?_
              first | refine Run.load (dd := some 103) rfl rfl (op_load1_flat rfl (Opd.tmp _ _ rfl) tH rfl) ?_ | refine Run.pure (dd := some 103) rfl rfl (op_load1_fz rfl (Opd.tmp _ _ rfl) rfl) ?_ | refine Run.load (dd := some 103) rfl rfl (op_load1_refs rfl (Opd.tmp _ _ rfl) tH rfl) ?_
              first | refine Run.pure (dd := some 104) rfl rfl (op_move rfl (Opd.tmp _ _ rfl)) ?_ | refine Run.pure (dd := some 104) rfl rfl (op_junk (.inl rfl)) ?_
              first | refine Run.load (dd := some 105) rfl rfl (op_loadw_flat rfl (Opd.tmp _ _ rfl) tH rfl) ?_ | refine Run.pure (dd := some 105) rfl rfl (op_loadw_fz rfl (Opd.tmp _ _ rfl) rfl) ?_ | refine Run.load (dd := some 105) rfl rfl (op_loadn_flat rfl (Opd.tmp _ _ rfl) tH tR tR) ?_ | refine Run.pure (dd := some 105) rfl rfl (op_loadn_fz rfl (Opd.tmp _ _ rfl) tR) ?_ | refine Run.load (dd := some 105) rfl rfl (op_loadn_refs rfl (Opd.tmp _ _ rfl) tH tR tR) ?_
              refine Run.effW (dd := some 106) rfl rfl (op_buildSlice_own rfl (RowsF.cons _ _ _ _ _ _ (Opd.tmp _ _ rfl) tC (by rfl) (RowsF.nil _)) rfl rfl rfl) (by first | exact ext_call | exact tE) ?_
              refine Run.effW (dd := some 107) rfl rfl (op_call (n := 2) (n' := 3) [1, 4] (fun _ => hins) rfl (Opd.func _) (Opds.cons _ _ _ _ (Opd.tmp _ _ rfl) (Opds.cons _ _ _ _ (Opd.tmp _ _ rfl) (Opds.cons _ _ _ _ (Opd.tmp _ _ rfl) Opds.nil))) rfl rfl (Lent.of rfl rfl (by exact ⟨⟨rfl, rfl, rfl, trivial⟩, ⟨rfl, rfl, rfl, trivial⟩, trivial⟩) rfl) rfl rfl rfl rfl rfl) (by first | exact ext_call | exact tE) ?_
              first | refine Run.pure (dd := some 108) rfl rfl (op_nilck_ptr rfl (Opd.tmp _ _ rfl)) ?_ | refine Run.pure (dd := some 108) rfl rfl (op_nilck_fz rfl (Opd.tmp _ _ rfl)) ?_ | refine Run.pure (dd := some 108) rfl rfl (op_nilck_clo rfl (Opd.tmp _ _ rfl)) ?_ | refine Run.pure (dd := some 108) rfl rfl (op_nilck_fclo rfl (Opd.tmp _ _ rfl)) ?_
              first | refine Run.pure (dd := some 109) rfl rfl (op_fld_ptr (by decide) rfl (Opd.tmp _ _ rfl)) ?_ | refine Run.pure (dd := some 109) rfl rfl (op_fld_fz (by decide) rfl (Opd.tmp _ _ rfl) tR) ?_
              first | refine Run.effW (dd := none) rfl rfl (op_store_flat rfl (Opd.tmp _ _ rfl) (Opd.tmp _ _ rfl) tC rfl rfl (by first | rfl | assumption) tS) (by first | exact ext_call | exact tE) ?_ | refine Run.effW (dd := none) rfl rfl (op_store_refs rfl (Opd.tmp _ _ rfl) (Opd.tmp _ _ rfl) tP rfl rfl rfl tS) (by first | exact ext_call | exact tE) ?_
              refine Run.nil (FinD.mk (by kernel_rfl) ?_)
              refine nK ?_
              refine s_reg rfl ?_
              first | refine Run.pure (dd := some 4) rfl rfl (op_assign rfl (Opd.const _)) ?_ | refine Run.pure (dd := some 4) rfl rfl (op_junk (.inr rfl)) ?_
              refine Run.nil (FinR.mk ?_)
              refine nK ?_
              refine Next.weak [0, 1, 5] [] (by rfl) (keepsN hC _ rfl) (G' := [(4, IV .i64 0)]) (H' := [(0, some (.refs 3 [[IV .i64 g.r, IV .i64 g.n, .sl 2 3 0 (insL g.es k c).length]])), (2, OE (insL g.es k c))]) (by repeat (first | exact trivial | refine ⟨⟨_, rfl, .inl ⟨rfl, rfl⟩⟩, ?_⟩ | refine ⟨⟨_, rfl, .inl ⟨slEq rfl tN, rfl⟩⟩, ?_⟩ | refine ⟨⟨_, rfl, .inl ⟨ivEq tX, rfl⟩⟩, ?_⟩)) (by exact ⟨ent_same rfl rfl (by rw [hil]; rfl) tL, ent_same rfl rfl rfl trivial, trivial⟩) (fun _ h => by simp at h) ?_
              exact n_out1 rfl (by rfl) rfl rfl
            · have hh : hit = true := by simpa using hb
              subst hh
              obtain ⟨h1, _, _⟩ := hq rfl
              have hset : g.es.set k c = g.es := by
                rw [hb2 rfl] at h1
                exact List.ext_getElem? fun j => by
                  rw [List.getElem?_set]
                  by_cases hj : k = j
                  · subst hj; rw [if_pos rfl, if_pos (hkl rfl)]; exact h1.symm
                  · rw [if_neg hj]
              rw [if_pos rfl, hset]
              refine nK ?_
              refine s_reg rfl ?_
              first | refine Run.pure (dd := some 4) rfl rfl (op_assign rfl (Opd.const _)) ?_ | refine Run.pure (dd := some 4) rfl rfl (op_junk (.inr rfl)) ?_
              refine Run.nil (FinR.mk ?_)
              refine nK ?_
              (refine Next.weak [0, 1] [] (by rfl) (keepsN hC _ rfl) (G' := [(4, .fz _)]) (H' := [(0, some (.refs 3 [[IV .i64 g.r, IV .i64 g.n, .sl 1 3 0 g.es.length]])), (1, OE g.es)]) (by repeat (first | exact trivial | refine ⟨⟨_, rfl, .inl ⟨rfl, rfl⟩⟩, ?_⟩ | refine ⟨⟨_, rfl, .inl ⟨slEq rfl tN, rfl⟩⟩, ?_⟩ | refine ⟨⟨_, rfl, .inl ⟨ivEq tX, rfl⟩⟩, ?_⟩)) (by repeat (first | exact trivial | refine ⟨ent_same rfl rfl rfl tL, ?_⟩ | refine ⟨ent_same rfl rfl (rfEq rfl tU) tL, ?_⟩ | refine ⟨ent_same rfl rfl (flEq rfl (by first | (simp; done) | (simp; omega) | (simp [encE, encN, encB]; done) | simp [maxC, minC])) trivial, ?_⟩)) (fun _ h => by simp at h) ?_; refine Next.retagCell 0 0 2 rfl rfl rfl rfl rfl ?_; refine Next.weak [0, 1, 2] [] (by rfl) (keepsN hC _ rfl) (G' := [(4, .fz _)]) (H' := [(0, some (.refs 3 [[IV .i64 g.r, IV .i64 g.n, .sl 2 3 0 g.es.length]])), (2, OE g.es)]) (by repeat (first | exact trivial | refine ⟨⟨_, rfl, .inl ⟨rfl, rfl⟩⟩, ?_⟩ | refine ⟨⟨_, rfl, .inl ⟨slEq rfl tN, rfl⟩⟩, ?_⟩ | refine ⟨⟨_, rfl, .inl ⟨ivEq tX, rfl⟩⟩, ?_⟩)) (by repeat (first | exact trivial | refine ⟨ent_same rfl rfl rfl tL, ?_⟩ | refine ⟨ent_same rfl rfl (rfEq rfl tU) tL, ?_⟩ | refine ⟨ent_same rfl rfl (flEq rfl (by first | (simp; done) | (simp; omega) | (simp [encE, encN, encB]; done) | simp [maxC, minC])) trivial, ?_⟩)) (fun _ h => by simp at h) ?_; exact n_out1 rfl (by rfl) rfl rfl)
end Go.Proofs.Ytelnedgopdlnkaa
namespace Go.Pl
open Go.RT
set_option linter.all false
theorem chkL_asc {g : Gr} : ∀ (l : List Edg) (p : Option Edg), chkL g p l = 0 → AscK l ∧ ∀ q, p = some q → ∀ e ∈ l, ltK q e
  | [], _, _ => ⟨List.Pairwise.nil, fun _ _ e he => by cases he⟩
  | x :: l, p, h => by
    simp only [chkL] at h
    by_cases h1 : alwI g x = 0
    · rw [if_neg (by simp [h1])] at h
      by_cases h2 : badP p x = true
      · rw [if_pos h2] at h; cases h
      · rw [if_neg h2] at h
        obtain ⟨i1, i2⟩ := chkL_asc l (some x) h
        refine ⟨List.pairwise_cons.2 ⟨i2 x rfl, i1⟩, fun q hq e he => ?_⟩
        subst hq
        have hqx : ltK q x := by
          simp only [badP] at h2
          exact (ltK_bef q x).1 (by simpa using h2)
        rcases List.mem_cons.1 he with rfl | he
        · exact hqx
        · have := i2 x rfl e he; unfold ltK at *; omega
    · rw [if_pos h1] at h; exact absurd h h1
theorem check_asc {g : Gr} (h : checkI g = 0) : AscK g.es := (chkL_asc _ _ (checkI_ok h).2.2).1
theorem asc_get {l : List Edg} (h : AscK l) {a b : Nat} (hab : a < b) (hb : b < l.length) : ltK (l[a]'(by omega)) l[b] := List.pairwise_iff_getElem.1 h a b (by omega) hb hab
/-- where the binary search comes to, on an ascending list -/
theorem bsAt_spec {l : List Edg} (h : AscK l) (x : Edg) : bsAt l x ≤ l.length ∧ (∀ k (hk : k < bsAt l x) (hl : k < l.length), ltK l[k] x) ∧ (∀ k (hk : bsAt l x ≤ k) (hl : k < l.length), ¬ ltK l[k] x) := by
  have h1 := (bsGo_le (fun e => decide (ordE e x < 0)) l l.length 0 l.length (by omega) (Nat.zero_le _) (Nat.le_refl _)).2
  have h2 := bsGo_spec (fun e => decide (ordE e x < 0)) l (fun a b ha hb hp => by
    have := asc_get h ha hb
    simp only [decide_eq_true_eq, ordE_neg] at hp ⊢
    unfold ltK at this; omega) l.length 0 l.length (by omega) (Nat.zero_le _) (Nat.le_refl _) (fun k hk => absurd hk (Nat.not_lt_zero _)) (fun k hk hl => absurd hl (by omega))
  refine ⟨h1, fun k hk hl => ?_, fun k hk hl => ?_⟩
  · have := h2.1 k hk hl
    simp only [decide_eq_true_eq, ordE_neg] at this; exact this
  · have := h2.2 k hk hl
    simp only [decide_eq_false_iff_not, ordE_neg] at this; exact this
/-- found: there is an edge with these ends, at the place -/
theorem bsHit_true {l : List Edg} (x : Edg) (hh : bsHit l x = true) : ∃ h : bsAt l x < l.length, l[bsAt l x].f = x.f ∧ l[bsAt l x].t = x.t := by
  obtain ⟨h1, h2⟩ := hitAt_lt hh
  exact ⟨h1, by simpa [ordE_zero] using h2⟩
theorem bsHit_false {l : List Edg} (h : AscK l) (x : Edg) (hh : bsHit l x = false) : ∀ e ∈ l, ¬ (e.f = x.f ∧ e.t = x.t) := by
  intro e he hc
  obtain ⟨j, hj, rfl⟩ := List.getElem_of_mem he
  obtain ⟨h1, h2, h3⟩ := bsAt_spec h x
  rcases Nat.lt_trichotomy j (bsAt l x) with h4 | h4 | h4
  · have := h2 j h4 hj; unfold ltK at this; omega
  · have h5 : l[bsAt l x]? = some l[j] := by rw [← h4]; exact List.getElem?_eq_getElem hj
    unfold bsHit hitAt at hh
    rw [h5] at hh
    simp only [decide_eq_false_iff_not, ordE_zero] at hh
    exact hh hc
  · have h5 := asc_get h h4 hj
    have := h3 (bsAt l x) (Nat.le_refl _) (by omega)
    unfold ltK at *; omega
theorem fnd_idx {f t : Int} : ∀ (l : List Edg) (k j : Nat), (hj : j < l.length) → l[j].f = f ∧ l[j].t = t → (∀ i (hi : i < j), ¬ ((l[i]'(by omega)).f = f ∧ (l[i]'(by omega)).t = t)) → fndAt f t k l = ((k + j : Nat) : Int)
  | e :: l, k, 0, hj, h, _ => by
    have : isB f t e = true := by simpa [isB] using h
    simp [fndAt, this]
  | e :: l, k, j + 1, hj, h, hn => by
    have : ¬ isB f t e = true := by have := hn 0 (by omega); simpa [isB] using this
    simp only [fndAt, if_neg this]
    rw [fnd_idx l (k + 1) j (by simpa using hj) (by simpa using h) (fun i hi => by have := hn (i + 1) (by omega); simpa using this)]
    congr 1; omega
theorem fnd_no {f t : Int} : ∀ (l : List Edg) (k : Nat), (∀ e ∈ l, ¬ (e.f = f ∧ e.t = t)) → fndAt f t k l = -1
  | [], _, _ => rfl
  | e :: l, k, h => by
    have : ¬ isB f t e = true := by have := h e (List.mem_cons_self ..); simpa [isB] using this
    simp only [fndAt, if_neg this]
    exact fnd_no l (k + 1) fun x hx => h x (List.mem_cons_of_mem _ hx)
theorem fnd_hit {l : List Edg} (h : AscK l) (x : Edg) (hh : bsHit l x = true) : fndI l x.f x.t = (bsAt l x : Int) := by
  obtain ⟨h1, h2⟩ := bsHit_true x hh
  have := fnd_idx l 0 (bsAt l x) h1 h2 (fun i hi hc => by have := (bsAt_spec h x).2.1 i hi (by omega); unfold ltK at this; omega)
  simpa using this
theorem fnd_miss {l : List Edg} (h : AscK l) (x : Edg) (hh : bsHit l x = false) : fndI l x.f x.t = -1 := fnd_no l 0 (bsHit_false h x hh)
theorem butR_neg (a : Int) : ∀ (l : List Edg) (k : Nat), a < k → butR a k l = l
  | [], _, _ => rfl
  | e :: l, k, h => by simp only [butR]; rw [if_pos (by omega), butR_neg a l (k + 1) (by omega)]; rfl
theorem butR_at : ∀ (l : List Edg) (k j : Nat), butR ((k + j : Nat) : Int) k l = l.take j ++ l.drop (j + 1)
  | [], _, _ => by simp [butR]
  | e :: l, k, 0 => by
    simp only [butR]
    rw [if_neg (by simp), butR_neg _ l (k + 1) (by omega)]; simp
  | e :: l, k, j + 1 => by
    simp only [butR]
    rw [if_pos (by omega), show k + (j + 1) = (k + 1) + j by omega, butR_at l (k + 1) j]; simp
theorem but_del (l : List Edg) (j : Nat) : butR (j : Int) 0 l = delL l j (j + 1) := by
  have := butR_at l 0 j
  simpa [delL] using this
theorem putR_split (e : Edg) : ∀ (a b : List Edg), (∀ x ∈ a, befB e x = false) → (∀ x ∈ b, befB e x = true) → putR e false (a ++ b) = a ++ e :: b
  | [], [], _, _ => by simp [putR]
  | [], y :: b, _, h => by
    have := h y (List.mem_cons_self ..)
    simp [putR, this, putR_true]
  | x :: a, b, h1, h2 => by
    have := h1 x (List.mem_cons_self ..)
    have ih := putR_split e a b (fun y hy => h1 y (List.mem_cons_of_mem _ hy)) h2
    simp [putR, this, ih]
theorem befF {e x : Edg} (h : ¬ ltK e x) : befB e x = false := by
  cases hb : befB e x with
  | false => rfl
  | true => exact absurd ((ltK_bef e x).1 hb) h
theorem put_ins {l : List Edg} (h : AscK l) (c : Edg) (hh : bsHit l c = false) : putR c false l = insL l (bsAt l c) c := by
  obtain ⟨h1, h2, h3⟩ := bsAt_spec h c
  have hno := bsHit_false h c hh
  have := putR_split c (l.take (bsAt l c)) (l.drop (bsAt l c)) (fun x hx => by
    obtain ⟨i, hi, rfl⟩ := List.getElem_of_mem hx
    simp only [List.length_take] at hi
    rw [List.getElem_take]
    have := h2 i (by omega) (by omega)
    exact befF (by unfold ltK at *; omega)) (fun x hx => by
    obtain ⟨i, hi, rfl⟩ := List.getElem_of_mem hx
    simp only [List.length_drop] at hi
    rw [List.getElem_drop]
    have a := h3 (bsAt l c + i) (by omega) (by omega)
    have b := hno l[bsAt l c + i] (List.getElem_mem _)
    exact (ltK_bef _ _).2 (by unfold ltK at *; omega))
  rw [List.take_append_drop] at this
  exact this
theorem put_set {l : List Edg} (h : AscK l) (c : Edg) (hh : bsHit l c = true) : putR c false (delL l (bsAt l c) (bsAt l c + 1)) = l.set (bsAt l c) c := by
  obtain ⟨h1, h2, h3⟩ := bsAt_spec h c
  obtain ⟨hk, hf, ht⟩ := bsHit_true c hh
  have := putR_split c (l.take (bsAt l c)) (l.drop (bsAt l c + 1)) (fun x hx => by
    obtain ⟨i, hi, rfl⟩ := List.getElem_of_mem hx
    simp only [List.length_take] at hi
    rw [List.getElem_take]
    have := h2 i (by omega) (by omega)
    exact befF (by unfold ltK at *; omega)) (fun x hx => by
    obtain ⟨i, hi, rfl⟩ := List.getElem_of_mem hx
    simp only [List.length_drop] at hi
    rw [List.getElem_drop]
    have a := asc_get h (show bsAt l c < bsAt l c + 1 + i by omega) (by omega)
    exact (ltK_bef _ _).2 (by unfold ltK at *; omega))
  unfold delL
  rw [this, List.set_eq_take_append_cons_drop, if_pos hk]
/-- one change, as the reference makes it -/
def rchgF (g : Gr) (c : Edg) : Gr × Int :=
  if nodeB g c.f = false ∨ nodeB g c.t = false then (zeroG, 5)
  else if c.c < 0 ∧ fndI g.es c.f c.t < 0 then (zeroG, 6)
  else if 0 ≤ c.c ∧ alwI g c ≠ 0 then (zeroG, alwI g c)
  else if 0 ≤ c.c ∧ fndI g.es c.f c.t < 0 ∧ 1024 ≤ g.es.length then (zeroG, 4)
  else (⟨g.r, g.n, if 0 ≤ c.c then putR c false (butR (fndI g.es c.f c.t) 0 g.es) else butR (fndI g.es c.f c.t) 0 g.es⟩, 0)
theorem delL_asc {l : List Edg} (h : AscK l) (i j : Nat) (hij : i ≤ j) : AscK (delL l i j) := by
  unfold delL AscK
  refine List.pairwise_append.2 ⟨h.sublist (List.take_sublist _ _), h.sublist (List.drop_sublist _ _), fun a ha b hb => ?_⟩
  obtain ⟨x, hx, rfl⟩ := List.getElem_of_mem ha
  obtain ⟨y, hy, rfl⟩ := List.getElem_of_mem hb
  simp only [List.length_take] at hx
  simp only [List.length_drop] at hy
  rw [List.getElem_take, List.getElem_drop]
  exact asc_get h (by omega) (by omega)
/-- a step of the program keeps the order, and is the reference's -/
theorem chg_eq {g : Gr} {c : Edg} (h : AscK g.es) (hl : g.es.length ≤ 1024) :
    (chgF g c).2 = (rchgF g c).2 ∧ ((chgF g c).2 = 0 → (chgF g c).1 = (rchgF g c).1 ∧ AscK (chgF g c).1.es ∧ (chgF g c).1.es.length ≤ 1024 ∧ (chgF g c).1.r = g.r ∧ (chgF g c).1.n = g.n) := by
  unfold chgF rchgF
  by_cases h1 : nodeB g c.f = false ∨ nodeB g c.t = false
  · rw [if_pos h1, if_pos h1]; exact ⟨rfl, fun h => by simp at h⟩
  · rw [if_neg h1, if_neg h1]
    by_cases h2 : c.c < 0
    · rw [if_pos h2]
      cases hh : bsHit g.es c with
      | false =>
        have := fnd_miss h c hh
        rw [if_pos rfl, if_pos ⟨h2, by rw [this]; decide⟩]; exact ⟨rfl, fun h => by simp at h⟩
      | true =>
        have hf := fnd_hit h c hh
        obtain ⟨hk, _⟩ := bsHit_true c hh
        rw [if_neg (by simp), if_neg (by rw [hf]; omega), if_neg (by omega), if_neg (by omega), if_neg (by omega), hf, but_del]
        refine ⟨rfl, fun _ => ⟨rfl, delL_asc h _ _ (by omega), ?_, rfl, rfl⟩⟩
        have := delL_len g.es (bsAt g.es c) (bsAt g.es c + 1) (by omega) (by omega)
        dsimp only; omega
    · rw [if_neg h2, if_neg (show ¬ (c.c < 0 ∧ fndI g.es c.f c.t < 0) from fun h => h2 h.1)]
      by_cases h3 : alwI g c ≠ 0
      · rw [if_pos h3, if_pos ⟨by omega, h3⟩]; exact ⟨rfl, fun h => absurd h h3⟩
      · rw [if_neg h3, if_neg (show ¬ (0 ≤ c.c ∧ alwI g c ≠ 0) from fun h => h3 h.2)]
        cases hh : bsHit g.es c with
        | true =>
          have hf := fnd_hit h c hh
          obtain ⟨hk, hkf, hkt⟩ := bsHit_true c hh
          rw [if_pos rfl, if_neg (show ¬ (0 ≤ c.c ∧ fndI g.es c.f c.t < 0 ∧ 1024 ≤ g.es.length) by rw [hf]; omega), if_pos (show 0 ≤ c.c by omega), hf, but_del, put_set h c hh]
          refine ⟨rfl, fun _ => ⟨rfl, ?_, by simpa using hl, rfl, rfl⟩⟩
          rw [List.set_eq_take_append_cons_drop, if_pos hk]
          unfold AscK
          refine List.pairwise_append.2 ⟨h.sublist (List.take_sublist _ _), List.pairwise_cons.2 ⟨fun y hy => ?_, h.sublist (List.drop_sublist _ _)⟩, fun a ha b hb => ?_⟩
          · obtain ⟨j, hj, rfl⟩ := List.getElem_of_mem hy
            simp only [List.length_drop] at hj
            rw [List.getElem_drop]
            have := asc_get h (show bsAt g.es c < bsAt g.es c + 1 + j by omega) (by omega)
            unfold ltK at *; omega
          · obtain ⟨i, hi, rfl⟩ := List.getElem_of_mem ha
            simp only [List.length_take] at hi
            rw [List.getElem_take]
            rcases List.mem_cons.1 hb with rfl | hb
            · have := asc_get h (show i < bsAt g.es b by omega) hk
              unfold ltK at *; omega
            · obtain ⟨j, hj, rfl⟩ := List.getElem_of_mem hb
              simp only [List.length_drop] at hj
              rw [List.getElem_drop]
              exact asc_get h (by omega) (by omega)
        | false =>
          have hf := fnd_miss h c hh
          have hno := bsHit_false h c hh
          have hp := put_ins h c hh
          obtain ⟨q1, q2⟩ := putR_spec c g.es h hno
          rw [if_neg (by simp)]
          by_cases h4 : g.es.length = 1024
          · rw [if_pos h4, if_pos ⟨by omega, by rw [hf]; decide, by omega⟩]; exact ⟨rfl, fun h => by simp at h⟩
          · rw [if_neg h4, if_neg (show ¬ (0 ≤ c.c ∧ fndI g.es c.f c.t < 0 ∧ 1024 ≤ g.es.length) from fun h => by omega), if_pos (show 0 ≤ c.c by omega), hf, butR_neg _ _ _ (by decide), hp]
            refine ⟨rfl, fun _ => ⟨rfl, by rw [hp] at q1; exact q1, ?_, rfl, rfl⟩⟩
            have := insL_len g.es (bsAt g.es c) c (bsAt_spec h c).1
            dsimp only; omega
def appL (g : Gr) : List Edg → Gr × Int
  | [] => (g, 0)
  | c :: cs => if (chgF g c).2 ≠ 0 then (zeroG, (chgF g c).2) else appL (chgF g c).1 cs
def rappL (g : Gr) : List Edg → Gr × Int
  | [] => (g, 0)
  | c :: cs => if (rchgF g c).2 ≠ 0 then (zeroG, (rchgF g c).2) else rappL (rchgF g c).1 cs
theorem app_eq : ∀ (cs : List Edg) (g : Gr), AscK g.es → g.es.length ≤ 1024 → appL g cs = rappL g cs
  | [], g, _, _ => rfl
  | c :: cs, g, h, hl => by
    obtain ⟨h1, h2⟩ := chg_eq (c := c) h hl
    simp only [appL, rappL]
    rw [← h1]
    by_cases hz : (chgF g c).2 = 0
    · obtain ⟨e, ha, hn, _, _⟩ := h2 hz
      rw [if_neg (by simp [hz]), if_neg (by simp [hz]), ← e]
      exact app_eq cs _ ha hn
    · rw [if_pos hz, if_pos hz]
def applyF (g : Gr) (cs : List Edg) : Gr × Int := if checkI g ≠ 0 then (zeroG, checkI g) else appL g cs
theorem applyF_eq (g : Gr) (cs : List Edg) : applyF g cs = if checkI g ≠ 0 then (zeroG, checkI g) else rappL g cs := by
  unfold applyF
  by_cases h : checkI g = 0
  · rw [if_neg (by simp [h]), if_neg (by simp [h])]
    exact app_eq cs g (check_asc h) (checkI_ok h).2.1
  · rw [if_pos h, if_pos h]
end Go.Pl
namespace Go.Proofs.Ytelnedgopdlnkaa
open Go Go.RT Go.Proofs Go.Pl
set_option linter.all false
set_option maxRecDepth 20000
theorem chg_okE {g : Gr} {c : Edg} : True := trivial
theorem apply_c (g : Gr) (cs : List Edg) (hg : okG g) (hl : cs.length ≤ 9223372036854775807) : Pure Try.prog 32 [.agg (encG g), VE cs] (.tup [.agg (encG (applyF g cs).1), If .i64 (applyF g cs).2]) := by
  unfold applyF
  refine Meets.intro Try.func32 rfl (Nat.le_of_ble_eq_true rfl) fun C hC => ?_
  simp only [List.map, argEnv, Nat.reduceAdd]
  refine nK ?_
  refine s_reg rfl ?_
  first | refine Run.eff (dd := some 2) rfl rfl (op_box_flat rfl (Opd.tmp _ _ rfl) tC rfl) ?_ | refine Run.eff (dd := some 2) rfl rfl (op_box_refs rfl (Opd.tmp _ _ rfl) tP rfl) ?_
  refine Run.eff (dd := some 4) rfl rfl (op_alloc rfl rfl rfl rfl) ?_
  first | refine Run.pure (dd := some 5) rfl rfl (op_assign rfl (Opd.const _)) ?_ | refine Run.pure (dd := some 5) rfl rfl (op_junk (.inr rfl)) ?_
  refine Run.nil (FinR.mk ?_)
  refine nK ?_
  refine s_reg rfl ?_
  first | refine Run.load (dd := some 10) rfl rfl (op_loadw_flat rfl (Opd.tmp _ _ rfl) tH rfl) ?_ | refine Run.pure (dd := some 10) rfl rfl (op_loadw_fz rfl (Opd.tmp _ _ rfl) rfl) ?_ | refine Run.load (dd := some 10) rfl rfl (op_loadn_flat rfl (Opd.tmp _ _ rfl) tH tR tR) ?_ | refine Run.pure (dd := some 10) rfl rfl (op_loadn_fz rfl (Opd.tmp _ _ rfl) tR) ?_ | refine Run.load (dd := some 10) rfl rfl (op_loadn_refs rfl (Opd.tmp _ _ rfl) tH tR tR) ?_
  refine Run.pure (dd := some 11) rfl rfl (op_call_pure (fun _ => check_c _ (by assumption)) rfl (Opd.func _) (Opds.cons _ _ _ _ (Opd.tmp _ _ rfl) Opds.nil)) ?_
  first | refine Run.pure (dd := some 6) rfl rfl (op_assign rfl (Opd.tmp _ _ rfl)) ?_ | refine Run.pure (dd := some 6) rfl rfl (op_junk (.inr rfl)) ?_
  refine Run.nil (FinR.mk ?_)
  refine nK ?_
  refine s_reg rfl ?_
  first | refine Run.pure (dd := some 12) rfl rfl (op_move rfl (Opd.tmp _ _ rfl)) ?_ | refine Run.pure (dd := some 12) rfl rfl (op_junk (.inl rfl)) ?_
  refine Run.pure (dd := some 13) rfl rfl (op_neq rfl (Opd.tmp _ _ rfl) (Opd.const _)) ?_
  refine Run.nil (FinR.mk ?_)
  refine nK ?_
  refine n_cond _ rfl (fun hb => ?_) (fun hb => ?_)
  · rw [if_pos (by simpa using hb)]
    refine nK ?_
    refine s_reg rfl ?_
    first | refine Run.pure (dd := some 14) rfl rfl (op_build rfl rfl rfl (FillF.nil _)) ?_ | refine Run.pure (dd := some 14) rfl rfl (op_buildP rfl rfl rfl rfl (FillP.nil _)) ?_
    first | refine Run.pure (dd := some 15) rfl rfl (op_move rfl (Opd.tmp _ _ rfl)) ?_ | refine Run.pure (dd := some 15) rfl rfl (op_junk (.inl rfl)) ?_
    first | refine Run.eff (dd := none) rfl rfl (op_store_flat rfl (Opd.tmp _ _ rfl) (Opd.tmp _ _ rfl) tC rfl rfl (by first | rfl | assumption) tS) ?_ | refine Run.eff (dd := none) rfl rfl (op_store_refs rfl (Opd.tmp _ _ rfl) (Opd.tmp _ _ rfl) tP rfl rfl rfl tS) ?_
    first | refine Run.pure (dd := some 5) rfl rfl (op_assign rfl (Opd.tmp _ _ rfl)) ?_ | refine Run.pure (dd := some 5) rfl rfl (op_junk (.inr rfl)) ?_
    refine Run.nil (FinR.mk ?_)
    refine nK ?_
    refine Next.weakS [4] [] (by rfl) (keeps0 hC _) (G' := [(4, .ptr 0 3 0 0), (5, IV .i64 (checkI g))]) (H' := [(0, OG zeroG)]) (by repeat (first | exact trivial | refine ⟨⟨_, rfl, .inl ⟨rfl, rfl⟩⟩, ?_⟩ | refine ⟨⟨_, rfl, .inl ⟨slEq rfl tN, rfl⟩⟩, ?_⟩ | refine ⟨⟨_, rfl, .inl ⟨ivEq tX, rfl⟩⟩, ?_⟩)) (by exact ⟨⟨rfl, rfl, .fflat _ _ _ rfl tW⟩, trivial⟩) rfl ?_
    (first | exact s_o1 hC rfl tV | exact s_o2 hC rfl tV tV | exact s_o3 hC rfl tV tV tV | exact s_out0 hC rfl | exact s_outO hC rfl rfl rfl)
  · have hz : checkI g = 0 := by simpa using hb
    obtain ⟨hs, hlen, _⟩ := checkI_ok hz
    have hasc := check_asc hz
    have hcl := clone_c g.es (by omega)
    rw [if_neg (by simp [hz])]
    refine nK ?_
    refine Next.toRefs 0 rfl rfl ?_
    refine nK ?_
    refine s_reg rfl ?_
    first | refine Run.pure (dd := some 16) rfl rfl (op_fld_ptr (by decide) rfl (Opd.tmp _ _ rfl)) ?_ | refine Run.pure (dd := some 16) rfl rfl (op_fld_fz (by decide) rfl (Opd.tmp _ _ rfl) tR) ?_
    first | refine Run.load (dd := some 17) rfl rfl (op_load1_flat rfl (Opd.tmp _ _ rfl) tH rfl) ?_ | refine Run.pure (dd := some 17) rfl rfl (op_load1_fz rfl (Opd.tmp _ _ rfl) rfl) ?_ | refine Run.load (dd := some 17) rfl rfl (op_load1_refs rfl (Opd.tmp _ _ rfl) tH rfl) ?_
    refine Run.eff (dd := some 18) rfl rfl (op_call_fresh (fun _ => hcl) rfl (Opd.func _) (Opds.cons _ _ _ _ (Opd.tmp _ _ rfl) Opds.nil)) ?_
    first | refine Run.pure (dd := some 19) rfl rfl (op_fld_ptr (by decide) rfl (Opd.tmp _ _ rfl)) ?_ | refine Run.pure (dd := some 19) rfl rfl (op_fld_fz (by decide) rfl (Opd.tmp _ _ rfl) tR) ?_
    first | refine Run.eff (dd := none) rfl rfl (op_store_flat rfl (Opd.tmp _ _ rfl) (Opd.tmp _ _ rfl) tC rfl rfl (by first | rfl | assumption) tS) ?_ | refine Run.eff (dd := none) rfl rfl (op_store_refs rfl (Opd.tmp _ _ rfl) (Opd.tmp _ _ rfl) tP rfl rfl rfl tS) ?_
    refine Run.nil (FinR.mk ?_)
    refine nK ?_
    refine s_reg rfl ?_
    first | refine Run.pure (dd := some 20) rfl rfl (op_move rfl (Opd.tmp _ _ rfl)) ?_ | refine Run.pure (dd := some 20) rfl rfl (op_junk (.inl rfl)) ?_
    first | refine Run.pure (dd := some 21) rfl rfl (op_len_fz rfl (by first | exact Opd.tmp _ _ rfl | exact Opd.nil _ _ (Opd.tmp _ _ rfl)) (by first | exact List.length_map _ | rfl)) ?_ | refine Run.pure (dd := some 21) rfl rfl (op_len_sl rfl (Opd.tmp _ _ rfl)) ?_
    first | refine Run.pure (dd := some 22) rfl rfl (op_move rfl (Opd.const _)) ?_ | refine Run.pure (dd := some 22) rfl rfl (op_junk (.inl rfl)) ?_
    refine Run.nil (FinR.mk ?_)
    refine nK ?_
    refine n_loop (ι := Nat × List Edg) (fun s => ([(2, .ptr 0 3 0 0), (4, .ptr 1 3 0 0), (20, .fz (VE cs)), (21, IV .i64 cs.length), (22, IV .i64 s.1)], [(0, some (.refs 3 [[IV .i64 g.r, IV .i64 g.n, .sl 2 3 0 s.2.length]])), (1, OG zeroG), (2, OE s.2)], 3)) (fun s => s.1 ≤ cs.length ∧ s.2.length ≤ 1024 ∧ AscK s.2 ∧ appL ⟨g.r, g.n, s.2⟩ (cs.drop s.1) = appL g cs) (fun s => cs.length - s.1) (0, g.es) ⟨Nat.zero_le _, hlen, hasc, rfl⟩ ?_ ?_
    · refine Next.weak [0, 1, 2] [] (by rfl) (keeps0 hC _) (by repeat (first | exact trivial | refine ⟨⟨_, rfl, .inl ⟨rfl, rfl⟩⟩, ?_⟩ | refine ⟨⟨_, rfl, .inl ⟨slEq rfl tN, rfl⟩⟩, ?_⟩ | refine ⟨⟨_, rfl, .inl ⟨ivEq tX, rfl⟩⟩, ?_⟩)) (by exact ⟨ent_same rfl rfl rfl tL, ⟨⟨rfl, rfl, .fflat _ _ _ rfl tW⟩, ⟨ent_same rfl rfl rfl tL, trivial⟩⟩⟩) (fun _ h => by simp at h) rel_intro
    · intro ⟨i, es⟩ ⟨hi, hel, hea, hap⟩ K hK
      dsimp only at hi hel hea hap ⊢
      refine nK ?_
      refine s_reg rfl ?_
      refine Run.pure (dd := some 23) rfl rfl (op_lss rfl (Opd.tmp _ _ rfl) (Opd.tmp _ _ rfl)) ?_
      refine Run.nil (FinR.mk ?_)
      refine nK ?_
      refine n_cond _ rfl (fun hb => ?_) (fun hb => ?_)
      · have hlt : i < cs.length := by simp at hb; omega
        have hr1 := row_at' encE cs i hlt
        have hKn := fun es' a b h => hK (i + 1, es') ⟨by dsimp only; omega, a, b, h⟩ (by dsimp only; omega)
        rw [List.drop_eq_getElem_cons hlt] at hap
        simp only [appL] at hap
        generalize cs[i] = c at *
        have hch := change_c ⟨g.r, g.n, es⟩ c hs (by dsimp only; omega)
        have hceq := (chg_eq (g := ⟨g.r, g.n, es⟩) (c := c) hea hel).2
        have hrn : (chgF ⟨g.r, g.n, es⟩ c).2 = 0 → (chgF ⟨g.r, g.n, es⟩ c).1 = ⟨g.r, g.n, (chgF ⟨g.r, g.n, es⟩ c).1.es⟩ := fun h => by
          obtain ⟨_, _, _, h4, h5⟩ := hceq h
          generalize (chgF ⟨g.r, g.n, es⟩ c).1 = z at *
          cases z; simp_all
        generalize chgF ⟨g.r, g.n, es⟩ c = r at *
        refine nK ?_
        refine s_reg rfl ?_
        first | refine Run.pure (dd := some 24) rfl rfl (op_idx_sl0 _ rfl (Opd.tmp _ _ rfl) (Opd.tmp _ _ rfl) tD) ?_ | refine Run.pure (dd := some 24) rfl rfl (op_idx_fz _ rfl (Opd.tmp _ _ rfl) (Opd.tmp _ _ rfl) tF) ?_
        first | refine Run.load (dd := some 25) rfl rfl (op_loadw_flat rfl (Opd.tmp _ _ rfl) tH rfl) ?_ | refine Run.pure (dd := some 25) rfl rfl (op_loadw_fz rfl (Opd.tmp _ _ rfl) rfl) ?_ | refine Run.load (dd := some 25) rfl rfl (op_loadn_flat rfl (Opd.tmp _ _ rfl) tH tR tR) ?_ | refine Run.pure (dd := some 25) rfl rfl (op_loadn_fz rfl (Opd.tmp _ _ rfl) tR) ?_ | refine Run.load (dd := some 25) rfl rfl (op_loadn_refs rfl (Opd.tmp _ _ rfl) tH tR tR) ?_
        refine Run.eff (dd := some 8) rfl rfl (op_alloc rfl rfl rfl rfl) ?_
        first | refine Run.eff (dd := none) rfl rfl (op_store_flat rfl (Opd.tmp _ _ rfl) (Opd.tmp _ _ rfl) tC rfl rfl (by first | rfl | assumption) tS) ?_ | refine Run.eff (dd := none) rfl rfl (op_store_refs rfl (Opd.tmp _ _ rfl) (Opd.tmp _ _ rfl) tP rfl rfl rfl tS) ?_
        refine Run.nil (FinR.mk ?_)
        refine nK ?_
        refine s_reg rfl ?_
        first | refine Run.load (dd := some 26) rfl rfl (op_loadw_flat rfl (Opd.tmp _ _ rfl) tH rfl) ?_ | refine Run.pure (dd := some 26) rfl rfl (op_loadw_fz rfl (Opd.tmp _ _ rfl) rfl) ?_ | refine Run.load (dd := some 26) rfl rfl (op_loadn_flat rfl (Opd.tmp _ _ rfl) tH tR tR) ?_ | refine Run.pure (dd := some 26) rfl rfl (op_loadn_fz rfl (Opd.tmp _ _ rfl) tR) ?_ | refine Run.load (dd := some 26) rfl rfl (op_loadn_refs rfl (Opd.tmp _ _ rfl) tH tR tR) ?_
        refine Run.eff (dd := some 27) rfl rfl (op_call (n := 2) (n' := 3) [0, 2] (fun _ => hch) rfl (Opd.func _) (Opds.cons _ _ _ _ (Opd.tmp _ _ rfl) (Opds.cons _ _ _ _ (Opd.tmp _ _ rfl) Opds.nil)) rfl rfl (Lent.of rfl rfl (by exact ⟨⟨rfl, rfl, rfl, tL⟩, ⟨rfl, rfl, rfl, trivial⟩, trivial⟩) rfl) rfl rfl rfl rfl rfl) ?_
        first | refine Run.pure (dd := some 9) rfl rfl (op_assign rfl (Opd.tmp _ _ rfl)) ?_ | refine Run.pure (dd := some 9) rfl rfl (op_junk (.inr rfl)) ?_
        refine Run.nil (FinR.mk ?_)
        refine nK ?_
        refine s_reg rfl ?_
        first | refine Run.pure (dd := some 28) rfl rfl (op_move rfl (Opd.tmp _ _ rfl)) ?_ | refine Run.pure (dd := some 28) rfl rfl (op_junk (.inl rfl)) ?_
        refine Run.pure (dd := some 29) rfl rfl (op_neq rfl (Opd.tmp _ _ rfl) (Opd.const _)) ?_
        refine Run.nil (FinR.mk ?_)
        refine nK ?_
        refine n_cond _ rfl (fun hb => ?_) (fun hb => ?_)
        · have hz2 : r.2 ≠ 0 := by simpa using hb
          rw [if_pos hz2] at hap
          rw [← hap]
          refine nK ?_
          refine s_reg rfl ?_
          first | refine Run.pure (dd := some 30) rfl rfl (op_build rfl rfl rfl (FillF.nil _)) ?_ | refine Run.pure (dd := some 30) rfl rfl (op_buildP rfl rfl rfl rfl (FillP.nil _)) ?_
          first | refine Run.pure (dd := some 31) rfl rfl (op_move rfl (Opd.tmp _ _ rfl)) ?_ | refine Run.pure (dd := some 31) rfl rfl (op_junk (.inl rfl)) ?_
          first | refine Run.eff (dd := none) rfl rfl (op_store_flat rfl (Opd.tmp _ _ rfl) (Opd.tmp _ _ rfl) tC rfl rfl (by first | rfl | assumption) tS) ?_ | refine Run.eff (dd := none) rfl rfl (op_store_refs rfl (Opd.tmp _ _ rfl) (Opd.tmp _ _ rfl) tP rfl rfl rfl tS) ?_
          first | refine Run.pure (dd := some 5) rfl rfl (op_assign rfl (Opd.tmp _ _ rfl)) ?_ | refine Run.pure (dd := some 5) rfl rfl (op_junk (.inr rfl)) ?_
          refine Run.nil (FinR.mk ?_)
          refine nK ?_
          refine Next.weakS [4] [] (by rfl) (keeps0 hC _) (G' := [(4, .ptr 0 3 0 0), (5, IV .i64 r.2)]) (H' := [(0, OG zeroG)]) (by repeat (first | exact trivial | refine ⟨⟨_, rfl, .inl ⟨rfl, rfl⟩⟩, ?_⟩ | refine ⟨⟨_, rfl, .inl ⟨slEq rfl tN, rfl⟩⟩, ?_⟩ | refine ⟨⟨_, rfl, .inl ⟨ivEq tX, rfl⟩⟩, ?_⟩)) (by exact ⟨⟨rfl, rfl, .fflat _ _ _ rfl tW⟩, trivial⟩) rfl ?_
          (first | exact s_o1 hC rfl tV | exact s_o2 hC rfl tV tV | exact s_o3 hC rfl tV tV tV | exact s_out0 hC rfl | exact s_outO hC rfl rfl rfl)
        · have hz2 : r.2 = 0 := by simpa using hb
          obtain ⟨_, h2, h3, _, _⟩ := hceq hz2
          rw [if_neg (by simp [hz2]), hrn hz2] at hap
          refine nK ?_
          refine s_reg rfl ?_
          refine Run.pure (dd := some 32) rfl rfl (op_add rfl (Opd.tmp _ _ rfl) (Opd.const _) tI) ?_
          first | refine Run.pure (dd := some 22) rfl rfl (op_move rfl (Opd.tmp _ _ rfl)) ?_ | refine Run.pure (dd := some 22) rfl rfl (op_junk (.inl rfl)) ?_
          refine Run.nil (FinR.mk ?_)
          refine nK ?_
          refine Next.weak [0, 1, 4] [] (by rfl) (keeps0 hC _) (by repeat (first | exact trivial | refine ⟨⟨_, rfl, .inl ⟨rfl, rfl⟩⟩, ?_⟩ | refine ⟨⟨_, rfl, .inl ⟨slEq rfl tN, rfl⟩⟩, ?_⟩ | refine ⟨⟨_, rfl, .inl ⟨ivEq tX, rfl⟩⟩, ?_⟩)) (by exact ⟨ent_same rfl rfl rfl tL, ⟨ent_same rfl rfl rfl tL, ⟨ent_same rfl rfl rfl tL, trivial⟩⟩⟩) (fun _ h => by simp at h) (hKn r.1.es h3 h2 hap)
      · have hie : i = cs.length := by simp at hb; omega
        rw [hie, List.drop_length] at hap
        rw [← hap]
        refine Next.weak [0, 1] [2] (by rfl) (keeps0 hC _) (G' := [(2, .ptr 0 3 0 0), (4, .ptr 1 3 0 0)]) (H' := [(0, OG ⟨g.r, g.n, es⟩), (1, OG zeroG)]) (by repeat (first | exact trivial | refine ⟨⟨_, rfl, .inl ⟨rfl, rfl⟩⟩, ?_⟩ | refine ⟨⟨_, rfl, .inl ⟨slEq rfl tN, rfl⟩⟩, ?_⟩ | refine ⟨⟨_, rfl, .inl ⟨ivEq tX, rfl⟩⟩, ?_⟩)) (by exact ⟨⟨rfl, rfl, .flat _ _ _ rfl tW⟩, ⟨ent_same rfl rfl rfl tL, trivial⟩⟩) (fun id h => by obtain rfl : id = 2 := (by simpa using h); exact ⟨_, rfl⟩) ?_
        refine nK ?_
        refine s_reg rfl ?_
        first | refine Run.load (dd := some 33) rfl rfl (op_loadw_flat rfl (Opd.tmp _ _ rfl) tH rfl) ?_ | refine Run.pure (dd := some 33) rfl rfl (op_loadw_fz rfl (Opd.tmp _ _ rfl) rfl) ?_ | refine Run.load (dd := some 33) rfl rfl (op_loadn_flat rfl (Opd.tmp _ _ rfl) tH tR tR) ?_ | refine Run.pure (dd := some 33) rfl rfl (op_loadn_fz rfl (Opd.tmp _ _ rfl) tR) ?_ | refine Run.load (dd := some 33) rfl rfl (op_loadn_refs rfl (Opd.tmp _ _ rfl) tH tR tR) ?_
        first | refine Run.eff (dd := none) rfl rfl (op_store_flat rfl (Opd.tmp _ _ rfl) (Opd.tmp _ _ rfl) tC rfl rfl (by first | rfl | assumption) tS) ?_ | refine Run.eff (dd := none) rfl rfl (op_store_refs rfl (Opd.tmp _ _ rfl) (Opd.tmp _ _ rfl) tP rfl rfl rfl tS) ?_
        first | refine Run.pure (dd := some 5) rfl rfl (op_assign rfl (Opd.const _)) ?_ | refine Run.pure (dd := some 5) rfl rfl (op_junk (.inr rfl)) ?_
        refine Run.nil (FinR.mk ?_)
        refine nK ?_
        (first | exact s_o1 hC rfl tV | exact s_o2 hC rfl tV tV | exact s_o3 hC rfl tV tV tV | exact s_out0 hC rfl | exact s_outO hC rfl rfl rfl)
end Go.Proofs.Ytelnedgopdlnkaa
namespace Go.Proofs.Ytelnedgopdlnkaa
open Go Go.RT Go.Proofs Go.Pl
set_option linter.all false
set_option maxRecDepth 20000
theorem but_f (l : List Edg) (a : Int) (hn : l.length ≤ 2000000) : Meets Try.prog 59 ([VE l, If .i64 a].map PV.fz) 0 [] (.sl 0 3 0 (butR a 0 l).length) [(0, OE (butR a 0 l))] 1 := by
  have hlen := butR_len a l 0
  refine Meets.intro Try.func59 rfl (Nat.le_of_ble_eq_true rfl) fun C hC => ?_
  simp only [List.map, argEnv, Nat.reduceAdd]
  refine nK ?_
  refine s_reg rfl ?_
  first | refine Run.pure (dd := some 4) rfl rfl (op_assign rfl (Opd.const _)) ?_ | refine Run.pure (dd := some 4) rfl rfl (op_junk (.inr rfl)) ?_
  refine Run.nil (FinR.mk ?_)
  refine nK ?_
  refine s_reg rfl ?_
  refine Run.eff (dd := some 7) rfl rfl (op_buildSlice_own rfl (RowsF.nil _) rfl rfl rfl) ?_
  first | refine Run.pure (dd := some 5) rfl rfl (op_assign rfl (Opd.tmp _ _ rfl)) ?_ | refine Run.pure (dd := some 5) rfl rfl (op_junk (.inr rfl)) ?_
  refine Run.nil (FinR.mk ?_)
  refine nK ?_
  refine s_reg rfl ?_
  first | refine Run.pure (dd := some 6) rfl rfl (op_assign rfl (Opd.const _)) ?_ | refine Run.pure (dd := some 6) rfl rfl (op_junk (.inr rfl)) ?_
  refine Run.nil (FinR.mk ?_)
  refine nK ?_
  refine n_loop (ι := Nat × List Edg) (fun s => ([(0, .fz (VE l)), (1, IV .i64 a), (5, .sl 0 3 0 s.2.length), (6, IV .i64 s.1)], [(0, OE s.2)], 1)) (fun s => s.1 ≤ l.length ∧ s.2 ++ butR a s.1 (l.drop s.1) = butR a 0 l) (fun s => l.length - s.1) (0, []) ⟨Nat.zero_le _, rfl⟩ ?_ ?_
  · refine Next.weakS [5] [] (by rfl) (by first | exact keeps0 hC _ | exact keepsN hC _ rfl) (by repeat (first | exact trivial | refine ⟨⟨_, rfl, .inl ⟨rfl, rfl⟩⟩, ?_⟩ | refine ⟨⟨_, rfl, .inl ⟨slEq rfl tN, rfl⟩⟩, ?_⟩ | refine ⟨⟨_, rfl, .inl ⟨ivEq tX, rfl⟩⟩, ?_⟩)) (by repeat (first | exact trivial | refine ⟨ent_same rfl rfl rfl tL, ?_⟩ | refine ⟨ent_same rfl rfl (rfEq rfl tU) tL, ?_⟩ | refine ⟨ent_same rfl rfl (flEq rfl (by first | (simp; done) | (simp; omega) | (simp [encE, encN, encB]; done) | simp [maxC, minC])) trivial, ?_⟩)) rfl (rel_intro)
  · intro ⟨i, out⟩ ⟨hi, ho⟩ K hK
    dsimp only at hi ho ⊢
    have hol : out.length ≤ l.length := by rw [← ho] at hlen; simp at hlen; omega
    refine nK ?_
    refine s_reg rfl ?_
    first | refine Run.pure (dd := some 8) rfl rfl (op_move rfl (Opd.tmp _ _ rfl)) ?_ | refine Run.pure (dd := some 8) rfl rfl (op_junk (.inl rfl)) ?_
    first | refine Run.pure (dd := some 9) rfl rfl (op_move rfl (Opd.tmp _ _ rfl)) ?_ | refine Run.pure (dd := some 9) rfl rfl (op_junk (.inl rfl)) ?_
    first | refine Run.pure (dd := some 10) rfl rfl (op_len_fz rfl (by first | exact Opd.tmp _ _ rfl | exact Opd.nil _ _ (Opd.tmp _ _ rfl)) (by first | exact List.length_map _ | rfl)) ?_ | refine Run.pure (dd := some 10) rfl rfl (op_len_sl rfl (Opd.tmp _ _ rfl)) ?_
    refine Run.pure (dd := some 11) rfl rfl (op_lss rfl (Opd.tmp _ _ rfl) (Opd.tmp _ _ rfl)) ?_
    refine Run.nil (FinR.mk ?_)
    refine nK ?_
    refine n_cond _ rfl (fun hb => ?_) (fun hb => ?_)
    · have hlt : i < l.length := by simp at hb; omega
      have hr1 := row_at' encE l i hlt
      have hKn := fun out' h => hK (i + 1, out') ⟨by dsimp only; omega, h⟩ (by dsimp only; omega)
      rw [List.drop_eq_getElem_cons hlt] at ho
      simp only [butR] at ho
      generalize l[i] = e at *
      refine nK ?_
      refine s_reg rfl ?_
      first | refine Run.pure (dd := some 14) rfl rfl (op_move rfl (Opd.tmp _ _ rfl)) ?_ | refine Run.pure (dd := some 14) rfl rfl (op_junk (.inl rfl)) ?_
      first | refine Run.pure (dd := some 15) rfl rfl (op_move rfl (Opd.tmp _ _ rfl)) ?_ | refine Run.pure (dd := some 15) rfl rfl (op_junk (.inl rfl)) ?_
      refine Run.pure (dd := some 16) rfl rfl (op_neq rfl (Opd.tmp _ _ rfl) (Opd.tmp _ _ rfl)) ?_
      refine Run.nil (FinR.mk ?_)
      refine nK ?_
      refine n_cond _ rfl (fun hb => ?_) (fun hb => ?_)
      · have hne : (i : Int) ≠ a := by simpa using hb
        rw [if_pos hne] at ho
        have h2 := hKn (out ++ [e]) (by simpa using ho)
        dsimp only at h2
        have e4 : (out ++ [e]).length = out.length + 1 := by simp
        rw [e4, show OE (out ++ [e]) = some (.flat 3 (out.map encE ++ [encE e])) by simp] at h2
        refine nK ?_
        refine s_reg rfl ?_
        first | refine Run.pure (dd := some 17) rfl rfl (op_move rfl (Opd.tmp _ _ rfl)) ?_ | refine Run.pure (dd := some 17) rfl rfl (op_junk (.inl rfl)) ?_
        first | refine Run.pure (dd := some 18) rfl rfl (op_move rfl (Opd.tmp _ _ rfl)) ?_ | refine Run.pure (dd := some 18) rfl rfl (op_junk (.inl rfl)) ?_
        first | refine Run.pure (dd := some 19) rfl rfl (op_move rfl (Opd.tmp _ _ rfl)) ?_ | refine Run.pure (dd := some 19) rfl rfl (op_junk (.inl rfl)) ?_
        first | refine Run.pure (dd := some 20) rfl rfl (op_idx_sl0 _ rfl (Opd.tmp _ _ rfl) (Opd.tmp _ _ rfl) tD) ?_ | refine Run.pure (dd := some 20) rfl rfl (op_idx_fz _ rfl (Opd.tmp _ _ rfl) (Opd.tmp _ _ rfl) tF) ?_
        first | refine Run.load (dd := some 21) rfl rfl (op_loadw_flat rfl (Opd.tmp _ _ rfl) tH rfl) ?_ | refine Run.pure (dd := some 21) rfl rfl (op_loadw_fz rfl (Opd.tmp _ _ rfl) rfl) ?_ | refine Run.load (dd := some 21) rfl rfl (op_loadn_flat rfl (Opd.tmp _ _ rfl) tH tR tR) ?_ | refine Run.pure (dd := some 21) rfl rfl (op_loadn_fz rfl (Opd.tmp _ _ rfl) tR) ?_ | refine Run.load (dd := some 21) rfl rfl (op_loadn_refs rfl (Opd.tmp _ _ rfl) tH tR tR) ?_
        refine Run.pure (dd := some 22) rfl rfl (op_buildSlice_fz rfl (RowsF.cons _ _ _ _ _ _ (Opd.tmp _ _ rfl) tC (by rfl) (RowsF.nil _)) rfl rfl) ?_
        first | refine Run.eff (dd := some 23) rfl rfl (op_append_own0 rfl (Opd.tmp _ _ rfl) (Opd.tmp _ _ rfl) rfl (by first | rfl | simp) rfl (by first | rfl | simp) rfl rfl tB tB) ?_ | refine Run.eff (dd := some 23) rfl rfl (op_append rfl (Opd.tmp _ _ rfl) (by first | exact Opd.tmp _ _ rfl | exact Opd.nil _ _ (Opd.tmp _ _ rfl)) rfl (by first | rfl | simp) rfl rfl tB tB) ?_
        first | refine Run.pure (dd := some 5) rfl rfl (op_assign rfl (Opd.tmp _ _ rfl)) ?_ | refine Run.pure (dd := some 5) rfl rfl (op_junk (.inr rfl)) ?_
        refine Run.nil (FinR.mk ?_)
        refine nK ?_
        refine s_reg rfl ?_
        first | refine Run.pure (dd := some 12) rfl rfl (op_move rfl (Opd.tmp _ _ rfl)) ?_ | refine Run.pure (dd := some 12) rfl rfl (op_junk (.inl rfl)) ?_
        refine Run.pure (dd := some 13) rfl rfl (op_add rfl (Opd.tmp _ _ rfl) (Opd.const _) tI) ?_
        first | refine Run.pure (dd := some 6) rfl rfl (op_assign rfl (Opd.tmp _ _ rfl)) ?_ | refine Run.pure (dd := some 6) rfl rfl (op_junk (.inr rfl)) ?_
        refine Run.nil (FinR.mk ?_)
        refine nK ?_
        refine Next.weakS [5] [] (by rfl) (by first | exact keeps0 hC _ | exact keepsN hC _ rfl) (by repeat (first | exact trivial | refine ⟨⟨_, rfl, .inl ⟨rfl, rfl⟩⟩, ?_⟩ | refine ⟨⟨_, rfl, .inl ⟨slEq rfl tN, rfl⟩⟩, ?_⟩ | refine ⟨⟨_, rfl, .inl ⟨ivEq tX, rfl⟩⟩, ?_⟩)) (by repeat (first | exact trivial | refine ⟨ent_same rfl rfl rfl tL, ?_⟩ | refine ⟨ent_same rfl rfl (rfEq rfl tU) tL, ?_⟩ | refine ⟨ent_same rfl rfl (flEq rfl (by first | (simp; done) | (simp; omega) | (simp [encE, encN, encB]; done) | simp [maxC, minC])) trivial, ?_⟩)) rfl (h2)
      · have hne : ¬ ((i : Int) ≠ a) := by simpa using hb
        rw [if_neg hne] at ho
        refine nK ?_
        refine s_reg rfl ?_
        first | refine Run.pure (dd := some 12) rfl rfl (op_move rfl (Opd.tmp _ _ rfl)) ?_ | refine Run.pure (dd := some 12) rfl rfl (op_junk (.inl rfl)) ?_
        refine Run.pure (dd := some 13) rfl rfl (op_add rfl (Opd.tmp _ _ rfl) (Opd.const _) tI) ?_
        first | refine Run.pure (dd := some 6) rfl rfl (op_assign rfl (Opd.tmp _ _ rfl)) ?_ | refine Run.pure (dd := some 6) rfl rfl (op_junk (.inr rfl)) ?_
        refine Run.nil (FinR.mk ?_)
        refine nK ?_
        refine Next.weakS [5] [] (by rfl) (by first | exact keeps0 hC _ | exact keepsN hC _ rfl) (by repeat (first | exact trivial | refine ⟨⟨_, rfl, .inl ⟨rfl, rfl⟩⟩, ?_⟩ | refine ⟨⟨_, rfl, .inl ⟨slEq rfl tN, rfl⟩⟩, ?_⟩ | refine ⟨⟨_, rfl, .inl ⟨ivEq tX, rfl⟩⟩, ?_⟩)) (by repeat (first | exact trivial | refine ⟨ent_same rfl rfl rfl tL, ?_⟩ | refine ⟨ent_same rfl rfl (rfEq rfl tU) tL, ?_⟩ | refine ⟨ent_same rfl rfl (flEq rfl (by first | (simp; done) | (simp; omega) | (simp [encE, encN, encB]; done) | simp [maxC, minC])) trivial, ?_⟩)) rfl ((hKn out (by simpa using ho)))
    · have hie : i = l.length := by simp at hb; omega
      rw [hie, List.drop_length] at ho
      simp only [butR, List.append_nil] at ho
      rw [← ho]
      refine nK ?_
      refine s_reg rfl ?_
      first | refine Run.pure (dd := some 24) rfl rfl (op_move rfl (Opd.tmp _ _ rfl)) ?_ | refine Run.pure (dd := some 24) rfl rfl (op_junk (.inl rfl)) ?_
      first | refine Run.pure (dd := some 4) rfl rfl (op_assign rfl (Opd.tmp _ _ rfl)) ?_ | refine Run.pure (dd := some 4) rfl rfl (op_junk (.inr rfl)) ?_
      refine Run.nil (FinR.mk ?_)
      refine nK ?_
      (first | exact s_o1 hC rfl tV | exact s_o2 hC rfl tV tV | exact s_o3 hC rfl tV tV tV | exact s_out0 hC rfl | exact s_outO hC rfl rfl rfl)
theorem but_c (l : List Edg) (a : Int) (hn : l.length ≤ 2000000) : Pure Try.prog 59 [VE l, If .i64 a] (VE (butR a 0 l)) := (but_f l a hn).freeze (by simp)
theorem put_c (l : List Edg) (e : Edg) (hn : l.length ≤ 2000000) : Pure Try.prog 50 [VE l, .agg (encE e)] (VE (putR e false l)) := (put_f l e hn).freeze (by simp)
theorem rapply_c (g : Gr) (cs : List Edg) (hg : okG g) (hl : cs.length ≤ 9223372036854775807) (hc : okEs cs) : Pure Try.prog 33 [.agg (encG g), VE cs] (.tup [.agg (encG (applyF g cs).1), If .i64 (applyF g cs).2]) := by
  rw [applyF_eq]
  refine Meets.intro Try.func33 rfl (Nat.le_of_ble_eq_true rfl) fun C hC => ?_
  simp only [List.map, argEnv, Nat.reduceAdd]
  refine nK ?_
  refine s_reg rfl ?_
  first | refine Run.eff (dd := some 2) rfl rfl (op_box_flat rfl (Opd.tmp _ _ rfl) tC rfl) ?_ | refine Run.eff (dd := some 2) rfl rfl (op_box_refs rfl (Opd.tmp _ _ rfl) tP rfl) ?_
  refine Run.eff (dd := some 4) rfl rfl (op_alloc rfl rfl rfl rfl) ?_
  first | refine Run.pure (dd := some 5) rfl rfl (op_assign rfl (Opd.const _)) ?_ | refine Run.pure (dd := some 5) rfl rfl (op_junk (.inr rfl)) ?_
  refine Run.nil (FinR.mk ?_)
  refine nK ?_
  refine s_reg rfl ?_
  first | refine Run.load (dd := some 13) rfl rfl (op_loadw_flat rfl (Opd.tmp _ _ rfl) tH rfl) ?_ | refine Run.pure (dd := some 13) rfl rfl (op_loadw_fz rfl (Opd.tmp _ _ rfl) rfl) ?_ | refine Run.load (dd := some 13) rfl rfl (op_loadn_flat rfl (Opd.tmp _ _ rfl) tH tR tR) ?_ | refine Run.pure (dd := some 13) rfl rfl (op_loadn_fz rfl (Opd.tmp _ _ rfl) tR) ?_ | refine Run.load (dd := some 13) rfl rfl (op_loadn_refs rfl (Opd.tmp _ _ rfl) tH tR tR) ?_
  refine Run.pure (dd := some 14) rfl rfl (op_call_pure (fun _ => rcheck_c _ (by assumption)) rfl (Opd.func _) (Opds.cons _ _ _ _ (Opd.tmp _ _ rfl) Opds.nil)) ?_
  first | refine Run.pure (dd := some 6) rfl rfl (op_assign rfl (Opd.tmp _ _ rfl)) ?_ | refine Run.pure (dd := some 6) rfl rfl (op_junk (.inr rfl)) ?_
  refine Run.nil (FinR.mk ?_)
  refine nK ?_
  refine s_reg rfl ?_
  first | refine Run.pure (dd := some 15) rfl rfl (op_move rfl (Opd.tmp _ _ rfl)) ?_ | refine Run.pure (dd := some 15) rfl rfl (op_junk (.inl rfl)) ?_
  refine Run.pure (dd := some 16) rfl rfl (op_neq rfl (Opd.tmp _ _ rfl) (Opd.const _)) ?_
  refine Run.nil (FinR.mk ?_)
  refine nK ?_
  refine n_cond _ rfl (fun hb => ?_) (fun hb => ?_)
  · rw [if_pos (by simpa using hb)]
    refine nK ?_
    refine s_reg rfl ?_
    first | refine Run.pure (dd := some 17) rfl rfl (op_build rfl rfl rfl (FillF.nil _)) ?_ | refine Run.pure (dd := some 17) rfl rfl (op_buildP rfl rfl rfl rfl (FillP.nil _)) ?_
    first | refine Run.pure (dd := some 18) rfl rfl (op_move rfl (Opd.tmp _ _ rfl)) ?_ | refine Run.pure (dd := some 18) rfl rfl (op_junk (.inl rfl)) ?_
    first | refine Run.eff (dd := none) rfl rfl (op_store_flat rfl (Opd.tmp _ _ rfl) (Opd.tmp _ _ rfl) tC rfl rfl (by first | rfl | assumption) tS) ?_ | refine Run.eff (dd := none) rfl rfl (op_store_refs rfl (Opd.tmp _ _ rfl) (Opd.tmp _ _ rfl) tP rfl rfl rfl tS) ?_
    first | refine Run.pure (dd := some 5) rfl rfl (op_assign rfl (Opd.tmp _ _ rfl)) ?_ | refine Run.pure (dd := some 5) rfl rfl (op_junk (.inr rfl)) ?_
    refine Run.nil (FinR.mk ?_)
    refine nK ?_
    refine Next.weakS [4] [] (by rfl) (keeps0 hC _) (G' := [(4, .ptr 0 3 0 0), (5, IV .i64 (checkI g))]) (H' := [(0, OG zeroG)]) (by repeat (first | exact trivial | refine ⟨⟨_, rfl, .inl ⟨rfl, rfl⟩⟩, ?_⟩ | refine ⟨⟨_, rfl, .inl ⟨slEq rfl tN, rfl⟩⟩, ?_⟩ | refine ⟨⟨_, rfl, .inl ⟨ivEq tX, rfl⟩⟩, ?_⟩)) (by exact ⟨⟨rfl, rfl, .fflat _ _ _ rfl tW⟩, trivial⟩) rfl ?_
    (first | exact s_o1 hC rfl tV | exact s_o2 hC rfl tV tV | exact s_o3 hC rfl tV tV tV | exact s_out0 hC rfl | exact s_outO hC rfl rfl rfl)
  · have hz : checkI g = 0 := by simpa using hb
    obtain ⟨hs, hlen, _⟩ := checkI_ok hz
    have hasc := check_asc hz
    rw [if_neg (by simp [hz])]
    refine nK ?_
    refine s_draw mixed ?_
    first | refine Run.pure (dd := some 19) rfl rfl (op_fld_ptr (by decide) rfl (Opd.tmp _ _ rfl)) ?_ | refine Run.pure (dd := some 19) rfl rfl (op_fld_fz (by decide) rfl (Opd.tmp _ _ rfl) tR) ?_
    first | refine Run.load (dd := some 20) rfl rfl (op_load1_flat rfl (Opd.tmp _ _ rfl) tH rfl) ?_ | refine Run.pure (dd := some 20) rfl rfl (op_load1_fz rfl (Opd.tmp _ _ rfl) rfl) ?_ | refine Run.load (dd := some 20) rfl rfl (op_load1_refs rfl (Opd.tmp _ _ rfl) tH rfl) ?_
    first | refine Run.pure (dd := some 21) rfl rfl (op_fld_ptr (by decide) rfl (Opd.tmp _ _ rfl)) ?_ | refine Run.pure (dd := some 21) rfl rfl (op_fld_fz (by decide) rfl (Opd.tmp _ _ rfl) tR) ?_
    first | refine Run.load (dd := some 22) rfl rfl (op_load1_flat rfl (Opd.tmp _ _ rfl) tH rfl) ?_ | refine Run.pure (dd := some 22) rfl rfl (op_load1_fz rfl (Opd.tmp _ _ rfl) rfl) ?_ | refine Run.load (dd := some 22) rfl rfl (op_load1_refs rfl (Opd.tmp _ _ rfl) tH rfl) ?_
    first | refine Run.pure (dd := some 23) rfl rfl (op_fld_ptr (by decide) rfl (Opd.tmp _ _ rfl)) ?_ | refine Run.pure (dd := some 23) rfl rfl (op_fld_fz (by decide) rfl (Opd.tmp _ _ rfl) tR) ?_
    first | refine Run.load (dd := some 24) rfl rfl (op_load1_flat rfl (Opd.tmp _ _ rfl) tH rfl) ?_ | refine Run.pure (dd := some 24) rfl rfl (op_load1_fz rfl (Opd.tmp _ _ rfl) rfl) ?_ | refine Run.load (dd := some 24) rfl rfl (op_load1_refs rfl (Opd.tmp _ _ rfl) tH rfl) ?_
    refine Run.pure (dd := some 25) rfl rfl (op_call_pure (fun _ => but_c _ _ (by first | omega | (dsimp only; omega))) rfl (Opd.func _) (Opds.cons _ _ _ _ (Opd.tmp _ _ rfl) (Opds.cons _ _ _ _ (Opd.const _) Opds.nil))) ?_
    first | refine Run.pure (dd := some 26) rfl rfl (op_build rfl rfl rfl (FillF.cons _ _ _ _ _ _ _ _ _ _ (by rfl) (Opd.tmp _ _ rfl) tC (by rfl) tR (FillF.cons _ _ _ _ _ _ _ _ _ _ (by rfl) (Opd.tmp _ _ rfl) tC (by rfl) tR (FillF.cons _ _ _ _ _ _ _ _ _ _ (by rfl) (Opd.tmp _ _ rfl) tC (by rfl) tR (FillF.nil _))))) ?_ | refine Run.pure (dd := some 26) rfl rfl (op_buildP rfl rfl rfl rfl (FillP.cons _ _ _ _ _ _ _ _ _ _ (by rfl) (Opd.tmp _ _ rfl) tP (by rfl) tR (FillP.cons _ _ _ _ _ _ _ _ _ _ (by rfl) (Opd.tmp _ _ rfl) tP (by rfl) tR (FillP.cons _ _ _ _ _ _ _ _ _ _ (by rfl) (Opd.tmp _ _ rfl) tP (by rfl) tR (FillP.nil _))))) ?_
    refine Run.effW (dd := some 7) rfl rfl (op_alloc rfl rfl rfl rfl) (by first | exact ext_call | exact tE) ?_
    first | refine Run.effW (dd := none) rfl rfl (op_store_flat rfl (Opd.tmp _ _ rfl) (Opd.tmp _ _ rfl) tC rfl rfl (by first | rfl | assumption) tS) (by first | exact ext_call | exact tE) ?_ | refine Run.effW (dd := none) rfl rfl (op_store_refs rfl (Opd.tmp _ _ rfl) (Opd.tmp _ _ rfl) tP rfl rfl rfl tS) (by first | exact ext_call | exact tE) ?_
    refine Run.nil (FinD.mk (by kernel_rfl) ?_)
    refine nK ?_
    refine s_reg rfl ?_
    first | refine Run.pure (dd := some 8) rfl rfl (op_assign rfl (Opd.const _)) ?_ | refine Run.pure (dd := some 8) rfl rfl (op_junk (.inr rfl)) ?_
    refine Run.nil (FinR.mk ?_)
    refine nK ?_
    refine n_loop (ι := Nat × List Edg) (fun s => ([(1, .fz (VE cs)), (2, .ptr 0 3 0 0), (4, .ptr 1 3 0 0), (7, .ptr 2 3 0 0), (8, IV .i64 s.1)], [(0, OG g), (1, OG zeroG), (2, OG ⟨g.r, g.n, s.2⟩)], 3)) (fun s => s.1 ≤ cs.length ∧ s.2.length ≤ 1024 ∧ AscK s.2 ∧ rappL ⟨g.r, g.n, s.2⟩ (cs.drop s.1) = rappL g cs) (fun s => cs.length - s.1) (0, g.es) ⟨Nat.zero_le _, hlen, hasc, rfl⟩ ?_ ?_
    · have hbn : butR (-1) 0 g.es = g.es := butR_neg _ _ _ (by decide)
      refine Next.weakS [2, 4, 7] [] (by rfl) (keeps0 hC _) (by repeat (first | exact trivial | refine ⟨⟨_, rfl, .inl ⟨rfl, rfl⟩⟩, ?_⟩ | refine ⟨⟨_, rfl, .inl ⟨slEq rfl tN, rfl⟩⟩, ?_⟩ | refine ⟨⟨_, rfl, .inl ⟨ivEq tX, rfl⟩⟩, ?_⟩)) (by exact ⟨ent_same rfl rfl rfl tL, ⟨⟨rfl, rfl, .fflat _ _ _ rfl tW⟩, ⟨ent_same rfl rfl (flEq rfl (by rw [hbn]; rfl)) trivial, trivial⟩⟩⟩) rfl rel_intro
    · intro ⟨i, es⟩ ⟨hi, hel, hea, hap⟩ K hK
      dsimp only at hi hel hea hap ⊢
      refine nK ?_
      refine s_reg rfl ?_
      first | refine Run.pure (dd := some 27) rfl rfl (op_move rfl (Opd.tmp _ _ rfl)) ?_ | refine Run.pure (dd := some 27) rfl rfl (op_junk (.inl rfl)) ?_
      first | refine Run.pure (dd := some 28) rfl rfl (op_move rfl (Opd.tmp _ _ rfl)) ?_ | refine Run.pure (dd := some 28) rfl rfl (op_junk (.inl rfl)) ?_
      first | refine Run.pure (dd := some 29) rfl rfl (op_len_fz rfl (by first | exact Opd.tmp _ _ rfl | exact Opd.nil _ _ (Opd.tmp _ _ rfl)) (by first | exact List.length_map _ | rfl)) ?_ | refine Run.pure (dd := some 29) rfl rfl (op_len_sl rfl (Opd.tmp _ _ rfl)) ?_
      refine Run.pure (dd := some 30) rfl rfl (op_lss rfl (Opd.tmp _ _ rfl) (Opd.tmp _ _ rfl)) ?_
      refine Run.nil (FinR.mk ?_)
      refine nK ?_
      refine n_cond _ rfl (fun hb => ?_) (fun hb => ?_)
      · have hlt : i < cs.length := by simp at hb; omega
        have hr1 := row_at' encE cs i hlt
        have hKn := fun es' a b h => hK (i + 1, es') ⟨by dsimp only; omega, a, b, h⟩ (by dsimp only; omega)
        have hco := hc cs[i] (List.getElem_mem hlt)
        rw [List.drop_eq_getElem_cons hlt] at hap
        simp only [rappL] at hap
        generalize cs[i] = c at *
        obtain ⟨hc1, hc2, hc3⟩ := hco
        obtain ⟨hq1, hq2⟩ := chg_eq (g := ⟨g.r, g.n, es⟩) (c := c) hea hel
        have hcf : rchgF ⟨g.r, g.n, es⟩ c = if nodeB g c.f = false ∨ nodeB g c.t = false then (zeroG, 5)
          else if c.c < 0 ∧ fndI es c.f c.t < 0 then (zeroG, 6)
          else if 0 ≤ c.c ∧ alwI g c ≠ 0 then (zeroG, alwI g c)
          else if 0 ≤ c.c ∧ fndI es c.f c.t < 0 ∧ 1024 ≤ es.length then (zeroG, 4)
          else (⟨g.r, g.n, if 0 ≤ c.c then putR c false (butR (fndI es c.f c.t) 0 es) else butR (fndI es c.f c.t) 0 es⟩, 0) := rfl
        have hf := find_c ⟨g.r, g.n, es⟩ c.f c.t (by dsimp only; omega)
        have hal := rallowed_c g c hs ⟨hc1, hc2, hc3⟩
        have hbl := butR_len (fndI es c.f c.t) es 0
        have hf2 : fndI (Gr.mk g.r g.n es).es c.f c.t = fndI es c.f c.t := rfl
        rw [hf2] at hf
        have hnx : (rchgF ⟨g.r, g.n, es⟩ c).2 = 0 → AscK (rchgF ⟨g.r, g.n, es⟩ c).1.es ∧ (rchgF ⟨g.r, g.n, es⟩ c).1.es.length ≤ 1024 := fun h => by
          obtain ⟨e1, e2, e3, _, _⟩ := hq2 (hq1.trans h)
          rw [← e1]; exact ⟨e2, e3⟩
        generalize fndI es c.f c.t = at_ at *
        refine nK ?_
        refine s_reg rfl ?_
        first | refine Run.pure (dd := some 33) rfl rfl (op_move rfl (Opd.tmp _ _ rfl)) ?_ | refine Run.pure (dd := some 33) rfl rfl (op_junk (.inl rfl)) ?_
        first | refine Run.pure (dd := some 34) rfl rfl (op_move rfl (Opd.tmp _ _ rfl)) ?_ | refine Run.pure (dd := some 34) rfl rfl (op_junk (.inl rfl)) ?_
        first | refine Run.pure (dd := some 35) rfl rfl (op_idx_sl0 _ rfl (Opd.tmp _ _ rfl) (Opd.tmp _ _ rfl) tD) ?_ | refine Run.pure (dd := some 35) rfl rfl (op_idx_fz _ rfl (Opd.tmp _ _ rfl) (Opd.tmp _ _ rfl) tF) ?_
        first | refine Run.load (dd := some 36) rfl rfl (op_loadw_flat rfl (Opd.tmp _ _ rfl) tH rfl) ?_ | refine Run.pure (dd := some 36) rfl rfl (op_loadw_fz rfl (Opd.tmp _ _ rfl) rfl) ?_ | refine Run.load (dd := some 36) rfl rfl (op_loadn_flat rfl (Opd.tmp _ _ rfl) tH tR tR) ?_ | refine Run.pure (dd := some 36) rfl rfl (op_loadn_fz rfl (Opd.tmp _ _ rfl) tR) ?_ | refine Run.load (dd := some 36) rfl rfl (op_loadn_refs rfl (Opd.tmp _ _ rfl) tH tR tR) ?_
        refine Run.eff (dd := some 9) rfl rfl (op_alloc rfl rfl rfl rfl) ?_
        first | refine Run.eff (dd := none) rfl rfl (op_store_flat rfl (Opd.tmp _ _ rfl) (Opd.tmp _ _ rfl) tC rfl rfl (by first | rfl | assumption) tS) ?_ | refine Run.eff (dd := none) rfl rfl (op_store_refs rfl (Opd.tmp _ _ rfl) (Opd.tmp _ _ rfl) tP rfl rfl rfl tS) ?_
        refine Run.nil (FinR.mk ?_)
        refine nK ?_
        refine s_reg rfl ?_
        first | refine Run.load (dd := some 37) rfl rfl (op_loadw_flat rfl (Opd.tmp _ _ rfl) tH rfl) ?_ | refine Run.pure (dd := some 37) rfl rfl (op_loadw_fz rfl (Opd.tmp _ _ rfl) rfl) ?_ | refine Run.load (dd := some 37) rfl rfl (op_loadn_flat rfl (Opd.tmp _ _ rfl) tH tR tR) ?_ | refine Run.pure (dd := some 37) rfl rfl (op_loadn_fz rfl (Opd.tmp _ _ rfl) tR) ?_ | refine Run.load (dd := some 37) rfl rfl (op_loadn_refs rfl (Opd.tmp _ _ rfl) tH tR tR) ?_
        first | refine Run.pure (dd := some 38) rfl rfl (op_fld_ptr (by decide) rfl (Opd.tmp _ _ rfl)) ?_ | refine Run.pure (dd := some 38) rfl rfl (op_fld_fz (by decide) rfl (Opd.tmp _ _ rfl) tR) ?_
        first | refine Run.load (dd := some 39) rfl rfl (op_load1_flat rfl (Opd.tmp _ _ rfl) tH rfl) ?_ | refine Run.pure (dd := some 39) rfl rfl (op_load1_fz rfl (Opd.tmp _ _ rfl) rfl) ?_ | refine Run.load (dd := some 39) rfl rfl (op_load1_refs rfl (Opd.tmp _ _ rfl) tH rfl) ?_
        refine Run.pure (dd := some 40) rfl rfl (op_call_pure (fun _ => rnode_c _ _ (by assumption) (by assumption)) rfl (Opd.func _) (Opds.cons _ _ _ _ (Opd.tmp _ _ rfl) (Opds.cons _ _ _ _ (Opd.tmp _ _ rfl) Opds.nil))) ?_
        refine Run.pure (dd := some 41) rfl rfl (op_not rfl (Opd.tmp _ _ rfl)) ?_
        first | refine Run.pure (dd := some 42) rfl rfl (op_move rfl (Opd.tmp _ _ rfl)) ?_ | refine Run.pure (dd := some 42) rfl rfl (op_junk (.inl rfl)) ?_
        first | refine Run.loadG (dd := some 43) rfl rfl rfl tG (op_loadw_flat rfl (Opd.tmp _ _ rfl) tH rfl) ?_ | refine Run.pureG (dd := some 43) rfl rfl rfl tG (op_loadw_fz rfl (Opd.tmp _ _ rfl) rfl) ?_ | refine Run.loadG (dd := some 43) rfl rfl rfl tG (op_loadn_flat rfl (Opd.tmp _ _ rfl) tH tR tR) ?_ | refine Run.pureG (dd := some 43) rfl rfl rfl tG (op_loadn_fz rfl (Opd.tmp _ _ rfl) tR) ?_ | refine Run.loadG (dd := some 43) rfl rfl rfl tG (op_loadn_refs rfl (Opd.tmp _ _ rfl) tH tR tR) ?_
        first | refine Run.pureG (dd := some 44) rfl rfl rfl tG (op_fld_ptr (by decide) rfl (Opd.tmp _ _ rfl)) ?_ | refine Run.pureG (dd := some 44) rfl rfl rfl tG (op_fld_fz (by decide) rfl (Opd.tmp _ _ rfl) tR) ?_
        first | refine Run.loadG (dd := some 45) rfl rfl rfl tG (op_load1_flat rfl (Opd.topt _ _ _ rfl tO) tH rfl) ?_ | refine Run.pureG (dd := some 45) rfl rfl rfl tG (op_load1_fz rfl (Opd.topt _ _ _ rfl tO) rfl) ?_ | refine Run.loadG (dd := some 45) rfl rfl rfl tG (op_load1_refs rfl (Opd.topt _ _ _ rfl tO) tH rfl) ?_
        refine Run.pureG (dd := some 46) rfl rfl rfl tG (op_call_pure (fun _ => rnode_c _ _ (by assumption) (by assumption)) rfl (Opd.func _) (Opds.cons _ _ _ _ (Opd.topt _ _ _ rfl tO) (Opds.cons _ _ _ _ (Opd.topt _ _ _ rfl tO) Opds.nil))) ?_
        refine Run.pureG (dd := some 47) rfl rfl rfl tG (op_not rfl (Opd.topt _ _ _ rfl tO)) ?_
        refine Run.pure (dd := some 48) rfl rfl (op_pick_or rfl (Opd.tmp _ _ rfl) (Opd.topt _ _ _ rfl tO)) ?_
        refine Run.nil (FinR.mk ?_)
        refine nK ?_
        refine n_cond _ rfl (fun hb => ?_) (fun hb => ?_)
        · rw [if_pos (show nodeB g c.f = false ∨ nodeB g c.t = false by simpa using hb)] at hcf
          rw [hcf, if_pos (by decide)] at hap
          rw [← hap]
          refine nK ?_
          refine s_reg rfl ?_
          first | refine Run.pure (dd := some 49) rfl rfl (op_build rfl rfl rfl (FillF.nil _)) ?_ | refine Run.pure (dd := some 49) rfl rfl (op_buildP rfl rfl rfl rfl (FillP.nil _)) ?_
          first | refine Run.eff (dd := none) rfl rfl (op_store_flat rfl (Opd.tmp _ _ rfl) (Opd.tmp _ _ rfl) tC rfl rfl (by first | rfl | assumption) tS) ?_ | refine Run.eff (dd := none) rfl rfl (op_store_refs rfl (Opd.tmp _ _ rfl) (Opd.tmp _ _ rfl) tP rfl rfl rfl tS) ?_
          first | refine Run.pure (dd := some 5) rfl rfl (op_assign rfl (Opd.const _)) ?_ | refine Run.pure (dd := some 5) rfl rfl (op_junk (.inr rfl)) ?_
          refine Run.nil (FinR.mk ?_)
          refine nK ?_
          (refine Next.weak [1] [] (by rfl) (keeps0 hC _) (G' := [(4, .ptr 0 3 0 0), (5, .fz _)]) (H' := [(0, OG zeroG)]) (by repeat (first | exact trivial | refine ⟨⟨_, rfl, .inl ⟨rfl, rfl⟩⟩, ?_⟩ | refine ⟨⟨_, rfl, .inl ⟨slEq rfl tN, rfl⟩⟩, ?_⟩ | refine ⟨⟨_, rfl, .inl ⟨ivEq tX, rfl⟩⟩, ?_⟩)) (by exact ⟨⟨rfl, rfl, .fflat _ _ _ rfl tW⟩, trivial⟩) (fun _ h => by simp at h) ?_; (first | exact s_o1 hC rfl tV | exact s_o2 hC rfl tV tV | exact s_o3 hC rfl tV tV tV | exact s_out0 hC rfl | exact s_outO hC rfl rfl rfl))
        · rw [if_neg (show ¬ (nodeB g c.f = false ∨ nodeB g c.t = false) by simpa using hb)] at hcf
          refine nK ?_
          refine s_reg rfl ?_
          first | refine Run.load (dd := some 50) rfl rfl (op_loadw_flat rfl (Opd.tmp _ _ rfl) tH rfl) ?_ | refine Run.pure (dd := some 50) rfl rfl (op_loadw_fz rfl (Opd.tmp _ _ rfl) rfl) ?_ | refine Run.load (dd := some 50) rfl rfl (op_loadn_flat rfl (Opd.tmp _ _ rfl) tH tR tR) ?_ | refine Run.pure (dd := some 50) rfl rfl (op_loadn_fz rfl (Opd.tmp _ _ rfl) tR) ?_ | refine Run.load (dd := some 50) rfl rfl (op_loadn_refs rfl (Opd.tmp _ _ rfl) tH tR tR) ?_
          first | refine Run.pure (dd := some 51) rfl rfl (op_fld_ptr (by decide) rfl (Opd.tmp _ _ rfl)) ?_ | refine Run.pure (dd := some 51) rfl rfl (op_fld_fz (by decide) rfl (Opd.tmp _ _ rfl) tR) ?_
          first | refine Run.load (dd := some 52) rfl rfl (op_load1_flat rfl (Opd.tmp _ _ rfl) tH rfl) ?_ | refine Run.pure (dd := some 52) rfl rfl (op_load1_fz rfl (Opd.tmp _ _ rfl) rfl) ?_ | refine Run.load (dd := some 52) rfl rfl (op_load1_refs rfl (Opd.tmp _ _ rfl) tH rfl) ?_
          first | refine Run.pure (dd := some 53) rfl rfl (op_fld_ptr (by decide) rfl (Opd.tmp _ _ rfl)) ?_ | refine Run.pure (dd := some 53) rfl rfl (op_fld_fz (by decide) rfl (Opd.tmp _ _ rfl) tR) ?_
          first | refine Run.load (dd := some 54) rfl rfl (op_load1_flat rfl (Opd.tmp _ _ rfl) tH rfl) ?_ | refine Run.pure (dd := some 54) rfl rfl (op_load1_fz rfl (Opd.tmp _ _ rfl) rfl) ?_ | refine Run.load (dd := some 54) rfl rfl (op_load1_refs rfl (Opd.tmp _ _ rfl) tH rfl) ?_
          refine Run.pure (dd := some 55) rfl rfl (op_call_pure (fun _ => hf) rfl (Opd.func _) (Opds.cons _ _ _ _ (Opd.tmp _ _ rfl) (Opds.cons _ _ _ _ (Opd.tmp _ _ rfl) (Opds.cons _ _ _ _ (Opd.tmp _ _ rfl) Opds.nil)))) ?_
          first | refine Run.pure (dd := some 10) rfl rfl (op_assign rfl (Opd.tmp _ _ rfl)) ?_ | refine Run.pure (dd := some 10) rfl rfl (op_junk (.inr rfl)) ?_
          refine Run.nil (FinR.mk ?_)
          refine nK ?_
          refine s_reg rfl ?_
          first | refine Run.pure (dd := some 56) rfl rfl (op_fld_ptr (by decide) rfl (Opd.tmp _ _ rfl)) ?_ | refine Run.pure (dd := some 56) rfl rfl (op_fld_fz (by decide) rfl (Opd.tmp _ _ rfl) tR) ?_
          first | refine Run.load (dd := some 57) rfl rfl (op_load1_flat rfl (Opd.tmp _ _ rfl) tH rfl) ?_ | refine Run.pure (dd := some 57) rfl rfl (op_load1_fz rfl (Opd.tmp _ _ rfl) rfl) ?_ | refine Run.load (dd := some 57) rfl rfl (op_load1_refs rfl (Opd.tmp _ _ rfl) tH rfl) ?_
          refine Run.pure (dd := some 58) rfl rfl (op_lss rfl (Opd.tmp _ _ rfl) (Opd.const _)) ?_
          first | refine Run.pure (dd := some 59) rfl rfl (op_move rfl (Opd.tmp _ _ rfl)) ?_ | refine Run.pure (dd := some 59) rfl rfl (op_junk (.inl rfl)) ?_
          first | refine Run.pureG (dd := some 60) rfl rfl rfl tG (op_move rfl (Opd.tmp _ _ rfl)) ?_ | refine Run.pureG (dd := some 60) rfl rfl rfl tG (op_junk (.inl rfl)) ?_
          refine Run.pureG (dd := some 61) rfl rfl rfl tG (op_lss rfl (Opd.topt _ _ _ rfl tO) (Opd.const _)) ?_
          refine Run.pure (dd := some 62) rfl rfl (op_pick_and rfl (Opd.tmp _ _ rfl) (Opd.topt _ _ _ rfl tO)) ?_
          refine Run.nil (FinR.mk ?_)
          refine nK ?_
          refine n_cond _ rfl (fun hb => ?_) (fun hb => ?_)
          · rw [if_pos (show c.c < 0 ∧ at_ < 0 by simpa using hb)] at hcf
            rw [hcf, if_pos (by decide)] at hap
            rw [← hap]
            refine nK ?_
            refine s_reg rfl ?_
            first | refine Run.pure (dd := some 63) rfl rfl (op_build rfl rfl rfl (FillF.nil _)) ?_ | refine Run.pure (dd := some 63) rfl rfl (op_buildP rfl rfl rfl rfl (FillP.nil _)) ?_
            first | refine Run.eff (dd := none) rfl rfl (op_store_flat rfl (Opd.tmp _ _ rfl) (Opd.tmp _ _ rfl) tC rfl rfl (by first | rfl | assumption) tS) ?_ | refine Run.eff (dd := none) rfl rfl (op_store_refs rfl (Opd.tmp _ _ rfl) (Opd.tmp _ _ rfl) tP rfl rfl rfl tS) ?_
            first | refine Run.pure (dd := some 5) rfl rfl (op_assign rfl (Opd.const _)) ?_ | refine Run.pure (dd := some 5) rfl rfl (op_junk (.inr rfl)) ?_
            refine Run.nil (FinR.mk ?_)
            refine nK ?_
            (refine Next.weak [1] [] (by rfl) (keeps0 hC _) (G' := [(4, .ptr 0 3 0 0), (5, .fz _)]) (H' := [(0, OG zeroG)]) (by repeat (first | exact trivial | refine ⟨⟨_, rfl, .inl ⟨rfl, rfl⟩⟩, ?_⟩ | refine ⟨⟨_, rfl, .inl ⟨slEq rfl tN, rfl⟩⟩, ?_⟩ | refine ⟨⟨_, rfl, .inl ⟨ivEq tX, rfl⟩⟩, ?_⟩)) (by exact ⟨⟨rfl, rfl, .fflat _ _ _ rfl tW⟩, trivial⟩) (fun _ h => by simp at h) ?_; (first | exact s_o1 hC rfl tV | exact s_o2 hC rfl tV tV | exact s_o3 hC rfl tV tV tV | exact s_out0 hC rfl | exact s_outO hC rfl rfl rfl))
          · rw [if_neg (show ¬ (c.c < 0 ∧ at_ < 0) by simpa using hb)] at hcf
            refine nK ?_
            refine s_reg rfl ?_
            first | refine Run.pure (dd := some 64) rfl rfl (op_fld_ptr (by decide) rfl (Opd.tmp _ _ rfl)) ?_ | refine Run.pure (dd := some 64) rfl rfl (op_fld_fz (by decide) rfl (Opd.tmp _ _ rfl) tR) ?_
            first | refine Run.load (dd := some 65) rfl rfl (op_load1_flat rfl (Opd.tmp _ _ rfl) tH rfl) ?_ | refine Run.pure (dd := some 65) rfl rfl (op_load1_fz rfl (Opd.tmp _ _ rfl) rfl) ?_ | refine Run.load (dd := some 65) rfl rfl (op_load1_refs rfl (Opd.tmp _ _ rfl) tH rfl) ?_
            first | refine Run.pure (dd := some 66) rfl rfl (op_fld_ptr (by decide) rfl (Opd.tmp _ _ rfl)) ?_ | refine Run.pure (dd := some 66) rfl rfl (op_fld_fz (by decide) rfl (Opd.tmp _ _ rfl) tR) ?_
            first | refine Run.load (dd := some 67) rfl rfl (op_load1_flat rfl (Opd.tmp _ _ rfl) tH rfl) ?_ | refine Run.pure (dd := some 67) rfl rfl (op_load1_fz rfl (Opd.tmp _ _ rfl) rfl) ?_ | refine Run.load (dd := some 67) rfl rfl (op_load1_refs rfl (Opd.tmp _ _ rfl) tH rfl) ?_
            first | refine Run.pure (dd := some 68) rfl rfl (op_fld_ptr (by decide) rfl (Opd.tmp _ _ rfl)) ?_ | refine Run.pure (dd := some 68) rfl rfl (op_fld_fz (by decide) rfl (Opd.tmp _ _ rfl) tR) ?_
            first | refine Run.load (dd := some 69) rfl rfl (op_load1_flat rfl (Opd.tmp _ _ rfl) tH rfl) ?_ | refine Run.pure (dd := some 69) rfl rfl (op_load1_fz rfl (Opd.tmp _ _ rfl) rfl) ?_ | refine Run.load (dd := some 69) rfl rfl (op_load1_refs rfl (Opd.tmp _ _ rfl) tH rfl) ?_
            first | refine Run.pure (dd := some 70) rfl rfl (op_build rfl rfl rfl (FillF.cons _ _ _ _ _ _ _ _ _ _ (by rfl) (Opd.tmp _ _ rfl) tC (by rfl) tR (FillF.cons _ _ _ _ _ _ _ _ _ _ (by rfl) (Opd.tmp _ _ rfl) tC (by rfl) tR (FillF.cons _ _ _ _ _ _ _ _ _ _ (by rfl) (Opd.tmp _ _ rfl) tC (by rfl) tR (FillF.nil _))))) ?_ | refine Run.pure (dd := some 70) rfl rfl (op_buildP rfl rfl rfl rfl (FillP.cons _ _ _ _ _ _ _ _ _ _ (by rfl) (Opd.tmp _ _ rfl) tP (by rfl) tR (FillP.cons _ _ _ _ _ _ _ _ _ _ (by rfl) (Opd.tmp _ _ rfl) tP (by rfl) tR (FillP.cons _ _ _ _ _ _ _ _ _ _ (by rfl) (Opd.tmp _ _ rfl) tP (by rfl) tR (FillP.nil _))))) ?_
            refine Run.eff (dd := some 11) rfl rfl (op_alloc rfl rfl rfl rfl) ?_
            first | refine Run.eff (dd := none) rfl rfl (op_store_flat rfl (Opd.tmp _ _ rfl) (Opd.tmp _ _ rfl) tC rfl rfl (by first | rfl | assumption) tS) ?_ | refine Run.eff (dd := none) rfl rfl (op_store_refs rfl (Opd.tmp _ _ rfl) (Opd.tmp _ _ rfl) tP rfl rfl rfl tS) ?_
            refine Run.nil (FinR.mk ?_)
            refine nK ?_
            refine s_reg rfl ?_
            first | refine Run.pure (dd := some 71) rfl rfl (op_fld_ptr (by decide) rfl (Opd.tmp _ _ rfl)) ?_ | refine Run.pure (dd := some 71) rfl rfl (op_fld_fz (by decide) rfl (Opd.tmp _ _ rfl) tR) ?_
            first | refine Run.load (dd := some 72) rfl rfl (op_load1_flat rfl (Opd.tmp _ _ rfl) tH rfl) ?_ | refine Run.pure (dd := some 72) rfl rfl (op_load1_fz rfl (Opd.tmp _ _ rfl) rfl) ?_ | refine Run.load (dd := some 72) rfl rfl (op_load1_refs rfl (Opd.tmp _ _ rfl) tH rfl) ?_
            refine Run.pure (dd := some 73) rfl rfl (op_geq rfl (Opd.tmp _ _ rfl) (Opd.const _)) ?_
            refine Run.nil (FinR.mk ?_)
            refine nK ?_
            refine n_cond _ rfl (fun hb => ?_) (fun hb => ?_)
            · have h0 : 0 ≤ c.c := by simpa using hb
              refine nK ?_
              refine s_reg rfl ?_
              first | refine Run.load (dd := some 74) rfl rfl (op_loadw_flat rfl (Opd.tmp _ _ rfl) tH rfl) ?_ | refine Run.pure (dd := some 74) rfl rfl (op_loadw_fz rfl (Opd.tmp _ _ rfl) rfl) ?_ | refine Run.load (dd := some 74) rfl rfl (op_loadn_flat rfl (Opd.tmp _ _ rfl) tH tR tR) ?_ | refine Run.pure (dd := some 74) rfl rfl (op_loadn_fz rfl (Opd.tmp _ _ rfl) tR) ?_ | refine Run.load (dd := some 74) rfl rfl (op_loadn_refs rfl (Opd.tmp _ _ rfl) tH tR tR) ?_
              first | refine Run.load (dd := some 75) rfl rfl (op_loadw_flat rfl (Opd.tmp _ _ rfl) tH rfl) ?_ | refine Run.pure (dd := some 75) rfl rfl (op_loadw_fz rfl (Opd.tmp _ _ rfl) rfl) ?_ | refine Run.load (dd := some 75) rfl rfl (op_loadn_flat rfl (Opd.tmp _ _ rfl) tH tR tR) ?_ | refine Run.pure (dd := some 75) rfl rfl (op_loadn_fz rfl (Opd.tmp _ _ rfl) tR) ?_ | refine Run.load (dd := some 75) rfl rfl (op_loadn_refs rfl (Opd.tmp _ _ rfl) tH tR tR) ?_
              refine Run.pure (dd := some 76) rfl rfl (op_call_pure (fun _ => hal) rfl (Opd.func _) (Opds.cons _ _ _ _ (Opd.tmp _ _ rfl) (Opds.cons _ _ _ _ (Opd.tmp _ _ rfl) Opds.nil))) ?_
              first | refine Run.pure (dd := some 12) rfl rfl (op_assign rfl (Opd.tmp _ _ rfl)) ?_ | refine Run.pure (dd := some 12) rfl rfl (op_junk (.inr rfl)) ?_
              refine Run.nil (FinR.mk ?_)
              refine nK ?_
              refine s_reg rfl ?_
              first | refine Run.pure (dd := some 77) rfl rfl (op_move rfl (Opd.tmp _ _ rfl)) ?_ | refine Run.pure (dd := some 77) rfl rfl (op_junk (.inl rfl)) ?_
              refine Run.pure (dd := some 78) rfl rfl (op_neq rfl (Opd.tmp _ _ rfl) (Opd.const _)) ?_
              refine Run.nil (FinR.mk ?_)
              refine nK ?_
              refine n_cond _ rfl (fun hb => ?_) (fun hb => ?_)
              · have h3 : alwI g c ≠ 0 := by simpa using hb
                rw [if_pos (show 0 ≤ c.c ∧ alwI g c ≠ 0 from ⟨h0, h3⟩)] at hcf
                rw [hcf, if_pos h3] at hap
                rw [← hap]
                refine nK ?_
                refine s_reg rfl ?_
                first | refine Run.pure (dd := some 79) rfl rfl (op_build rfl rfl rfl (FillF.nil _)) ?_ | refine Run.pure (dd := some 79) rfl rfl (op_buildP rfl rfl rfl rfl (FillP.nil _)) ?_
                first | refine Run.pure (dd := some 80) rfl rfl (op_move rfl (Opd.tmp _ _ rfl)) ?_ | refine Run.pure (dd := some 80) rfl rfl (op_junk (.inl rfl)) ?_
                first | refine Run.eff (dd := none) rfl rfl (op_store_flat rfl (Opd.tmp _ _ rfl) (Opd.tmp _ _ rfl) tC rfl rfl (by first | rfl | assumption) tS) ?_ | refine Run.eff (dd := none) rfl rfl (op_store_refs rfl (Opd.tmp _ _ rfl) (Opd.tmp _ _ rfl) tP rfl rfl rfl tS) ?_
                first | refine Run.pure (dd := some 5) rfl rfl (op_assign rfl (Opd.tmp _ _ rfl)) ?_ | refine Run.pure (dd := some 5) rfl rfl (op_junk (.inr rfl)) ?_
                refine Run.nil (FinR.mk ?_)
                refine nK ?_
                (refine Next.weak [1] [] (by rfl) (keeps0 hC _) (G' := [(4, .ptr 0 3 0 0), (5, .fz _)]) (H' := [(0, OG zeroG)]) (by repeat (first | exact trivial | refine ⟨⟨_, rfl, .inl ⟨rfl, rfl⟩⟩, ?_⟩ | refine ⟨⟨_, rfl, .inl ⟨slEq rfl tN, rfl⟩⟩, ?_⟩ | refine ⟨⟨_, rfl, .inl ⟨ivEq tX, rfl⟩⟩, ?_⟩)) (by exact ⟨⟨rfl, rfl, .fflat _ _ _ rfl tW⟩, trivial⟩) (fun _ h => by simp at h) ?_; (first | exact s_o1 hC rfl tV | exact s_o2 hC rfl tV tV | exact s_o3 hC rfl tV tV tV | exact s_out0 hC rfl | exact s_outO hC rfl rfl rfl))
              · have h3 : ¬ (alwI g c ≠ 0) := by simpa using hb
                rw [if_neg (show ¬ (0 ≤ c.c ∧ alwI g c ≠ 0) from fun h => h3 h.2)] at hcf
                refine nK ?_
                refine s_reg rfl ?_
                first | refine Run.pure (dd := some 81) rfl rfl (op_move rfl (Opd.tmp _ _ rfl)) ?_ | refine Run.pure (dd := some 81) rfl rfl (op_junk (.inl rfl)) ?_
                refine Run.pure (dd := some 82) rfl rfl (op_lss rfl (Opd.tmp _ _ rfl) (Opd.const _)) ?_
                first | refine Run.pure (dd := some 83) rfl rfl (op_move rfl (Opd.tmp _ _ rfl)) ?_ | refine Run.pure (dd := some 83) rfl rfl (op_junk (.inl rfl)) ?_
                first | refine Run.pureG (dd := some 84) rfl rfl rfl tG (op_fld_ptr (by decide) rfl (Opd.tmp _ _ rfl)) ?_ | refine Run.pureG (dd := some 84) rfl rfl rfl tG (op_fld_fz (by decide) rfl (Opd.tmp _ _ rfl) tR) ?_
                first | refine Run.loadG (dd := some 85) rfl rfl rfl tG (op_load1_flat rfl (Opd.topt _ _ _ rfl tO) tH rfl) ?_ | refine Run.pureG (dd := some 85) rfl rfl rfl tG (op_load1_fz rfl (Opd.topt _ _ _ rfl tO) rfl) ?_ | refine Run.loadG (dd := some 85) rfl rfl rfl tG (op_load1_refs rfl (Opd.topt _ _ _ rfl tO) tH rfl) ?_
                first | refine Run.pureG (dd := some 86) rfl rfl rfl tG (op_len_fz rfl (by first | exact Opd.topt _ _ _ rfl tO | exact Opd.nil _ _ (Opd.topt _ _ _ rfl tO)) (by first | exact List.length_map _ | rfl)) ?_ | refine Run.pureG (dd := some 86) rfl rfl rfl tG (op_len_sl rfl (Opd.topt _ _ _ rfl tO)) ?_
                refine Run.pureG (dd := some 87) rfl rfl rfl tG (op_geq rfl (Opd.topt _ _ _ rfl tO) (Opd.const _)) ?_
                refine Run.pure (dd := some 88) rfl rfl (op_pick_and rfl (Opd.tmp _ _ rfl) (Opd.topt _ _ _ rfl tO)) ?_
                refine Run.nil (FinR.mk ?_)
                refine nK ?_
                refine n_cond _ rfl (fun hb => ?_) (fun hb => ?_)
                · have h4 : at_ < 0 ∧ 1024 ≤ es.length := by simp at hb; omega
                  rw [if_pos (show 0 ≤ c.c ∧ at_ < 0 ∧ 1024 ≤ es.length from ⟨h0, h4⟩)] at hcf
                  rw [hcf, if_pos (by decide)] at hap
                  rw [← hap]
                  refine nK ?_
                  refine s_reg rfl ?_
                  first | refine Run.pure (dd := some 89) rfl rfl (op_build rfl rfl rfl (FillF.nil _)) ?_ | refine Run.pure (dd := some 89) rfl rfl (op_buildP rfl rfl rfl rfl (FillP.nil _)) ?_
                  first | refine Run.eff (dd := none) rfl rfl (op_store_flat rfl (Opd.tmp _ _ rfl) (Opd.tmp _ _ rfl) tC rfl rfl (by first | rfl | assumption) tS) ?_ | refine Run.eff (dd := none) rfl rfl (op_store_refs rfl (Opd.tmp _ _ rfl) (Opd.tmp _ _ rfl) tP rfl rfl rfl tS) ?_
                  first | refine Run.pure (dd := some 5) rfl rfl (op_assign rfl (Opd.const _)) ?_ | refine Run.pure (dd := some 5) rfl rfl (op_junk (.inr rfl)) ?_
                  refine Run.nil (FinR.mk ?_)
                  refine nK ?_
                  (refine Next.weak [1] [] (by rfl) (keeps0 hC _) (G' := [(4, .ptr 0 3 0 0), (5, .fz _)]) (H' := [(0, OG zeroG)]) (by repeat (first | exact trivial | refine ⟨⟨_, rfl, .inl ⟨rfl, rfl⟩⟩, ?_⟩ | refine ⟨⟨_, rfl, .inl ⟨slEq rfl tN, rfl⟩⟩, ?_⟩ | refine ⟨⟨_, rfl, .inl ⟨ivEq tX, rfl⟩⟩, ?_⟩)) (by exact ⟨⟨rfl, rfl, .fflat _ _ _ rfl tW⟩, trivial⟩) (fun _ h => by simp at h) ?_; (first | exact s_o1 hC rfl tV | exact s_o2 hC rfl tV tV | exact s_o3 hC rfl tV tV tV | exact s_out0 hC rfl | exact s_outO hC rfl rfl rfl))
                · have h4 : ¬ (at_ < 0 ∧ 1024 ≤ es.length) := by simp at hb; omega
                  rw [if_neg (show ¬ (0 ≤ c.c ∧ at_ < 0 ∧ 1024 ≤ es.length) from fun h => h4 h.2), if_pos h0] at hcf
                  rw [hcf] at hnx
                  rw [hcf, if_neg (by simp)] at hap
                  obtain ⟨n1, n2⟩ := hnx rfl
                  have hpc := put_c (butR at_ 0 es) c (by omega)
                  refine nK ?_
                  refine s_reg rfl ?_
                  first | refine Run.pure (dd := some 90) rfl rfl (op_fld_ptr (by decide) rfl (Opd.tmp _ _ rfl)) ?_ | refine Run.pure (dd := some 90) rfl rfl (op_fld_fz (by decide) rfl (Opd.tmp _ _ rfl) tR) ?_
                  first | refine Run.load (dd := some 91) rfl rfl (op_load1_flat rfl (Opd.tmp _ _ rfl) tH rfl) ?_ | refine Run.pure (dd := some 91) rfl rfl (op_load1_fz rfl (Opd.tmp _ _ rfl) rfl) ?_ | refine Run.load (dd := some 91) rfl rfl (op_load1_refs rfl (Opd.tmp _ _ rfl) tH rfl) ?_
                  first | refine Run.pure (dd := some 92) rfl rfl (op_move rfl (Opd.tmp _ _ rfl)) ?_ | refine Run.pure (dd := some 92) rfl rfl (op_junk (.inl rfl)) ?_
                  refine Run.pure (dd := some 93) rfl rfl (op_call_pure (fun _ => but_c _ _ (by first | omega | (dsimp only; omega))) rfl (Opd.func _) (Opds.cons _ _ _ _ (Opd.tmp _ _ rfl) (Opds.cons _ _ _ _ (Opd.tmp _ _ rfl) Opds.nil))) ?_
                  first | refine Run.pure (dd := some 94) rfl rfl (op_fld_ptr (by decide) rfl (Opd.tmp _ _ rfl)) ?_ | refine Run.pure (dd := some 94) rfl rfl (op_fld_fz (by decide) rfl (Opd.tmp _ _ rfl) tR) ?_
                  first | refine Run.eff (dd := none) rfl rfl (op_store_flat rfl (Opd.tmp _ _ rfl) (Opd.tmp _ _ rfl) tC rfl rfl (by first | rfl | assumption) tS) ?_ | refine Run.eff (dd := none) rfl rfl (op_store_refs rfl (Opd.tmp _ _ rfl) (Opd.tmp _ _ rfl) tP rfl rfl rfl tS) ?_
                  refine Run.nil (FinR.mk ?_)
                  refine nK ?_
                  refine s_reg rfl ?_
                  first | refine Run.pure (dd := some 95) rfl rfl (op_fld_ptr (by decide) rfl (Opd.tmp _ _ rfl)) ?_ | refine Run.pure (dd := some 95) rfl rfl (op_fld_fz (by decide) rfl (Opd.tmp _ _ rfl) tR) ?_
                  first | refine Run.load (dd := some 96) rfl rfl (op_load1_flat rfl (Opd.tmp _ _ rfl) tH rfl) ?_ | refine Run.pure (dd := some 96) rfl rfl (op_load1_fz rfl (Opd.tmp _ _ rfl) rfl) ?_ | refine Run.load (dd := some 96) rfl rfl (op_load1_refs rfl (Opd.tmp _ _ rfl) tH rfl) ?_
                  refine Run.pure (dd := some 97) rfl rfl (op_geq rfl (Opd.tmp _ _ rfl) (Opd.const _)) ?_
                  refine Run.nil (FinR.mk ?_)
                  refine nK ?_
                  refine n_cond _ rfl (fun hb => ?_) (fun hb => ?_)
                  · refine nK ?_
                    refine s_reg rfl ?_
                    first | refine Run.pure (dd := some 98) rfl rfl (op_fld_ptr (by decide) rfl (Opd.tmp _ _ rfl)) ?_ | refine Run.pure (dd := some 98) rfl rfl (op_fld_fz (by decide) rfl (Opd.tmp _ _ rfl) tR) ?_
                    first | refine Run.load (dd := some 99) rfl rfl (op_load1_flat rfl (Opd.tmp _ _ rfl) tH rfl) ?_ | refine Run.pure (dd := some 99) rfl rfl (op_load1_fz rfl (Opd.tmp _ _ rfl) rfl) ?_ | refine Run.load (dd := some 99) rfl rfl (op_load1_refs rfl (Opd.tmp _ _ rfl) tH rfl) ?_
                    first | refine Run.load (dd := some 100) rfl rfl (op_loadw_flat rfl (Opd.tmp _ _ rfl) tH rfl) ?_ | refine Run.pure (dd := some 100) rfl rfl (op_loadw_fz rfl (Opd.tmp _ _ rfl) rfl) ?_ | refine Run.load (dd := some 100) rfl rfl (op_loadn_flat rfl (Opd.tmp _ _ rfl) tH tR tR) ?_ | refine Run.pure (dd := some 100) rfl rfl (op_loadn_fz rfl (Opd.tmp _ _ rfl) tR) ?_ | refine Run.load (dd := some 100) rfl rfl (op_loadn_refs rfl (Opd.tmp _ _ rfl) tH tR tR) ?_
                    refine Run.pure (dd := some 101) rfl rfl (op_call_pure (fun _ => hpc) rfl (Opd.func _) (Opds.cons _ _ _ _ (Opd.tmp _ _ rfl) (Opds.cons _ _ _ _ (Opd.tmp _ _ rfl) Opds.nil))) ?_
                    first | refine Run.pure (dd := some 102) rfl rfl (op_fld_ptr (by decide) rfl (Opd.tmp _ _ rfl)) ?_ | refine Run.pure (dd := some 102) rfl rfl (op_fld_fz (by decide) rfl (Opd.tmp _ _ rfl) tR) ?_
                    first | refine Run.eff (dd := none) rfl rfl (op_store_flat rfl (Opd.tmp _ _ rfl) (Opd.tmp _ _ rfl) tC rfl rfl (by first | rfl | assumption) tS) ?_ | refine Run.eff (dd := none) rfl rfl (op_store_refs rfl (Opd.tmp _ _ rfl) (Opd.tmp _ _ rfl) tP rfl rfl rfl tS) ?_
                    refine Run.nil (FinR.mk ?_)
                    refine nK ?_
                    refine s_reg rfl ?_
                    first | refine Run.pure (dd := some 31) rfl rfl (op_move rfl (Opd.tmp _ _ rfl)) ?_ | refine Run.pure (dd := some 31) rfl rfl (op_junk (.inl rfl)) ?_
                    refine Run.pure (dd := some 32) rfl rfl (op_add rfl (Opd.tmp _ _ rfl) (Opd.const _) tI) ?_
                    first | refine Run.pure (dd := some 8) rfl rfl (op_assign rfl (Opd.tmp _ _ rfl)) ?_ | refine Run.pure (dd := some 8) rfl rfl (op_junk (.inr rfl)) ?_
                    refine Run.nil (FinR.mk ?_)
                    refine nK ?_
                    refine Next.weakS [2, 4, 7] [] (by rfl) (by first | exact keeps0 hC _ | exact keepsN hC _ rfl) (by repeat (first | exact trivial | refine ⟨⟨_, rfl, .inl ⟨rfl, rfl⟩⟩, ?_⟩ | refine ⟨⟨_, rfl, .inl ⟨slEq rfl tN, rfl⟩⟩, ?_⟩ | refine ⟨⟨_, rfl, .inl ⟨ivEq tX, rfl⟩⟩, ?_⟩)) (by repeat (first | exact trivial | refine ⟨ent_same rfl rfl rfl tL, ?_⟩ | refine ⟨ent_same rfl rfl (rfEq rfl tU) tL, ?_⟩ | refine ⟨ent_same rfl rfl (flEq rfl (by first | (simp; done) | (simp; omega) | (simp [encE, encN, encB]; done) | simp [maxC, minC])) trivial, ?_⟩)) rfl ((hKn _ n2 n1 hap))
                  · exfalso; simp at hb; omega
            · have h0 : ¬ (0 ≤ c.c) := by simpa using hb
              rw [if_neg (show ¬ (0 ≤ c.c ∧ alwI g c ≠ 0) from fun h => h0 h.1), if_neg (show ¬ (0 ≤ c.c ∧ at_ < 0 ∧ 1024 ≤ es.length) from fun h => h0 h.1), if_neg h0] at hcf
              rw [hcf] at hnx
              rw [hcf, if_neg (by simp)] at hap
              obtain ⟨n1, n2⟩ := hnx rfl
              refine nK ?_
              refine s_reg rfl ?_
              first | refine Run.pure (dd := some 90) rfl rfl (op_fld_ptr (by decide) rfl (Opd.tmp _ _ rfl)) ?_ | refine Run.pure (dd := some 90) rfl rfl (op_fld_fz (by decide) rfl (Opd.tmp _ _ rfl) tR) ?_
              first | refine Run.load (dd := some 91) rfl rfl (op_load1_flat rfl (Opd.tmp _ _ rfl) tH rfl) ?_ | refine Run.pure (dd := some 91) rfl rfl (op_load1_fz rfl (Opd.tmp _ _ rfl) rfl) ?_ | refine Run.load (dd := some 91) rfl rfl (op_load1_refs rfl (Opd.tmp _ _ rfl) tH rfl) ?_
              first | refine Run.pure (dd := some 92) rfl rfl (op_move rfl (Opd.tmp _ _ rfl)) ?_ | refine Run.pure (dd := some 92) rfl rfl (op_junk (.inl rfl)) ?_
              refine Run.pure (dd := some 93) rfl rfl (op_call_pure (fun _ => but_c _ _ (by first | omega | (dsimp only; omega))) rfl (Opd.func _) (Opds.cons _ _ _ _ (Opd.tmp _ _ rfl) (Opds.cons _ _ _ _ (Opd.tmp _ _ rfl) Opds.nil))) ?_
              first | refine Run.pure (dd := some 94) rfl rfl (op_fld_ptr (by decide) rfl (Opd.tmp _ _ rfl)) ?_ | refine Run.pure (dd := some 94) rfl rfl (op_fld_fz (by decide) rfl (Opd.tmp _ _ rfl) tR) ?_
              first | refine Run.eff (dd := none) rfl rfl (op_store_flat rfl (Opd.tmp _ _ rfl) (Opd.tmp _ _ rfl) tC rfl rfl (by first | rfl | assumption) tS) ?_ | refine Run.eff (dd := none) rfl rfl (op_store_refs rfl (Opd.tmp _ _ rfl) (Opd.tmp _ _ rfl) tP rfl rfl rfl tS) ?_
              refine Run.nil (FinR.mk ?_)
              refine nK ?_
              refine s_reg rfl ?_
              first | refine Run.pure (dd := some 95) rfl rfl (op_fld_ptr (by decide) rfl (Opd.tmp _ _ rfl)) ?_ | refine Run.pure (dd := some 95) rfl rfl (op_fld_fz (by decide) rfl (Opd.tmp _ _ rfl) tR) ?_
              first | refine Run.load (dd := some 96) rfl rfl (op_load1_flat rfl (Opd.tmp _ _ rfl) tH rfl) ?_ | refine Run.pure (dd := some 96) rfl rfl (op_load1_fz rfl (Opd.tmp _ _ rfl) rfl) ?_ | refine Run.load (dd := some 96) rfl rfl (op_load1_refs rfl (Opd.tmp _ _ rfl) tH rfl) ?_
              refine Run.pure (dd := some 97) rfl rfl (op_geq rfl (Opd.tmp _ _ rfl) (Opd.const _)) ?_
              refine Run.nil (FinR.mk ?_)
              refine nK ?_
              refine n_cond _ rfl (fun hb => ?_) (fun hb => ?_)
              · exfalso; simp at hb; omega
              · refine nK ?_
                refine s_reg rfl ?_
                first | refine Run.pure (dd := some 31) rfl rfl (op_move rfl (Opd.tmp _ _ rfl)) ?_ | refine Run.pure (dd := some 31) rfl rfl (op_junk (.inl rfl)) ?_
                refine Run.pure (dd := some 32) rfl rfl (op_add rfl (Opd.tmp _ _ rfl) (Opd.const _) tI) ?_
                first | refine Run.pure (dd := some 8) rfl rfl (op_assign rfl (Opd.tmp _ _ rfl)) ?_ | refine Run.pure (dd := some 8) rfl rfl (op_junk (.inr rfl)) ?_
                refine Run.nil (FinR.mk ?_)
                refine nK ?_
                refine Next.weakS [2, 4, 7] [] (by rfl) (by first | exact keeps0 hC _ | exact keepsN hC _ rfl) (by repeat (first | exact trivial | refine ⟨⟨_, rfl, .inl ⟨rfl, rfl⟩⟩, ?_⟩ | refine ⟨⟨_, rfl, .inl ⟨slEq rfl tN, rfl⟩⟩, ?_⟩ | refine ⟨⟨_, rfl, .inl ⟨ivEq tX, rfl⟩⟩, ?_⟩)) (by repeat (first | exact trivial | refine ⟨ent_same rfl rfl rfl tL, ?_⟩ | refine ⟨ent_same rfl rfl (rfEq rfl tU) tL, ?_⟩ | refine ⟨ent_same rfl rfl (flEq rfl (by first | (simp; done) | (simp; omega) | (simp [encE, encN, encB]; done) | simp [maxC, minC])) trivial, ?_⟩)) rfl ((hKn _ n2 n1 hap))
      · have hie : i = cs.length := by simp at hb; omega
        rw [hie, List.drop_length] at hap
        rw [← hap]
        refine nK ?_
        refine s_reg rfl ?_
        first | refine Run.load (dd := some 103) rfl rfl (op_loadw_flat rfl (Opd.tmp _ _ rfl) tH rfl) ?_ | refine Run.pure (dd := some 103) rfl rfl (op_loadw_fz rfl (Opd.tmp _ _ rfl) rfl) ?_ | refine Run.load (dd := some 103) rfl rfl (op_loadn_flat rfl (Opd.tmp _ _ rfl) tH tR tR) ?_ | refine Run.pure (dd := some 103) rfl rfl (op_loadn_fz rfl (Opd.tmp _ _ rfl) tR) ?_ | refine Run.load (dd := some 103) rfl rfl (op_loadn_refs rfl (Opd.tmp _ _ rfl) tH tR tR) ?_
        first | refine Run.eff (dd := none) rfl rfl (op_store_flat rfl (Opd.tmp _ _ rfl) (Opd.tmp _ _ rfl) tC rfl rfl (by first | rfl | assumption) tS) ?_ | refine Run.eff (dd := none) rfl rfl (op_store_refs rfl (Opd.tmp _ _ rfl) (Opd.tmp _ _ rfl) tP rfl rfl rfl tS) ?_
        first | refine Run.pure (dd := some 5) rfl rfl (op_assign rfl (Opd.const _)) ?_ | refine Run.pure (dd := some 5) rfl rfl (op_junk (.inr rfl)) ?_
        refine Run.nil (FinR.mk ?_)
        refine nK ?_
        (first | exact s_o1 hC rfl tV | exact s_o2 hC rfl tV tV | exact s_o3 hC rfl tV tV tV | exact s_out0 hC rfl | exact s_outO hC rfl rfl rfl)
end Go.Proofs.Ytelnedgopdlnkaa
namespace Go.Pl
open Go.RT
set_option linter.all false
theorem appL_len : ∀ (cs : List Edg) (g : Gr), AscK g.es → g.es.length ≤ 1024 → (appL g cs).1.es.length ≤ 1024
  | [], g, _, h => h
  | c :: cs, g, ha, h => by
    simp only [appL]
    by_cases hz : (chgF g c).2 = 0
    · rw [if_neg (by simp [hz])]
      obtain ⟨_, a, b, _, _⟩ := (chg_eq (c := c) ha h).2 hz
      exact appL_len cs _ a b
    · rw [if_pos hz]; simp [zeroG]
theorem applyF_len (g : Gr) (cs : List Edg) : (applyF g cs).1.es.length ≤ 1024 := by
  unfold applyF
  by_cases h : checkI g = 0
  · rw [if_neg (by simp [h])]; exact appL_len cs g (check_asc h) (checkI_ok h).2.1
  · rw [if_pos h]; simp [zeroG]
/-- the search comes to an edge that is there -/
theorem bs_mem {l : List Edg} (h : AscK l) {k : Nat} (hk : k < l.length) (x : Edg) (hf : x.f = l[k].f) (ht : x.t = l[k].t) : bsAt l x = k ∧ bsHit l x = true := by
  obtain ⟨h1, h2, h3⟩ := bsAt_spec h x
  have e : bsAt l x = k := by
    rcases Nat.lt_trichotomy (bsAt l x) k with h4 | h4 | h4
    · have a := h3 (bsAt l x) (Nat.le_refl _) (by omega)
      have b := asc_get h h4 hk
      unfold ltK at *; omega
    · exact h4
    · have a := h2 k h4 hk
      unfold ltK at *; omega
  refine ⟨e, ?_⟩
  unfold bsHit hitAt
  rw [e, List.getElem?_eq_getElem hk]
  simp [ordE_zero, hf, ht]
theorem set_self {α : Type} (l : List α) (k : Nat) (h : k < l.length) : l.set k l[k] = l := List.set_getElem_self h
theorem alw_cost {g : Gr} {e : Edg} (h : alwI g e = 0) : 0 ≤ e.c := by
  unfold alwI at h
  split at h
  · cases h
  · split at h
    · cases h
    · rename_i h1 h2
      omega
theorem alw_other {g : Gr} {e : Edg} {c : Int} (h : alwI g e = 0) (hr : e.f < g.r) (h1 : 1 ≤ c) (h2 : c ≤ 65535) : alwI g ⟨e.f, e.t, c⟩ = 0 := by
  unfold alwI at h ⊢
  split at h
  · cases h
  · rename_i h3
    rw [if_neg h3]
    split at h
    · cases h
    · rename_i h4
      rw [if_neg (by dsimp only at h4 ⊢; omega)]
theorem alw_nodes {g : Gr} {e : Edg} (h : alwI g e = 0) : ¬ (nodeB g e.f = false ∨ nodeB g e.t = false) := by
  unfold alwI at h
  split at h
  · cases h
  · assumption
theorem app_same {g : Gr} (hc : checkI g = 0) {k : Nat} (hk : k < g.es.length) : applyF g [⟨g.es[k].f, g.es[k].t, g.es[k].c⟩] = (g, 0) := by
  have ha := check_asc hc
  have h0 := chkL_alw _ _ (checkI_ok hc).2.2 _ (List.getElem_mem hk)
  obtain ⟨b1, b2⟩ := bs_mem ha hk g.es[k] rfl rfl
  have e : chgF g g.es[k] = (g, 0) := by
    unfold chgF
    rw [if_neg (alw_nodes h0), if_neg (by have := alw_cost h0; omega), if_neg (by simp [h0]), if_pos b2, b1, set_self _ _ hk]
  have e2 : chgF g ⟨g.es[k].f, g.es[k].t, g.es[k].c⟩ = (g, 0) := e
  unfold applyF
  rw [if_neg (by simp [hc])]
  simp [appL, e2]
theorem chg_gone {g : Gr} (ha : AscK g.es) {k : Nat} (hk : k < g.es.length) (hn : ¬ (nodeB g g.es[k].f = false ∨ nodeB g g.es[k].t = false)) : chgF g ⟨g.es[k].f, g.es[k].t, -1⟩ = (⟨g.r, g.n, delL g.es k (k + 1)⟩, 0) := by
  obtain ⟨b1, b2⟩ := bs_mem ha hk ⟨g.es[k].f, g.es[k].t, -1⟩ rfl rfl
  unfold chgF
  rw [if_neg hn, if_pos (show (-1 : Int) < 0 by decide), b2, if_neg (by simp), b1]
theorem app_gone {g : Gr} (hc : checkI g = 0) {k : Nat} (hk : k < g.es.length) : applyF g [⟨g.es[k].f, g.es[k].t, -1⟩] = (⟨g.r, g.n, delL g.es k (k + 1)⟩, 0) := by
  have ha := check_asc hc
  have h0 := chkL_alw _ _ (checkI_ok hc).2.2 _ (List.getElem_mem hk)
  have e := chg_gone ha hk (alw_nodes h0)
  unfold applyF
  rw [if_neg (by simp [hc])]
  simp [appL, e]
theorem set_asc {l : List Edg} (h : AscK l) {k : Nat} (hk : k < l.length) (c : Int) : AscK (l.set k ⟨l[k].f, l[k].t, c⟩) := by
  have e : l.set k ⟨l[k].f, l[k].t, c⟩ = l.mapIdx (fun i x => if i = k then ⟨x.f, x.t, c⟩ else x) := by
    refine List.ext_getElem? fun i => ?_
    rw [List.getElem?_set, List.getElem?_mapIdx]
    by_cases hi : k = i
    · subst hi; simp [hk]
    · rw [if_neg hi]
      cases l[i]? with
      | none => rfl
      | some x => simp [Ne.symm hi]
  rw [e]
  refine List.pairwise_iff_getElem.2 fun i j hi hj hij => ?_
  simp only [List.length_mapIdx] at hi hj
  simp only [List.getElem_mapIdx]
  have := asc_get h hij hj
  split <;> split <;> exact this
theorem app_set {g : Gr} (hc : checkI g = 0) {k : Nat} (hk : k < g.es.length) (hr : g.es[k].f < g.r) {c : Int} (h1 : 1 ≤ c) (h2 : c ≤ 65535) :
    applyF g [⟨g.es[k].f, g.es[k].t, c⟩, ⟨g.es[k].f, g.es[k].t, -1⟩] = (⟨g.r, g.n, delL g.es k (k + 1)⟩, 0) := by
  have ha := check_asc hc
  have h0 := chkL_alw _ _ (checkI_ok hc).2.2 _ (List.getElem_mem hk)
  have h3 := alw_other h0 hr h1 h2
  obtain ⟨b1, b2⟩ := bs_mem ha hk ⟨g.es[k].f, g.es[k].t, c⟩ rfl rfl
  have e1 : chgF g ⟨g.es[k].f, g.es[k].t, c⟩ = (⟨g.r, g.n, g.es.set k ⟨g.es[k].f, g.es[k].t, c⟩⟩, 0) := by
    unfold chgF
    rw [if_neg (alw_nodes h0), if_neg (by dsimp only; omega), if_neg (by simp [h3]), if_pos b2, b1]
  have hk2 : k < (g.es.set k ⟨g.es[k].f, g.es[k].t, c⟩).length := by simpa using hk
  have e2 := chg_gone (g := ⟨g.r, g.n, g.es.set k ⟨g.es[k].f, g.es[k].t, c⟩⟩) (set_asc ha hk c) hk2 (by simpa [List.getElem_set, nodeB] using alw_nodes h0)
  have e3 : delL (g.es.set k ⟨g.es[k].f, g.es[k].t, c⟩) k (k + 1) = delL g.es k (k + 1) := by
    unfold delL
    rw [List.take_set_of_le (Nat.le_refl _), List.drop_set_of_lt (by omega)]
  simp only [List.getElem_set, if_true] at e2
  rw [e3] at e2
  unfold applyF
  rw [if_neg (by simp [hc])]
  simp [appL, e1, e2]
end Go.Pl
namespace Go.Proofs.Ytelnedgopdlnkaa
open Go Go.RT Go.Proofs Go.Pl
set_option linter.all false
set_option maxRecDepth 20000
theorem applies_law (g : Gr) (cs : List Edg) (hg : okG g) (hl : cs.length ≤ 9223372036854775807) (hc : okEs cs) : Pure Try.prog 10 [.agg (encG g), VE cs] (Bf true) := by
  have hlen := applyF_len g cs
  refine Meets.intro Try.func10 rfl (Nat.le_of_ble_eq_true rfl) fun C hC => ?_
  simp only [List.map, argEnv, Nat.reduceAdd]
  refine nK ?_
  refine s_reg rfl ?_
  first | refine Run.eff (dd := some 2) rfl rfl (op_box_flat rfl (Opd.tmp _ _ rfl) tC rfl) ?_ | refine Run.eff (dd := some 2) rfl rfl (op_box_refs rfl (Opd.tmp _ _ rfl) tP rfl) ?_
  first | refine Run.pure (dd := some 4) rfl rfl (op_assign rfl (Opd.const _)) ?_ | refine Run.pure (dd := some 4) rfl rfl (op_junk (.inr rfl)) ?_
  refine Run.nil (FinR.mk ?_)
  refine nK ?_
  refine s_reg rfl ?_
  first | refine Run.load (dd := some 10) rfl rfl (op_loadw_flat rfl (Opd.tmp _ _ rfl) tH rfl) ?_ | refine Run.pure (dd := some 10) rfl rfl (op_loadw_fz rfl (Opd.tmp _ _ rfl) rfl) ?_ | refine Run.load (dd := some 10) rfl rfl (op_loadn_flat rfl (Opd.tmp _ _ rfl) tH tR tR) ?_ | refine Run.pure (dd := some 10) rfl rfl (op_loadn_fz rfl (Opd.tmp _ _ rfl) tR) ?_ | refine Run.load (dd := some 10) rfl rfl (op_loadn_refs rfl (Opd.tmp _ _ rfl) tH tR tR) ?_
  first | refine Run.pure (dd := some 11) rfl rfl (op_move rfl (Opd.tmp _ _ rfl)) ?_ | refine Run.pure (dd := some 11) rfl rfl (op_junk (.inl rfl)) ?_
  refine Run.pure (dd := some 12) rfl rfl (op_call_pure (fun _ => apply_c _ _ (by assumption) (by assumption)) rfl (Opd.func _) (Opds.cons _ _ _ _ (Opd.tmp _ _ rfl) (Opds.cons _ _ _ _ (Opd.tmp _ _ rfl) Opds.nil))) ?_
  first | refine Run.pure (dd := some 9) rfl rfl (op_move rfl (Opd.tmp _ _ rfl)) ?_ | refine Run.pure (dd := some 9) rfl rfl (op_junk (.inl rfl)) ?_
  first | refine Run.pure (dd := some 13) rfl rfl (op_extract_fz rfl (Opd.tmp _ _ rfl) rfl) ?_ | refine Run.pure (dd := some 13) rfl rfl (op_extract rfl (Opd.tmp _ _ rfl) rfl) ?_
  first | refine Run.pure (dd := some 14) rfl rfl (op_extract_fz rfl (Opd.tmp _ _ rfl) rfl) ?_ | refine Run.pure (dd := some 14) rfl rfl (op_extract rfl (Opd.tmp _ _ rfl) rfl) ?_
  refine Run.eff (dd := some 5) rfl rfl (op_alloc rfl rfl rfl rfl) ?_
  first | refine Run.eff (dd := none) rfl rfl (op_store_flat rfl (Opd.tmp _ _ rfl) (Opd.tmp _ _ rfl) tC rfl rfl (by first | rfl | assumption) tS) ?_ | refine Run.eff (dd := none) rfl rfl (op_store_refs rfl (Opd.tmp _ _ rfl) (Opd.tmp _ _ rfl) tP rfl rfl rfl tS) ?_
  first | refine Run.pure (dd := some 6) rfl rfl (op_assign rfl (Opd.tmp _ _ rfl)) ?_ | refine Run.pure (dd := some 6) rfl rfl (op_junk (.inr rfl)) ?_
  refine Run.nil (FinR.mk ?_)
  refine nK ?_
  refine s_reg rfl ?_
  first | refine Run.load (dd := some 16) rfl rfl (op_loadw_flat rfl (Opd.tmp _ _ rfl) tH rfl) ?_ | refine Run.pure (dd := some 16) rfl rfl (op_loadw_fz rfl (Opd.tmp _ _ rfl) rfl) ?_ | refine Run.load (dd := some 16) rfl rfl (op_loadn_flat rfl (Opd.tmp _ _ rfl) tH tR tR) ?_ | refine Run.pure (dd := some 16) rfl rfl (op_loadn_fz rfl (Opd.tmp _ _ rfl) tR) ?_ | refine Run.load (dd := some 16) rfl rfl (op_loadn_refs rfl (Opd.tmp _ _ rfl) tH tR tR) ?_
  first | refine Run.pure (dd := some 17) rfl rfl (op_move rfl (Opd.tmp _ _ rfl)) ?_ | refine Run.pure (dd := some 17) rfl rfl (op_junk (.inl rfl)) ?_
  refine Run.pure (dd := some 18) rfl rfl (op_call_pure (fun _ => rapply_c _ _ (by assumption) (by assumption) (by assumption)) rfl (Opd.func _) (Opds.cons _ _ _ _ (Opd.tmp _ _ rfl) (Opds.cons _ _ _ _ (Opd.tmp _ _ rfl) Opds.nil))) ?_
  first | refine Run.pure (dd := some 15) rfl rfl (op_move rfl (Opd.tmp _ _ rfl)) ?_ | refine Run.pure (dd := some 15) rfl rfl (op_junk (.inl rfl)) ?_
  first | refine Run.pure (dd := some 19) rfl rfl (op_extract_fz rfl (Opd.tmp _ _ rfl) rfl) ?_ | refine Run.pure (dd := some 19) rfl rfl (op_extract rfl (Opd.tmp _ _ rfl) rfl) ?_
  first | refine Run.pure (dd := some 20) rfl rfl (op_extract_fz rfl (Opd.tmp _ _ rfl) rfl) ?_ | refine Run.pure (dd := some 20) rfl rfl (op_extract rfl (Opd.tmp _ _ rfl) rfl) ?_
  refine Run.eff (dd := some 7) rfl rfl (op_alloc rfl rfl rfl rfl) ?_
  first | refine Run.eff (dd := none) rfl rfl (op_store_flat rfl (Opd.tmp _ _ rfl) (Opd.tmp _ _ rfl) tC rfl rfl (by first | rfl | assumption) tS) ?_ | refine Run.eff (dd := none) rfl rfl (op_store_refs rfl (Opd.tmp _ _ rfl) (Opd.tmp _ _ rfl) tP rfl rfl rfl tS) ?_
  first | refine Run.pure (dd := some 8) rfl rfl (op_assign rfl (Opd.tmp _ _ rfl)) ?_ | refine Run.pure (dd := some 8) rfl rfl (op_junk (.inr rfl)) ?_
  refine Run.nil (FinR.mk ?_)
  refine nK ?_
  refine s_reg rfl ?_
  first | refine Run.pure (dd := some 21) rfl rfl (op_move rfl (Opd.tmp _ _ rfl)) ?_ | refine Run.pure (dd := some 21) rfl rfl (op_junk (.inl rfl)) ?_
  first | refine Run.pure (dd := some 22) rfl rfl (op_move rfl (Opd.tmp _ _ rfl)) ?_ | refine Run.pure (dd := some 22) rfl rfl (op_junk (.inl rfl)) ?_
  refine Run.pure (dd := some 23) rfl rfl (op_eql rfl (Opd.tmp _ _ rfl) (Opd.tmp _ _ rfl)) ?_
  first | refine Run.pure (dd := some 24) rfl rfl (op_move rfl (Opd.tmp _ _ rfl)) ?_ | refine Run.pure (dd := some 24) rfl rfl (op_junk (.inl rfl)) ?_
  first | refine Run.loadG (dd := some 25) rfl rfl rfl tG (op_loadw_flat rfl (Opd.tmp _ _ rfl) tH rfl) ?_ | refine Run.pureG (dd := some 25) rfl rfl rfl tG (op_loadw_fz rfl (Opd.tmp _ _ rfl) rfl) ?_ | refine Run.loadG (dd := some 25) rfl rfl rfl tG (op_loadn_flat rfl (Opd.tmp _ _ rfl) tH tR tR) ?_ | refine Run.pureG (dd := some 25) rfl rfl rfl tG (op_loadn_fz rfl (Opd.tmp _ _ rfl) tR) ?_ | refine Run.loadG (dd := some 25) rfl rfl rfl tG (op_loadn_refs rfl (Opd.tmp _ _ rfl) tH tR tR) ?_
  first | refine Run.loadG (dd := some 26) rfl rfl rfl tG (op_loadw_flat rfl (Opd.tmp _ _ rfl) tH rfl) ?_ | refine Run.pureG (dd := some 26) rfl rfl rfl tG (op_loadw_fz rfl (Opd.tmp _ _ rfl) rfl) ?_ | refine Run.loadG (dd := some 26) rfl rfl rfl tG (op_loadn_flat rfl (Opd.tmp _ _ rfl) tH tR tR) ?_ | refine Run.pureG (dd := some 26) rfl rfl rfl tG (op_loadn_fz rfl (Opd.tmp _ _ rfl) tR) ?_ | refine Run.loadG (dd := some 26) rfl rfl rfl tG (op_loadn_refs rfl (Opd.tmp _ _ rfl) tH tR tR) ?_
  refine Run.pureG (dd := some 27) rfl rfl rfl tG (op_call_pure (fun _ => same_c _ _ (by first | omega | (dsimp only; omega)) (by first | omega | (dsimp only; omega))) rfl (Opd.func _) (Opds.cons _ _ _ _ (Opd.topt _ _ _ rfl tO) (Opds.cons _ _ _ _ (Opd.topt _ _ _ rfl tO) Opds.nil))) ?_
  refine Run.pure (dd := some 28) rfl rfl (op_pick_and rfl (Opd.tmp _ _ rfl) (Opd.topt _ _ _ rfl tO)) ?_
  first | refine Run.pure (dd := some 29) rfl rfl (op_move rfl (Opd.tmp _ _ rfl)) ?_ | refine Run.pure (dd := some 29) rfl rfl (op_junk (.inl rfl)) ?_
  refine Run.pureG (dd := some 30) rfl rfl rfl tG (op_call_pure (fun _ => lives_c) rfl (Opd.func _) Opds.nil) ?_
  refine Run.pure (dd := some 31) rfl rfl (op_pick_and rfl (Opd.tmp _ _ rfl) (Opd.topt _ _ _ rfl tO)) ?_
  first | refine Run.pure (dd := some 4) rfl rfl (op_assign rfl (Opd.tmp _ _ rfl)) ?_ | refine Run.pure (dd := some 4) rfl rfl (op_junk (.inr rfl)) ?_
  refine Run.nil (FinR.mk ?_)
  refine nK ?_
  refine s_oB hC rfl rfl ?_
  simp
theorem changes_law (g : Gr) (a c : Int) (hg : okG g) (ha : inr .i64 a) (hc : inr .i64 c) : Pure Try.prog 11 [.agg (encG g), If .i64 a, If .i64 c] (Bf true) := by
  refine Meets.intro Try.func11 rfl (Nat.le_of_ble_eq_true rfl) fun C hC => ?_
  simp only [List.map, argEnv, Nat.reduceAdd]
  refine nK ?_
  refine s_reg rfl ?_
  first | refine Run.eff (dd := some 3) rfl rfl (op_box_flat rfl (Opd.tmp _ _ rfl) tC rfl) ?_ | refine Run.eff (dd := some 3) rfl rfl (op_box_refs rfl (Opd.tmp _ _ rfl) tP rfl) ?_
  first | refine Run.pure (dd := some 6) rfl rfl (op_assign rfl (Opd.const _)) ?_ | refine Run.pure (dd := some 6) rfl rfl (op_junk (.inr rfl)) ?_
  refine Run.nil (FinR.mk ?_)
  refine nK ?_
  refine s_reg rfl ?_
  first | refine Run.load (dd := some 14) rfl rfl (op_loadw_flat rfl (Opd.tmp _ _ rfl) tH rfl) ?_ | refine Run.pure (dd := some 14) rfl rfl (op_loadw_fz rfl (Opd.tmp _ _ rfl) rfl) ?_ | refine Run.load (dd := some 14) rfl rfl (op_loadn_flat rfl (Opd.tmp _ _ rfl) tH tR tR) ?_ | refine Run.pure (dd := some 14) rfl rfl (op_loadn_fz rfl (Opd.tmp _ _ rfl) tR) ?_ | refine Run.load (dd := some 14) rfl rfl (op_loadn_refs rfl (Opd.tmp _ _ rfl) tH tR tR) ?_
  refine Run.pure (dd := some 15) rfl rfl (op_call_pure (fun _ => check_c _ (by assumption)) rfl (Opd.func _) (Opds.cons _ _ _ _ (Opd.tmp _ _ rfl) Opds.nil)) ?_
  refine Run.pure (dd := some 16) rfl rfl (op_neq rfl (Opd.tmp _ _ rfl) (Opd.const _)) ?_
  first | refine Run.pure (dd := some 17) rfl rfl (op_move rfl (Opd.tmp _ _ rfl)) ?_ | refine Run.pure (dd := some 17) rfl rfl (op_junk (.inl rfl)) ?_
  first | refine Run.pureG (dd := some 18) rfl rfl rfl tG (op_move rfl (Opd.tmp _ _ rfl)) ?_ | refine Run.pureG (dd := some 18) rfl rfl rfl tG (op_junk (.inl rfl)) ?_
  refine Run.pureG (dd := some 19) rfl rfl rfl tG (op_lss rfl (Opd.topt _ _ _ rfl tO) (Opd.const _)) ?_
  refine Run.pure (dd := some 20) rfl rfl (op_pick_or rfl (Opd.tmp _ _ rfl) (Opd.topt _ _ _ rfl tO)) ?_
  first | refine Run.pure (dd := some 21) rfl rfl (op_move rfl (Opd.tmp _ _ rfl)) ?_ | refine Run.pure (dd := some 21) rfl rfl (op_junk (.inl rfl)) ?_
  first | refine Run.pureG (dd := some 22) rfl rfl rfl tG (op_move rfl (Opd.tmp _ _ rfl)) ?_ | refine Run.pureG (dd := some 22) rfl rfl rfl tG (op_junk (.inl rfl)) ?_
  first | refine Run.pureG (dd := some 23) rfl rfl rfl tG (op_fld_ptr (by decide) rfl (Opd.tmp _ _ rfl)) ?_ | refine Run.pureG (dd := some 23) rfl rfl rfl tG (op_fld_fz (by decide) rfl (Opd.tmp _ _ rfl) tR) ?_
  first | refine Run.loadG (dd := some 24) rfl rfl rfl tG (op_load1_flat rfl (Opd.topt _ _ _ rfl tO) tH rfl) ?_ | refine Run.pureG (dd := some 24) rfl rfl rfl tG (op_load1_fz rfl (Opd.topt _ _ _ rfl tO) rfl) ?_ | refine Run.loadG (dd := some 24) rfl rfl rfl tG (op_load1_refs rfl (Opd.topt _ _ _ rfl tO) tH rfl) ?_
  first | refine Run.pureG (dd := some 25) rfl rfl rfl tG (op_len_fz rfl (by first | exact Opd.topt _ _ _ rfl tO | exact Opd.nil _ _ (Opd.topt _ _ _ rfl tO)) (by first | exact List.length_map _ | rfl)) ?_ | refine Run.pureG (dd := some 25) rfl rfl rfl tG (op_len_sl rfl (Opd.topt _ _ _ rfl tO)) ?_
  refine Run.pureG (dd := some 26) rfl rfl rfl tG (op_geq rfl (Opd.topt _ _ _ rfl tO) (Opd.topt _ _ _ rfl tO)) ?_
  refine Run.pure (dd := some 27) rfl rfl (op_pick_or rfl (Opd.tmp _ _ rfl) (Opd.topt _ _ _ rfl tO)) ?_
  refine Run.nil (FinR.mk ?_)
  refine nK ?_
  refine n_cond _ rfl (fun hb => ?_) (fun hb => ?_)
  · refine nK ?_
    refine s_reg rfl ?_
    refine Run.pure (dd := some 28) rfl rfl (op_call_pure (fun _ => lives_c) rfl (Opd.func _) Opds.nil) ?_
    first | refine Run.pure (dd := some 6) rfl rfl (op_assign rfl (Opd.tmp _ _ rfl)) ?_ | refine Run.pure (dd := some 6) rfl rfl (op_junk (.inr rfl)) ?_
    refine Run.nil (FinR.mk ?_)
    refine nK ?_
    refine s_oB hC rfl rfl ?_
    rfl
  · have h1 : checkI g = 0 ∧ 0 ≤ a ∧ a < g.es.length := by simp at hb; omega
    obtain ⟨hz, ha0, ha1⟩ := h1
    obtain ⟨k, rfl⟩ := Int.eq_ofNat_of_zero_le ha0
    have hk : k < g.es.length := by omega
    have hr1 := row_at' encE g.es k hk
    have s1 := app_same hz hk
    have s2 := app_gone hz hk
    have s3 := fun (hr : g.es[k].f < g.r) (h1 : 1 ≤ c) (h2 : c ≤ 65535) => app_set hz hk hr h1 h2
    have hoe := hg.2.2 g.es[k] (List.getElem_mem hk)
    have hdn := delL_len g.es k (k + 1) (by omega) (by omega)
    have hgl := (checkI_ok hz).2.1
    generalize hx : g.es[k] = x at *
    obtain ⟨hx1, hx2, hx3⟩ := hoe
    have q1 := apply_c g [⟨x.f, x.t, x.c⟩] hg (by simp)
    have q2 := apply_c g [⟨x.f, x.t, -1⟩] hg (by simp)
    have q3 := apply_c g [⟨x.f, x.t, c⟩, ⟨x.f, x.t, -1⟩] hg (by simp)
    rw [s1] at q1
    rw [s2] at q2
    generalize delL g.es k (k + 1) = d at *
    refine nK ?_
    refine s_reg rfl ?_
    first | refine Run.pure (dd := some 29) rfl rfl (op_fld_ptr (by decide) rfl (Opd.tmp _ _ rfl)) ?_ | refine Run.pure (dd := some 29) rfl rfl (op_fld_fz (by decide) rfl (Opd.tmp _ _ rfl) tR) ?_
    first | refine Run.load (dd := some 30) rfl rfl (op_load1_flat rfl (Opd.tmp _ _ rfl) tH rfl) ?_ | refine Run.pure (dd := some 30) rfl rfl (op_load1_fz rfl (Opd.tmp _ _ rfl) rfl) ?_ | refine Run.load (dd := some 30) rfl rfl (op_load1_refs rfl (Opd.tmp _ _ rfl) tH rfl) ?_
    first | refine Run.pure (dd := some 31) rfl rfl (op_move rfl (Opd.tmp _ _ rfl)) ?_ | refine Run.pure (dd := some 31) rfl rfl (op_junk (.inl rfl)) ?_
    refine Run.pure (dd := some 32) rfl rfl (op_idx_fz k rfl (Opd.tmp _ _ rfl) (Opd.tmp _ _ rfl) (by intro _; exact ⟨rfl, hr1⟩)) ?_
    first | refine Run.load (dd := some 33) rfl rfl (op_loadw_flat rfl (Opd.tmp _ _ rfl) tH rfl) ?_ | refine Run.pure (dd := some 33) rfl rfl (op_loadw_fz rfl (Opd.tmp _ _ rfl) rfl) ?_ | refine Run.load (dd := some 33) rfl rfl (op_loadn_flat rfl (Opd.tmp _ _ rfl) tH tR tR) ?_ | refine Run.pure (dd := some 33) rfl rfl (op_loadn_fz rfl (Opd.tmp _ _ rfl) tR) ?_ | refine Run.load (dd := some 33) rfl rfl (op_loadn_refs rfl (Opd.tmp _ _ rfl) tH tR tR) ?_
    refine Run.eff (dd := some 7) rfl rfl (op_alloc rfl rfl rfl rfl) ?_
    first | refine Run.eff (dd := none) rfl rfl (op_store_flat rfl (Opd.tmp _ _ rfl) (Opd.tmp _ _ rfl) tC rfl rfl (by first | rfl | assumption) tS) ?_ | refine Run.eff (dd := none) rfl rfl (op_store_refs rfl (Opd.tmp _ _ rfl) (Opd.tmp _ _ rfl) tP rfl rfl rfl tS) ?_
    refine Run.nil (FinR.mk ?_)
    refine nK ?_
    refine s_reg rfl ?_
    first | refine Run.load (dd := some 35) rfl rfl (op_loadw_flat rfl (Opd.tmp _ _ rfl) tH rfl) ?_ | refine Run.pure (dd := some 35) rfl rfl (op_loadw_fz rfl (Opd.tmp _ _ rfl) rfl) ?_ | refine Run.load (dd := some 35) rfl rfl (op_loadn_flat rfl (Opd.tmp _ _ rfl) tH tR tR) ?_ | refine Run.pure (dd := some 35) rfl rfl (op_loadn_fz rfl (Opd.tmp _ _ rfl) tR) ?_ | refine Run.load (dd := some 35) rfl rfl (op_loadn_refs rfl (Opd.tmp _ _ rfl) tH tR tR) ?_
    first | refine Run.pure (dd := some 36) rfl rfl (op_fld_ptr (by decide) rfl (Opd.tmp _ _ rfl)) ?_ | refine Run.pure (dd := some 36) rfl rfl (op_fld_fz (by decide) rfl (Opd.tmp _ _ rfl) tR) ?_
    first | refine Run.load (dd := some 37) rfl rfl (op_load1_flat rfl (Opd.tmp _ _ rfl) tH rfl) ?_ | refine Run.pure (dd := some 37) rfl rfl (op_load1_fz rfl (Opd.tmp _ _ rfl) rfl) ?_ | refine Run.load (dd := some 37) rfl rfl (op_load1_refs rfl (Opd.tmp _ _ rfl) tH rfl) ?_
    first | refine Run.pure (dd := some 38) rfl rfl (op_fld_ptr (by decide) rfl (Opd.tmp _ _ rfl)) ?_ | refine Run.pure (dd := some 38) rfl rfl (op_fld_fz (by decide) rfl (Opd.tmp _ _ rfl) tR) ?_
    first | refine Run.load (dd := some 39) rfl rfl (op_load1_flat rfl (Opd.tmp _ _ rfl) tH rfl) ?_ | refine Run.pure (dd := some 39) rfl rfl (op_load1_fz rfl (Opd.tmp _ _ rfl) rfl) ?_ | refine Run.load (dd := some 39) rfl rfl (op_load1_refs rfl (Opd.tmp _ _ rfl) tH rfl) ?_
    first | refine Run.pure (dd := some 40) rfl rfl (op_fld_ptr (by decide) rfl (Opd.tmp _ _ rfl)) ?_ | refine Run.pure (dd := some 40) rfl rfl (op_fld_fz (by decide) rfl (Opd.tmp _ _ rfl) tR) ?_
    first | refine Run.load (dd := some 41) rfl rfl (op_load1_flat rfl (Opd.tmp _ _ rfl) tH rfl) ?_ | refine Run.pure (dd := some 41) rfl rfl (op_load1_fz rfl (Opd.tmp _ _ rfl) rfl) ?_ | refine Run.load (dd := some 41) rfl rfl (op_load1_refs rfl (Opd.tmp _ _ rfl) tH rfl) ?_
    first | refine Run.pure (dd := some 42) rfl rfl (op_build rfl rfl rfl (FillF.cons _ _ _ _ _ _ _ _ _ _ (by rfl) (Opd.tmp _ _ rfl) tC (by rfl) tR (FillF.cons _ _ _ _ _ _ _ _ _ _ (by rfl) (Opd.tmp _ _ rfl) tC (by rfl) tR (FillF.cons _ _ _ _ _ _ _ _ _ _ (by rfl) (Opd.tmp _ _ rfl) tC (by rfl) tR (FillF.nil _))))) ?_ | refine Run.pure (dd := some 42) rfl rfl (op_buildP rfl rfl rfl rfl (FillP.cons _ _ _ _ _ _ _ _ _ _ (by rfl) (Opd.tmp _ _ rfl) tP (by rfl) tR (FillP.cons _ _ _ _ _ _ _ _ _ _ (by rfl) (Opd.tmp _ _ rfl) tP (by rfl) tR (FillP.cons _ _ _ _ _ _ _ _ _ _ (by rfl) (Opd.tmp _ _ rfl) tP (by rfl) tR (FillP.nil _))))) ?_
    refine Run.pure (dd := some 43) rfl rfl (op_buildSlice_fz rfl (RowsF.cons _ _ _ _ _ _ (Opd.tmp _ _ rfl) tC (by rfl) (RowsF.nil _)) rfl rfl) ?_
    refine Run.pure (dd := some 44) rfl rfl (op_call_pure (fun _ => q1) rfl (Opd.func _) (Opds.cons _ _ _ _ (Opd.tmp _ _ rfl) (Opds.cons _ _ _ _ (Opd.tmp _ _ rfl) Opds.nil))) ?_
    first | refine Run.pure (dd := some 34) rfl rfl (op_move rfl (Opd.tmp _ _ rfl)) ?_ | refine Run.pure (dd := some 34) rfl rfl (op_junk (.inl rfl)) ?_
    first | refine Run.pure (dd := some 45) rfl rfl (op_extract_fz rfl (Opd.tmp _ _ rfl) rfl) ?_ | refine Run.pure (dd := some 45) rfl rfl (op_extract rfl (Opd.tmp _ _ rfl) rfl) ?_
    first | refine Run.pure (dd := some 46) rfl rfl (op_extract_fz rfl (Opd.tmp _ _ rfl) rfl) ?_ | refine Run.pure (dd := some 46) rfl rfl (op_extract rfl (Opd.tmp _ _ rfl) rfl) ?_
    refine Run.eff (dd := some 8) rfl rfl (op_alloc rfl rfl rfl rfl) ?_
    first | refine Run.eff (dd := none) rfl rfl (op_store_flat rfl (Opd.tmp _ _ rfl) (Opd.tmp _ _ rfl) tC rfl rfl (by first | rfl | assumption) tS) ?_ | refine Run.eff (dd := none) rfl rfl (op_store_refs rfl (Opd.tmp _ _ rfl) (Opd.tmp _ _ rfl) tP rfl rfl rfl tS) ?_
    first | refine Run.pure (dd := some 9) rfl rfl (op_assign rfl (Opd.tmp _ _ rfl)) ?_ | refine Run.pure (dd := some 9) rfl rfl (op_junk (.inr rfl)) ?_
    refine Run.nil (FinR.mk ?_)
    refine nK ?_
    refine s_reg rfl ?_
    first | refine Run.load (dd := some 48) rfl rfl (op_loadw_flat rfl (Opd.tmp _ _ rfl) tH rfl) ?_ | refine Run.pure (dd := some 48) rfl rfl (op_loadw_fz rfl (Opd.tmp _ _ rfl) rfl) ?_ | refine Run.load (dd := some 48) rfl rfl (op_loadn_flat rfl (Opd.tmp _ _ rfl) tH tR tR) ?_ | refine Run.pure (dd := some 48) rfl rfl (op_loadn_fz rfl (Opd.tmp _ _ rfl) tR) ?_ | refine Run.load (dd := some 48) rfl rfl (op_loadn_refs rfl (Opd.tmp _ _ rfl) tH tR tR) ?_
    first | refine Run.pure (dd := some 49) rfl rfl (op_fld_ptr (by decide) rfl (Opd.tmp _ _ rfl)) ?_ | refine Run.pure (dd := some 49) rfl rfl (op_fld_fz (by decide) rfl (Opd.tmp _ _ rfl) tR) ?_
    first | refine Run.load (dd := some 50) rfl rfl (op_load1_flat rfl (Opd.tmp _ _ rfl) tH rfl) ?_ | refine Run.pure (dd := some 50) rfl rfl (op_load1_fz rfl (Opd.tmp _ _ rfl) rfl) ?_ | refine Run.load (dd := some 50) rfl rfl (op_load1_refs rfl (Opd.tmp _ _ rfl) tH rfl) ?_
    first | refine Run.pure (dd := some 51) rfl rfl (op_fld_ptr (by decide) rfl (Opd.tmp _ _ rfl)) ?_ | refine Run.pure (dd := some 51) rfl rfl (op_fld_fz (by decide) rfl (Opd.tmp _ _ rfl) tR) ?_
    first | refine Run.load (dd := some 52) rfl rfl (op_load1_flat rfl (Opd.tmp _ _ rfl) tH rfl) ?_ | refine Run.pure (dd := some 52) rfl rfl (op_load1_fz rfl (Opd.tmp _ _ rfl) rfl) ?_ | refine Run.load (dd := some 52) rfl rfl (op_load1_refs rfl (Opd.tmp _ _ rfl) tH rfl) ?_
    first | refine Run.pure (dd := some 53) rfl rfl (op_build rfl rfl rfl (FillF.cons _ _ _ _ _ _ _ _ _ _ (by rfl) (Opd.tmp _ _ rfl) tC (by rfl) tR (FillF.cons _ _ _ _ _ _ _ _ _ _ (by rfl) (Opd.tmp _ _ rfl) tC (by rfl) tR (FillF.cons _ _ _ _ _ _ _ _ _ _ (by rfl) (Opd.const _) tC (by rfl) tR (FillF.nil _))))) ?_ | refine Run.pure (dd := some 53) rfl rfl (op_buildP rfl rfl rfl rfl (FillP.cons _ _ _ _ _ _ _ _ _ _ (by rfl) (Opd.tmp _ _ rfl) tP (by rfl) tR (FillP.cons _ _ _ _ _ _ _ _ _ _ (by rfl) (Opd.tmp _ _ rfl) tP (by rfl) tR (FillP.cons _ _ _ _ _ _ _ _ _ _ (by rfl) (Opd.const _) tP (by rfl) tR (FillP.nil _))))) ?_
    refine Run.pure (dd := some 54) rfl rfl (op_buildSlice_fz rfl (RowsF.cons _ _ _ _ _ _ (Opd.tmp _ _ rfl) tC (by rfl) (RowsF.nil _)) rfl rfl) ?_
    refine Run.pure (dd := some 55) rfl rfl (op_call_pure (fun _ => q2) rfl (Opd.func _) (Opds.cons _ _ _ _ (Opd.tmp _ _ rfl) (Opds.cons _ _ _ _ (Opd.tmp _ _ rfl) Opds.nil))) ?_
    first | refine Run.pure (dd := some 47) rfl rfl (op_move rfl (Opd.tmp _ _ rfl)) ?_ | refine Run.pure (dd := some 47) rfl rfl (op_junk (.inl rfl)) ?_
    first | refine Run.pure (dd := some 56) rfl rfl (op_extract_fz rfl (Opd.tmp _ _ rfl) rfl) ?_ | refine Run.pure (dd := some 56) rfl rfl (op_extract rfl (Opd.tmp _ _ rfl) rfl) ?_
    first | refine Run.pure (dd := some 57) rfl rfl (op_extract_fz rfl (Opd.tmp _ _ rfl) rfl) ?_ | refine Run.pure (dd := some 57) rfl rfl (op_extract rfl (Opd.tmp _ _ rfl) rfl) ?_
    refine Run.eff (dd := some 10) rfl rfl (op_alloc rfl rfl rfl rfl) ?_
    first | refine Run.eff (dd := none) rfl rfl (op_store_flat rfl (Opd.tmp _ _ rfl) (Opd.tmp _ _ rfl) tC rfl rfl (by first | rfl | assumption) tS) ?_ | refine Run.eff (dd := none) rfl rfl (op_store_refs rfl (Opd.tmp _ _ rfl) (Opd.tmp _ _ rfl) tP rfl rfl rfl tS) ?_
    first | refine Run.pure (dd := some 11) rfl rfl (op_assign rfl (Opd.tmp _ _ rfl)) ?_ | refine Run.pure (dd := some 11) rfl rfl (op_junk (.inr rfl)) ?_
    refine Run.nil (FinR.mk ?_)
    refine nK ?_
    refine s_reg rfl ?_
    first | refine Run.pure (dd := some 58) rfl rfl (op_move rfl (Opd.tmp _ _ rfl)) ?_ | refine Run.pure (dd := some 58) rfl rfl (op_junk (.inl rfl)) ?_
    refine Run.pure (dd := some 59) rfl rfl (op_neq rfl (Opd.tmp _ _ rfl) (Opd.const _)) ?_
    first | refine Run.pure (dd := some 60) rfl rfl (op_move rfl (Opd.tmp _ _ rfl)) ?_ | refine Run.pure (dd := some 60) rfl rfl (op_junk (.inl rfl)) ?_
    first | refine Run.pureG (dd := some 61) rfl rfl rfl tG (op_move rfl (Opd.tmp _ _ rfl)) ?_ | refine Run.pureG (dd := some 61) rfl rfl rfl tG (op_junk (.inl rfl)) ?_
    refine Run.pureG (dd := some 62) rfl rfl rfl tG (op_neq rfl (Opd.topt _ _ _ rfl tO) (Opd.const _)) ?_
    refine Run.pure (dd := some 63) rfl rfl (op_pick_or rfl (Opd.tmp _ _ rfl) (Opd.topt _ _ _ rfl tO)) ?_
    first | refine Run.pure (dd := some 64) rfl rfl (op_move rfl (Opd.tmp _ _ rfl)) ?_ | refine Run.pure (dd := some 64) rfl rfl (op_junk (.inl rfl)) ?_
    first | refine Run.loadG (dd := some 65) rfl rfl rfl tG (op_loadw_flat rfl (Opd.tmp _ _ rfl) tH rfl) ?_ | refine Run.pureG (dd := some 65) rfl rfl rfl tG (op_loadw_fz rfl (Opd.tmp _ _ rfl) rfl) ?_ | refine Run.loadG (dd := some 65) rfl rfl rfl tG (op_loadn_flat rfl (Opd.tmp _ _ rfl) tH tR tR) ?_ | refine Run.pureG (dd := some 65) rfl rfl rfl tG (op_loadn_fz rfl (Opd.tmp _ _ rfl) tR) ?_ | refine Run.loadG (dd := some 65) rfl rfl rfl tG (op_loadn_refs rfl (Opd.tmp _ _ rfl) tH tR tR) ?_
    first | refine Run.loadG (dd := some 66) rfl rfl rfl tG (op_loadw_flat rfl (Opd.tmp _ _ rfl) tH rfl) ?_ | refine Run.pureG (dd := some 66) rfl rfl rfl tG (op_loadw_fz rfl (Opd.tmp _ _ rfl) rfl) ?_ | refine Run.loadG (dd := some 66) rfl rfl rfl tG (op_loadn_flat rfl (Opd.tmp _ _ rfl) tH tR tR) ?_ | refine Run.pureG (dd := some 66) rfl rfl rfl tG (op_loadn_fz rfl (Opd.tmp _ _ rfl) tR) ?_ | refine Run.loadG (dd := some 66) rfl rfl rfl tG (op_loadn_refs rfl (Opd.tmp _ _ rfl) tH tR tR) ?_
    refine Run.pureG (dd := some 67) rfl rfl rfl tG (op_call_pure (fun _ => same_c _ _ (by first | omega | (dsimp only; omega)) (by first | omega | (dsimp only; omega))) rfl (Opd.func _) (Opds.cons _ _ _ _ (Opd.topt _ _ _ rfl tO) (Opds.cons _ _ _ _ (Opd.topt _ _ _ rfl tO) Opds.nil))) ?_
    refine Run.pureG (dd := some 68) rfl rfl rfl tG (op_not rfl (Opd.topt _ _ _ rfl tO)) ?_
    refine Run.pure (dd := some 69) rfl rfl (op_pick_or rfl (Opd.tmp _ _ rfl) (Opd.topt _ _ _ rfl tO)) ?_
    first | refine Run.pure (dd := some 70) rfl rfl (op_move rfl (Opd.tmp _ _ rfl)) ?_ | refine Run.pure (dd := some 70) rfl rfl (op_junk (.inl rfl)) ?_
    first | refine Run.pureG (dd := some 71) rfl rfl rfl tG (op_fld_ptr (by decide) rfl (Opd.tmp _ _ rfl)) ?_ | refine Run.pureG (dd := some 71) rfl rfl rfl tG (op_fld_fz (by decide) rfl (Opd.tmp _ _ rfl) tR) ?_
    first | refine Run.loadG (dd := some 72) rfl rfl rfl tG (op_load1_flat rfl (Opd.topt _ _ _ rfl tO) tH rfl) ?_ | refine Run.pureG (dd := some 72) rfl rfl rfl tG (op_load1_fz rfl (Opd.topt _ _ _ rfl tO) rfl) ?_ | refine Run.loadG (dd := some 72) rfl rfl rfl tG (op_load1_refs rfl (Opd.topt _ _ _ rfl tO) tH rfl) ?_
    first | refine Run.pureG (dd := some 73) rfl rfl rfl tG (op_len_fz rfl (by first | exact Opd.topt _ _ _ rfl tO | exact Opd.nil _ _ (Opd.topt _ _ _ rfl tO)) (by first | exact List.length_map _ | rfl)) ?_ | refine Run.pureG (dd := some 73) rfl rfl rfl tG (op_len_sl rfl (Opd.topt _ _ _ rfl tO)) ?_
    first | refine Run.pureG (dd := some 74) rfl rfl rfl tG (op_fld_ptr (by decide) rfl (Opd.tmp _ _ rfl)) ?_ | refine Run.pureG (dd := some 74) rfl rfl rfl tG (op_fld_fz (by decide) rfl (Opd.tmp _ _ rfl) tR) ?_
    first | refine Run.loadG (dd := some 75) rfl rfl rfl tG (op_load1_flat rfl (Opd.topt _ _ _ rfl tO) tH rfl) ?_ | refine Run.pureG (dd := some 75) rfl rfl rfl tG (op_load1_fz rfl (Opd.topt _ _ _ rfl tO) rfl) ?_ | refine Run.loadG (dd := some 75) rfl rfl rfl tG (op_load1_refs rfl (Opd.topt _ _ _ rfl tO) tH rfl) ?_
    first | refine Run.pureG (dd := some 76) rfl rfl rfl tG (op_len_fz rfl (by first | exact Opd.topt _ _ _ rfl tO | exact Opd.nil _ _ (Opd.topt _ _ _ rfl tO)) (by first | exact List.length_map _ | rfl)) ?_ | refine Run.pureG (dd := some 76) rfl rfl rfl tG (op_len_sl rfl (Opd.topt _ _ _ rfl tO)) ?_
    refine Run.pureG (dd := some 77) rfl rfl rfl tG (op_sub rfl (Opd.topt _ _ _ rfl tO) (Opd.const _) tI) ?_
    refine Run.pureG (dd := some 78) rfl rfl rfl tG (op_neq rfl (Opd.topt _ _ _ rfl tO) (Opd.topt _ _ _ rfl tO)) ?_
    refine Run.pure (dd := some 79) rfl rfl (op_pick_or rfl (Opd.tmp _ _ rfl) (Opd.topt _ _ _ rfl tO)) ?_
    refine Run.nil (FinR.mk ?_)
    refine nK ?_
    refine n_cond _ rfl (fun hb => ?_) (fun hb => ?_)
    · exfalso
      simp at hb
      omega
    · refine nK ?_
      refine s_reg rfl ?_
      first | refine Run.pure (dd := some 80) rfl rfl (op_fld_ptr (by decide) rfl (Opd.tmp _ _ rfl)) ?_ | refine Run.pure (dd := some 80) rfl rfl (op_fld_fz (by decide) rfl (Opd.tmp _ _ rfl) tR) ?_
      first | refine Run.load (dd := some 81) rfl rfl (op_load1_flat rfl (Opd.tmp _ _ rfl) tH rfl) ?_ | refine Run.pure (dd := some 81) rfl rfl (op_load1_fz rfl (Opd.tmp _ _ rfl) rfl) ?_ | refine Run.load (dd := some 81) rfl rfl (op_load1_refs rfl (Opd.tmp _ _ rfl) tH rfl) ?_
      first | refine Run.pure (dd := some 82) rfl rfl (op_fld_ptr (by decide) rfl (Opd.tmp _ _ rfl)) ?_ | refine Run.pure (dd := some 82) rfl rfl (op_fld_fz (by decide) rfl (Opd.tmp _ _ rfl) tR) ?_
      first | refine Run.load (dd := some 83) rfl rfl (op_load1_flat rfl (Opd.tmp _ _ rfl) tH rfl) ?_ | refine Run.pure (dd := some 83) rfl rfl (op_load1_fz rfl (Opd.tmp _ _ rfl) rfl) ?_ | refine Run.load (dd := some 83) rfl rfl (op_load1_refs rfl (Opd.tmp _ _ rfl) tH rfl) ?_
      refine Run.pure (dd := some 84) rfl rfl (op_geq rfl (Opd.tmp _ _ rfl) (Opd.tmp _ _ rfl)) ?_
      first | refine Run.pure (dd := some 85) rfl rfl (op_move rfl (Opd.tmp _ _ rfl)) ?_ | refine Run.pure (dd := some 85) rfl rfl (op_junk (.inl rfl)) ?_
      first | refine Run.pureG (dd := some 86) rfl rfl rfl tG (op_move rfl (Opd.tmp _ _ rfl)) ?_ | refine Run.pureG (dd := some 86) rfl rfl rfl tG (op_junk (.inl rfl)) ?_
      refine Run.pureG (dd := some 87) rfl rfl rfl tG (op_lss rfl (Opd.topt _ _ _ rfl tO) (Opd.const _)) ?_
      refine Run.pure (dd := some 88) rfl rfl (op_pick_or rfl (Opd.tmp _ _ rfl) (Opd.topt _ _ _ rfl tO)) ?_
      first | refine Run.pure (dd := some 89) rfl rfl (op_move rfl (Opd.tmp _ _ rfl)) ?_ | refine Run.pure (dd := some 89) rfl rfl (op_junk (.inl rfl)) ?_
      first | refine Run.pureG (dd := some 90) rfl rfl rfl tG (op_move rfl (Opd.tmp _ _ rfl)) ?_ | refine Run.pureG (dd := some 90) rfl rfl rfl tG (op_junk (.inl rfl)) ?_
      refine Run.pureG (dd := some 91) rfl rfl rfl tG (op_gtr rfl (Opd.topt _ _ _ rfl tO) (Opd.const _)) ?_
      refine Run.pure (dd := some 92) rfl rfl (op_pick_or rfl (Opd.tmp _ _ rfl) (Opd.topt _ _ _ rfl tO)) ?_
      refine Run.nil (FinR.mk ?_)
      refine nK ?_
      refine n_cond _ rfl (fun hb => ?_) (fun hb => ?_)
      · refine nK ?_
        refine s_reg rfl ?_
        refine Run.pure (dd := some 93) rfl rfl (op_call_pure (fun _ => lives_c) rfl (Opd.func _) Opds.nil) ?_
        first | refine Run.pure (dd := some 6) rfl rfl (op_assign rfl (Opd.tmp _ _ rfl)) ?_ | refine Run.pure (dd := some 6) rfl rfl (op_junk (.inr rfl)) ?_
        refine Run.nil (FinR.mk ?_)
        refine nK ?_
        refine s_oB hC rfl rfl ?_
        rfl
      · have h3 : x.f < g.r ∧ 1 ≤ c ∧ c ≤ 65535 := by simp at hb; omega
        rw [s3 h3.1 h3.2.1 h3.2.2] at q3
        refine nK ?_
        refine s_reg rfl ?_
        first | refine Run.load (dd := some 95) rfl rfl (op_loadw_flat rfl (Opd.tmp _ _ rfl) tH rfl) ?_ | refine Run.pure (dd := some 95) rfl rfl (op_loadw_fz rfl (Opd.tmp _ _ rfl) rfl) ?_ | refine Run.load (dd := some 95) rfl rfl (op_loadn_flat rfl (Opd.tmp _ _ rfl) tH tR tR) ?_ | refine Run.pure (dd := some 95) rfl rfl (op_loadn_fz rfl (Opd.tmp _ _ rfl) tR) ?_ | refine Run.load (dd := some 95) rfl rfl (op_loadn_refs rfl (Opd.tmp _ _ rfl) tH tR tR) ?_
        first | refine Run.pure (dd := some 96) rfl rfl (op_fld_ptr (by decide) rfl (Opd.tmp _ _ rfl)) ?_ | refine Run.pure (dd := some 96) rfl rfl (op_fld_fz (by decide) rfl (Opd.tmp _ _ rfl) tR) ?_
        first | refine Run.load (dd := some 97) rfl rfl (op_load1_flat rfl (Opd.tmp _ _ rfl) tH rfl) ?_ | refine Run.pure (dd := some 97) rfl rfl (op_load1_fz rfl (Opd.tmp _ _ rfl) rfl) ?_ | refine Run.load (dd := some 97) rfl rfl (op_load1_refs rfl (Opd.tmp _ _ rfl) tH rfl) ?_
        first | refine Run.pure (dd := some 98) rfl rfl (op_fld_ptr (by decide) rfl (Opd.tmp _ _ rfl)) ?_ | refine Run.pure (dd := some 98) rfl rfl (op_fld_fz (by decide) rfl (Opd.tmp _ _ rfl) tR) ?_
        first | refine Run.load (dd := some 99) rfl rfl (op_load1_flat rfl (Opd.tmp _ _ rfl) tH rfl) ?_ | refine Run.pure (dd := some 99) rfl rfl (op_load1_fz rfl (Opd.tmp _ _ rfl) rfl) ?_ | refine Run.load (dd := some 99) rfl rfl (op_load1_refs rfl (Opd.tmp _ _ rfl) tH rfl) ?_
        first | refine Run.pure (dd := some 100) rfl rfl (op_move rfl (Opd.tmp _ _ rfl)) ?_ | refine Run.pure (dd := some 100) rfl rfl (op_junk (.inl rfl)) ?_
        first | refine Run.pure (dd := some 101) rfl rfl (op_build rfl rfl rfl (FillF.cons _ _ _ _ _ _ _ _ _ _ (by rfl) (Opd.tmp _ _ rfl) tC (by rfl) tR (FillF.cons _ _ _ _ _ _ _ _ _ _ (by rfl) (Opd.tmp _ _ rfl) tC (by rfl) tR (FillF.cons _ _ _ _ _ _ _ _ _ _ (by rfl) (Opd.tmp _ _ rfl) tC (by rfl) tR (FillF.nil _))))) ?_ | refine Run.pure (dd := some 101) rfl rfl (op_buildP rfl rfl rfl rfl (FillP.cons _ _ _ _ _ _ _ _ _ _ (by rfl) (Opd.tmp _ _ rfl) tP (by rfl) tR (FillP.cons _ _ _ _ _ _ _ _ _ _ (by rfl) (Opd.tmp _ _ rfl) tP (by rfl) tR (FillP.cons _ _ _ _ _ _ _ _ _ _ (by rfl) (Opd.tmp _ _ rfl) tP (by rfl) tR (FillP.nil _))))) ?_
        first | refine Run.pure (dd := some 102) rfl rfl (op_fld_ptr (by decide) rfl (Opd.tmp _ _ rfl)) ?_ | refine Run.pure (dd := some 102) rfl rfl (op_fld_fz (by decide) rfl (Opd.tmp _ _ rfl) tR) ?_
        first | refine Run.load (dd := some 103) rfl rfl (op_load1_flat rfl (Opd.tmp _ _ rfl) tH rfl) ?_ | refine Run.pure (dd := some 103) rfl rfl (op_load1_fz rfl (Opd.tmp _ _ rfl) rfl) ?_ | refine Run.load (dd := some 103) rfl rfl (op_load1_refs rfl (Opd.tmp _ _ rfl) tH rfl) ?_
        first | refine Run.pure (dd := some 104) rfl rfl (op_fld_ptr (by decide) rfl (Opd.tmp _ _ rfl)) ?_ | refine Run.pure (dd := some 104) rfl rfl (op_fld_fz (by decide) rfl (Opd.tmp _ _ rfl) tR) ?_
        first | refine Run.load (dd := some 105) rfl rfl (op_load1_flat rfl (Opd.tmp _ _ rfl) tH rfl) ?_ | refine Run.pure (dd := some 105) rfl rfl (op_load1_fz rfl (Opd.tmp _ _ rfl) rfl) ?_ | refine Run.load (dd := some 105) rfl rfl (op_load1_refs rfl (Opd.tmp _ _ rfl) tH rfl) ?_
        first | refine Run.pure (dd := some 106) rfl rfl (op_build rfl rfl rfl (FillF.cons _ _ _ _ _ _ _ _ _ _ (by rfl) (Opd.tmp _ _ rfl) tC (by rfl) tR (FillF.cons _ _ _ _ _ _ _ _ _ _ (by rfl) (Opd.tmp _ _ rfl) tC (by rfl) tR (FillF.cons _ _ _ _ _ _ _ _ _ _ (by rfl) (Opd.const _) tC (by rfl) tR (FillF.nil _))))) ?_ | refine Run.pure (dd := some 106) rfl rfl (op_buildP rfl rfl rfl rfl (FillP.cons _ _ _ _ _ _ _ _ _ _ (by rfl) (Opd.tmp _ _ rfl) tP (by rfl) tR (FillP.cons _ _ _ _ _ _ _ _ _ _ (by rfl) (Opd.tmp _ _ rfl) tP (by rfl) tR (FillP.cons _ _ _ _ _ _ _ _ _ _ (by rfl) (Opd.const _) tP (by rfl) tR (FillP.nil _))))) ?_
        refine Run.pure (dd := some 107) rfl rfl (op_buildSlice_fz rfl (RowsF.cons _ _ _ _ _ _ (Opd.tmp _ _ rfl) tC (by rfl) (RowsF.cons _ _ _ _ _ _ (Opd.tmp _ _ rfl) tC (by rfl) (RowsF.nil _))) rfl rfl) ?_
        refine Run.pure (dd := some 108) rfl rfl (op_call_pure (fun _ => q3) rfl (Opd.func _) (Opds.cons _ _ _ _ (Opd.tmp _ _ rfl) (Opds.cons _ _ _ _ (Opd.tmp _ _ rfl) Opds.nil))) ?_
        first | refine Run.pure (dd := some 94) rfl rfl (op_move rfl (Opd.tmp _ _ rfl)) ?_ | refine Run.pure (dd := some 94) rfl rfl (op_junk (.inl rfl)) ?_
        first | refine Run.pure (dd := some 109) rfl rfl (op_extract_fz rfl (Opd.tmp _ _ rfl) rfl) ?_ | refine Run.pure (dd := some 109) rfl rfl (op_extract rfl (Opd.tmp _ _ rfl) rfl) ?_
        first | refine Run.pure (dd := some 110) rfl rfl (op_extract_fz rfl (Opd.tmp _ _ rfl) rfl) ?_ | refine Run.pure (dd := some 110) rfl rfl (op_extract rfl (Opd.tmp _ _ rfl) rfl) ?_
        refine Run.eff (dd := some 12) rfl rfl (op_alloc rfl rfl rfl rfl) ?_
        first | refine Run.eff (dd := none) rfl rfl (op_store_flat rfl (Opd.tmp _ _ rfl) (Opd.tmp _ _ rfl) tC rfl rfl (by first | rfl | assumption) tS) ?_ | refine Run.eff (dd := none) rfl rfl (op_store_refs rfl (Opd.tmp _ _ rfl) (Opd.tmp _ _ rfl) tP rfl rfl rfl tS) ?_
        first | refine Run.pure (dd := some 13) rfl rfl (op_assign rfl (Opd.tmp _ _ rfl)) ?_ | refine Run.pure (dd := some 13) rfl rfl (op_junk (.inr rfl)) ?_
        refine Run.nil (FinR.mk ?_)
        refine nK ?_
        refine s_reg rfl ?_
        first | refine Run.pure (dd := some 111) rfl rfl (op_move rfl (Opd.tmp _ _ rfl)) ?_ | refine Run.pure (dd := some 111) rfl rfl (op_junk (.inl rfl)) ?_
        refine Run.pure (dd := some 112) rfl rfl (op_eql rfl (Opd.tmp _ _ rfl) (Opd.const _)) ?_
        first | refine Run.pure (dd := some 113) rfl rfl (op_move rfl (Opd.tmp _ _ rfl)) ?_ | refine Run.pure (dd := some 113) rfl rfl (op_junk (.inl rfl)) ?_
        first | refine Run.loadG (dd := some 114) rfl rfl rfl tG (op_loadw_flat rfl (Opd.tmp _ _ rfl) tH rfl) ?_ | refine Run.pureG (dd := some 114) rfl rfl rfl tG (op_loadw_fz rfl (Opd.tmp _ _ rfl) rfl) ?_ | refine Run.loadG (dd := some 114) rfl rfl rfl tG (op_loadn_flat rfl (Opd.tmp _ _ rfl) tH tR tR) ?_ | refine Run.pureG (dd := some 114) rfl rfl rfl tG (op_loadn_fz rfl (Opd.tmp _ _ rfl) tR) ?_ | refine Run.loadG (dd := some 114) rfl rfl rfl tG (op_loadn_refs rfl (Opd.tmp _ _ rfl) tH tR tR) ?_
        first | refine Run.loadG (dd := some 115) rfl rfl rfl tG (op_loadw_flat rfl (Opd.tmp _ _ rfl) tH rfl) ?_ | refine Run.pureG (dd := some 115) rfl rfl rfl tG (op_loadw_fz rfl (Opd.tmp _ _ rfl) rfl) ?_ | refine Run.loadG (dd := some 115) rfl rfl rfl tG (op_loadn_flat rfl (Opd.tmp _ _ rfl) tH tR tR) ?_ | refine Run.pureG (dd := some 115) rfl rfl rfl tG (op_loadn_fz rfl (Opd.tmp _ _ rfl) tR) ?_ | refine Run.loadG (dd := some 115) rfl rfl rfl tG (op_loadn_refs rfl (Opd.tmp _ _ rfl) tH tR tR) ?_
        refine Run.pureG (dd := some 116) rfl rfl rfl tG (op_call_pure (fun _ => same_c _ _ (by first | omega | (dsimp only; omega)) (by first | omega | (dsimp only; omega))) rfl (Opd.func _) (Opds.cons _ _ _ _ (Opd.topt _ _ _ rfl tO) (Opds.cons _ _ _ _ (Opd.topt _ _ _ rfl tO) Opds.nil))) ?_
        refine Run.pure (dd := some 117) rfl rfl (op_pick_and rfl (Opd.tmp _ _ rfl) (Opd.topt _ _ _ rfl tO)) ?_
        first | refine Run.pure (dd := some 118) rfl rfl (op_move rfl (Opd.tmp _ _ rfl)) ?_ | refine Run.pure (dd := some 118) rfl rfl (op_junk (.inl rfl)) ?_
        refine Run.pureG (dd := some 119) rfl rfl rfl tG (op_call_pure (fun _ => lives_c) rfl (Opd.func _) Opds.nil) ?_
        refine Run.pure (dd := some 120) rfl rfl (op_pick_and rfl (Opd.tmp _ _ rfl) (Opd.topt _ _ _ rfl tO)) ?_
        first | refine Run.pure (dd := some 6) rfl rfl (op_assign rfl (Opd.tmp _ _ rfl)) ?_ | refine Run.pure (dd := some 6) rfl rfl (op_junk (.inr rfl)) ?_
        refine Run.nil (FinR.mk ?_)
        refine nK ?_
        refine s_oB hC rfl rfl ?_
        simp
end Go.Proofs.Ytelnedgopdlnkaa
/- How the arguments of the rows read. -/
namespace Go.Proofs.Ytelnedgopdlnkaa
open Go Go.RT Go.Proofs Go.Pl
set_option linter.all false
variable {H : Type} {enc : TypeId × Value → H} {W : World} {ok : DataW H → Prop} {B : Nat}
theorem rdc_n : RdC ok enc Try.prog W 3 (fun fs => ∃ n, inr .i64 n ∧ fs = [If .i64 n]) := rdc_int (P := Try.prog) (t := 3) inferInstance
theorem rdc_edge (dn : DnOk H ok B) : RdC ok enc Try.prog W 39 (fun fs => ∃ e : Edg, okE e ∧ fs = encE e) :=
  (rdc_struct (P := Try.prog) (t := 39) dn Try.underlying39 (by kernel_rfl) (.cons _ _ _ _ rdc_n (.cons _ _ _ _ rdc_n (.cons _ _ _ _ rdc_n .nil)))).imp fun fs h => by
    obtain ⟨_, _, rfl, ⟨a, ha, rfl⟩, _, _, rfl, ⟨b, hb, rfl⟩, _, _, rfl, ⟨c, hc, rfl⟩, rfl⟩ := h
    exact ⟨⟨a, b, c⟩, ⟨ha, hb, hc⟩, rfl⟩
theorem rdc_edges (dn : DnOk H ok B) : RdC ok enc Try.prog W 22 (fun fs => ∃ l : List Edg, okEs l ∧ l.length ≤ B ∧ fs = [VE l]) :=
  (rdc_slice (P := Try.prog) (t := 22) (e := 39) dn inferInstance inferInstance (by decide) (rdc_edge dn)).imp fun fs h => by
    obtain ⟨rows, hr, hl, rfl⟩ := h
    obtain ⟨l, rfl, ho⟩ := rows_of (fun fs h => h) hr
    exact ⟨l, ho, by simpa using hl, rfl⟩
theorem rdc_graph (dn : DnOk H ok B) : RdC ok enc Try.prog W 24 (fun fs => ∃ g : Gr, okG g ∧ g.es.length ≤ B ∧ fs = encG g) :=
  (rdc_struct (P := Try.prog) (t := 24) dn Try.underlying24 (by kernel_rfl) (.cons _ _ _ _ rdc_n (.cons _ _ _ _ rdc_n (.cons _ _ _ _ (rdc_edges dn) .nil)))).imp fun fs h => by
    obtain ⟨_, _, rfl, ⟨a, ha, rfl⟩, _, _, rfl, ⟨b, hb, rfl⟩, _, _, rfl, ⟨l, hl, hB, rfl⟩, rfl⟩ := h
    exact ⟨⟨a, b, l⟩, ⟨ha, hb, hl⟩, hB, rfl⟩
theorem rdc_chg (dn : DnOk H ok B) : RdC ok enc Try.prog W 53 (fun fs => ∃ e : Edg, okE e ∧ fs = encE e) :=
  (rdc_struct (P := Try.prog) (t := 53) dn Try.underlying53 (by kernel_rfl) (.cons _ _ _ _ rdc_n (.cons _ _ _ _ rdc_n (.cons _ _ _ _ rdc_n .nil)))).imp fun fs h => by
    obtain ⟨_, _, rfl, ⟨a, ha, rfl⟩, _, _, rfl, ⟨b, hb, rfl⟩, _, _, rfl, ⟨c, hc, rfl⟩, rfl⟩ := h
    exact ⟨⟨a, b, c⟩, ⟨ha, hb, hc⟩, rfl⟩
theorem rdc_chgs (dn : DnOk H ok B) : RdC ok enc Try.prog W 49 (fun fs => ∃ l : List Edg, okEs l ∧ l.length ≤ B ∧ fs = [VE l]) :=
  (rdc_slice (P := Try.prog) (t := 49) (e := 53) dn inferInstance inferInstance (by decide) (rdc_chg dn)).imp fun fs h => by
    obtain ⟨rows, hr, hl, rfl⟩ := h
    obtain ⟨l, rfl, ho⟩ := rows_of (fun fs h => h) hr
    exact ⟨l, ho, by simpa using hl, rfl⟩
end Go.Proofs.Ytelnedgopdlnkaa
