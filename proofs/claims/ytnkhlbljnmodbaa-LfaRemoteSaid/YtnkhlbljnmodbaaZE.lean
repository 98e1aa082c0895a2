/- A part of the proof: U41, U11, U12, SRT1, U13, U14, U15, U16, U17, U18, U20, U30, U31, U32, U34, U27. -/
import Derived.Test.YtnkhlbljnmodbaaZD
import Derived.Shelf.SlSortCmp.Whole1
set_option linter.all false
namespace Go.Proofs.Ytnkhlbljnmodbaa
open Go Go.RT Go.Proofs Go.Pl
set_option linter.all false
set_option maxRecDepth 20000
set_option maxHeartbeats 4000000
theorem lat_c (ll : List (List Int)) (x y : Int) : Pure Try.prog 25 [VLL ll, If .i64 x, If .i64 y] (.tup [If .i64 (getL ll x y).1, Bf (getL ll x y).2]) := by
 have hr1 : ¬ (x < 0 ∨ (ll.length : Int) ≤ x) → (ll.map encL)[x.toNat]? = some [VI (rowAt' ll x.toNat)] := fun h => row_of encL ll x.toNat [] (by omega)
 refine Meets.intro Try.func25 rfl (Nat.le_of_ble_eq_true rfl) fun C hC => ?_
 simp only [List.map, argEnv, Nat.reduceAdd]
 refine nK ?_
 refine s_reg rfl ?_
 refine rp 6 rfl (op_assign rfl oC) ?_
 refine rp 7 rfl (op_assign rfl oC) ?_
 refine rn ?_
 refine nK ?_
 refine s_reg rfl ?_
 refine rm 8 rfl rfl rfl ?_
 refine rp 9 rfl (op_lss rfl (oT rfl) oC) ?_
 refine rm 10 rfl rfl rfl ?_
 refine gm 11 rfl rfl tG rfl rfl ?_
 refine gm 12 rfl rfl tG rfl rfl ?_
 refine rg 13 rfl rfl tG (op_len_fz rfl (by first | exact Opd.topt _ _ _ rfl tO | exact Opd.nil _ _ (oO rfl tO)) (by first | exact List.length_map _ | rfl)) ?_
 refine rg 14 rfl rfl tG (op_geq rfl (oO rfl tO) (oO rfl tO)) ?_
 refine rp 15 rfl (op_pick_or rfl (oT rfl) (oO rfl tO)) ?_
 refine rm 16 rfl rfl rfl ?_
 refine gm 17 rfl rfl tG rfl rfl ?_
 refine rg 18 rfl rfl tG (op_lss rfl (oO rfl tO) oC) ?_
 refine rp 19 rfl (op_pick_or rfl (oT rfl) (oO rfl tO)) ?_
 refine rm 20 rfl rfl rfl ?_
 refine gm 21 rfl rfl tG rfl rfl ?_
 refine gm 22 rfl rfl tG rfl rfl ?_
 refine gm 23 rfl rfl tG rfl rfl ?_
 refine rg 24 rfl rfl tG (op_idx_fz x.toNat rfl (oO rfl tO) (oO rfl tO) (by intro hg; have h2 : ¬ (x < 0 ∨ (ll.length : Int) ≤ x) := (by simp at hg; omega); exact ⟨by omega, hr1 h2⟩)) ?_
 refine rg 25 rfl rfl tG (op_load1_fz rfl (oO rfl tO) rfl) ?_
 refine rg 26 rfl rfl tG (op_len_fz rfl (by first | exact Opd.topt _ _ _ rfl tO | exact Opd.nil _ _ (oO rfl tO)) (by first | exact List.length_map _ | rfl)) ?_
 refine rg 27 rfl rfl tG (op_geq rfl (oO rfl tO) (oO rfl tO)) ?_
 refine rp 28 rfl (op_pick_or rfl (oT rfl) (oO rfl tO)) ?_
 refine rn ?_
 refine nK ?_
 refine n_cond _ rfl (fun hb => ?_) (fun hb => ?_)
 ·have hc : ¬ inT ll x y := fun h => by unfold inT at h; simp only [Bool.or_eq_true, decide_eq_true_eq] at hb; omega
  rw [show getL ll x y = (0, false) from if_neg hc]
  dsimp only
  refine nK ?_
  refine s_reg rfl ?_
  refine rp 6 rfl (op_assign rfl oC) ?_
  refine rp 7 rfl (op_assign rfl oC) ?_
  refine rn ?_
  refine nK ?_
  (first | exact s_o1 hC rfl tV | exact s_o2 hC rfl tV tV | exact s_o3 hC rfl tV tV tV | exact s_out0 hC rfl | exact s_outO hC rfl rfl rfl)
 ·have hc : inT ll x y := by unfold inT; simp only [Bool.or_eq_false_iff, decide_eq_false_iff_not] at hb; omega
  rw [show getL ll x y = (gt0 (rowAt' ll x.toNat) y.toNat, true) from if_pos hc]
  dsimp only
  unfold inT at hc
  have hr0 := hr1 hc.1
  have hr2 : ((rowAt' ll x.toNat).map encN)[y.toNat]? = some [If .i64 (gt0 (rowAt' ll x.toNat) y.toNat)] := row_of encN _ y.toNat 0 (by omega)
  refine nK ?_
  refine s_reg rfl ?_
  refine rm 29 rfl rfl rfl ?_
  refine rm 30 rfl rfl rfl ?_
  refine rp 31 rfl (op_idx_fz x.toNat rfl (oT rfl) (oT rfl) (by intro _; exact ⟨by omega, hr0⟩)) ?_
  refine rp 32 rfl (op_load1_fz rfl (oT rfl) rfl) ?_
  refine rm 33 rfl rfl rfl ?_
  refine rp 34 rfl (op_idx_fz y.toNat rfl (oT rfl) (oT rfl) (by intro _; exact ⟨by omega, hr2⟩)) ?_
  refine rp 35 rfl (op_load1_fz rfl (oT rfl) rfl) ?_
  refine ra 6 rfl rfl rfl ?_
  refine rp 7 rfl (op_assign rfl oC) ?_
  refine rn ?_
  refine nK ?_
  (first | exact s_o1 hC rfl tV | exact s_o2 hC rfl tV tV | exact s_o3 hC rfl tV tV tV | exact s_out0 hC rfl | exact s_outO hC rfl rfl rfl)
theorem lavoids_c (ll : List (List Int)) (n x d : Int) (hok : okT ll) : Pure Try.prog 23 [VLL ll, If .i64 n, If .i64 x, If .i64 d] (Bf (avdL ll n x d)) := by
 have h1 := getL_rng hok n d
 have h2 := getL_rng hok n x
 have h3 := getL_rng hok x d
 unfold avdL
 refine Meets.intro Try.func23 rfl (Nat.le_of_ble_eq_true rfl) fun C hC => ?_
 simp only [List.map, argEnv, Nat.reduceAdd]
 refine nK ?_
 refine s_reg rfl ?_
 refine rp 8 rfl (op_assign rfl oC) ?_
 refine rn ?_
 refine nK ?_
 refine s_reg rfl ?_
 refine rm 16 rfl rfl rfl ?_
 refine rm 17 rfl rfl rfl ?_
 refine rm 18 rfl rfl rfl ?_
 refine rp 19 rfl (op_call_pure (fun _ => lat_c _ _ _) rfl (Opd.func _) (oS (oT rfl) (oS (oT rfl) (oS (oT rfl) Opds.nil)))) ?_
 refine rm 15 rfl rfl rfl ?_
 refine rp 20 rfl (op_extract_fz rfl (oT rfl) rfl) ?_
 refine rp 21 rfl (op_extract_fz rfl (oT rfl) rfl) ?_
 refine ra 9 rfl rfl rfl ?_
 refine ra 10 rfl rfl rfl ?_
 refine rn ?_
 refine nK ?_
 refine s_reg rfl ?_
 refine rm 23 rfl rfl rfl ?_
 refine rm 24 rfl rfl rfl ?_
 refine rm 25 rfl rfl rfl ?_
 refine rp 26 rfl (op_call_pure (fun _ => lat_c _ _ _) rfl (Opd.func _) (oS (oT rfl) (oS (oT rfl) (oS (oT rfl) Opds.nil)))) ?_
 refine rm 22 rfl rfl rfl ?_
 refine rp 27 rfl (op_extract_fz rfl (oT rfl) rfl) ?_
 refine rp 28 rfl (op_extract_fz rfl (oT rfl) rfl) ?_
 refine ra 11 rfl rfl rfl ?_
 refine ra 12 rfl rfl rfl ?_
 refine rn ?_
 refine nK ?_
 refine s_reg rfl ?_
 refine rm 30 rfl rfl rfl ?_
 refine rm 31 rfl rfl rfl ?_
 refine rm 32 rfl rfl rfl ?_
 refine rp 33 rfl (op_call_pure (fun _ => lat_c _ _ _) rfl (Opd.func _) (oS (oT rfl) (oS (oT rfl) (oS (oT rfl) Opds.nil)))) ?_
 refine rm 29 rfl rfl rfl ?_
 refine rp 34 rfl (op_extract_fz rfl (oT rfl) rfl) ?_
 refine rp 35 rfl (op_extract_fz rfl (oT rfl) rfl) ?_
 refine ra 13 rfl rfl rfl ?_
 refine ra 14 rfl rfl rfl ?_
 refine rn ?_
 refine nK ?_
 refine s_reg rfl ?_
 refine rm 36 rfl rfl rfl ?_
 refine rp 37 rfl (op_not rfl (oT rfl)) ?_
 refine rm 38 rfl rfl rfl ?_
 refine gm 39 rfl rfl tG rfl rfl ?_
 refine rg 40 rfl rfl tG (op_not rfl (oO rfl tO)) ?_
 refine rp 41 rfl (op_pick_or rfl (oT rfl) (oO rfl tO)) ?_
 refine rm 42 rfl rfl rfl ?_
 refine gm 43 rfl rfl tG rfl rfl ?_
 refine rg 44 rfl rfl tG (op_not rfl (oO rfl tO)) ?_
 refine rp 45 rfl (op_pick_or rfl (oT rfl) (oO rfl tO)) ?_
 refine rm 46 rfl rfl rfl ?_
 refine gm 47 rfl rfl tG rfl rfl ?_
 refine rg 48 rfl rfl tG (op_lss rfl (oO rfl tO) oC) ?_
 refine rp 49 rfl (op_pick_or rfl (oT rfl) (oO rfl tO)) ?_
 refine rn ?_
 refine nK ?_
 refine n_cond _ rfl (fun hb => ?_) (fun hb => ?_)
 ·generalize getL ll n d = A at *
  generalize getL ll n x = B at *
  generalize getL ll x d = C' at *
  obtain ⟨a, a2⟩ := A
  obtain ⟨b, b2⟩ := B
  obtain ⟨c, c2⟩ := C'
  dsimp only at *
  rw [show (a2 && b2 && c2 && decide (0 ≤ a) && (decide (b < 0) || decide (c < 0) || decide (a - b < c))) = false by
   simp only [inr] at *
   cases a2 <;> cases b2 <;> cases c2 <;> simp at hb ⊢
   omega]
  refine nK ?_
  refine s_reg rfl ?_
  refine rp 8 rfl (op_assign rfl oC) ?_
  refine rn ?_
  refine nK ?_
  (first | exact s_o1 hC rfl tV | exact s_o2 hC rfl tV tV | exact s_o3 hC rfl tV tV tV | exact s_out0 hC rfl | exact s_outO hC rfl rfl rfl)
 ·generalize getL ll n d = A at *
  generalize getL ll n x = B at *
  generalize getL ll x d = C' at *
  obtain ⟨a, a2⟩ := A
  obtain ⟨b, b2⟩ := B
  obtain ⟨c, c2⟩ := C'
  dsimp only at *
  have hb' : a2 = true ∧ b2 = true ∧ c2 = true ∧ 0 ≤ a := by
   cases a2 <;> cases b2 <;> cases c2 <;> simp at hb ⊢
   exact hb
  obtain ⟨rfl, rfl, rfl, ha⟩ := hb'
  clear hb
  simp only [inr] at h1 h2 h3
  rw [show (true && true && true && decide (0 ≤ a) && (decide (b < 0) || decide (c < 0) || decide (a - b < c))) = (decide (b < 0) || decide (c < 0) || decide (a - b < c)) by simp [ha]]
  refine nK ?_
  refine s_reg rfl ?_
  refine rm 50 rfl rfl rfl ?_
  refine rp 51 rfl (op_lss rfl (oT rfl) oC) ?_
  refine rm 52 rfl rfl rfl ?_
  refine gm 53 rfl rfl tG rfl rfl ?_
  refine rg 54 rfl rfl tG (op_lss rfl (oO rfl tO) oC) ?_
  refine rp 55 rfl (op_pick_or rfl (oT rfl) (oO rfl tO)) ?_
  refine rm 56 rfl rfl rfl ?_
  refine gm 57 rfl rfl tG rfl rfl ?_
  refine gm 58 rfl rfl tG rfl rfl ?_
  refine rg 59 rfl rfl tG (op_sub rfl (oO rfl tO) (oO rfl tO) (by intro hg; simp at hg; simp only [inr]; omega)) ?_
  refine gm 60 rfl rfl tG rfl rfl ?_
  refine rg 61 rfl rfl tG (op_lss rfl (oO rfl tO) (oO rfl tO)) ?_
  refine rp 62 rfl (op_pick_or rfl (oT rfl) (oO rfl tO)) ?_
  refine ra 8 rfl rfl rfl ?_
  refine rn ?_
  refine nK ?_
  (first | exact s_o1 hC rfl tV | exact s_o2 hC rfl tV tV | exact s_o3 hC rfl tV tV tV | exact s_out0 hC rfl | exact s_outO hC rfl rfl rfl)
theorem lloop_c (ll : List (List Int)) (s n d : Int) (hok : okT ll) : Pure Try.prog 6 [VLL ll, If .i64 s, If .i64 n, If .i64 d] (Bf (avdL ll n s d)) := by
 refine Meets.intro Try.func6 rfl (Nat.le_of_ble_eq_true rfl) fun C hC => ?_
 simp only [List.map, argEnv, Nat.reduceAdd]
 refine nK ?_
 refine s_reg rfl ?_
 refine rp 8 rfl (op_assign rfl oC) ?_
 refine rn ?_
 refine nK ?_
 refine s_reg rfl ?_
 refine rm 9 rfl rfl rfl ?_
 refine rm 10 rfl rfl rfl ?_
 refine rm 11 rfl rfl rfl ?_
 refine rm 12 rfl rfl rfl ?_
 refine rp 13 rfl (op_call_pure (fun _ => lavoids_c _ _ _ _ (by assumption)) rfl (Opd.func _) (oS (oT rfl) (oS (oT rfl) (oS (oT rfl) (oS (oT rfl) Opds.nil))))) ?_
 refine ra 8 rfl rfl rfl ?_
 refine rn ?_
 refine nK ?_
 (first | exact s_o1 hC rfl tV | exact s_o2 hC rfl tV tV | exact s_o3 hC rfl tV tV tV | exact s_out0 hC rfl | exact s_outO hC rfl rfl rfl)
theorem lprot_c (ll : List (List Int)) (n e d : Int) (hok : okT ll) : Pure Try.prog 10 [VLL ll, If .i64 n, If .i64 e, If .i64 d] (Bf (avdL ll n e d)) := by
 refine Meets.intro Try.func10 rfl (Nat.le_of_ble_eq_true rfl) fun C hC => ?_
 simp only [List.map, argEnv, Nat.reduceAdd]
 refine nK ?_
 refine s_reg rfl ?_
 refine rp 8 rfl (op_assign rfl oC) ?_
 refine rn ?_
 refine nK ?_
 refine s_reg rfl ?_
 refine rm 9 rfl rfl rfl ?_
 refine rm 10 rfl rfl rfl ?_
 refine rm 11 rfl rfl rfl ?_
 refine rm 12 rfl rfl rfl ?_
 refine rp 13 rfl (op_call_pure (fun _ => lavoids_c _ _ _ _ (by assumption)) rfl (Opd.func _) (oS (oT rfl) (oS (oT rfl) (oS (oT rfl) (oS (oT rfl) Opds.nil))))) ?_
 refine ra 8 rfl rfl rfl ?_
 refine rn ?_
 refine nK ?_
 (first | exact s_o1 hC rfl tV | exact s_o2 hC rfl tV tV | exact s_o3 hC rfl tV tV tV | exact s_out0 hC rfl | exact s_outO hC rfl rfl rfl)
theorem ldown_c (ll : List (List Int)) (s n d : Int) : Pure Try.prog 8 [VLL ll, If .i64 s, If .i64 n, If .i64 d] (Bf (dwnL ll s n d)) := by
 unfold dwnL
 refine Meets.intro Try.func8 rfl (Nat.le_of_ble_eq_true rfl) fun C hC => ?_
 simp only [List.map, argEnv, Nat.reduceAdd]
 refine nK ?_
 refine s_reg rfl ?_
 refine rp 8 rfl (op_assign rfl oC) ?_
 refine rn ?_
 refine nK ?_
 refine s_reg rfl ?_
 refine rm 14 rfl rfl rfl ?_
 refine rm 15 rfl rfl rfl ?_
 refine rm 16 rfl rfl rfl ?_
 refine rp 17 rfl (op_call_pure (fun _ => lat_c _ _ _) rfl (Opd.func _) (oS (oT rfl) (oS (oT rfl) (oS (oT rfl) Opds.nil)))) ?_
 refine rm 13 rfl rfl rfl ?_
 refine rp 18 rfl (op_extract_fz rfl (oT rfl) rfl) ?_
 refine rp 19 rfl (op_extract_fz rfl (oT rfl) rfl) ?_
 refine ra 9 rfl rfl rfl ?_
 refine ra 10 rfl rfl rfl ?_
 refine rn ?_
 refine nK ?_
 refine s_reg rfl ?_
 refine rm 21 rfl rfl rfl ?_
 refine rm 22 rfl rfl rfl ?_
 refine rm 23 rfl rfl rfl ?_
 refine rp 24 rfl (op_call_pure (fun _ => lat_c _ _ _) rfl (Opd.func _) (oS (oT rfl) (oS (oT rfl) (oS (oT rfl) Opds.nil)))) ?_
 refine rm 20 rfl rfl rfl ?_
 refine rp 25 rfl (op_extract_fz rfl (oT rfl) rfl) ?_
 refine rp 26 rfl (op_extract_fz rfl (oT rfl) rfl) ?_
 refine ra 11 rfl rfl rfl ?_
 refine ra 12 rfl rfl rfl ?_
 refine rn ?_
 refine nK ?_
 refine s_reg rfl ?_
 refine rm 27 rfl rfl rfl ?_
 refine rm 28 rfl rfl rfl ?_
 refine gm 29 rfl rfl tG rfl rfl ?_
 refine rp 30 rfl (op_pick_and rfl (oT rfl) (oO rfl tO)) ?_
 refine rm 31 rfl rfl rfl ?_
 refine gm 32 rfl rfl tG rfl rfl ?_
 refine rg 33 rfl rfl tG (op_geq rfl (oO rfl tO) oC) ?_
 refine rp 34 rfl (op_pick_and rfl (oT rfl) (oO rfl tO)) ?_
 refine rm 35 rfl rfl rfl ?_
 refine gm 36 rfl rfl tG rfl rfl ?_
 refine rg 37 rfl rfl tG (op_lss rfl (oO rfl tO) oC) ?_
 refine rg 38 rfl rfl tG (op_move rfl (oO rfl tO)) ?_
 refine gm 39 rfl rfl tG rfl rfl ?_
 refine gm 40 rfl rfl tG rfl rfl ?_
 refine rg 41 rfl rfl tG (op_lss rfl (oO rfl tO) (oO rfl tO)) ?_
 refine rg 42 rfl rfl tG (op_pick_or rfl (oO rfl tO) (oO rfl tO)) ?_
 refine rp 43 rfl (op_pick_and rfl (oT rfl) (oO rfl tO)) ?_
 refine ra 8 rfl rfl rfl ?_
 refine rn ?_
 refine nK ?_
 (first | exact s_o1 hC rfl tV | exact s_o2 hC rfl tV tV | exact s_o3 hC rfl tV tV tV | exact s_out0 hC rfl | exact s_outO hC rfl rfl rfl)
theorem rat_c (ll : List (List Int)) (x y : Int) : Pure Try.prog 26 [VLL ll, If .i64 x, If .i64 y] (.tup [If .i64 (getL ll x y).1, Bf (getL ll x y).2]) := by
 have hr1 : ¬ (x < 0 ∨ (ll.length : Int) ≤ x) → (ll.map encL)[x.toNat]? = some [VI (rowAt' ll x.toNat)] := fun h => row_of encL ll x.toNat [] (by omega)
 refine Meets.intro Try.func26 rfl (Nat.le_of_ble_eq_true rfl) fun C hC => ?_
 simp only [List.map, argEnv, Nat.reduceAdd]
 refine nK ?_
 refine s_reg rfl ?_
 refine rp 6 rfl (op_assign rfl oC) ?_
 refine rp 7 rfl (op_assign rfl oC) ?_
 refine rn ?_
 refine nK ?_
 refine s_reg rfl ?_
 refine rm 8 rfl rfl rfl ?_
 refine rp 9 rfl (op_lss rfl (oT rfl) oC) ?_
 refine rm 10 rfl rfl rfl ?_
 refine gm 11 rfl rfl tG rfl rfl ?_
 refine gm 12 rfl rfl tG rfl rfl ?_
 refine rg 13 rfl rfl tG (op_len_fz rfl (by first | exact Opd.topt _ _ _ rfl tO | exact Opd.nil _ _ (oO rfl tO)) (by first | exact List.length_map _ | rfl)) ?_
 refine rg 14 rfl rfl tG (op_geq rfl (oO rfl tO) (oO rfl tO)) ?_
 refine rp 15 rfl (op_pick_or rfl (oT rfl) (oO rfl tO)) ?_
 refine rm 16 rfl rfl rfl ?_
 refine gm 17 rfl rfl tG rfl rfl ?_
 refine rg 18 rfl rfl tG (op_lss rfl (oO rfl tO) oC) ?_
 refine rp 19 rfl (op_pick_or rfl (oT rfl) (oO rfl tO)) ?_
 refine rm 20 rfl rfl rfl ?_
 refine gm 21 rfl rfl tG rfl rfl ?_
 refine gm 22 rfl rfl tG rfl rfl ?_
 refine gm 23 rfl rfl tG rfl rfl ?_
 refine rg 24 rfl rfl tG (op_idx_fz x.toNat rfl (oO rfl tO) (oO rfl tO) (by intro hg; have h2 : ¬ (x < 0 ∨ (ll.length : Int) ≤ x) := (by simp at hg; omega); exact ⟨by omega, hr1 h2⟩)) ?_
 refine rg 25 rfl rfl tG (op_load1_fz rfl (oO rfl tO) rfl) ?_
 refine rg 26 rfl rfl tG (op_len_fz rfl (by first | exact Opd.topt _ _ _ rfl tO | exact Opd.nil _ _ (oO rfl tO)) (by first | exact List.length_map _ | rfl)) ?_
 refine rg 27 rfl rfl tG (op_geq rfl (oO rfl tO) (oO rfl tO)) ?_
 refine rp 28 rfl (op_pick_or rfl (oT rfl) (oO rfl tO)) ?_
 refine rn ?_
 refine nK ?_
 refine n_cond _ rfl (fun hb => ?_) (fun hb => ?_)
 ·have hc : ¬ inT ll x y := fun h => by unfold inT at h; simp only [Bool.or_eq_true, decide_eq_true_eq] at hb; omega
  rw [show getL ll x y = (0, false) from if_neg hc]
  dsimp only
  refine nK ?_
  refine s_reg rfl ?_
  refine rp 6 rfl (op_assign rfl oC) ?_
  refine rp 7 rfl (op_assign rfl oC) ?_
  refine rn ?_
  refine nK ?_
  (first | exact s_o1 hC rfl tV | exact s_o2 hC rfl tV tV | exact s_o3 hC rfl tV tV tV | exact s_out0 hC rfl | exact s_outO hC rfl rfl rfl)
 ·have hc : inT ll x y := by unfold inT; simp only [Bool.or_eq_false_iff, decide_eq_false_iff_not] at hb; omega
  rw [show getL ll x y = (gt0 (rowAt' ll x.toNat) y.toNat, true) from if_pos hc]
  dsimp only
  unfold inT at hc
  have hr0 := hr1 hc.1
  have hr2 : ((rowAt' ll x.toNat).map encN)[y.toNat]? = some [If .i64 (gt0 (rowAt' ll x.toNat) y.toNat)] := row_of encN _ y.toNat 0 (by omega)
  refine nK ?_
  refine s_reg rfl ?_
  refine rm 29 rfl rfl rfl ?_
  refine rm 30 rfl rfl rfl ?_
  refine rp 31 rfl (op_idx_fz x.toNat rfl (oT rfl) (oT rfl) (by intro _; exact ⟨by omega, hr0⟩)) ?_
  refine rp 32 rfl (op_load1_fz rfl (oT rfl) rfl) ?_
  refine rm 33 rfl rfl rfl ?_
  refine rp 34 rfl (op_idx_fz y.toNat rfl (oT rfl) (oT rfl) (by intro _; exact ⟨by omega, hr2⟩)) ?_
  refine rp 35 rfl (op_load1_fz rfl (oT rfl) rfl) ?_
  refine ra 6 rfl rfl rfl ?_
  refine rp 7 rfl (op_assign rfl oC) ?_
  refine rn ?_
  refine nK ?_
  (first | exact s_o1 hC rfl tV | exact s_o2 hC rfl tV tV | exact s_o3 hC rfl tV tV tV | exact s_out0 hC rfl | exact s_outO hC rfl rfl rfl)
theorem ravoids_c (ll : List (List Int)) (n x d : Int) (hok : okT ll) : Pure Try.prog 24 [VLL ll, If .i64 n, If .i64 x, If .i64 d] (Bf (avdL ll n x d)) := by
 have h1 := getL_rng hok n d
 have h2 := getL_rng hok n x
 have h3 := getL_rng hok x d
 unfold avdL
 refine Meets.intro Try.func24 rfl (Nat.le_of_ble_eq_true rfl) fun C hC => ?_
 simp only [List.map, argEnv, Nat.reduceAdd]
 refine nK ?_
 refine s_reg rfl ?_
 refine rp 8 rfl (op_assign rfl oC) ?_
 refine rn ?_
 refine nK ?_
 refine s_reg rfl ?_
 refine rm 16 rfl rfl rfl ?_
 refine rm 17 rfl rfl rfl ?_
 refine rm 18 rfl rfl rfl ?_
 refine rp 19 rfl (op_call_pure (fun _ => rat_c _ _ _) rfl (Opd.func _) (oS (oT rfl) (oS (oT rfl) (oS (oT rfl) Opds.nil)))) ?_
 refine rm 15 rfl rfl rfl ?_
 refine rp 20 rfl (op_extract_fz rfl (oT rfl) rfl) ?_
 refine rp 21 rfl (op_extract_fz rfl (oT rfl) rfl) ?_
 refine ra 9 rfl rfl rfl ?_
 refine ra 10 rfl rfl rfl ?_
 refine rn ?_
 refine nK ?_
 refine s_reg rfl ?_
 refine rm 23 rfl rfl rfl ?_
 refine rm 24 rfl rfl rfl ?_
 refine rm 25 rfl rfl rfl ?_
 refine rp 26 rfl (op_call_pure (fun _ => rat_c _ _ _) rfl (Opd.func _) (oS (oT rfl) (oS (oT rfl) (oS (oT rfl) Opds.nil)))) ?_
 refine rm 22 rfl rfl rfl ?_
 refine rp 27 rfl (op_extract_fz rfl (oT rfl) rfl) ?_
 refine rp 28 rfl (op_extract_fz rfl (oT rfl) rfl) ?_
 refine ra 11 rfl rfl rfl ?_
 refine ra 12 rfl rfl rfl ?_
 refine rn ?_
 refine nK ?_
 refine s_reg rfl ?_
 refine rm 30 rfl rfl rfl ?_
 refine rm 31 rfl rfl rfl ?_
 refine rm 32 rfl rfl rfl ?_
 refine rp 33 rfl (op_call_pure (fun _ => rat_c _ _ _) rfl (Opd.func _) (oS (oT rfl) (oS (oT rfl) (oS (oT rfl) Opds.nil)))) ?_
 refine rm 29 rfl rfl rfl ?_
 refine rp 34 rfl (op_extract_fz rfl (oT rfl) rfl) ?_
 refine rp 35 rfl (op_extract_fz rfl (oT rfl) rfl) ?_
 refine ra 13 rfl rfl rfl ?_
 refine ra 14 rfl rfl rfl ?_
 refine rn ?_
 refine nK ?_
 refine s_reg rfl ?_
 refine rm 36 rfl rfl rfl ?_
 refine rp 37 rfl (op_not rfl (oT rfl)) ?_
 refine rm 38 rfl rfl rfl ?_
 refine gm 39 rfl rfl tG rfl rfl ?_
 refine rg 40 rfl rfl tG (op_not rfl (oO rfl tO)) ?_
 refine rp 41 rfl (op_pick_or rfl (oT rfl) (oO rfl tO)) ?_
 refine rm 42 rfl rfl rfl ?_
 refine gm 43 rfl rfl tG rfl rfl ?_
 refine rg 44 rfl rfl tG (op_not rfl (oO rfl tO)) ?_
 refine rp 45 rfl (op_pick_or rfl (oT rfl) (oO rfl tO)) ?_
 refine rm 46 rfl rfl rfl ?_
 refine gm 47 rfl rfl tG rfl rfl ?_
 refine rg 48 rfl rfl tG (op_lss rfl (oO rfl tO) oC) ?_
 refine rp 49 rfl (op_pick_or rfl (oT rfl) (oO rfl tO)) ?_
 refine rn ?_
 refine nK ?_
 refine n_cond _ rfl (fun hb => ?_) (fun hb => ?_)
 ·generalize getL ll n d = A at *
  generalize getL ll n x = B at *
  generalize getL ll x d = C' at *
  obtain ⟨a, a2⟩ := A
  obtain ⟨b, b2⟩ := B
  obtain ⟨c, c2⟩ := C'
  dsimp only at *
  rw [show (a2 && b2 && c2 && decide (0 ≤ a) && (decide (b < 0) || decide (c < 0) || decide (a - b < c))) = false by
   simp only [inr] at *
   cases a2 <;> cases b2 <;> cases c2 <;> simp at hb ⊢
   omega]
  refine nK ?_
  refine s_reg rfl ?_
  refine rp 8 rfl (op_assign rfl oC) ?_
  refine rn ?_
  refine nK ?_
  (first | exact s_o1 hC rfl tV | exact s_o2 hC rfl tV tV | exact s_o3 hC rfl tV tV tV | exact s_out0 hC rfl | exact s_outO hC rfl rfl rfl)
 ·generalize getL ll n d = A at *
  generalize getL ll n x = B at *
  generalize getL ll x d = C' at *
  obtain ⟨a, a2⟩ := A
  obtain ⟨b, b2⟩ := B
  obtain ⟨c, c2⟩ := C'
  dsimp only at *
  have hb' : a2 = true ∧ b2 = true ∧ c2 = true ∧ 0 ≤ a := by
   cases a2 <;> cases b2 <;> cases c2 <;> simp at hb ⊢
   exact hb
  obtain ⟨rfl, rfl, rfl, ha⟩ := hb'
  clear hb
  simp only [inr] at h1 h2 h3
  rw [show (true && true && true && decide (0 ≤ a) && (decide (b < 0) || decide (c < 0) || decide (a - b < c))) = (decide (b < 0) || decide (c < 0) || decide (a - b < c)) by simp [ha]]
  refine nK ?_
  refine s_reg rfl ?_
  refine rm 50 rfl rfl rfl ?_
  refine rp 51 rfl (op_lss rfl (oT rfl) oC) ?_
  refine rm 52 rfl rfl rfl ?_
  refine gm 53 rfl rfl tG rfl rfl ?_
  refine rg 54 rfl rfl tG (op_lss rfl (oO rfl tO) oC) ?_
  refine rp 55 rfl (op_pick_or rfl (oT rfl) (oO rfl tO)) ?_
  refine rm 56 rfl rfl rfl ?_
  refine gm 57 rfl rfl tG rfl rfl ?_
  refine gm 58 rfl rfl tG rfl rfl ?_
  refine rg 59 rfl rfl tG (op_sub rfl (oO rfl tO) (oO rfl tO) (by intro hg; simp at hg; simp only [inr]; omega)) ?_
  refine gm 60 rfl rfl tG rfl rfl ?_
  refine rg 61 rfl rfl tG (op_lss rfl (oO rfl tO) (oO rfl tO)) ?_
  refine rp 62 rfl (op_pick_or rfl (oT rfl) (oO rfl tO)) ?_
  refine ra 8 rfl rfl rfl ?_
  refine rn ?_
  refine nK ?_
  (first | exact s_o1 hC rfl tV | exact s_o2 hC rfl tV tV | exact s_o3 hC rfl tV tV tV | exact s_out0 hC rfl | exact s_outO hC rfl rfl rfl)
theorem rloop_c (ll : List (List Int)) (s n d : Int) (hok : okT ll) : Pure Try.prog 7 [VLL ll, If .i64 s, If .i64 n, If .i64 d] (Bf (avdL ll n s d)) := by
 refine Meets.intro Try.func7 rfl (Nat.le_of_ble_eq_true rfl) fun C hC => ?_
 simp only [List.map, argEnv, Nat.reduceAdd]
 refine nK ?_
 refine s_reg rfl ?_
 refine rp 8 rfl (op_assign rfl oC) ?_
 refine rn ?_
 refine nK ?_
 refine s_reg rfl ?_
 refine rm 9 rfl rfl rfl ?_
 refine rm 10 rfl rfl rfl ?_
 refine rm 11 rfl rfl rfl ?_
 refine rm 12 rfl rfl rfl ?_
 refine rp 13 rfl (op_call_pure (fun _ => ravoids_c _ _ _ _ (by assumption)) rfl (Opd.func _) (oS (oT rfl) (oS (oT rfl) (oS (oT rfl) (oS (oT rfl) Opds.nil))))) ?_
 refine ra 8 rfl rfl rfl ?_
 refine rn ?_
 refine nK ?_
 (first | exact s_o1 hC rfl tV | exact s_o2 hC rfl tV tV | exact s_o3 hC rfl tV tV tV | exact s_out0 hC rfl | exact s_outO hC rfl rfl rfl)
theorem rprot_c (ll : List (List Int)) (n e d : Int) (hok : okT ll) : Pure Try.prog 11 [VLL ll, If .i64 n, If .i64 e, If .i64 d] (Bf (avdL ll n e d)) := by
 refine Meets.intro Try.func11 rfl (Nat.le_of_ble_eq_true rfl) fun C hC => ?_
 simp only [List.map, argEnv, Nat.reduceAdd]
 refine nK ?_
 refine s_reg rfl ?_
 refine rp 8 rfl (op_assign rfl oC) ?_
 refine rn ?_
 refine nK ?_
 refine s_reg rfl ?_
 refine rm 9 rfl rfl rfl ?_
 refine rm 10 rfl rfl rfl ?_
 refine rm 11 rfl rfl rfl ?_
 refine rm 12 rfl rfl rfl ?_
 refine rp 13 rfl (op_call_pure (fun _ => ravoids_c _ _ _ _ (by assumption)) rfl (Opd.func _) (oS (oT rfl) (oS (oT rfl) (oS (oT rfl) (oS (oT rfl) Opds.nil))))) ?_
 refine ra 8 rfl rfl rfl ?_
 refine rn ?_
 refine nK ?_
 (first | exact s_o1 hC rfl tV | exact s_o2 hC rfl tV tV | exact s_o3 hC rfl tV tV tV | exact s_out0 hC rfl | exact s_outO hC rfl rfl rfl)
theorem rdown_c (ll : List (List Int)) (s n d : Int) : Pure Try.prog 9 [VLL ll, If .i64 s, If .i64 n, If .i64 d] (Bf (dwnL ll s n d)) := by
 unfold dwnL
 refine Meets.intro Try.func9 rfl (Nat.le_of_ble_eq_true rfl) fun C hC => ?_
 simp only [List.map, argEnv, Nat.reduceAdd]
 refine nK ?_
 refine s_reg rfl ?_
 refine rp 8 rfl (op_assign rfl oC) ?_
 refine rn ?_
 refine nK ?_
 refine s_reg rfl ?_
 refine rm 14 rfl rfl rfl ?_
 refine rm 15 rfl rfl rfl ?_
 refine rm 16 rfl rfl rfl ?_
 refine rp 17 rfl (op_call_pure (fun _ => rat_c _ _ _) rfl (Opd.func _) (oS (oT rfl) (oS (oT rfl) (oS (oT rfl) Opds.nil)))) ?_
 refine rm 13 rfl rfl rfl ?_
 refine rp 18 rfl (op_extract_fz rfl (oT rfl) rfl) ?_
 refine rp 19 rfl (op_extract_fz rfl (oT rfl) rfl) ?_
 refine ra 9 rfl rfl rfl ?_
 refine ra 10 rfl rfl rfl ?_
 refine rn ?_
 refine nK ?_
 refine s_reg rfl ?_
 refine rm 21 rfl rfl rfl ?_
 refine rm 22 rfl rfl rfl ?_
 refine rm 23 rfl rfl rfl ?_
 refine rp 24 rfl (op_call_pure (fun _ => rat_c _ _ _) rfl (Opd.func _) (oS (oT rfl) (oS (oT rfl) (oS (oT rfl) Opds.nil)))) ?_
 refine rm 20 rfl rfl rfl ?_
 refine rp 25 rfl (op_extract_fz rfl (oT rfl) rfl) ?_
 refine rp 26 rfl (op_extract_fz rfl (oT rfl) rfl) ?_
 refine ra 11 rfl rfl rfl ?_
 refine ra 12 rfl rfl rfl ?_
 refine rn ?_
 refine nK ?_
 refine s_reg rfl ?_
 refine rm 27 rfl rfl rfl ?_
 refine rm 28 rfl rfl rfl ?_
 refine gm 29 rfl rfl tG rfl rfl ?_
 refine rp 30 rfl (op_pick_and rfl (oT rfl) (oO rfl tO)) ?_
 refine rm 31 rfl rfl rfl ?_
 refine gm 32 rfl rfl tG rfl rfl ?_
 refine rg 33 rfl rfl tG (op_geq rfl (oO rfl tO) oC) ?_
 refine rp 34 rfl (op_pick_and rfl (oT rfl) (oO rfl tO)) ?_
 refine rm 35 rfl rfl rfl ?_
 refine gm 36 rfl rfl tG rfl rfl ?_
 refine rg 37 rfl rfl tG (op_lss rfl (oO rfl tO) oC) ?_
 refine rg 38 rfl rfl tG (op_move rfl (oO rfl tO)) ?_
 refine gm 39 rfl rfl tG rfl rfl ?_
 refine gm 40 rfl rfl tG rfl rfl ?_
 refine rg 41 rfl rfl tG (op_lss rfl (oO rfl tO) (oO rfl tO)) ?_
 refine rg 42 rfl rfl tG (op_pick_or rfl (oO rfl tO) (oO rfl tO)) ?_
 refine rp 43 rfl (op_pick_and rfl (oT rfl) (oO rfl tO)) ?_
 refine ra 8 rfl rfl rfl ?_
 refine rn ?_
 refine nK ?_
 (first | exact s_o1 hC rfl tV | exact s_o2 hC rfl tV tV | exact s_o3 hC rfl tV tV tV | exact s_out0 hC rfl | exact s_outO hC rfl rfl rfl)
end Go.Proofs.Ytnkhlbljnmodbaa
namespace Go.Proofs.Ytnkhlbljnmodbaa
open Go Go.RT Go.Proofs Go.Pl
set_option linter.all false
set_option maxRecDepth 20000
set_option maxHeartbeats 2000000
abbrev HD (h : Hq) : Hp := [(1, some (.refs 3 [[.sl 2 1 0 h.it.length, .sl 3 1 0 h.pl.length, .sl 4 1 0 h.ky.length]])), (2, OT h.it), (3, OI h.pl), (4, OI h.ky)]
abbrev HDS (d : List Int) (h : Hq) : Hp := (0, OI d) :: HD h
theorem set_i (h : Hq) (o : HI h) (b : Int) (v : Nat) (k : Int) (e : b = v) (hv : v < h.pl.length) (hm : h.it.length ≤ 1999999) : Meets Try.prog 53 [.ptr 0 3 0 0, IV .i64 b, IV .i64 k] 4 (HH h) (BV true) (HX (setH h v k)) 5 := by subst e; exact set_c h o v k hv hm
theorem key_i (h : Hq) (o : h.Ok) (b : Int) (v : Nat) (e : b = v) (hv : v < h.pl.length) : Meets Try.prog 55 [.ptr 0 3 0 0, IV .i64 b] 4 (HH h) (.fz (.tup [If .i64 (if 0 ≤ h.place v then h.key v else 0), Bf (decide (0 ≤ h.place v))])) (HH h) 4 := by subst e; exact key_c h o v hv
theorem dist_c (g : Gr) (a : Nat) (d : List Int) (hg : checkI g = 0) (hok : okG g) (ha : a < (g.r + g.n).toNat) (hd : d.length = (g.r + g.n).toNat) (hD : ∀ v, v < (g.r + g.n).toNat → IsD g.es a v (gt0 d v)) : Pure Try.prog 43 [.agg (encG g), If .i64 a] (VI d) := by
 obtain ⟨vg, hr0, hn0⟩ := checkI_vg hg
 have hn := vg.n128
 have hel := vg.e1024
 have hrn : g.r + g.n = ((g.r + g.n).toNat : Int) := by omega
 generalize hN : (g.r + g.n).toNat = n at *
 refine Meets.intro Try.func43 rfl (Nat.le_of_ble_eq_true rfl) fun C hC => ?_
 simp only [List.map, argEnv, Nat.reduceAdd]
 refine nK2 ?_
 refine s_reg rfl ?_
 refine Run.eff (dd := some 2) rfl rfl (op_box_flat rfl (oT rfl) tC rfl) ?_
 refine rp 4 rfl (op_assign rfl oC) ?_
 refine rn ?_
 refine nK2 ?_
 refine s_reg rfl ?_
 refine rp 18 rfl (op_fld_ptr (by decide) rfl (oT rfl)) ?_
 refine rl 19 rfl (op_load1_flat rfl (oT rfl) tH rfl) ?_
 refine rp 20 rfl (op_fld_ptr (by decide) rfl (oT rfl)) ?_
 refine rl 21 rfl (op_load1_flat rfl (oT rfl) tH rfl) ?_
 refine rp 22 rfl (op_add rfl (oT rfl) (oT rfl) tI) ?_
 refine Run.eff (dd := some 23) rfl rfl (op_make (l := n) (c := n) rfl (oT rfl) (oT rfl) rfl rfl rfl rfl (by intro _; refine ⟨hrn, hrn, ?_⟩; omega)) ?_
 refine ra 5 rfl rfl rfl ?_
 refine rn ?_
 refine nK2 ?_
 refine Next.weak [0, 1] [] (by rfl) (keepsN hC _ rfl) (G' := [(1, IV .i64 a), (2, .ptr 0 3 0 0), (5, .sl 1 1 0 n)]) (H' := [(0, OG g), (1, OI (fillN n 0))]) (by repeat (first | exact trivial | refine ⟨⟨_, rfl, .inl ⟨rfl, rfl⟩⟩, ?_⟩ | refine ⟨⟨_, rfl, .inl ⟨slEq rfl tN, rfl⟩⟩, ?_⟩ | refine ⟨⟨_, rfl, .inl ⟨ivEq tX, rfl⟩⟩, ?_⟩)) (by exact ⟨ent_same rfl rfl rfl tL, ⟨ent_same rfl rfl (flEq rfl (by rw [fillN_0, List.map_replicate]; rfl)) trivial, trivial⟩⟩) (fun _ h => by simp at h) ?_
 refine nK2 ?_
 refine s_reg rfl ?_
 refine rm 24 rfl rfl rfl ?_
 refine rp 25 rfl (op_len_sl rfl (oT rfl)) ?_
 refine rp 26 rfl (op_move rfl oC) ?_
 refine rn ?_
 refine nK2 ?_
 refine n_loop (ι := Nat) (fun k => ([(1, IV .i64 a), (2, .ptr 0 3 0 0), (5, .sl 1 1 0 n), (25, IV .i64 n), (26, IV .i64 k)], [(0, OG g), (1, OI (fillN n k))], 2)) (fun k => k ≤ n) (fun k => n - k) 0 (Nat.zero_le _) ?_ ?_
 ·refine Next.weak [0, 1] [] (by rfl) (keepsN hC _ rfl) (by repeat (first | exact trivial | refine ⟨⟨_, rfl, .inl ⟨rfl, rfl⟩⟩, ?_⟩ | refine ⟨⟨_, rfl, .inl ⟨slEq rfl tN, rfl⟩⟩, ?_⟩ | refine ⟨⟨_, rfl, .inl ⟨ivEq tX, rfl⟩⟩, ?_⟩)) (by exact ⟨ent_same rfl rfl rfl tL, ⟨ent_same rfl rfl rfl tL, trivial⟩⟩) (fun _ h => by simp at h) rel_intro
 ·intro k hk K hK
  try dsimp only at hk ⊢
  refine nK2 ?_
  refine s_reg rfl ?_
  refine rp 27 rfl (op_lss rfl (oT rfl) (oT rfl)) ?_
  refine rn ?_
  refine nK2 ?_
  refine n_cond _ rfl (fun hb => ?_) (fun hb => ?_)
  ·have hlt : k < n := by simpa using hb
   have hrow := row_of encN (fillN n k) k 0 (by rw [fillN_len _ _ hk]; exact hlt)
   refine nK2 ?_
   refine s_reg rfl ?_
   refine rm 28 rfl rfl rfl ?_
   refine ra 6 rfl rfl rfl ?_
   refine rn ?_
   refine nK2 ?_
   refine s_reg rfl ?_
   refine rm 29 rfl rfl rfl ?_
   refine rm 30 rfl rfl rfl ?_
   refine rp 31 rfl (op_idx_sl0 k rfl (oT rfl) (oT rfl) (by intro _; exact ⟨rfl, hlt⟩)) ?_
   refine Run.eff (dd := none) rfl rfl (op_store_flat rfl (oT rfl) oC tC rfl rfl hrow tS) ?_
   refine rn ?_
   refine nK2 ?_
   refine s_reg rfl ?_
   refine rp 32 rfl (op_add rfl (oT rfl) oC tI) ?_
   refine rm 26 rfl rfl rfl ?_
   refine rn ?_
   refine nK2 ?_
   refine Next.weak [0, 1] [] (by rfl) (keepsN hC _ rfl) (by repeat (first | exact trivial | refine ⟨⟨_, rfl, .inl ⟨rfl, rfl⟩⟩, ?_⟩ | refine ⟨⟨_, rfl, .inl ⟨slEq rfl tN, rfl⟩⟩, ?_⟩ | refine ⟨⟨_, rfl, .inl ⟨ivEq tX, rfl⟩⟩, ?_⟩)) (by exact ⟨ent_same rfl rfl rfl tL, ⟨ent_same rfl rfl (flEq rfl (by rw [← fillN_set n k hlt, List.map_set]; rfl)) trivial, trivial⟩⟩) (fun _ h => by simp at h) (hK (k + 1) hlt (by omega))
  ·have hge : k = n := by simp at hb; omega
   subst hge
   rw [fillN_n]
   refine nK2 ?_
   refine s_reg rfl ?_
   refine rm 33 rfl rfl rfl ?_
   refine rp 34 rfl (op_len_sl rfl (oT rfl)) ?_
   refine Run.eff (dd := some 35) rfl rfl (op_make (l := k) (c := k) rfl (oT rfl) (oT rfl) rfl rfl rfl rfl (by intro _; refine ⟨rfl, rfl, ?_⟩; omega)) ?_
   refine ra 7 rfl rfl rfl ?_
   refine rn ?_
   refine nK2 ?_
   refine Next.toOwn 2 3 k rfl ?_
   refine Next.weak [0, 1, 2] [] (by rfl) (keepsN hC _ rfl) (G' := [(1, IV .i64 a), (2, .ptr 0 3 0 0), (5, .sl 1 1 0 k), (7, .sl 2 1 0 k)]) (H' := [(0, OG g), (1, OI (List.replicate k (-1))), (2, some (.refs 1 (ownL 3 (rowsE [] k))))]) (by repeat (first | exact trivial | refine ⟨⟨_, rfl, .inl ⟨rfl, rfl⟩⟩, ?_⟩ | refine ⟨⟨_, rfl, .inl ⟨slEq rfl tN, rfl⟩⟩, ?_⟩ | refine ⟨⟨_, rfl, .inl ⟨ivEq tX, rfl⟩⟩, ?_⟩)) (by exact ⟨ent_same rfl rfl rfl tL, ⟨ent_same rfl rfl rfl tL, ⟨ent_own rfl rfl (by rw [rowsE_nil, ← ownL_rep]; rfl), trivial⟩⟩⟩) (fun _ h => by simp at h) ?_
   refine nK2 ?_
   refine s_reg rfl ?_
   refine rp 36 rfl (op_fld_ptr (by decide) rfl (oT rfl)) ?_
   refine rl 37 rfl (op_load1_flat rfl (oT rfl) tH rfl) ?_
   refine rp 38 rfl (op_len_fz rfl (by first | exact Opd.tmp _ _ rfl | exact Opd.nil _ _ (oT rfl)) (by first | exact List.length_map _ | rfl)) ?_
   refine rp 39 rfl (op_move rfl oC) ?_
   refine rn ?_
   refine nK2 ?_
   refine n_loop (ι := Nat) (fun i => ([(1, IV .i64 a), (5, .sl 1 1 0 k), (7, .sl 2 1 0 k), (37, .fz (VE g.es)), (38, IV .i64 g.es.length), (39, IV .i64 i)], [(0, OG g), (1, OI (List.replicate k (-1))), (2, some (.refs 1 (ownL 3 (rowsE (g.es.take i) k))))], 3)) (fun i => i ≤ g.es.length) (fun i => g.es.length - i) 0 (Nat.zero_le _) ?_ ?_
   ·refine Next.weak [0, 1, 2] [] (by rfl) (keepsN hC _ rfl) (by repeat (first | exact trivial | refine ⟨⟨_, rfl, .inl ⟨rfl, rfl⟩⟩, ?_⟩ | refine ⟨⟨_, rfl, .inl ⟨slEq rfl tN, rfl⟩⟩, ?_⟩ | refine ⟨⟨_, rfl, .inl ⟨ivEq tX, rfl⟩⟩, ?_⟩)) (by exact ⟨ent_same rfl rfl rfl tL, ⟨ent_same rfl rfl rfl tL, ⟨ent_own rfl rfl rfl, trivial⟩⟩⟩) (fun _ h => by simp at h) rel_intro
   ·intro i hi K hK
    try dsimp only at hi ⊢
    refine nK2 ?_
    refine s_reg rfl ?_
    refine rp 40 rfl (op_lss rfl (oT rfl) (oT rfl)) ?_
    refine rn ?_
    refine nK2 ?_
    refine n_cond _ rfl (fun hb => ?_) (fun hb => ?_)
    ·have hlt : i < g.es.length := by simp at hb; omega
     have hr1 := row_at' encE g.es i hlt
     have hef := vg.f _ (List.getElem_mem hlt)
     have hst := rowsE_succ (n := k) hlt hef.1
     have hrg := rowsE_get (g.es.take i) (n := k) (v := g.es[i].f.toNat) (by omega)
     have hlen : (outE (g.es.take i) g.es[i].f.toNat).length ≤ 1024 := by
      have h1 : (outE (g.es.take i) g.es[i].f.toNat).length ≤ (g.es.take i).length := List.length_filter_le _ _
      have h2 : (g.es.take i).length ≤ g.es.length := List.length_take_le' _ _
      omega
     have hK1 := hK (i + 1) (by omega) (by omega)
     rw [← hst] at hK1
     have hrl := rowsE_len (g.es.take i) k
     generalize rowsE (g.es.take i) k = irs at *
     generalize outE (g.es.take i) g.es[i].f.toNat = row at *
     generalize g.es[i] = e at *
     refine nK2 ?_
     refine s_reg rfl ?_
     refine rp 41 rfl (op_idx_fz _ rfl (oT rfl) (oT rfl) tF) ?_
     refine rp 42 rfl (op_loadw_fz rfl (oT rfl) rfl) ?_
     refine Run.eff (dd := some 9) rfl rfl (op_alloc rfl rfl rfl rfl) ?_
     refine Run.eff (dd := none) rfl rfl (op_store_flat rfl (oT rfl) (oT rfl) tC rfl rfl (by first | rfl | assumption) tS) ?_
     refine rn ?_
     refine nK2 ?_
     refine Next.take 2 e.f.toNat 0 rfl (ownL_get hrg) rfl rfl ?_
     have hs1 := set_get (ownL 3 irs) e.f.toNat [.sl 4 3 0 (row.map encE).length] (by rw [ownL_len, hrl]; omega)
     refine nK2 ?_
     refine s_draw mixed ?_
     refine rm 43 rfl rfl rfl ?_
     refine rp 44 rfl (op_fld_ptr (by decide) rfl (oT rfl)) ?_
     refine rl 45 rfl (op_load1_flat rfl (oT rfl) tH rfl) ?_
     refine rm 46 rfl rfl rfl ?_
     refine rp 47 rfl (op_fld_ptr (by decide) rfl (oT rfl)) ?_
     refine rl 48 rfl (op_load1_flat rfl (oT rfl) tH rfl) ?_
     refine rp 49 rfl (op_idx_sl0 e.f.toNat rfl (oT rfl) (oT rfl) (by intro _; omega)) ?_
     refine rl 50 rfl (op_load1_refs rfl (oT rfl) (by intro _; exact ⟨rfl, hs1⟩) rfl) ?_
     refine rl 51 rfl (op_loadw_flat rfl (oT rfl) tH rfl) ?_
     refine rp 52 rfl (op_buildSlice_fz rfl (RowsF.cons _ _ _ _ _ _ (oT rfl) tC (by rfl) (RowsF.nil _)) rfl rfl) ?_
     refine Run.effW (dd := some 53) rfl rfl (op_append rfl (oT rfl) (by first | exact Opd.tmp _ _ rfl | exact Opd.nil _ _ (oT rfl)) rfl (by first | rfl | simp) rfl rfl tB tB) (by first | exact ext_call | exact tE) ?_
     refine rp 54 rfl (op_idx_sl0 e.f.toNat rfl (oT rfl) (oT rfl) (by intro _; omega)) ?_
     refine Run.effW (dd := none) rfl rfl (op_store_refs rfl (oT rfl) (oT rfl) tP rfl rfl hs1 tS) (by first | exact ext_call | exact tE) ?_
     refine Run.nil (FinD.mk (by kernel_rfl) ?_)
     refine nK2 ?_
     refine s_reg rfl ?_
     refine rp 55 rfl (op_add rfl (oT rfl) oC tI) ?_
     refine rm 39 rfl rfl rfl ?_
     refine rn ?_
     refine nK2 ?_
     refine Next.untake 2 e.f.toNat 0 rfl (set_get _ _ _ (by rw [List.length_set, ownL_len, hrl]; omega)) rfl rfl (by simp) rfl ?_
     refine Next.weak [0, 1, 2] [] (by rfl) (keepsN hC _ rfl) (by repeat (first | exact trivial | refine ⟨⟨_, rfl, .inl ⟨rfl, rfl⟩⟩, ?_⟩ | refine ⟨⟨_, rfl, .inl ⟨slEq rfl tN, rfl⟩⟩, ?_⟩ | refine ⟨⟨_, rfl, .inl ⟨ivEq tX, rfl⟩⟩, ?_⟩)) (by exact ⟨ent_same rfl rfl rfl tL, ⟨ent_same rfl rfl rfl tL, ⟨ent_own rfl rfl (congrArg (fun r => some (Ob.refs 1 r)) own_back), trivial⟩⟩⟩) (fun _ h => by simp at h) hK1
    ·have hge : i = g.es.length := by simp at hb; omega
     subst hge
     rw [List.take_length]
     refine Next.freezeOwn 2 rfl rfl ?_
     have hFl : (fzL 3 (rowsE g.es k)).length = k := by rw [fzL_len, rowsE_len]
     refine Next.weakS [5] [7] (by rfl) (keepsN hC _ rfl) (G' := [(1, IV .i64 a), (5, .sl 0 1 0 k), (7, .fz (.vals 1 (fzL 3 (rowsE g.es k))))]) (H' := [(0, OI (List.replicate k (-1)))]) (by exact ⟨⟨_, rfl, .inl ⟨rfl, rfl⟩⟩, ⟨_, rfl, .inl ⟨rfl, rfl⟩⟩, ⟨_, rfl, .inr ⟨_, rfl, .sl _ _ _ _ _ _ rfl rfl (take_all0 hFl) (by rw [hFl])⟩⟩, trivial⟩) (by exact ⟨ent_same rfl rfl rfl tL, trivial⟩) rfl ?_
     have hSet := set_c (newH k) (HG.new k).hi a 0 (by simpa [newH] using ha) (by simp [newH])
     obtain ⟨hDJ, hcnt0⟩ := DJ.start vg ha
     refine nK2 ?_
     refine s_reg rfl ?_
     refine rm 56 rfl rfl rfl ?_
     refine rp 57 rfl (op_len_sl rfl (oT rfl)) ?_
     refine Run.eff (dd := some 58) rfl rfl (op_call (n := 0) (n' := 4) [] (fun _ => new_c k (by omega)) rfl (Opd.func _) (oS (oT rfl) Opds.nil) rfl rfl (Lent.of rfl rfl trivial rfl) rfl rfl rfl rfl rfl) ?_
     refine ra 10 rfl rfl rfl ?_
     refine rn ?_
     refine nK2 ?_
     refine s_reg rfl ?_
     refine rm 59 rfl rfl rfl ?_
     refine rm 60 rfl rfl rfl ?_
     refine Run.eff (dd := some 61) rfl rfl (op_call (n := 4) (n' := 5) [1, 2, 3, 4] (fun _ => hSet) rfl (Opd.func _) (oS (oT rfl) (oS (oT rfl) (oS oC Opds.nil))) rfl rfl (Lent.of rfl rfl (by exact ⟨⟨rfl, rfl, rfl, tL⟩, ⟨rfl, rfl, rfl, trivial⟩, ⟨rfl, rfl, rfl, trivial⟩, ⟨rfl, rfl, rfl, trivial⟩, trivial⟩) rfl) rfl rfl rfl rfl rfl) ?_
     refine rn ?_
     refine nK2 ?_
     refine n_loop (ι := List Int × Hq) (fun s => ([(5, .sl 0 1 0 k), (7, .fz (.vals 1 (fzL 3 (rowsE g.es k)))), (10, .ptr 1 3 0 0)], HDS s.1 s.2, 5)) (fun s => DJ g.es k a s.1 s.2 []) (fun s => k - cntP s.1) (List.replicate k (-1), setH (newH k) a 0) hDJ ?_ ?_
     ·refine Next.weak [0, 1, 5, 3, 4] [] (by rfl) (keepsN hC _ rfl) (by repeat (first | exact trivial | refine ⟨⟨_, rfl, .inl ⟨rfl, rfl⟩⟩, ?_⟩ | refine ⟨⟨_, rfl, .inl ⟨slEq rfl tN, rfl⟩⟩, ?_⟩ | refine ⟨⟨_, rfl, .inl ⟨ivEq tX, rfl⟩⟩, ?_⟩)) (by exact ⟨ent_same rfl rfl rfl tL, ⟨ent_same rfl rfl rfl tL, ⟨ent_same rfl rfl rfl tL, ⟨ent_same rfl rfl rfl tL, ⟨ent_same rfl rfl rfl tL, trivial⟩⟩⟩⟩⟩) (fun _ h => by simp at h) rel_intro
     ·intro ⟨dist, h⟩ hI K hK
      try dsimp only at hI hK ⊢
      have hok' := hI.hg.hi
      have hdl := hI.dl
      have hpl := hI.hl
      have hsm := hok'.small
      by_cases hit : h.it = []
      ·have hpn := pop_none h hok' hit
       refine nK2 ?_
       refine s_reg rfl ?_
       refine rm 63 rfl rfl rfl ?_
       refine rl 64 rfl (op_call_read (n := 4) [1, 2, 3, 4] (fun _ => hpn) rfl (Opd.func _) (oS (oT rfl) Opds.nil) rfl rfl (Lent.of rfl rfl (by exact ⟨⟨rfl, rfl, rfl, tL⟩, ⟨rfl, rfl, rfl, trivial⟩, ⟨rfl, rfl, rfl, trivial⟩, ⟨rfl, rfl, rfl, trivial⟩, trivial⟩) rfl) rfl) ?_
       refine rm 62 rfl rfl rfl ?_
       refine rp 65 rfl (op_extract_fz rfl (oT rfl) rfl) ?_
       refine rp 66 rfl (op_extract_fz rfl (oT rfl) rfl) ?_
       refine rp 67 rfl (op_extract_fz rfl (oT rfl) rfl) ?_
       refine ra 11 rfl rfl rfl ?_
       refine ra 12 rfl rfl rfl ?_
       refine ra 13 rfl rfl rfl ?_
       refine rn ?_
       refine nK2 ?_
       refine s_reg rfl ?_
       refine rm 68 rfl rfl rfl ?_
       refine rp 69 rfl (op_not rfl (oT rfl)) ?_
       refine rn ?_
       refine nK2 ?_
       refine n_cond _ rfl (fun hb => ?_) (fun hb => ?_)
       ·have hde : dist = d := by
         apply List.ext_getElem (by omega)
         intro v h1 h2
         have := (hI.done vg ha hit (v := v) (by omega)).uniq (hD v (by omega))
         simpa [gt0, List.getD_eq_getElem?_getD, h1, h2] using this
        subst hde
        refine nK2 ?_
        refine s_reg rfl ?_
        refine rm 117 rfl rfl rfl ?_
        refine ra 4 rfl rfl rfl ?_
        refine rn ?_
        refine nK2 ?_
        refine Next.weakS [] [4] (by rfl) (keeps0 hC _) (G' := [(4, .fz (VI dist))]) (H' := []) ⟨⟨_, rfl, .inr ⟨_, rfl, .sl _ _ _ _ _ _ rfl rfl (take_all0 (by rw [List.length_map]; exact hdl)) (by rw [List.length_map]; omega)⟩⟩, trivial⟩ trivial rfl ?_
        exact n_out1 rfl (by rfl) rfl rfl
       ·simp at hb
      ·have hne : 0 < h.it.length := Nat.pos_of_ne_zero fun e => hit (List.length_eq_zero_iff.1 e)
       have hps := pop_some h hok' hne (by omega)
       obtain ⟨x1, x2, x3, x4, x5, x6⟩ := hI.pop vg ha hne
       have hrx := row_of encN dist (h.item 0) 0 (by omega)
       have hcl := cntP_le (dist.set (h.item 0) (h.key (h.item 0)))
       rw [List.length_set] at hcl
       have hrE := fzL_get (sz := 3) (rowsE_get g.es x1)
       have hLsub : ∀ e ∈ outE g.es (h.item 0), e ∈ g.es ∧ e.f = (h.item 0 : Nat) := fun e he => by simpa [outE] using he
       have hLl : (outE g.es (h.item 0)).length ≤ 1024 := by
        have : (outE g.es (h.item 0)).length ≤ g.es.length := List.length_filter_le _ _
        omega
       have hdx : gt0 (dist.set (h.item 0) (h.key (h.item 0))) (h.item 0) = h.key (h.item 0) := by rw [gt0, getD_set _ _ _ _ _ (by omega), if_pos rfl]
       change DJ g.es k a (dist.set (h.item 0) (h.key (h.item 0))) (dropH h (h.item 0)) (outE g.es (h.item 0)) at x6
       generalize h.item 0 = x at *
       generalize h.key x = kx at *
       generalize dropH h x = h1 at *
       generalize outE g.es x = L at *
       refine nK2 ?_
       refine s_reg rfl ?_
       refine rm 63 rfl rfl rfl ?_
       refine Run.eff (dd := some 64) rfl rfl (op_call (n := 4) (n' := 5) [1, 2, 3, 4] (fun _ => hps) rfl (Opd.func _) (oS (oT rfl) Opds.nil) rfl rfl (Lent.of rfl rfl (by exact ⟨⟨rfl, rfl, rfl, tL⟩, ⟨rfl, rfl, rfl, trivial⟩, ⟨rfl, rfl, rfl, trivial⟩, ⟨rfl, rfl, rfl, trivial⟩, trivial⟩) rfl) rfl rfl rfl rfl rfl) ?_
       refine rm 62 rfl rfl rfl ?_
       refine rp 65 rfl (op_extract_fz rfl (oT rfl) rfl) ?_
       refine rp 66 rfl (op_extract_fz rfl (oT rfl) rfl) ?_
       refine rp 67 rfl (op_extract_fz rfl (oT rfl) rfl) ?_
       refine ra 11 rfl rfl rfl ?_
       refine ra 12 rfl rfl rfl ?_
       refine ra 13 rfl rfl rfl ?_
       refine rn ?_
       refine nK2 ?_
       refine s_reg rfl ?_
       refine rm 68 rfl rfl rfl ?_
       refine rp 69 rfl (op_not rfl (oT rfl)) ?_
       refine rn ?_
       refine nK2 ?_
       refine n_cond _ rfl (fun hb => ?_) (fun hb => ?_)
       ·simp at hb
       ·refine nK2 ?_
        refine s_reg rfl ?_
        refine rm 70 rfl rfl rfl ?_
        refine rm 71 rfl rfl rfl ?_
        refine rm 72 rfl rfl rfl ?_
        refine rp 73 rfl (op_idx_sl0 x rfl (oT rfl) (oT rfl) (by intro _; exact ⟨rfl, x1⟩)) ?_
        refine Run.eff (dd := none) rfl rfl (op_store_flat rfl (oT rfl) (oT rfl) tC rfl rfl hrx tS) ?_
        refine rn ?_
        refine nK2 ?_
        refine s_reg rfl ?_
        refine rm 74 rfl rfl rfl ?_
        refine rm 75 rfl rfl rfl ?_
        refine rp 76 rfl (op_idx_fz x rfl (oT rfl) (oT rfl) (by intro _; exact ⟨rfl, hrE⟩)) ?_
        refine rp 77 rfl (op_load1_fz rfl (oT rfl) rfl) ?_
        refine rp 78 rfl (op_len_fz rfl (by first | exact Opd.tmp _ _ rfl | exact Opd.nil _ _ (oT rfl)) (by first | exact List.length_map _ | rfl)) ?_
        refine rp 79 rfl (op_move rfl oC) ?_
        refine rn ?_
        refine nK2 ?_
        refine n_loop (ι := Nat × Hq) (fun s => ([(5, .sl 0 1 0 k), (7, .fz (.vals 1 (fzL 3 (rowsE g.es k)))), (10, .ptr 1 3 0 0), (12, IV .i64 kx), (77, .fz (VE L)), (78, IV .i64 L.length), (79, IV .i64 s.1)], HDS (dist.set x kx) s.2, 5)) (fun s => s.1 ≤ L.length ∧ DJ g.es k a (dist.set x kx) s.2 (L.drop s.1)) (fun s => L.length - s.1) (0, h1) ⟨Nat.zero_le _, x6⟩ ?_ ?_
        ·refine Next.weak [0, 1, 5, 3, 4] [] (by rfl) (keepsN hC _ rfl) (by repeat (first | exact trivial | refine ⟨⟨_, rfl, .inl ⟨rfl, rfl⟩⟩, ?_⟩ | refine ⟨⟨_, rfl, .inl ⟨slEq rfl tN, rfl⟩⟩, ?_⟩ | refine ⟨⟨_, rfl, .inl ⟨ivEq tX, rfl⟩⟩, ?_⟩)) (by exact ⟨ent_same rfl rfl (flEq rfl (by rw [List.map_set]; rfl)) trivial, ⟨ent_same rfl rfl rfl tL, ⟨ent_same rfl rfl rfl tL, ⟨ent_same rfl rfl rfl tL, ⟨ent_same rfl rfl rfl tL, trivial⟩⟩⟩⟩⟩) (fun _ h => by simp at h) rel_intro
        ·intro ⟨j, h2⟩ ⟨hj, hJ⟩ K2 hK2
         try dsimp only at hj hJ hK2 ⊢
         refine nK2 ?_
         refine s_reg rfl ?_
         refine rp 80 rfl (op_lss rfl (oT rfl) (oT rfl)) ?_
         refine rn ?_
         refine nK2 ?_
         refine n_cond _ rfl (fun hb => ?_) (fun hb => ?_)
         ·have hlt : j < L.length := by simp at hb; omega
          have hr1 := row_at' encE L j hlt
          obtain ⟨he, hef⟩ := hLsub _ (List.getElem_mem hlt)
          rw [List.drop_eq_getElem_cons hlt] at hJ
          have hK3 := fun h3 hh => hK2 (j + 1, h3) ⟨by dsimp only; omega, hh⟩ (by dsimp only; omega)
          dsimp only at hK3
          generalize L[j] = e at *
          have het := vg.t e he
          have hec := vg.c e he
          have hJo := hJ.hg.hi
          have hJl := hJ.hl
          have hJs := hJo.small
          have hJd := hJ.dl
          have hket := key_i h2 hJo.ok e.t e.t.toNat (by omega) (by omega)
          have hrt := row_of encN (dist.set x kx) e.t.toNat 0 (by omega)
          have hput := fun hc => hJ.put vg he (by rw [hef, Int.toNat_natCast, hdx]; exact x3) (by rw [hef, Int.toNat_natCast, hdx, x5]; omega) hc
          have hskip := fun hc => hJ.skip vg hc
          have hset := set_i h2 hJo e.t e.t.toNat (kx + e.c) (by omega) (by omega) (by omega)
          have hfx : gt0 (dist.set x kx) e.f.toNat = kx := by rw [hef, Int.toNat_natCast]; exact hdx
          rw [hfx] at hput hskip
          have hgt : (dist.set x kx).getD e.t.toNat 0 = gt0 (dist.set x kx) e.t.toNat := rfl
          rw [hgt] at hrt
          have hqb := hJ.q e.t.toNat (by omega)
          refine nK2 ?_
          refine s_reg rfl ?_
          refine rp 81 rfl (op_idx_fz _ rfl (oT rfl) (oT rfl) tF) ?_
          refine rp 82 rfl (op_loadw_fz rfl (oT rfl) rfl) ?_
          refine Run.eff (dd := some 15) rfl rfl (op_alloc rfl rfl rfl rfl) ?_
          refine Run.eff (dd := none) rfl rfl (op_store_flat rfl (oT rfl) (oT rfl) tC rfl rfl (by first | rfl | assumption) tS) ?_
          refine rn ?_
          refine nK2 ?_
          refine s_reg rfl ?_
          refine rm 84 rfl rfl rfl ?_
          refine rp 85 rfl (op_fld_ptr (by decide) rfl (oT rfl)) ?_
          refine rl 86 rfl (op_load1_flat rfl (oT rfl) tH rfl) ?_
          refine rl 87 rfl (op_call_read (n := 4) [1, 2, 3, 4] (fun _ => hket) rfl (Opd.func _) (oS (oT rfl) (oS (oT rfl) Opds.nil)) rfl rfl (Lent.of rfl rfl (by exact ⟨⟨rfl, rfl, rfl, tL⟩, ⟨rfl, rfl, rfl, trivial⟩, ⟨rfl, rfl, rfl, trivial⟩, ⟨rfl, rfl, rfl, trivial⟩, trivial⟩) rfl) rfl) ?_
          refine rm 83 rfl rfl rfl ?_
          refine rp 88 rfl (op_extract_fz rfl (oT rfl) rfl) ?_
          refine rp 89 rfl (op_extract_fz rfl (oT rfl) rfl) ?_
          refine ra 16 rfl rfl rfl ?_
          refine ra 17 rfl rfl rfl ?_
          refine rn ?_
          refine nK2 ?_
          refine s_reg rfl ?_
          refine rm 90 rfl rfl rfl ?_
          refine rp 91 rfl (op_fld_ptr (by decide) rfl (oT rfl)) ?_
          refine rl 92 rfl (op_load1_flat rfl (oT rfl) tH rfl) ?_
          refine rp 93 rfl (op_idx_sl0 e.t.toNat rfl (oT rfl) (oT rfl) (by intro _; omega)) ?_
          refine rl 94 rfl (op_load1_flat rfl (oT rfl) (by intro _; exact ⟨rfl, hrt⟩) rfl) ?_
          refine rp 95 rfl (op_lss rfl (oT rfl) oC) ?_
          refine rm 96 rfl rfl rfl ?_
          refine gm 97 rfl rfl tG rfl rfl ?_
          refine rg 98 rfl rfl tG (op_not rfl (oO rfl tO)) ?_
          refine rg 99 rfl rfl tG (op_move rfl (oO rfl tO)) ?_
          refine gm 100 rfl rfl tG rfl rfl ?_
          refine rg 101 rfl rfl tG (op_fld_ptr (by decide) rfl (oT rfl)) ?_
          refine rk 102 rfl rfl tG (op_load1_flat rfl (oO rfl tO) tH rfl) ?_
          refine rg 103 rfl rfl tG (op_add rfl (oO rfl tO) (oO rfl tO) tI) ?_
          refine gm 104 rfl rfl tG rfl rfl ?_
          refine rg 105 rfl rfl tG (op_lss rfl (oO rfl tO) (oO rfl tO)) ?_
          refine rg 106 rfl rfl tG (op_pick_or rfl (oO rfl tO) (oO rfl tO)) ?_
          refine rp 107 rfl (op_pick_and rfl (oT rfl) (oO rfl tO)) ?_
          refine rn ?_
          refine nK2 ?_
          refine n_cond _ rfl (fun hb => ?_) (fun hb => ?_)
          ·have hc : gt0 (dist.set x kx) e.t.toNat < 0 ∧ (h2.place e.t.toNat < 0 ∨ kx + e.c < h2.key e.t.toNat) := by
            simp only [Bool.and_eq_true, Bool.or_eq_true, Bool.not_eq_true', decide_eq_true_eq, decide_eq_false_iff_not] at hb
            refine ⟨hb.1, ?_⟩
            rcases hb.2 with h5 | h5
            ·exact .inl (by omega)
            ·by_cases h6 : 0 ≤ h2.place e.t.toNat
             ·rw [if_pos h6] at h5; exact .inr h5
             ·exact .inl (by omega)
           refine nK2 ?_
           refine s_reg rfl ?_
           refine rm 108 rfl rfl rfl ?_
           refine rp 109 rfl (op_fld_ptr (by decide) rfl (oT rfl)) ?_
           refine rl 110 rfl (op_load1_flat rfl (oT rfl) tH rfl) ?_
           refine rm 111 rfl rfl rfl ?_
           refine rp 112 rfl (op_fld_ptr (by decide) rfl (oT rfl)) ?_
           refine rl 113 rfl (op_load1_flat rfl (oT rfl) tH rfl) ?_
           refine rp 114 rfl (op_add rfl (oT rfl) (oT rfl) tI) ?_
           refine Run.eff (dd := some 115) rfl rfl (op_call (n := 4) (n' := 5) [1, 2, 3, 4] (fun _ => hset) rfl (Opd.func _) (oS (oT rfl) (oS (oT rfl) (oS (oT rfl) Opds.nil))) rfl rfl (Lent.of rfl rfl (by exact ⟨⟨rfl, rfl, rfl, tL⟩, ⟨rfl, rfl, rfl, trivial⟩, ⟨rfl, rfl, rfl, trivial⟩, ⟨rfl, rfl, rfl, trivial⟩, trivial⟩) rfl) rfl rfl rfl rfl rfl) ?_
           refine rn ?_
           refine nK2 ?_
           refine s_reg rfl ?_
           refine rp 116 rfl (op_add rfl (oT rfl) oC tI) ?_
           refine rm 79 rfl rfl rfl ?_
           refine rn ?_
           refine nK2 ?_
           refine Next.weak [0, 1, 6, 3, 4] [] (by rfl) (keepsN hC _ rfl) (by repeat (first | exact trivial | refine ⟨⟨_, rfl, .inl ⟨rfl, rfl⟩⟩, ?_⟩ | refine ⟨⟨_, rfl, .inl ⟨slEq rfl tN, rfl⟩⟩, ?_⟩ | refine ⟨⟨_, rfl, .inl ⟨ivEq tX, rfl⟩⟩, ?_⟩)) (by exact ⟨ent_same rfl rfl rfl tL, ⟨ent_same rfl rfl rfl tL, ⟨ent_same rfl rfl rfl tL, ⟨ent_same rfl rfl rfl tL, ⟨ent_same rfl rfl rfl tL, trivial⟩⟩⟩⟩⟩) (fun _ h => by simp at h) (hK3 _ (hput hc))
          ·have hc : ¬ (gt0 (dist.set x kx) e.t.toNat < 0 ∧ (h2.place e.t.toNat < 0 ∨ kx + e.c < h2.key e.t.toNat)) := fun hc => by
            rw [Bool.eq_false_iff] at hb
            apply hb
            simp only [Bool.and_eq_true, Bool.or_eq_true, Bool.not_eq_true', decide_eq_true_eq, decide_eq_false_iff_not]
            refine ⟨hc.1, ?_⟩
            by_cases h6 : 0 ≤ h2.place e.t.toNat
            ·rw [if_pos h6]
             rcases hc.2 with h5 | h5
             ·omega
             ·exact .inr h5
            ·exact .inl (by omega)
           refine nK2 ?_
           refine s_reg rfl ?_
           refine rp 116 rfl (op_add rfl (oT rfl) oC tI) ?_
           refine rm 79 rfl rfl rfl ?_
           refine rn ?_
           refine nK2 ?_
           refine Next.weak [0, 1, 2, 3, 4] [] (by rfl) (keepsN hC _ rfl) (by repeat (first | exact trivial | refine ⟨⟨_, rfl, .inl ⟨rfl, rfl⟩⟩, ?_⟩ | refine ⟨⟨_, rfl, .inl ⟨slEq rfl tN, rfl⟩⟩, ?_⟩ | refine ⟨⟨_, rfl, .inl ⟨ivEq tX, rfl⟩⟩, ?_⟩)) (by exact ⟨ent_same rfl rfl rfl tL, ⟨ent_same rfl rfl rfl tL, ⟨ent_same rfl rfl rfl tL, ⟨ent_same rfl rfl rfl tL, ⟨ent_same rfl rfl rfl tL, trivial⟩⟩⟩⟩⟩) (fun _ h => by simp at h) (hK3 _ (hskip hc))
         ·have hje : j = L.length := by simp at hb; omega
          subst hje
          rw [List.drop_length] at hJ
          refine nK2 ?_
          refine Next.weak [0, 1, 2, 3, 4] [] (by rfl) (keepsN hC _ rfl) (by repeat (first | exact trivial | refine ⟨⟨_, rfl, .inl ⟨rfl, rfl⟩⟩, ?_⟩ | refine ⟨⟨_, rfl, .inl ⟨slEq rfl tN, rfl⟩⟩, ?_⟩ | refine ⟨⟨_, rfl, .inl ⟨ivEq tX, rfl⟩⟩, ?_⟩)) (by exact ⟨ent_same rfl rfl rfl tL, ⟨ent_same rfl rfl rfl tL, ⟨ent_same rfl rfl rfl tL, ⟨ent_same rfl rfl rfl tL, ⟨ent_same rfl rfl rfl tL, trivial⟩⟩⟩⟩⟩) (fun _ h => by simp at h) (hK (dist.set x kx, h2) hJ (by dsimp only; omega))
end Go.Proofs.Ytnkhlbljnmodbaa
namespace Go.Proofs.Ytnkhlbljnmodbaa
open Go Go.RT Go.Proofs Go.Pl
set_option linter.all false
set_option maxRecDepth 20000
set_option maxHeartbeats 2000000
theorem parents_c (g : Gr) (a : Nat) (d : List Int) (hg : checkI g = 0) (hd : d.length = (g.r + g.n).toNat) (hD : ∀ v, v < (g.r + g.n).toNat → -1 ≤ gt0 d v ∧ gt0 d v ≤ 10000000) : Pure Try.prog 44 [.agg (encG g), If .i64 a, VI d] (VLL (parL g.es a d (g.r + g.n).toNat)) := by
 obtain ⟨vg, hr0, hn0⟩ := checkI_vg hg
 have hn := vg.n128
 have hel := vg.e1024
 generalize hN : (g.r + g.n).toNat = n at *
 refine Meets.intro Try.func44 rfl (Nat.le_of_ble_eq_true rfl) fun C hC => ?_
 simp only [List.map, argEnv, Nat.reduceAdd]
 refine nK2 ?_
 refine s_reg rfl ?_
 refine Run.eff (dd := some 3) rfl rfl (op_box_flat rfl (oT rfl) tC rfl) ?_
 refine rp 6 rfl (op_assign rfl oC) ?_
 refine rn ?_
 refine nK2 ?_
 refine s_reg rfl ?_
 refine rm 10 rfl rfl rfl ?_
 refine rp 11 rfl (op_len_fz rfl (by first | exact Opd.tmp _ _ rfl | exact Opd.nil _ _ (oT rfl)) (by first | exact List.length_map _ | rfl)) ?_
 refine Run.eff (dd := some 12) rfl rfl (op_make (l := n) (c := n) rfl (oT rfl) (oT rfl) rfl rfl rfl rfl (by intro _; rw [hd]; refine ⟨rfl, rfl, ?_⟩; omega)) ?_
 refine ra 7 rfl rfl rfl ?_
 refine rn ?_
 refine nK2 ?_
 refine Next.toOwn 1 1 n rfl ?_
 refine Next.weak [0, 1] [] (by rfl) (keepsN hC _ rfl) (G' := [(1, IV .i64 a), (2, .fz (VI d)), (3, .ptr 0 3 0 0), (7, .sl 1 1 0 n)]) (H' := [(0, OG g), (1, some (.refs 1 (ownL 1 (rowsI (parL [] a d n)))))]) (by repeat (first | exact trivial | refine ⟨⟨_, rfl, .inl ⟨rfl, rfl⟩⟩, ?_⟩ | refine ⟨⟨_, rfl, .inl ⟨slEq rfl tN, rfl⟩⟩, ?_⟩ | refine ⟨⟨_, rfl, .inl ⟨ivEq tX, rfl⟩⟩, ?_⟩)) (by exact ⟨ent_same rfl rfl rfl tL, ⟨ent_own rfl rfl (by rw [parL_nil, rowsI_nil, ← ownL_rep]; rfl), trivial⟩⟩) (fun _ h => by simp at h) ?_
 refine nK2 ?_
 refine s_reg rfl ?_
 refine rp 13 rfl (op_fld_ptr (by decide) rfl (oT rfl)) ?_
 refine rl 14 rfl (op_load1_flat rfl (oT rfl) tH rfl) ?_
 refine rp 15 rfl (op_len_fz rfl (by first | exact Opd.tmp _ _ rfl | exact Opd.nil _ _ (oT rfl)) (by first | exact List.length_map _ | rfl)) ?_
 refine rp 16 rfl (op_move rfl oC) ?_
 refine rn ?_
 refine nK2 ?_
 refine n_loop (ι := Nat) (fun i => ([(1, IV .i64 a), (2, .fz (VI d)), (7, .sl 0 1 0 n), (14, .fz (VE g.es)), (15, IV .i64 g.es.length), (16, IV .i64 i)], [(0, some (.refs 1 (ownL 1 (rowsI (parL (g.es.take i) a d n)))))], 1)) (fun i => i ≤ g.es.length) (fun i => g.es.length - i) 0 (Nat.zero_le _) ?_ ?_
 ·refine Next.weak [1] [] (by rfl) (keepsN hC _ rfl) (by repeat (first | exact trivial | refine ⟨⟨_, rfl, .inl ⟨rfl, rfl⟩⟩, ?_⟩ | refine ⟨⟨_, rfl, .inl ⟨slEq rfl tN, rfl⟩⟩, ?_⟩ | refine ⟨⟨_, rfl, .inl ⟨ivEq tX, rfl⟩⟩, ?_⟩)) (by exact ⟨ent_own rfl rfl rfl, trivial⟩) (fun _ h => by simp at h) rel_intro
 ·intro i hi K hK
  try dsimp only at hi ⊢
  refine nK2 ?_
  refine s_reg rfl ?_
  refine rp 17 rfl (op_lss rfl (oT rfl) (oT rfl)) ?_
  refine rn ?_
  refine nK2 ?_
  refine n_cond _ rfl (fun hb => ?_) (fun hb => ?_)
  ·have hlt : i < g.es.length := by simp at hb; omega
   have hr1 := row_at' encE g.es i hlt
   have hef := vg.f _ (List.getElem_mem hlt)
   have het := vg.t _ (List.getElem_mem hlt)
   have hec := vg.c _ (List.getElem_mem hlt)
   have hyes := parL_yes (n := n) (a := a) (d := d) hlt het.1
   have hno := parL_no (n := n) (a := a) (d := d) hlt
   have hgt := parL_get (g.es.take i) a d (n := n) (v := g.es[i].t.toNat) (by omega)
   have hpl := parL_len (g.es.take i) a d n
   have hlen : (parE (g.es.take i) a d g.es[i].t.toNat).length ≤ 1024 := by
    have h1 : (parE (g.es.take i) a d g.es[i].t.toNat).length ≤ (g.es.take i).length := by unfold parE; rw [List.length_map]; exact List.length_filter_le _ _
    have h2 : (g.es.take i).length ≤ g.es.length := List.length_take_le' _ _
    omega
   have hK1 := hK (i + 1) (by omega) (by omega)
   generalize parL (g.es.take (i + 1)) a d n = ll2 at *
   generalize parL (g.es.take i) a d n = ll at *
   have hrg := rowsI_get (ll := ll) (v := g.es[i].t.toNat) (by omega)
   rw [hgt] at hrg
   generalize parE (g.es.take i) a d g.es[i].t.toNat = row at *
   generalize g.es[i] = e at *
   have hrf := row_of encN d e.f.toNat 0 (by omega)
   have hrt := row_of encN d e.t.toNat 0 (by omega)
   have hDf := hD e.f.toNat (by omega)
   have hgf : d.getD e.f.toNat 0 = gt0 d e.f.toNat := rfl
   have hgt2 : d.getD e.t.toNat 0 = gt0 d e.t.toNat := rfl
   rw [hgf] at hrf; rw [hgt2] at hrt
   refine nK2 ?_
   refine s_reg rfl ?_
   refine rp 18 rfl (op_idx_fz _ rfl (oT rfl) (oT rfl) tF) ?_
   refine rp 19 rfl (op_loadw_fz rfl (oT rfl) rfl) ?_
   refine Run.eff (dd := some 9) rfl rfl (op_alloc rfl rfl rfl rfl) ?_
   refine Run.eff (dd := none) rfl rfl (op_store_flat rfl (oT rfl) (oT rfl) tC rfl rfl (by first | rfl | assumption) tS) ?_
   refine rn ?_
   refine nK2 ?_
   refine s_draw mixed ?_
   refine rp 20 rfl (op_fld_ptr (by decide) rfl (oT rfl)) ?_
   refine rl 21 rfl (op_load1_flat rfl (oT rfl) tH rfl) ?_
   refine rm 22 rfl rfl rfl ?_
   refine rp 23 rfl (op_neq rfl (oT rfl) (oT rfl)) ?_
   refine rm 24 rfl rfl rfl ?_
   refine gm 25 rfl rfl tG rfl rfl ?_
   refine rg 26 rfl rfl tG (op_fld_ptr (by decide) rfl (oT rfl)) ?_
   refine rk 27 rfl rfl tG (op_load1_flat rfl (oO rfl tO) tH rfl) ?_
   refine rg 28 rfl rfl tG (op_idx_fz e.f.toNat rfl (oO rfl tO) (oO rfl tO) (by intro _; exact ⟨by omega, hrf⟩)) ?_
   refine rg 29 rfl rfl tG (op_load1_fz rfl (oO rfl tO) rfl) ?_
   refine rg 30 rfl rfl tG (op_neq rfl (oO rfl tO) oC) ?_
   refine rp 31 rfl (op_pick_and rfl (oT rfl) (oO rfl tO)) ?_
   refine rm 32 rfl rfl rfl ?_
   refine gm 33 rfl rfl tG rfl rfl ?_
   refine rg 34 rfl rfl tG (op_fld_ptr (by decide) rfl (oT rfl)) ?_
   refine rk 35 rfl rfl tG (op_load1_flat rfl (oO rfl tO) tH rfl) ?_
   refine rg 36 rfl rfl tG (op_idx_fz e.f.toNat rfl (oO rfl tO) (oO rfl tO) (by intro _; exact ⟨by omega, hrf⟩)) ?_
   refine rg 37 rfl rfl tG (op_load1_fz rfl (oO rfl tO) rfl) ?_
   refine rg 38 rfl rfl tG (op_fld_ptr (by decide) rfl (oT rfl)) ?_
   refine rk 39 rfl rfl tG (op_load1_flat rfl (oO rfl tO) tH rfl) ?_
   refine rg 40 rfl rfl tG (op_add rfl (oO rfl tO) (oO rfl tO) tI) ?_
   refine gm 41 rfl rfl tG rfl rfl ?_
   refine rg 42 rfl rfl tG (op_fld_ptr (by decide) rfl (oT rfl)) ?_
   refine rk 43 rfl rfl tG (op_load1_flat rfl (oO rfl tO) tH rfl) ?_
   refine rg 44 rfl rfl tG (op_idx_fz e.t.toNat rfl (oO rfl tO) (oO rfl tO) (by intro _; exact ⟨by omega, hrt⟩)) ?_
   refine rg 45 rfl rfl tG (op_load1_fz rfl (oO rfl tO) rfl) ?_
   refine rg 46 rfl rfl tG (op_eql rfl (oO rfl tO) (oO rfl tO)) ?_
   refine rp 47 rfl (op_pick_and rfl (oT rfl) (oO rfl tO)) ?_
   refine Run.nil (FinD.mk (by kernel_rfl) ?_)
   refine nK2 ?_
   refine n_cond _ rfl (fun hb => ?_) (fun hb => ?_)
   ·rw [← hyes hb] at hK1
    refine nK2 ?_
    refine Next.take 0 e.t.toNat 0 rfl (ownL_get hrg) rfl rfl ?_
    have hs1 := set_get (ownL 1 (rowsI ll)) e.t.toNat [.sl 2 1 0 (row.map encN).length] (by rw [ownL_len, rowsI_len, hpl]; omega)
    refine nK2 ?_
    refine s_draw mixed ?_
    refine rm 48 rfl rfl rfl ?_
    refine rp 49 rfl (op_fld_ptr (by decide) rfl (oT rfl)) ?_
    refine rl 50 rfl (op_load1_flat rfl (oT rfl) tH rfl) ?_
    refine rm 51 rfl rfl rfl ?_
    refine rp 52 rfl (op_fld_ptr (by decide) rfl (oT rfl)) ?_
    refine rl 53 rfl (op_load1_flat rfl (oT rfl) tH rfl) ?_
    refine rp 54 rfl (op_idx_sl0 e.t.toNat rfl (oT rfl) (oT rfl) (by intro _; omega)) ?_
    refine rl 55 rfl (op_load1_refs rfl (oT rfl) (by intro _; exact ⟨rfl, hs1⟩) rfl) ?_
    refine rp 56 rfl (op_fld_ptr (by decide) rfl (oT rfl)) ?_
    refine rl 57 rfl (op_load1_flat rfl (oT rfl) tH rfl) ?_
    refine rp 58 rfl (op_buildSlice_fz rfl (RowsF.cons _ _ _ _ _ _ (oT rfl) tC (by rfl) (RowsF.nil _)) rfl rfl) ?_
    refine Run.effW (dd := some 59) rfl rfl (op_append rfl (oT rfl) (by first | exact Opd.tmp _ _ rfl | exact Opd.nil _ _ (oT rfl)) rfl (by first | rfl | simp) rfl rfl tB tB) (by first | exact ext_call | exact tE) ?_
    refine rp 60 rfl (op_idx_sl0 e.t.toNat rfl (oT rfl) (oT rfl) (by intro _; omega)) ?_
    refine Run.effW (dd := none) rfl rfl (op_store_refs rfl (oT rfl) (oT rfl) tP rfl rfl hs1 tS) (by first | exact ext_call | exact tE) ?_
    refine Run.nil (FinD.mk (by kernel_rfl) ?_)
    refine nK2 ?_
    refine s_reg rfl ?_
    refine rp 61 rfl (op_add rfl (oT rfl) oC tI) ?_
    refine rm 16 rfl rfl rfl ?_
    refine rn ?_
    refine nK2 ?_
    refine Next.untake 0 e.t.toNat 0 rfl (set_get _ _ _ (by rw [List.length_set, ownL_len, rowsI_len, hpl]; omega)) rfl rfl (by simp) rfl ?_
    refine Next.weak [0] [] (by rfl) (keepsN hC _ rfl) (by repeat (first | exact trivial | refine ⟨⟨_, rfl, .inl ⟨rfl, rfl⟩⟩, ?_⟩ | refine ⟨⟨_, rfl, .inl ⟨slEq rfl tN, rfl⟩⟩, ?_⟩ | refine ⟨⟨_, rfl, .inl ⟨ivEq tX, rfl⟩⟩, ?_⟩)) (by exact ⟨ent_own rfl rfl (congrArg (fun r => some (Ob.refs 1 r)) (own_back.trans (congrArg _ (by rw [← rowsI_set, List.map_append]; rfl)))), trivial⟩) (fun _ h => by simp at h) hK1
   ·rw [← hno (by rw [Bool.not_eq_true]; exact hb)] at hK1
    refine nK2 ?_
    refine s_reg rfl ?_
    refine rp 61 rfl (op_add rfl (oT rfl) oC tI) ?_
    refine rm 16 rfl rfl rfl ?_
    refine rn ?_
    refine nK2 ?_
    refine Next.weak [0] [] (by rfl) (keepsN hC _ rfl) (by repeat (first | exact trivial | refine ⟨⟨_, rfl, .inl ⟨rfl, rfl⟩⟩, ?_⟩ | refine ⟨⟨_, rfl, .inl ⟨slEq rfl tN, rfl⟩⟩, ?_⟩ | refine ⟨⟨_, rfl, .inl ⟨ivEq tX, rfl⟩⟩, ?_⟩)) (by exact ⟨ent_own rfl rfl rfl, trivial⟩) (fun _ h => by simp at h) hK1
  ·have hge : i = g.es.length := by simp at hb; omega
   subst hge
   rw [List.take_length]
   refine Next.freezeOwn 0 rfl rfl ?_
   refine nK2 ?_
   refine s_reg rfl ?_
   refine rm 62 rfl rfl rfl ?_
   refine ra 6 rfl rfl rfl ?_
   refine rn ?_
   refine nK2 ?_
   have hFl : (fzL 1 (rowsI (parL g.es a d n))).length = n := by rw [fzL_len, rowsI_len, parL_len]
   refine Next.weakS [] [6] (by rfl) (keeps0 hC _) (G' := [(6, .fz (VLL (parL g.es a d n)))]) (H' := []) ⟨⟨_, rfl, .inr ⟨_, rfl, .sl _ _ _ _ _ _ rfl rfl ((take_all0 hFl).trans (fz_rowsI _)) (by rw [← fz_rowsI, hFl])⟩⟩, trivial⟩ trivial rfl ?_
   exact n_out1 rfl (by rfl) rfl rfl
end Go.Proofs.Ytnkhlbljnmodbaa
/- The kit's contract of slices.SortFunc at elements of one cell, with a closure over frozen data. -/
namespace Go.RT
open Go Go.Proofs Go.Sort Go.Shelf
set_option linter.all false
variable {P : Program} {ρ : Ren}
theorem cmp_lays1 {g : Nat} {β : Type} [Inhabited β] {ev : β → Value} {cf : β → β → Int} {caps : List FV} (hc : ∀ x y, Pure P g ([.lit (ev x), .lit (ev y)] ++ caps) (If .i64 (cf x y))) {blk off size : Nat} {w : World} {S : Nat → Prop} {cb : Array Value} (hblk : ¬ S blk) (hS : ∀ b, S b → b < w.heap.size)
    (hcl : cb.size = caps.length) (hcr : ∀ (i : Nat) (v : Value) (f : FV), cb[i]? = some v → caps[i]? = some f → FRep w S v f) {c : Array Value} {e : TypeId} (hb : w.heap[blk]? = some (.cells c e (0, 0))) : CmpLays1 P g cb ev cf blk off size w := by
  intro m os dk _ x y
  have hsame : ∀ b, S b → (sortWorld ev w blk off m dk os).heap[b]? = w.heap[b]? := fun b hs => by
    have hbl := hS b hs
    have hne : b ≠ blk := fun e => hblk (e ▸ hs)
    unfold sortWorld putRow
    rw [mapBlock_setRow (w := Go.Sort.ahead w m) (b := blk) (c := c) (e := e) (fr := (0, 0)) _ hb]
    have : (grow ((Go.Sort.ahead w m).setRow blk (putCells ev off dk c)) os) = grown (w.setRow blk (putCells ev off dk c)) os m := rfl
    rw [this, grown_old _ _ _ (by simpa using hbl), setRow_other w blk b _ hne]
  have hsz : w.heap.size ≤ (sortWorld ev w blk off m dk os).heap.size := by
    unfold sortWorld putRow
    rw [mapBlock_setRow (w := Go.Sort.ahead w m) (b := blk) (c := c) (e := e) (fr := (0, 0)) _ hb]
    have : (grow ((Go.Sort.ahead w m).setRow blk (putCells ev off dk c)) os) = grown (w.setRow blk (putCells ev off dk c)) os m := rfl
    rw [this]; simp [grown]
  generalize sortWorld ev w blk off m dk os = W at hsame hsz
  let C : Cx := ⟨W, fun _ => False, S, fun _ => none, 0⟩
  have hm : Mem C [] 0 C.S0 C.m0 C.w0 := ⟨⟨rfl, Nat.le_refl _⟩, rfl, rfl, fun _ _ => rfl, Nat.le_refl _, fun _ _ _ => rfl, Le.refl _ _ _, fun b h => .inl h, fun i x hx => (by cases hx), fun i o h => (by cases h), fun i o b h => (by cases h), fun i j o1 o2 b h => (by cases h), fun b hb => Nat.lt_of_lt_of_le (hS b hb) hsz, fun _ _ => rfl, nst_nil⟩
  have := (hc x y).run C ([ev x, ev y] ++ cb.toList) rfl hm (by simp [hcl]) (fun i v p hi hp => by
    rw [List.getElem?_map] at hp
    obtain ⟨f, hf, rfl⟩ := Option.map_eq_some_iff.1 hp
    match i with
    | 0 => simp at hi hf; subst hi; subst hf; exact .fz _ _ (.lit _)
    | 1 => simp at hi hf; subst hi; subst hf; exact .fz _ _ (.lit _)
    | i + 2 =>
      simp at hi hf
      exact .fz _ _ ((hcr i v f hi hf).mono (fun _ h => h) hsame))
  have h2 : Calls P g (#[ev x, ev y] ++ cb) W (fun e w' => ∃ v S' m', e = .returned v ∧ Mem C [] 0 S' m' w' ∧ Rep w' S' m' v (.fz (If .i64 (cf x y)))) := by
    have e1 : ([ev x, ev y] ++ cb.toList).toArray = #[ev x, ev y] ++ cb := by simp
    rw [e1] at this; exact this
  refine h2.mono fun e w' ⟨v, S', m', he, hm', hr⟩ => ?_
  obtain ⟨q, os', hw⟩ := hm'.is_grown (fun b h => h)
  refine ⟨by rw [he]; cases hr with | fz _ _ h => cases h; rfl, q, os', hw⟩
theorem sort1_meets (L : SlLaysF.n6 P ρ) {β : Type} [Inhabited β] {ev : β → Value} (h1 : OneCell ev) {cf : β → β → Int} (hO : SWO (ltOf cf)) {g : Nat} [FnB P g] {caps : List FV}
    (hc : ∀ x y, Pure P g ([.lit (ev x), .lit (ev y)] ++ caps) (If .i64 (cf x y))) {l : List β} (hl : l.length < 4611686018427387904) :
    Meets P (ρ.f 6) [.sl 0 1 0 l.length, .fz (.clo g caps)] 1 [(0, some (.flat 1 (l.map fun x => [.lit (ev x)])))] (.fz (.tup [])) [(0, some (.flat 1 ((sortBy cf l).map fun x => [.lit (ev x)])))] 1 := by
  refine ⟨fun C vs hn hm hlv hr => ?_⟩
  have hg : ∀ args w, (callFunc g args).run P w = .ok (.enter g args) w := fun args w => by
    obtain ⟨fn, q1, q2, q3⟩ := (inferInstance : FnB P g).h
    have h4 : ¬ (fn.body = none) := by intro e; rw [e] at q3; cases q3
    have h5 : ¬ (fn.name = "runtime.NumGoroutine") := by simpa using q2
    simp [callFunc, q1, h4, h5]
  have tupR : ∀ w' S' m', Rep w' S' m' (.tuple #[]) (.fz (.tup [])) := fun w' S' m' => .fz _ _ (.tup #[] [] rfl (fun i c f hc => by simp at hc))
  match vs, hlv, hr with
  | [v0, v1], _, hr =>
  have r0 := hr 0 v0 _ rfl rfl
  have r1 := (hr 1 v1 _ rfl rfl).frz
  have ho := hm.objs 0 _ rfl
  obtain ⟨hs1, hs2, _⟩ := sortBy_spec cf hO l
  cases r1 with
  | clo _ cb _ hcl hcr =>
  generalize hll : l.length = n at r0 hl
  cases r0 with
  | sl0 =>
    have : l = [] := List.length_eq_zero_iff.1 hll
    subst this
    have e : sortBy cf ([] : List β) = [] := List.length_eq_zero_iff.1 hs2
    rw [e]
    refine (AnyF.slices_SortFunc_none (P := P) (ρ := ρ) { L with } none 0 (.func (.func g) #[] cb) C.w0).mono fun e w' ⟨he, hw⟩ => ?_
    subst hw
    exact ⟨_, _, _, he, hm, tupR _ _ _⟩
  | sl _ _ _ _ b cap h hroom hcap hmx =>
    rcases ho with ⟨h2, _⟩ | ⟨b', c, e, h2, h3, h4⟩
    · rw [h] at h2; cases h2
    · rw [h] at h2; cases h2
      obtain ⟨hsz, _, hR⟩ := h4
      obtain ⟨hb1, hb2, hb3⟩ := hm.blk 0 _ b rfl h
      have hcells : ∀ j (hj : j < l.length), c[j]? = some (ev l[j]) := fun j hj => by
        obtain ⟨u, hu, _, hf⟩ := hR j 0 [.lit (ev l[j])] (.lit (ev l[j])) (by simp [hj]) rfl
        cases hf
        simpa using hu
      have hH : Holds ev C.w0 b (0 * 1) l.toArray := by
        intro j hj
        simp at hj
        refine ⟨?_, ?_⟩
        · simp only [World.cell?, h3, Nat.zero_mul, Nat.zero_add]
          rw [getElem!_pos _ j (by simpa using hj)]
          simpa using hcells j hj
        · simp [World.frozen?, h3]
      have hcall := Any.slices_SortFunc_eq L ev h1 cf hO g cb b (0 * 1) cap l.toArray C.w0 hg (cmp_lays1 hc hb1 hm.stab hcl hcr h3) hH hb2 (by simpa [hll] using hl)
      rw [show l.toArray.size = n by simpa using hll] at hcall
      refine hcall.mono fun ex w' ⟨he, q, os, hw⟩ => ?_
      subst hw
      have hd : pdq (ltOf cf) l.toArray 0 n (Lib.bitLen n) true true = (sortBy cf l).toArray := by rw [← hll]; simp [sortBy]
      rw [hd]
      have hset : sortWorld ev C.w0 b (0 * 1) q (sortBy cf l).toArray os = grown (C.w0.setRow b (putCells ev 0 (sortBy cf l).toArray c)) os q := by
        unfold sortWorld putRow
        rw [mapBlock_setRow (w := Go.Sort.ahead C.w0 q) (b := b) (c := c) (e := e) (fr := (0, 0)) _ h3, Nat.zero_mul]
        rfl
      rw [hset]
      have hps : (putCells ev 0 (sortBy cf l).toArray c).size = c.size := by simp [putCells]
      have hrr : ∀ w' : World, RowsRep (FRep w' C.S0) (putCells ev 0 (sortBy cf l).toArray c) 1 ((sortBy cf l).map fun x => [FV.lit (ev x)]) := fun w' => by
        refine ⟨by rw [hps]; simpa [hs2] using hsz, fun r hr => ?_, fun i j r p hi hj => ?_⟩
        · obtain ⟨x, _, rfl⟩ := List.mem_map.1 hr
          rfl
        · rw [List.getElem?_map] at hi
          obtain ⟨x, hx, rfl⟩ := Option.map_eq_some_iff.1 hi
          have hin : i < (sortBy cf l).length := (List.getElem?_eq_some_iff.1 hx).1
          match j, hj with
          | 0, hj =>
            cases hj
            have hlt2 : i < c.size := by simp at hsz; omega
            refine ⟨ev x, ?_, h1 x, .lit _⟩
            unfold putCells
            rw [Nat.mul_one, Nat.add_zero, Array.getElem?_mapIdx, Array.getElem?_eq_getElem hlt2]
            simp only [Option.map_some, Nat.zero_le, true_and, Nat.zero_add, List.size_toArray, Nat.sub_zero]
            rw [if_pos hin, getElem!_pos _ i (by simpa using hin)]
            rw [List.getElem?_eq_getElem hin] at hx
            cases hx; simp
          | j + 1, hj => simp at hj
      obtain ⟨m1, hle1⟩ := hm.write (id := 0) (o' := .flat 1 ((sortBy cf l).map fun x => [.lit (ev x)])) rfl h h3 hps (plain_hown (by exact trivial)) (fun w' hle hb => .inr ⟨b, _, e, h, hb, hrr w'⟩)
      refine ⟨_, _, _, he, ((m1.reheap (H' := [(0, some (.flat 1 ((sortBy cf l).map fun x => [.lit (ev x)])))]) (fun id => ?_)).grow os q).1, tupR _ _ _⟩
      simp only [hlook]
      cases Nat.beq 0 id <;> rfl
end Go.RT
namespace Go.Proofs.Ytnkhlbljnmodbaa
open Go Go.RT Go.Proofs Go.Pl
set_option linter.all false
set_option maxRecDepth 20000
set_option maxHeartbeats 2000000
instance : FnOv Try.prog 76 37   := ⟨_, 4, Try.func76, by decide +kernel, rfl, by kernel_rfl, by kernel_rfl⟩
theorem inserti_c (l : List Int) (x : Int) (i : Nat) (hn : l.length ≤ 2000000) (hi : i ≤ l.length) : Meets Try.prog 62 [.sl 0 1 0 l.length, IV .i64 i, .sl 1 1 0 1] 2 [(0, OI l), (1, OI [x])] (.sl 2 1 0 (l.length + 1)) [(2, OI (insL l i x))] 3 := by
 have hil := insL_len l i x hi
 have e0 : ∀ xs ys : List Int, List.map encN (xs ++ ys) = xs.map encN ++ ys.map encN := fun xs ys => List.map_append
 refine Meets.intro Try.func62 rfl (Nat.le_of_ble_eq_true rfl) fun C hC => ?_
 simp only [List.map, argEnv, Nat.reduceAdd]
 by_cases hie : i = l.length
 ·refine nK ?_
  refine s_reg rfl ?_
  refine rp 6 rfl (op_assign rfl oC) ?_
  refine rn ?_
  refine nK ?_
  refine s_reg rfl ?_
  refine rm 10 rfl rfl rfl ?_
  refine rm 11 rfl rfl rfl ?_
  refine rl 12 rfl (op_slice_end (l := i) (h := l.length) rfl (oT rfl) (Bnd.yes _ _ _ _ _ (oT rfl) tQ) (Bnd.no _) (by intro _; refine ⟨rfl, ?_⟩; rw [List.length_map]; omega)) ?_
  refine rn ?_
  refine nK ?_
  refine s_reg rfl ?_
  refine rm 13 rfl rfl rfl ?_
  refine rp 14 rfl (op_len_sl rfl (oT rfl)) ?_
  refine ra 7 rfl rfl rfl ?_
  refine rn ?_
  refine nK ?_
  refine s_reg rfl ?_
  refine rm 15 rfl rfl rfl ?_
  refine rp 16 rfl (op_eql rfl (oT rfl) oC) ?_
  refine rn ?_
  refine nK ?_
  refine n_cond _ rfl (fun hb => ?_) (fun hb => ?_)
  ·simp at hb
  ·refine nK ?_
   refine s_reg rfl ?_
   refine rm 18 rfl rfl rfl ?_
   refine rp 19 rfl (op_len_sl rfl (oT rfl)) ?_
   refine ra 8 rfl rfl rfl ?_
   refine rn ?_
   refine nK ?_
   refine s_reg rfl ?_
   refine rm 20 rfl rfl rfl ?_
   refine rm 21 rfl rfl rfl ?_
   refine rp 22 rfl (op_eql rfl (oT rfl) (oT rfl)) ?_
   refine rn ?_
   refine nK ?_
   refine n_cond _ rfl (fun hb => ?_) (fun hb => ?_)
   ·have e4 : insL l i x = l ++ [x] := by rw [hie]; simp [insL]
    refine nK ?_
    refine s_reg rfl ?_
    refine rm 23 rfl rfl rfl ?_
    refine rm 24 rfl rfl rfl ?_
    refine Run.eff (dd := some 25) rfl rfl (op_append_own0 rfl (oT rfl) (oT rfl) rfl (by first | rfl | simp) rfl (by first | rfl | simp) rfl rfl tB tB) ?_
    refine ra 6 rfl rfl rfl ?_
    refine rn ?_
    refine nK ?_
    refine Next.weakS [0, 2, 6] [] (by rfl) (keepsN hC _ rfl) (G' := [(6, .sl 2 1 0 (l.length + 1))]) (H' := [(2, OI (insL l i x))]) (by exact ⟨⟨_, rfl, .inl ⟨rfl, rfl⟩⟩, trivial⟩) (by exact ⟨ent_same rfl rfl (by rw [e4, e0]; rfl) trivial, trivial⟩) rfl ?_
    exact n_out1 rfl (by rfl) rfl rfl
   ·exfalso; simp at hb; omega
 ·refine nK ?_
  refine s_reg rfl ?_
  refine rp 6 rfl (op_assign rfl oC) ?_
  refine rn ?_
  refine nK ?_
  refine s_reg rfl ?_
  refine rm 10 rfl rfl rfl ?_
  refine rm 11 rfl rfl rfl ?_
  refine rl 12 rfl (op_slice_view (l := i) (h := l.length) rfl (oT rfl) (Bnd.yes _ _ _ _ _ (oT rfl) tQ) (Bnd.no _) (by intro _; refine ⟨rfl, ?_⟩; rw [List.length_map]; omega)) ?_
  refine rn ?_
  refine nK ?_
  refine s_reg rfl ?_
  refine rm 13 rfl rfl rfl ?_
  refine rp 14 rfl (op_len_sl rfl (oT rfl)) ?_
  refine ra 7 rfl rfl rfl ?_
  refine rn ?_
  refine nK ?_
  refine s_reg rfl ?_
  refine rm 15 rfl rfl rfl ?_
  refine rp 16 rfl (op_eql rfl (oT rfl) oC) ?_
  refine rn ?_
  refine nK ?_
  refine n_cond _ rfl (fun hb => ?_) (fun hb => ?_)
  ·simp at hb
  ·refine nK ?_
   refine s_reg rfl ?_
   refine rm 18 rfl rfl rfl ?_
   refine rp 19 rfl (op_len_sl rfl (oT rfl)) ?_
   refine ra 8 rfl rfl rfl ?_
   refine rn ?_
   refine nK ?_
   refine s_reg rfl ?_
   refine rm 20 rfl rfl rfl ?_
   refine rm 21 rfl rfl rfl ?_
   refine rp 22 rfl (op_eql rfl (oT rfl) (oT rfl)) ?_
   refine rn ?_
   refine nK ?_
   refine n_cond _ rfl (fun hb => ?_) (fun hb => ?_)
   ·exfalso; simp at hb; omega
   ·refine Next.capE 0 rfl rfl rfl (Nat.zero_le _) fun cap hc1 hc2 hc3 => ?_
    unfold maxLen at hc3
    refine nK ?_
    refine s_reg rfl ?_
    refine rm 26 rfl rfl rfl ?_
    refine rm 27 rfl rfl rfl ?_
    refine rp 28 rfl (op_add rfl (oT rfl) (oT rfl) tI) ?_
    refine rm 29 rfl rfl rfl ?_
    refine rp 30 rfl (op_cap rfl (oT rfl)) ?_
    refine rp 31 rfl (op_gtr rfl (oT rfl) (oT rfl)) ?_
    refine rn ?_
    refine nK ?_
    refine n_cond _ rfl (fun hb => ?_) (fun hb => ?_)
    ·have hc4 : cap < l.length + 1 := by simp at hb; omega
     have hlen2 : ((l.map encN).take i ++ List.replicate (l.length + 1 - i) (encN 0)).length = l.length + 1 := by simp; omega
     refine nK ?_
     refine s_reg rfl ?_
     refine rm 32 rfl rfl rfl ?_
     refine rm 33 rfl rfl rfl ?_
     refine rp 34 rfl (op_slice_room (h := i) rfl (oT rfl) (Bnd.yes _ _ _ _ _ (oT rfl) tQ) (by intro _; omega)) ?_
     refine rm 35 rfl rfl rfl ?_
     refine rm 36 rfl rfl rfl ?_
     refine rp 37 rfl (op_add rfl (oT rfl) (oT rfl) tI) ?_
     refine rm 38 rfl rfl rfl ?_
     refine rp 39 rfl (op_sub rfl (oT rfl) (oT rfl) tI) ?_
     refine Run.eff (dd := some 40) rfl rfl (op_append_zg (k := l.length + 1 - i) (zs := encN 0) rfl (oT rfl) (opdI (oT rfl) (by omega)) rfl rfl rfl rfl rfl (by rw [List.length_map]; omega) (by omega) (by omega) (by omega) (by omega)) ?_
     refine ra 9 rfl rfl rfl ?_
     refine rn ?_
     refine nK ?_
     have hz : ∀ k : Nat, (some (Ob.flat 1 ((l.map encN).take i ++ List.replicate k [If .i64 0]))) = some (.flat 1 ((l.map encN).take i ++ List.replicate k (encN 0))) := fun _ => rfl
     refine nK ?_
     refine s_reg rfl ?_
     refine rm 41 rfl rfl rfl ?_
     refine rm 42 rfl rfl rfl ?_
     refine rl 43 rfl (op_slice_view (l := i) (h := i + (l.length + 1 - i)) rfl (oT rfl) (Bnd.yes _ _ _ _ _ (oT rfl) tQ) (Bnd.no _) (by intro _; refine ⟨rfl, ?_⟩; rw [hlen2]; omega)) ?_
     refine rm 44 rfl rfl rfl ?_
     refine Run.eff (dd := some 45) rfl rfl (op_copy (n := 1) (rs := [x].map encN) rfl (oT rfl) (oT rfl) rfl rfl (by show min _ _ = _; omega) rfl rfl (by rw [hlen2]; omega)) ?_
     refine rn ?_
     refine nK ?_
     have hlen3 : (((l.map encN).take i ++ List.replicate (l.length + 1 - i) (encN 0)).take (0 + i) ++ [x].map encN ++ ((l.map encN).take i ++ List.replicate (l.length + 1 - i) (encN 0)).drop (0 + i + 1)).length = l.length + 1 := by simp; omega
     refine nK ?_
     refine s_draw mixed ?_
     refine rm 46 rfl rfl rfl ?_
     refine rm 47 rfl rfl rfl ?_
     refine rm 48 rfl rfl rfl ?_
     refine rp 49 rfl (op_add rfl (oT rfl) (oT rfl) tI) ?_
     refine rl 50 rfl (op_slice_view (l := i + 1) (h := i + (l.length + 1 - i)) rfl (oT rfl) (Bnd.yes _ _ _ _ _ (oT rfl) tQ) (Bnd.no _) (by intro _; refine ⟨rfl, ?_⟩; rw [hlen3]; omega)) ?_
     refine rm 51 rfl rfl rfl ?_
     refine rm 52 rfl rfl rfl ?_
     refine rl 53 rfl (op_slice_view (l := i) (h := l.length) rfl (Opd.wc _ _ _ (oT rfl)) (Bnd.yes _ _ _ _ _ (oT rfl) tQ) (Bnd.no _) (by intro _; refine ⟨rfl, ?_⟩; rw [List.length_map]; omega)) ?_
     refine Run.effW (dd := some 54) rfl rfl (op_copy (n := l.length - i) (rs := (l.map encN).drop i) rfl (oT rfl) (oT rfl) rfl rfl (by show min _ _ = _; omega) (by rw [Nat.zero_add, List.take_of_length_le (by simp)]) (by simp) (by rw [hlen3]; omega)) tE ?_
     refine Run.nil (FinD.mk (by kernel_rfl) ?_)
     refine nK ?_
     have hgr := ins_grow (l.map encN) i (encN x) (encN 0) (by rw [List.length_map]; omega)
     rw [List.length_map, ← insL_map] at hgr
     refine nK ?_
     refine s_reg rfl ?_
     refine rm 55 rfl rfl rfl ?_
     refine ra 6 rfl rfl rfl ?_
     refine rn ?_
     refine nK ?_
     refine Next.weakS [0, 2, 6] [] (by rfl) (keepsN hC _ rfl) (G' := [(6, .sl 2 1 0 (l.length + 1))]) (H' := [(2, OI (insL l i x))]) (by exact ⟨⟨_, rfl, .inl ⟨slEq rfl (by omega), rfl⟩⟩, trivial⟩) (by exact ⟨ent_same rfl rfl (by rw [← hgr]; simp only [Nat.zero_add]; rfl) trivial, trivial⟩) rfl ?_
     exact n_out1 rfl (by rfl) rfl rfl
    ·have hc4 : l.length + 1 ≤ cap := by simp at hb; omega
     refine nK ?_
     refine s_reg rfl ?_
     refine rm 56 rfl rfl rfl ?_
     refine rm 57 rfl rfl rfl ?_
     refine rm 58 rfl rfl rfl ?_
     refine rp 59 rfl (op_add rfl (oT rfl) (oT rfl) tI) ?_
     refine rp 60 rfl (op_slice_room (h := l.length + 1) rfl (oT rfl) (Bnd.yes _ _ _ _ _ (oT rfl) (by intro _; simp)) (by intro _; omega)) ?_
     refine ra 0 rfl rfl rfl ?_
     refine rn ?_
     refine nK ?_
     refine nK ?_
     refine s_reg rfl ?_
     refine rm 61 rfl rfl rfl ?_
     refine rm 62 rfl rfl rfl ?_
     refine rm 63 rfl rfl rfl ?_
     refine rm 64 rfl rfl rfl ?_
     refine rp 65 rfl (op_add rfl (oT rfl) (oT rfl) tI) ?_
     refine rp 66 rfl (op_slice_fromR (l := i + 1) rfl (oT rfl) (Bnd.yes _ _ _ _ _ (oT rfl) tQ) (by intro _; omega)) ?_
     refine rl 67 rfl (op_overlaps rfl (oT rfl) (oT rfl) rfl rfl rfl (by rw [List.length_map]; omega) rfl) ?_
     refine rp 68 rfl (op_not rfl (oT rfl)) ?_
     refine rn ?_
     refine nK ?_
     refine n_cond _ rfl (fun hb => ?_) (fun hb => ?_)
     ·refine nK ?_
      refine s_draw mixed ?_
      refine rm 69 rfl rfl rfl ?_
      refine rm 70 rfl rfl rfl ?_
      refine rm 71 rfl rfl rfl ?_
      refine rp 72 rfl (op_add rfl (oT rfl) (oT rfl) tI) ?_
      refine rp 73 rfl (op_slice_fromR (l := i + 1) rfl (oT rfl) (Bnd.yes _ _ _ _ _ (oT rfl) tQ) (by intro _; omega)) ?_
      refine rm 74 rfl rfl rfl ?_
      refine rm 75 rfl rfl rfl ?_
      refine rp 76 rfl (op_slice_fromR (l := i) rfl (oT rfl) (Bnd.yes _ _ _ _ _ (oT rfl) tQ) (by intro _; omega)) ?_
      refine Run.effW (dd := some 77) rfl rfl (op_copy (n := l.length - i) (rs := (l.map encN).drop i) rfl (oT rfl) (oT rfl) rfl rfl (by show min _ _ = _; omega) (by rw [Nat.zero_add, List.take_of_length_le (by simp)]) (by simp) (by rw [List.length_map]; omega)) tE ?_
      refine Run.nil (FinD.mk (by kernel_rfl) ?_)
      refine nK ?_
      have hl5 : ((l.map encN).take (0 + (i + 1)) ++ (l.map encN).drop i ++ (l.map encN).drop (0 + (i + 1) + (l.length - i))).length = l.length + 1 := by simp; omega
      have hgr := ins_room (l.map encN) i (encN x) (by rw [List.length_map]; omega)
      rw [List.length_map, ← insL_map] at hgr
      refine nK ?_
      refine s_reg rfl ?_
      refine rm 78 rfl rfl rfl ?_
      refine rm 79 rfl rfl rfl ?_
      refine rl 80 rfl (op_slice_view (l := i) (h := l.length + 1) rfl (Opd.wc _ _ _ (oT rfl)) (Bnd.yes _ _ _ _ _ (oT rfl) tQ) (Bnd.no _) (by intro _; refine ⟨rfl, ?_⟩; rw [hl5]; omega)) ?_
      refine rm 81 rfl rfl rfl ?_
      refine Run.eff (dd := some 82) rfl rfl (op_copy (n := 1) (rs := [x].map encN) rfl (oT rfl) (oT rfl) rfl rfl (by show min _ _ = _; omega) rfl rfl (by rw [hl5]; omega)) ?_
      refine rn ?_
      refine nK ?_
      refine s_reg rfl ?_
      refine rm 83 rfl rfl rfl ?_
      refine ra 6 rfl rfl rfl ?_
      refine rn ?_
      refine nK ?_
      refine Next.unwc 6 rfl ?_
      refine Next.retag 6 rfl rfl ?_
      refine Next.weakS [0, 2, 6] [] (by rfl) (keepsN hC _ rfl) (G' := [(6, .sl 2 1 0 (l.length + 1))]) (H' := [(2, OI (insL l i x))]) (by exact ⟨⟨_, rfl, .inl ⟨rfl, rfl⟩⟩, trivial⟩) (by exact ⟨ent_same rfl rfl (by rw [← hgr]; simp only [Nat.zero_add]; rfl) trivial, trivial⟩) rfl ?_
      exact n_out1 rfl (by rfl) rfl rfl
     ·exfalso; simp at hb
end Go.Proofs.Ytnkhlbljnmodbaa
namespace Go.Proofs.Ytnkhlbljnmodbaa
open Go Go.RT Go.Proofs Go.Pl
set_option linter.all false
set_option maxRecDepth 20000
set_option maxHeartbeats 2000000
theorem snan_c (a : Int) : Pure Try.prog 75 [If .i64 a] (Bf false) := by
 refine Meets.intro Try.func75 rfl (Nat.le_of_ble_eq_true rfl) fun C hC => ?_
 simp only [List.map, argEnv, Nat.reduceAdd]
 refine nK ?_
 refine s_reg rfl ?_
 refine rp 2 rfl (op_assign rfl oC) ?_
 refine rn ?_
 refine nK ?_
 refine s_reg rfl ?_
 refine rm 3 rfl rfl rfl ?_
 refine rm 4 rfl rfl rfl ?_
 refine rp 5 rfl (op_neq rfl (oT rfl) (oT rfl)) ?_
 refine ra 2 rfl rfl rfl ?_
 refine rn ?_
 refine nK ?_
 refine Next.weakS [] [] (by rfl) (keeps0 hC _) (G' := [(2, BV false)]) (H' := []) ⟨⟨_, rfl, .inl ⟨by simp [renP], rfl⟩⟩, trivial⟩ trivial rfl ?_
 (first | exact s_o1 hC rfl tV | exact s_o2 hC rfl tV tV | exact s_o3 hC rfl tV tV tV | exact s_out0 hC rfl | exact s_outO hC rfl rfl rfl)
theorem cless_c (a b : Int) : Pure Try.prog 74 [If .i64 a, If .i64 b] (Bf (decide (a < b))) := by
 refine Meets.intro Try.func74 rfl (Nat.le_of_ble_eq_true rfl) fun C hC => ?_
 simp only [List.map, argEnv, Nat.reduceAdd]
 refine nK ?_
 refine s_reg rfl ?_
 refine rp 4 rfl (op_assign rfl oC) ?_
 refine rn ?_
 refine nK ?_
 refine s_reg rfl ?_
 refine rm 5 rfl rfl rfl ?_
 refine rp 6 rfl (op_call_pure (fun _ => nan_c _) rfl (Opd.func _) (oS (oT rfl) Opds.nil)) ?_
 refine rm 7 rfl rfl rfl ?_
 refine gm 8 rfl rfl tG rfl rfl ?_
 refine rg 9 rfl rfl tG (op_call_pure (fun _ => nan_c _) rfl (Opd.func _) (oS (oO rfl tO) Opds.nil)) ?_
 refine rg 10 rfl rfl tG (op_not rfl (oO rfl tO)) ?_
 refine rp 11 rfl (op_pick_and rfl (oT rfl) (oO rfl tO)) ?_
 refine rm 12 rfl rfl rfl ?_
 refine gm 13 rfl rfl tG rfl rfl ?_
 refine gm 14 rfl rfl tG rfl rfl ?_
 refine rg 15 rfl rfl tG (op_lss rfl (oO rfl tO) (oO rfl tO)) ?_
 refine rp 16 rfl (op_pick_or rfl (oT rfl) (oO rfl tO)) ?_
 refine ra 4 rfl rfl rfl ?_
 refine rn ?_
 refine nK ?_
 (first | exact s_o1 hC rfl tV | exact s_o2 hC rfl tV tV | exact s_o3 hC rfl tV tV tV | exact s_out0 hC rfl | exact s_outO hC rfl rfl rfl)
theorem bsearchi_c (l : List Int) (x : Int) (hn : l.length ≤ 2000000) : Pure Try.prog 61 [VI l, If .i64 x] (.tup [If .i64 (bsGo (fun e => decide (e < x)) l 0 l.length : Nat), Bf (hitAt (fun e => decide (e = x)) l (bsGo (fun e => decide (e < x)) l 0 l.length))]) := by
 refine Meets.intro Try.func61 rfl (Nat.le_of_ble_eq_true rfl) fun C hC => ?_
 simp only [List.map, argEnv, Nat.reduceAdd]
 refine nK ?_
 refine s_reg rfl ?_
 refine rp 4 rfl (op_assign rfl oC) ?_
 refine rp 5 rfl (op_assign rfl oC) ?_
 refine rn ?_
 refine nK ?_
 refine s_reg rfl ?_
 refine rm 10 rfl rfl rfl ?_
 refine rp 11 rfl (op_len_fz rfl (by first | exact Opd.tmp _ _ rfl | exact Opd.nil _ _ (oT rfl)) (by first | exact List.length_map _ | rfl)) ?_
 refine ra 6 rfl rfl rfl ?_
 refine rn ?_
 refine nK ?_
 refine s_reg rfl ?_
 refine rm 12 rfl rfl rfl ?_
 refine rp 7 rfl (op_assign rfl oC) ?_
 refine ra 8 rfl rfl rfl ?_
 refine rn ?_
 refine nK ?_
 refine n_loop (ι := Nat × Nat) (fun g => ([(0, .fz (VI l)), (1, IV .i64 x), (6, IV .i64 l.length), (7, IV .i64 g.1), (8, IV .i64 g.2)], [], 0)) (fun g => g.1 ≤ g.2 ∧ g.2 ≤ l.length ∧ bsGo (fun e => decide (e < x)) l g.1 g.2 = bsGo (fun e => decide (e < x)) l 0 l.length) (fun g => g.2 - g.1) (0, l.length) ⟨Nat.zero_le _, Nat.le_refl _, rfl⟩ ?_ ?_
 ·refine Next.weak [] [] (by rfl) (keeps0 hC _) (by repeat (first | exact trivial | refine ⟨⟨_, rfl, .inl ⟨rfl, rfl⟩⟩, ?_⟩)) (by repeat (first | exact trivial | refine ⟨ent_same rfl rfl rfl tL, ?_⟩ | refine ⟨ent_same rfl rfl (rfEq rfl tU) tL, ?_⟩ | refine ⟨ent_same rfl rfl (flEq rfl (by first | (simp; done) | (simp; omega) | (simp [encE, encN, encB, encT, encL]; done) | simp [maxC, minC])) trivial, ?_⟩)) (fun _ h => by simp at h) rel_intro
 ·intro ⟨i, j⟩ ⟨hi, hj, ho⟩ K hK
  dsimp only at hi hj ho ⊢
  refine nK ?_
  refine s_reg rfl ?_
  refine rm 13 rfl rfl rfl ?_
  refine rm 14 rfl rfl rfl ?_
  refine rp 15 rfl (op_lss rfl (oT rfl) (oT rfl)) ?_
  refine rn ?_
  refine nK ?_
  refine n_cond _ rfl (fun hb => ?_) (fun hb => ?_)
  ·have hlt : i < j := by simp at hb; omega
   have hm : (i + j) / 2 < l.length := by omega
   have hr1 := row_at' encN l ((i + j) / 2) hm
   have hst := bsGo_step (fun e => decide (e < x)) l i j hlt hj
   rw [ho] at hst
   have hKl := fun h => hK (((i + j) / 2) + 1, j) ⟨by dsimp only; omega, by dsimp only; omega, h⟩ (by dsimp only; omega)
   have hKr := fun h => hK (i, (i + j) / 2) ⟨by dsimp only; omega, by dsimp only; omega, h⟩ (by dsimp only; omega)
   generalize l[(i + j) / 2] = e at *
   refine nK ?_
   refine s_reg rfl ?_
   refine rm 16 rfl rfl rfl ?_
   refine rm 17 rfl rfl rfl ?_
   refine rp 18 rfl (op_add rfl (oT rfl) (oT rfl) tI) ?_
   refine rp 19 rfl (op_conv rfl (oT rfl) tI) ?_
   refine rp 20 rfl (op_shr (n := 1) rfl (oT rfl) oC (by intro _; simp only [IntKind.bits]; omega)) ?_
   refine rp 21 rfl (op_conv rfl (oT rfl) tI) ?_
   refine ra 9 rfl rfl rfl ?_
   refine rn ?_
   refine nK ?_
   refine s_reg rfl ?_
   refine rm 22 rfl rfl rfl ?_
   refine rm 23 rfl rfl rfl ?_
   refine rp 24 rfl (op_idx_fz ((i + j) / 2) rfl (oT rfl) (oT rfl) (by intro _; exact ⟨by omega, hr1⟩)) ?_
   refine rp 25 rfl (op_load1_fz rfl (oT rfl) rfl) ?_
   refine rm 26 rfl rfl rfl ?_
   refine rp 27 rfl (op_call_pure (fun _ => cless_c _ _) rfl (Opd.func _) (oS (oT rfl) (oS (oT rfl) Opds.nil))) ?_
   refine rn ?_
   refine nK ?_
   refine n_cond _ rfl (fun hb => ?_) (fun hb => ?_)
   ·simp only [hb, cond_true] at hst
    refine nK ?_
    refine s_reg rfl ?_
    refine rm 28 rfl rfl rfl ?_
    refine rp 29 rfl (op_add rfl (oT rfl) oC tI) ?_
    refine ra 7 rfl rfl rfl ?_
    refine rn ?_
    refine nK ?_
    refine Next.weak [] [] (by rfl) (keeps0 hC _) (by repeat (first | exact trivial | refine ⟨⟨_, rfl, .inl ⟨rfl, rfl⟩⟩, ?_⟩)) (by repeat (first | exact trivial | refine ⟨ent_same rfl rfl rfl tL, ?_⟩ | refine ⟨ent_same rfl rfl (rfEq rfl tU) tL, ?_⟩ | refine ⟨ent_same rfl rfl (flEq rfl (by first | (simp; done) | (simp; omega) | (simp [encE, encN, encB, encT, encL]; done) | simp [maxC, minC])) trivial, ?_⟩)) (fun _ h => by simp at h) (hKl hst.symm)
   ·simp only [hb, cond_false] at hst
    refine nK ?_
    refine s_reg rfl ?_
    refine rm 30 rfl rfl rfl ?_
    refine ra 8 rfl rfl rfl ?_
    refine rn ?_
    refine nK ?_
    refine Next.weak [] [] (by rfl) (keeps0 hC _) (by repeat (first | exact trivial | refine ⟨⟨_, rfl, .inl ⟨rfl, rfl⟩⟩, ?_⟩)) (by repeat (first | exact trivial | refine ⟨ent_same rfl rfl rfl tL, ?_⟩ | refine ⟨ent_same rfl rfl (rfEq rfl tU) tL, ?_⟩ | refine ⟨ent_same rfl rfl (flEq rfl (by first | (simp; done) | (simp; omega) | (simp [encE, encN, encB, encT, encL]; done) | simp [maxC, minC])) trivial, ?_⟩)) (fun _ h => by simp at h) (hKr hst.symm)
  ·have hie : i = j := by simp at hb; omega
   rw [hie, bsGo_end] at ho
   rw [← ho]
   rw [hie] at hi ⊢
   obtain ⟨q, hq, hh⟩ := hitAt_eq l j (fun e => decide (e = x))
   rw [hh]
   have hr : j < l.length → (l.map encN)[j]? = some (encN q) := fun h => by rw [List.getElem?_map, hq h]; rfl
   refine nK ?_
   refine s_reg rfl ?_
   refine rm 31 rfl rfl rfl ?_
   refine rm 32 rfl rfl rfl ?_
   refine rm 33 rfl rfl rfl ?_
   refine rp 34 rfl (op_lss rfl (oT rfl) (oT rfl)) ?_
   refine rm 35 rfl rfl rfl ?_
   refine gm 36 rfl rfl tG rfl rfl ?_
   refine gm 37 rfl rfl tG rfl rfl ?_
   refine rg 38 rfl rfl tG (op_idx_fz j rfl (oO rfl tO) (oO rfl tO) (by intro hg; exact ⟨rfl, hr (by simp at hg; omega)⟩)) ?_
   refine rg 39 rfl rfl tG (op_load1_fz rfl (oO rfl tO) rfl) ?_
   refine gm 40 rfl rfl tG rfl rfl ?_
   refine rg 41 rfl rfl tG (op_eql rfl (oO rfl tO) (oO rfl tO)) ?_
   refine rg 42 rfl rfl tG (op_move rfl (oO rfl tO)) ?_
   refine gm 43 rfl rfl tG rfl rfl ?_
   refine gm 44 rfl rfl tG rfl rfl ?_
   refine rg 45 rfl rfl tG (op_idx_fz j rfl (oO rfl tO) (oO rfl tO) (by intro hg; exact ⟨rfl, hr (by simp at hg; omega)⟩)) ?_
   refine rg 46 rfl rfl tG (op_load1_fz rfl (oO rfl tO) rfl) ?_
   refine rg 47 rfl rfl tG (op_call_pure (fun _ => snan_c _) rfl (Opd.func _) (oS (oO rfl tO) Opds.nil)) ?_
   refine rg 48 rfl rfl tG (op_move rfl (oO rfl tO)) ?_
   refine gm 49 rfl rfl tG rfl rfl ?_
   refine rg 50 rfl rfl tG (op_call_pure (fun _ => snan_c _) rfl (Opd.func _) (oS (oO rfl tO) Opds.nil)) ?_
   refine rg 51 rfl rfl tG (op_pick_and rfl (oO rfl tO) (oO rfl tO)) ?_
   refine rg 52 rfl rfl tG (op_pick_or rfl (oO rfl tO) (oO rfl tO)) ?_
   refine rp 53 rfl (op_pick_and rfl (oT rfl) (oO rfl tO)) ?_
   refine ra 4 rfl rfl rfl ?_
   refine ra 5 rfl rfl rfl ?_
   refine rn ?_
   refine nK ?_
   refine Next.weakS [] [] (by rfl) (keeps0 hC _) (G' := [(4, IV .i64 j), (5, BV (decide ((j : Int) < (l.length : Int)) && decide (q = x)))]) (H' := []) ⟨⟨_, rfl, .inl ⟨rfl, rfl⟩⟩, ⟨_, rfl, .inl ⟨by simp [renP], rfl⟩⟩, trivial⟩ trivial rfl ?_
   (first | exact s_o1 hC rfl tV | exact s_o2 hC rfl tV tV | exact s_o3 hC rfl tV tV tV | exact s_out0 hC rfl | exact s_outO hC rfl rfl rfl)
end Go.Proofs.Ytnkhlbljnmodbaa
namespace Go.Proofs.Ytnkhlbljnmodbaa
open Go Go.RT Go.Proofs Go.Pl
set_option linter.all false
set_option maxRecDepth 20000
set_option maxHeartbeats 2000000
theorem hcmp_c (d : List Int) (x y : Nat) (hx : x < d.length) (hy : y < d.length) : Pure Try.prog 57 [If .i64 x, If .i64 y, .cellp [VI d]] (If .i64 (ordH d x y)) := by
 have rx := row_of encN d x 0 hx
 have ry := row_of encN d y 0 hy
 have hgx : d.getD x 0 = gt0 d x := rfl
 have hgy : d.getD y 0 = gt0 d y := rfl
 rw [hgx] at rx; rw [hgy] at ry
 unfold ordH
 refine Meets.intro Try.func57 rfl (Nat.le_of_ble_eq_true rfl) fun C hC => ?_
 simp only [List.map, argEnv, Nat.reduceAdd]
 refine nK ?_
 refine s_reg rfl ?_
 refine rp 5 rfl (op_assign rfl oC) ?_
 refine rn ?_
 refine nK ?_
 refine s_draw mixed ?_
 refine rp 6 rfl (op_load1_fz rfl (oT rfl) rfl) ?_
 refine rm 7 rfl rfl rfl ?_
 refine rp 8 rfl (op_idx_fz x rfl (oT rfl) (oT rfl) (by intro _; exact ⟨rfl, rx⟩)) ?_
 refine rp 9 rfl (op_load1_fz rfl (oT rfl) rfl) ?_
 refine rp 10 rfl (op_load1_fz rfl (oT rfl) rfl) ?_
 refine rm 11 rfl rfl rfl ?_
 refine rp 12 rfl (op_idx_fz y rfl (oT rfl) (oT rfl) (by intro _; exact ⟨rfl, ry⟩)) ?_
 refine rp 13 rfl (op_load1_fz rfl (oT rfl) rfl) ?_
 refine rp 14 rfl (op_call_pure (fun _ => cmp_c _ _) rfl (Opd.func _) (oS (oT rfl) (oS (oT rfl) Opds.nil))) ?_
 refine rm 15 rfl rfl rfl ?_
 refine rm 16 rfl rfl rfl ?_
 refine rp 17 rfl (op_call_pure (fun _ => cmp_c _ _) rfl (Opd.func _) (oS (oT rfl) (oS (oT rfl) Opds.nil))) ?_
 refine rp 18 rfl (op_buildSlice_fz rfl (RowsF.cons _ _ _ _ _ _ (oT rfl) tC (by rfl) (RowsF.cons _ _ _ _ _ _ (oT rfl) tC (by rfl) (RowsF.nil _))) rfl rfl) ?_
 refine rp 19 rfl (op_call_pure (fun _ => or_c [_, _] (by simp)) rfl (Opd.func _) (oS (oT rfl) Opds.nil)) ?_
 refine ra 5 rfl rfl rfl ?_
 refine Run.nil (FinD.mk (by kernel_rfl) ?_)
 refine nK ?_
 (first | exact s_o1 hC rfl tV | exact s_o2 hC rfl tV tV | exact s_o3 hC rfl tV tV tV | exact s_out0 hC rfl | exact s_outO hC rfl rfl rfl)
theorem swo_h (d : List Int) (n : Nat) : Go.Sort.SWO (ltOf fun x y : Fin n => ordH d x y) := by
 have e : ∀ x y : Fin n, ltOf (fun x y : Fin n => ordH d x y) x y = decide (gt0 d x < gt0 d y ∨ gt0 d x = gt0 d y ∧ y.val < x.val) := fun x y => by
  unfold ltOf; rw [Bool.eq_iff_iff]; simp [ordH_neg]
 refine ⟨fun x => ?_, fun x y z h1 h2 => ?_, fun x y z h1 h2 => ?_⟩
 ·rw [e]; simp
 ·rw [e] at *; simp only [decide_eq_true_eq] at *; omega
 ·rw [e] at *; simp only [decide_eq_false_iff_not] at *; omega
theorem sorth_c (d : List Int) (l l2 : List Nat) (hd : 0 < d.length) (hl : ∀ v ∈ l, v < d.length) (hm : l.length ≤ 2000000) (hp : l2.Perm l) (hs : l2.Pairwise (ltHd d)) : Meets Try.prog 56 [.sl 0 1 0 l.length, .fz (.clo 57 [.cellp [VI d]])] 1 [(0, OT l)] (.fz (.tup [])) [(0, OT l2)] 1 := by
 haveI : Inhabited (Fin d.length) := ⟨⟨0, hd⟩⟩
 have hl' : ∀ v ∈ l, v < d.length := hl
 let lf : List (Fin d.length) := l.pmap (fun v h => ⟨v, h⟩) hl'
 have hlf : lf.map (fun x => x.val) = l := by simp [lf, List.map_pmap]
 have hll : lf.length = l.length := by simp [lf]
 obtain ⟨s1, s2, s3⟩ := sortBy_spec (fun x y : Fin d.length => ordH d x y) (swo_h d d.length) lf
 have hr : (sortBy (fun x y : Fin d.length => ordH d x y) lf).map (fun x => x.val) = l2 := by
  refine perm_sorted_eq (le := fun x y => ¬ ltHd d y x) (fun a b h1 h2 => by unfold ltHd at *; omega) _ _ ?_ ?_ ?_
  ·exact ((s1.map _).trans (by rw [hlf])).trans hp.symm
  ·rw [List.pairwise_map, List.pairwise_iff_getElem]
   intro i j hi hj hij h
   exact s3 i j _ _ hij (List.getElem?_eq_getElem hi) (List.getElem?_eq_getElem hj) ((ordH_neg _ _ _).2 h)
  ·exact hs.imp fun h1 h2 => by unfold ltHd at *; omega
 have := sort1_meets (ρ := Try.sortFI_ren) Try.sortFI (ev := fun x : Fin d.length => .int .i64 (x.val : Int)) (fun x => rfl) (swo_h d d.length) (g := 57) (caps := [.cellp [VI d]]) (fun x y => hcmp_c d x y x.isLt y.isLt) (l := lf) (by omega)
 rw [hll] at this
 have e1 : ∀ q : List (Fin d.length), q.map (fun x => [FV.lit (.int .i64 (x.val : Int))]) = (q.map (fun x => x.val)).map encT := fun q => by rw [List.map_map]; rfl
 rw [e1, e1, hlf, hr] at this
 exact this
end Go.Proofs.Ytnkhlbljnmodbaa
namespace Go.Proofs.Ytnkhlbljnmodbaa
open Go Go.RT Go.Proofs Go.Pl
set_option linter.all false
set_option maxRecDepth 20000
set_option maxHeartbeats 2000000
theorem merge_c (g : Gr) (u v n k0 : Nat) (ru : List Int) (ll : List (List Int)) (h : Int) (huv : u ≠ v) (hll : ll.length = n) (hv : v < n) (hn : n ≤ 128) (hrow : (ll.getD v []).length ≤ 2000) : Meets Try.prog 60 [IV .i64 h, .fz (.cellp (encG g)), .fz (.cellp [If .i64 v]), .ptr 0 1 0 0] 3 [(0, some (.refs 1 [[.sl 1 1 0 n]])), (1, some (.refs 1 (tkL (rowsI ll) u k0))), (2, OI ru)] (.fz (.tup [])) [(0, some (.refs 1 [[.sl 1 1 0 n]])), (1, some (.refs 1 (tkL (rowsI (mergeL g.r v ll h)) u k0))), (2, OI ru)] 3 := by
 have hrg := rowsI_get (ll := ll) (v := v) (by omega)
 unfold mergeL capV rowAt'
 generalize ll.getD v [] = row at *
 refine Meets.intro Try.func60 rfl (Nat.le_of_ble_eq_true rfl) fun C hC => ?_
 simp only [List.map, argEnv, Nat.reduceAdd]
 refine Next.take 1 v 0 rfl (tk_get huv hrg) rfl rfl ?_
 have hs1 := set_get (tkL (rowsI ll) u k0) v [.sl 3 1 0 (row.map encN).length] (by rw [tk_len, rowsI_len]; omega)
 refine nK ?_
 refine s_reg rfl ?_
 refine rm 7 rfl rfl rfl ?_
 refine rp 8 rfl (op_fld_fz (by decide) rfl (oT rfl) tR) ?_
 refine rp 9 rfl (op_load1_fz rfl (oT rfl) rfl) ?_
 refine rp 10 rfl (op_geq rfl (oT rfl) (oT rfl)) ?_
 refine rn ?_
 refine nK ?_
 refine n_cond _ rfl (fun hb => ?_) (fun hb => ?_)
 ·have hq0 : g.r ≤ h := by simpa using hb
  rw [if_pos hq0]
  refine nK ?_
  refine s_reg rfl ?_
  refine rp 11 rfl (op_load1_fz rfl (oT rfl) rfl) ?_
  refine ra 0 rfl rfl rfl ?_
  refine rn ?_
  refine nK ?_
  generalize hqe : (v : Int) = hq at *
  have hbs := bsearchi_c row hq (by omega)
  have hble := bsI_le row hq
  have hiu : insU row hq = if hitI row hq = true then row else insL row (bsI row hq) hq := rfl
  change Pure Try.prog 61 [VI row, If .i64 hq] (.tup [If .i64 (bsI row hq : Nat), Bf (hitI row hq)]) at hbs
  rw [hiu]
  generalize bsI row hq = k at *
  generalize hitI row hq = hit at *
  refine nK ?_
  refine s_reg rfl ?_
  refine rl 13 rfl (op_load1_refs rfl (oT rfl) tH rfl) ?_
  refine rp 14 rfl (op_load1_fz rfl (oT rfl) rfl) ?_
  refine rp 15 rfl (op_idx_sl0 v rfl (oT rfl) (oT rfl) (by intro _; exact ⟨by omega, by omega⟩)) ?_
  refine rl 16 rfl (op_load1_refs rfl (oT rfl) (by intro _; exact ⟨rfl, hs1⟩) rfl) ?_
  refine rm 17 rfl rfl rfl ?_
  refine rl 18 rfl (op_call_lend [3] (fun _ => hbs) rfl (Opd.func _) (oS (oT rfl) (oS (oT rfl) Opds.nil)) (by exact .cons _ _ _ _ tW (.cons _ _ _ _ tW .nil)) rfl rfl) ?_
  refine rm 12 rfl rfl rfl ?_
  refine rp 19 rfl (op_extract_fz rfl (oT rfl) rfl) ?_
  refine rp 20 rfl (op_extract_fz rfl (oT rfl) rfl) ?_
  refine ra 5 rfl rfl rfl ?_
  refine ra 6 rfl rfl rfl ?_
  refine rn ?_
  refine nK ?_
  refine s_reg rfl ?_
  refine rm 21 rfl rfl rfl ?_
  refine rp 22 rfl (op_not rfl (oT rfl)) ?_
  refine rn ?_
  refine nK ?_
  refine n_cond _ rfl (fun hb => ?_) (fun hb => ?_)
  ·have hh : hit = false := by simpa using hb
   subst hh
   rw [if_neg (by simp)]
   have hins := inserti_c row hq k (by omega) hble
   have hil := insL_len row k hq hble
   have hle : (row.map encN).length = row.length := List.length_map _
   rw [← hle] at hins
   refine nK ?_
   refine s_draw mixed ?_
   refine rl 23 rfl (op_load1_refs rfl (oT rfl) tH rfl) ?_
   refine rp 24 rfl (op_load1_fz rfl (oT rfl) rfl) ?_
   refine rl 25 rfl (op_load1_refs rfl (oT rfl) tH rfl) ?_
   refine rp 26 rfl (op_load1_fz rfl (oT rfl) rfl) ?_
   refine rp 27 rfl (op_idx_sl0 v rfl (oT rfl) (oT rfl) (by intro _; exact ⟨by omega, by omega⟩)) ?_
   refine rl 28 rfl (op_load1_refs rfl (oT rfl) (by intro _; exact ⟨rfl, hs1⟩) rfl) ?_
   refine rm 29 rfl rfl rfl ?_
   refine rm 30 rfl rfl rfl ?_
   refine Run.effW (dd := some 31) rfl rfl (op_buildSlice_own rfl (RowsF.cons _ _ _ _ _ _ (oT rfl) tC (by rfl) (RowsF.nil _)) rfl rfl rfl) (by first | exact ext_call | exact tE) ?_
   refine Run.effW (dd := some 32) rfl rfl (op_call (n := 2) (n' := 3) [3, 4] (fun _ => hins) rfl (Opd.func _) (oS (oT rfl) (oS (oT rfl) (oS (oT rfl) Opds.nil))) rfl rfl (Lent.of rfl rfl (by exact ⟨⟨rfl, rfl, rfl, trivial⟩, ⟨rfl, rfl, rfl, trivial⟩, trivial⟩) rfl) rfl rfl rfl rfl rfl) (by first | exact ext_call | exact tE) ?_
   refine rp 33 rfl (op_idx_sl0 v rfl (oT rfl) (oT rfl) (by intro _; exact ⟨by omega, by omega⟩)) ?_
   refine Run.effW (dd := none) rfl rfl (op_store_refs rfl (oT rfl) (oT rfl) tP rfl rfl hs1 tS) (by first | exact ext_call | exact tE) ?_
   refine Run.nil (FinD.mk (by kernel_rfl) ?_)
   refine Next.untake 1 v 0 rfl (set_get _ _ _ (by rw [List.length_set, tk_len, rowsI_len]; omega)) rfl rfl (by rw [List.length_map, hil, hle]) rfl ?_
   refine Next.weak [0, 1, 2] [] (by rfl) (keepsN hC _ rfl) (G' := []) (H' := [(0, some (.refs 1 [[.sl 1 1 0 n]])), (1, some (.refs 1 (tkL (rowsI (ll.set v (insL row k hq))) u k0))), (2, OI ru)]) trivial (by exact ⟨ent_same rfl rfl rfl tL, ⟨ent_tk rfl rfl rfl (by decide) (congrArg (fun r => some (Ob.refs 1 r)) ((tk_back huv).trans (by rw [rowsI_set]))), ⟨ent_same rfl rfl rfl tL, trivial⟩⟩⟩) (fun _ h => by simp at h) ?_
   exact n_out0 rfl
  ·have hh : hit = true := by simpa using hb
   subst hh
   rw [if_pos rfl]
   refine Next.untake 1 v 0 rfl hs1 rfl rfl (by rw [List.length_map]) rfl ?_
   refine Next.weak [0, 1, 2] [] (by rfl) (keepsN hC _ rfl) (G' := []) (H' := [(0, some (.refs 1 [[.sl 1 1 0 n]])), (1, some (.refs 1 (tkL (rowsI (ll.set v (row))) u k0))), (2, OI ru)]) trivial (by exact ⟨ent_same rfl rfl rfl tL, ⟨ent_tk rfl rfl rfl (by decide) (congrArg (fun r => some (Ob.refs 1 r)) ((tk_back2 huv).trans (by rw [rowsI_set]))), ⟨ent_same rfl rfl rfl tL, trivial⟩⟩⟩) (fun _ h => by simp at h) ?_
   refine nK2 ?_
   exact n_out0 rfl
 ·have hq0 : ¬ g.r ≤ h := by simpa using hb
  rw [if_neg hq0]
  refine nK ?_
  generalize hqe : h = hq at *
  have hbs := bsearchi_c row hq (by omega)
  have hble := bsI_le row hq
  have hiu : insU row hq = if hitI row hq = true then row else insL row (bsI row hq) hq := rfl
  change Pure Try.prog 61 [VI row, If .i64 hq] (.tup [If .i64 (bsI row hq : Nat), Bf (hitI row hq)]) at hbs
  rw [hiu]
  generalize bsI row hq = k at *
  generalize hitI row hq = hit at *
  refine nK ?_
  refine s_reg rfl ?_
  refine rl 13 rfl (op_load1_refs rfl (oT rfl) tH rfl) ?_
  refine rp 14 rfl (op_load1_fz rfl (oT rfl) rfl) ?_
  refine rp 15 rfl (op_idx_sl0 v rfl (oT rfl) (oT rfl) (by intro _; exact ⟨by omega, by omega⟩)) ?_
  refine rl 16 rfl (op_load1_refs rfl (oT rfl) (by intro _; exact ⟨rfl, hs1⟩) rfl) ?_
  refine rm 17 rfl rfl rfl ?_
  refine rl 18 rfl (op_call_lend [3] (fun _ => hbs) rfl (Opd.func _) (oS (oT rfl) (oS (oT rfl) Opds.nil)) (by exact .cons _ _ _ _ tW (.cons _ _ _ _ tW .nil)) rfl rfl) ?_
  refine rm 12 rfl rfl rfl ?_
  refine rp 19 rfl (op_extract_fz rfl (oT rfl) rfl) ?_
  refine rp 20 rfl (op_extract_fz rfl (oT rfl) rfl) ?_
  refine ra 5 rfl rfl rfl ?_
  refine ra 6 rfl rfl rfl ?_
  refine rn ?_
  refine nK ?_
  refine s_reg rfl ?_
  refine rm 21 rfl rfl rfl ?_
  refine rp 22 rfl (op_not rfl (oT rfl)) ?_
  refine rn ?_
  refine nK ?_
  refine n_cond _ rfl (fun hb => ?_) (fun hb => ?_)
  ·have hh : hit = false := by simpa using hb
   subst hh
   rw [if_neg (by simp)]
   have hins := inserti_c row hq k (by omega) hble
   have hil := insL_len row k hq hble
   have hle : (row.map encN).length = row.length := List.length_map _
   rw [← hle] at hins
   refine nK ?_
   refine s_draw mixed ?_
   refine rl 23 rfl (op_load1_refs rfl (oT rfl) tH rfl) ?_
   refine rp 24 rfl (op_load1_fz rfl (oT rfl) rfl) ?_
   refine rl 25 rfl (op_load1_refs rfl (oT rfl) tH rfl) ?_
   refine rp 26 rfl (op_load1_fz rfl (oT rfl) rfl) ?_
   refine rp 27 rfl (op_idx_sl0 v rfl (oT rfl) (oT rfl) (by intro _; exact ⟨by omega, by omega⟩)) ?_
   refine rl 28 rfl (op_load1_refs rfl (oT rfl) (by intro _; exact ⟨rfl, hs1⟩) rfl) ?_
   refine rm 29 rfl rfl rfl ?_
   refine rm 30 rfl rfl rfl ?_
   refine Run.effW (dd := some 31) rfl rfl (op_buildSlice_own rfl (RowsF.cons _ _ _ _ _ _ (oT rfl) tC (by rfl) (RowsF.nil _)) rfl rfl rfl) (by first | exact ext_call | exact tE) ?_
   refine Run.effW (dd := some 32) rfl rfl (op_call (n := 2) (n' := 3) [3, 4] (fun _ => hins) rfl (Opd.func _) (oS (oT rfl) (oS (oT rfl) (oS (oT rfl) Opds.nil))) rfl rfl (Lent.of rfl rfl (by exact ⟨⟨rfl, rfl, rfl, trivial⟩, ⟨rfl, rfl, rfl, trivial⟩, trivial⟩) rfl) rfl rfl rfl rfl rfl) (by first | exact ext_call | exact tE) ?_
   refine rp 33 rfl (op_idx_sl0 v rfl (oT rfl) (oT rfl) (by intro _; exact ⟨by omega, by omega⟩)) ?_
   refine Run.effW (dd := none) rfl rfl (op_store_refs rfl (oT rfl) (oT rfl) tP rfl rfl hs1 tS) (by first | exact ext_call | exact tE) ?_
   refine Run.nil (FinD.mk (by kernel_rfl) ?_)
   refine Next.untake 1 v 0 rfl (set_get _ _ _ (by rw [List.length_set, tk_len, rowsI_len]; omega)) rfl rfl (by rw [List.length_map, hil, hle]) rfl ?_
   refine Next.weak [0, 1, 2] [] (by rfl) (keepsN hC _ rfl) (G' := []) (H' := [(0, some (.refs 1 [[.sl 1 1 0 n]])), (1, some (.refs 1 (tkL (rowsI (ll.set v (insL row k hq))) u k0))), (2, OI ru)]) trivial (by exact ⟨ent_same rfl rfl rfl tL, ⟨ent_tk rfl rfl rfl (by decide) (congrArg (fun r => some (Ob.refs 1 r)) ((tk_back huv).trans (by rw [rowsI_set]))), ⟨ent_same rfl rfl rfl tL, trivial⟩⟩⟩) (fun _ h => by simp at h) ?_
   exact n_out0 rfl
  ·have hh : hit = true := by simpa using hb
   subst hh
   rw [if_pos rfl]
   refine Next.untake 1 v 0 rfl hs1 rfl rfl (by rw [List.length_map]) rfl ?_
   refine Next.weak [0, 1, 2] [] (by rfl) (keepsN hC _ rfl) (G' := []) (H' := [(0, some (.refs 1 [[.sl 1 1 0 n]])), (1, some (.refs 1 (tkL (rowsI (ll.set v (row))) u k0))), (2, OI ru)]) trivial (by exact ⟨ent_same rfl rfl rfl tL, ⟨ent_tk rfl rfl rfl (by decide) (congrArg (fun r => some (Ob.refs 1 r)) ((tk_back2 huv).trans (by rw [rowsI_set]))), ⟨ent_same rfl rfl rfl tL, trivial⟩⟩⟩) (fun _ h => by simp at h) ?_
   refine nK2 ?_
   exact n_out0 rfl
end Go.Proofs.Ytnkhlbljnmodbaa
namespace Go.Proofs.Ytnkhlbljnmodbaa
open Go Go.RT Go.Proofs Go.Pl
set_option linter.all false
set_option maxRecDepth 20000
set_option maxHeartbeats 4000000
theorem hops_c (g : Gr) (a n : Nat) (d : List Int) (up : List (List Int)) (l2 : List Nat) (hn : n ≤ 128) (hd : d.length = n) (ha : a < n) (hup : UpOk n up) (hp : l2.Perm (ordA d a n)) (hs : l2.Pairwise (ltHd d)) : Pure Try.prog 45 [.agg (encG g), If .i64 a, VI d, VLL up] (VLL (hopsL g.r a n up l2)) := by
 have hl2 : ∀ v ∈ l2, v < n := fun v hv => ordA_lt (hp.mem_iff.1 hv)
 have hso := sorth_c d (ordA d a n) l2 (by omega) (fun v hv => by have := ordA_lt hv; omega) (by have := ordA_len d a n; omega) hp hs
 have hl2l : l2.length = (ordA d a n).length := hp.length_eq
 have hl2n := ordA_len d a n
 refine Meets.intro Try.func45 rfl (Nat.le_of_ble_eq_true rfl) fun C hC => ?_
 simp only [List.map, argEnv, Nat.reduceAdd]
 refine nK ?_
 refine s_reg rfl ?_
 refine Run.eff (dd := some 4) rfl rfl (op_box_flat rfl (oT rfl) tC rfl) ?_
 refine Run.eff (dd := some 6) rfl rfl (op_box_flat rfl (oT rfl) tC rfl) ?_
 refine rp 8 rfl (op_assign rfl oC) ?_
 refine rn ?_
 refine nK ?_
 refine s_reg rfl ?_
 refine rp 9 rfl (op_assign rfl oC) ?_
 refine rn ?_
 refine nK ?_
 refine Next.weakS [] [4, 6] (by rfl) (keeps0 hC _) (G' := [(1, IV .i64 a), (3, .fz (VLL up)), (4, .fz (.cellp (encG g))), (6, .fz (.cellp [VI d])), (9, .fz (.lit (.slice none 0 0)))]) (H' := []) (by repeat (first | exact trivial | refine ⟨⟨_, rfl, .inl ⟨rfl, rfl⟩⟩, ?_⟩ | refine ⟨⟨_, rfl, .inl ⟨slEq rfl tN, rfl⟩⟩, ?_⟩ | refine ⟨⟨_, rfl, .inl ⟨ivEq tX, rfl⟩⟩, ?_⟩ | refine ⟨⟨_, rfl, .inr ⟨_, rfl, tW⟩⟩, ?_⟩)) trivial rfl ?_
 refine Next.adopt 9 1 rfl ?_
 refine nK ?_
 refine s_reg rfl ?_
 refine rp 20 rfl (op_load1_fz rfl (oT rfl) rfl) ?_
 refine rp 21 rfl (op_len_fz rfl (by first | exact Opd.tmp _ _ rfl | exact Opd.nil _ _ (oT rfl)) (by first | exact List.length_map _ | rfl)) ?_
 refine rp 22 rfl (op_move rfl oC) ?_
 refine rn ?_
 refine nK ?_
 refine n_loop (ι := Nat) (fun i => ([(1, IV .i64 a), (3, .fz (VLL up)), (4, .fz (.cellp (encG g))), (6, .fz (.cellp [VI d])), (9, .sl 0 1 0 (ordA d a i).length), (20, .fz (VI d)), (21, IV .i64 n), (22, IV .i64 i)], [(0, OT (ordA d a i))], 1)) (fun i => i ≤ n) (fun i => n - i) 0 (Nat.zero_le _) ?_ ?_
 ·refine Next.weak [0] [] (by rfl) (keepsN hC _ rfl) (by repeat (first | exact trivial | refine ⟨⟨_, rfl, .inl ⟨rfl, rfl⟩⟩, ?_⟩ | refine ⟨⟨_, rfl, .inl ⟨ivEq (by rw [List.length_map, hd]), rfl⟩⟩, ?_⟩ | refine ⟨⟨_, rfl, .inl ⟨ivEq (by rw [hd]), rfl⟩⟩, ?_⟩)) (by exact ⟨ent_same rfl rfl rfl tL, trivial⟩) (fun _ h => by simp at h) rel_intro
 ·intro i hi K hK
  try dsimp only at hi hK ⊢
  have hol := ordA_len d a i
  refine nK ?_
  refine s_reg rfl ?_
  refine rp 23 rfl (op_lss rfl (oT rfl) (oT rfl)) ?_
  refine rn ?_
  refine nK ?_
  refine n_cond _ rfl (fun hb => ?_) (fun hb => ?_)
  ·have hlt : i < n := by simp at hb; omega
   have hri := row_of encN d i 0 (by omega)
   have hgi : d.getD i 0 = gt0 d i := rfl
   rw [hgi] at hri
   have hK1 := hK (i + 1) (by omega) (by omega)
   rw [ordA_succ] at hK1
   refine nK ?_
   refine s_reg rfl ?_
   refine rm 24 rfl rfl rfl ?_
   refine rp 25 rfl (op_idx_fz i rfl (oT rfl) (oT rfl) (by intro _; exact ⟨rfl, hri⟩)) ?_
   refine rp 26 rfl (op_load1_fz rfl (oT rfl) rfl) ?_
   refine ra 10 rfl rfl rfl ?_
   refine ra 11 rfl rfl rfl ?_
   refine rn ?_
   refine nK ?_
   refine s_reg rfl ?_
   refine rm 27 rfl rfl rfl ?_
   refine rp 28 rfl (op_neq rfl (oT rfl) oC) ?_
   refine rm 29 rfl rfl rfl ?_
   refine gm 30 rfl rfl tG rfl rfl ?_
   refine gm 31 rfl rfl tG rfl rfl ?_
   refine rg 32 rfl rfl tG (op_neq rfl (oO rfl tO) (oO rfl tO)) ?_
   refine rp 33 rfl (op_pick_and rfl (oT rfl) (oO rfl tO)) ?_
   refine rn ?_
   refine nK ?_
   refine n_cond _ rfl (fun hb => ?_) (fun hb => ?_)
   ·rw [if_pos (show ordP d a i = true from hb)] at hK1
    refine nK ?_
    refine s_reg rfl ?_
    refine rm 34 rfl rfl rfl ?_
    refine rm 35 rfl rfl rfl ?_
    refine rp 36 rfl (op_buildSlice_fz rfl (RowsF.cons _ _ _ _ _ _ (oT rfl) tC (by rfl) (RowsF.nil _)) rfl rfl) ?_
    refine Run.eff (dd := some 37) rfl rfl (op_append rfl (oT rfl) (by first | exact Opd.tmp _ _ rfl | exact Opd.nil _ _ (oT rfl)) rfl (by first | rfl | simp) rfl rfl tB tB) ?_
    refine ra 9 rfl rfl rfl ?_
    refine rn ?_
    refine nK ?_
    refine s_reg rfl ?_
    refine rp 38 rfl (op_add rfl (oT rfl) oC tI) ?_
    refine rm 22 rfl rfl rfl ?_
    refine rn ?_
    refine nK ?_
    refine Next.weak [1] [] (by rfl) (keepsN hC _ rfl) (by repeat (first | exact trivial | refine ⟨⟨_, rfl, .inl ⟨rfl, rfl⟩⟩, ?_⟩ | refine ⟨⟨_, rfl, .inl ⟨slEq rfl tN, rfl⟩⟩, ?_⟩ | refine ⟨⟨_, rfl, .inl ⟨ivEq tX, rfl⟩⟩, ?_⟩)) (by exact ⟨ent_same rfl rfl (flEq rfl (by rw [List.map_append]; rfl)) trivial, trivial⟩) (fun _ h => by simp at h) hK1
   ·rw [if_neg (show ¬ ordP d a i = true by rw [Bool.not_eq_true]; exact hb), List.append_nil] at hK1
    refine nK ?_
    refine s_reg rfl ?_
    refine rp 38 rfl (op_add rfl (oT rfl) oC tI) ?_
    refine rm 22 rfl rfl rfl ?_
    refine rn ?_
    refine nK ?_
    refine Next.weak [0] [] (by rfl) (keepsN hC _ rfl) (by repeat (first | exact trivial | refine ⟨⟨_, rfl, .inl ⟨rfl, rfl⟩⟩, ?_⟩ | refine ⟨⟨_, rfl, .inl ⟨slEq rfl tN, rfl⟩⟩, ?_⟩ | refine ⟨⟨_, rfl, .inl ⟨ivEq tX, rfl⟩⟩, ?_⟩)) (by exact ⟨ent_same rfl rfl rfl tL, trivial⟩) (fun _ h => by simp at h) hK1
  ·have hie : n = i := by simp at hb; omega
   subst hie
   refine nK ?_
   refine s_reg rfl ?_
   refine rm 39 rfl rfl rfl ?_
   refine rp 40 rfl (op_makeFuncF (fs := [.cellp [VI d]]) rfl (oS (oT rfl) Opds.nil)) ?_
   refine Run.eff (dd := some 41) rfl rfl (op_call (n := 1) (n' := 1) [0] (fun _ => hso) rfl (Opd.func _) (oS (oT rfl) (oS (oT rfl) Opds.nil)) rfl rfl (Lent.of rfl rfl (by exact ⟨⟨rfl, rfl, rfl, trivial⟩, trivial⟩) rfl) rfl rfl rfl rfl rfl) ?_
   refine rn ?_
   refine nK ?_
   refine s_reg rfl ?_
   refine rp 42 rfl (op_load1_fz rfl (oT rfl) rfl) ?_
   refine rp 43 rfl (op_len_fz rfl (by first | exact Opd.tmp _ _ rfl | exact Opd.nil _ _ (oT rfl)) (by first | exact List.length_map _ | rfl)) ?_
   refine Run.eff (dd := some 44) rfl rfl (op_make (l := n) (c := n) rfl (oT rfl) (oT rfl) rfl rfl rfl rfl (by intro _; rw [hd]; refine ⟨rfl, rfl, ?_⟩; omega)) ?_
   refine Run.eff (dd := some 12) rfl rfl (op_allocP rfl rfl rfl rfl rfl) ?_
   refine Run.eff (dd := none) rfl rfl (op_store_refs rfl (oT rfl) (oT rfl) tP rfl rfl rfl tS) ?_
   refine rn ?_
   refine nK ?_
   refine Next.toOwn 1 1 n rfl ?_
   refine Next.weak [2, 1] [0] (by rfl) (keepsN hC _ rfl) (G' := [(1, IV .i64 a), (3, .fz (VLL up)), (4, .fz (.cellp (encG g))), (9, .fz (.vals 1 (l2.map encT))), (12, .ptr 0 1 0 0)]) (H' := [(0, some (.refs 1 [[.sl 1 1 0 n]])), (1, some (.refs 1 (ownL 1 (rowsI (List.replicate n [])))))]) (by exact ⟨⟨_, rfl, .inl ⟨rfl, rfl⟩⟩, ⟨_, rfl, .inl ⟨rfl, rfl⟩⟩, ⟨_, rfl, .inl ⟨rfl, rfl⟩⟩, ⟨_, rfl, .inr ⟨_, rfl, .sl _ _ _ _ _ _ rfl rfl (take_all0 (by rw [List.length_map]; exact hl2l)) (by rw [List.length_map]; omega)⟩⟩, ⟨_, rfl, .inl ⟨rfl, rfl⟩⟩, trivial⟩) (by exact ⟨ent_same rfl rfl rfl tL, ⟨ent_own rfl rfl (by rw [rowsI_nil, ← ownL_rep]; rfl), trivial⟩⟩) (fun id h => by simp at h; subst h; exact ⟨_, rfl⟩) ?_
   refine nK ?_
   refine s_reg rfl ?_
   refine rm 45 rfl rfl rfl ?_
   refine rp 46 rfl (op_len_fz rfl (by first | exact Opd.tmp _ _ rfl | exact Opd.nil _ _ (oT rfl)) (by first | exact List.length_map _ | rfl)) ?_
   refine rp 47 rfl (op_move rfl oC) ?_
   refine rn ?_
   refine nK ?_
   refine n_loop (ι := Nat) (fun i => ([(1, IV .i64 a), (3, .fz (VLL up)), (4, .fz (.cellp (encG g))), (12, .ptr 0 1 0 0), (45, .fz (.vals 1 (l2.map encT))), (46, IV .i64 l2.length), (47, IV .i64 i)], [(0, some (.refs 1 [[.sl 1 1 0 n]])), (1, some (.refs 1 (ownL 1 (rowsI ((l2.take i).foldl (hopsV g.r a up) (List.replicate n []))))))], 2)) (fun i => i ≤ l2.length) (fun i => l2.length - i) 0 (Nat.zero_le _) ?_ ?_
   ·refine Next.weak [0, 1] [] (by rfl) (keepsN hC _ rfl) (by repeat (first | exact trivial | refine ⟨⟨_, rfl, .inl ⟨rfl, rfl⟩⟩, ?_⟩ | refine ⟨⟨_, rfl, .inl ⟨slEq rfl tN, rfl⟩⟩, ?_⟩ | refine ⟨⟨_, rfl, .inl ⟨ivEq tX, rfl⟩⟩, ?_⟩)) (by exact ⟨ent_same rfl rfl rfl tL, ⟨ent_own rfl rfl rfl, trivial⟩⟩) (fun _ h => by simp at h) rel_intro
   ·intro i hi K2 hK2
    try dsimp only at hi hK2 ⊢
    have hli : LLok n ((l2.take i).foldl (hopsV g.r a up) (List.replicate n [])) := LLok.hops hup _ (LLok.nil n) fun x hx => hl2 x (List.mem_of_mem_take hx)
    refine nK ?_
    refine s_reg rfl ?_
    refine rp 48 rfl (op_lss rfl (oT rfl) (oT rfl)) ?_
    refine rn ?_
    refine nK ?_
    refine n_cond _ rfl (fun hb => ?_) (fun hb => ?_)
    ·have hlt : i < l2.length := by simp at hb; omega
     have hri := row_at' encT l2 i hlt
     have hv := hl2 _ (List.getElem_mem hlt)
     have hK3 := hK2 (i + 1) (by omega) (by omega)
     rw [foldl_take_succ _ _ _ _ hlt] at hK3
     generalize (l2.take i).foldl (hopsV g.r a up) (List.replicate n []) = ll0 at *
     generalize l2[i] = v at *
     have hru := row_of encL up v [] (by rw [hup.len]; exact hv)
     obtain ⟨hrl, hrow⟩ := hup.row v hv
     have hhv : hopsV g.r a up ll0 v = (rowAt' up v).foldl (stepU g.r a v) ll0 := rfl
     have hgu : up.getD v [] = rowAt' up v := rfl
     rw [hhv] at hK3
     rw [hgu] at hru
     generalize rowAt' up v = row at *
     refine nK ?_
     refine s_reg rfl ?_
     refine rp 49 rfl (op_idx_fz _ rfl (oT rfl) (oT rfl) tF) ?_
     refine rp 50 rfl (op_load1_fz rfl (oT rfl) rfl) ?_
     refine Run.eff (dd := some 14) rfl rfl (op_alloc rfl rfl rfl rfl) ?_
     refine Run.eff (dd := none) rfl rfl (op_store_flat rfl (oT rfl) (oT rfl) tC rfl rfl (by first | rfl | assumption) tS) ?_
     refine rn ?_
     refine nK ?_
     refine Next.weak [0, 1] [2] (by rfl) (keepsN hC _ rfl) (G' := [(1, IV .i64 a), (3, .fz (VLL up)), (4, .fz (.cellp (encG g))), (12, .ptr 0 1 0 0), (45, .fz (.vals 1 (l2.map encT))), (46, IV .i64 l2.length), (47, IV .i64 i), (14, .fz (.cellp [If .i64 v]))]) (H' := [(0, some (.refs 1 [[.sl 1 1 0 n]])), (1, some (.refs 1 (ownL 1 (rowsI ll0))))]) (by repeat (first | exact trivial | refine ⟨⟨_, rfl, .inl ⟨rfl, rfl⟩⟩, ?_⟩ | refine ⟨⟨_, rfl, .inr ⟨_, rfl, tW⟩⟩, ?_⟩)) (by exact ⟨ent_same rfl rfl rfl tL, ⟨ent_own rfl rfl rfl, trivial⟩⟩) (fun id h => by simp at h; subst h; exact ⟨_, rfl⟩) ?_
     refine nK ?_
     refine s_reg rfl ?_
     refine rp 51 rfl (op_makeFunc rfl Opds.nil (oS (oT rfl) (oS (oT rfl) (oS (oT rfl) Opds.nil)))) ?_
     refine ra 15 rfl rfl rfl ?_
     refine rn ?_
     refine nK ?_
     refine s_reg rfl ?_
     refine rm 52 rfl rfl rfl ?_
     refine rp 53 rfl (op_load1_fz rfl (oT rfl) rfl) ?_
     refine rp 54 rfl (op_idx_fz v rfl (oT rfl) (oT rfl) (by intro _; exact ⟨rfl, hru⟩)) ?_
     refine rp 55 rfl (op_load1_fz rfl (oT rfl) rfl) ?_
     refine rp 56 rfl (op_len_fz rfl (by first | exact Opd.tmp _ _ rfl | exact Opd.nil _ _ (oT rfl)) (by first | exact List.length_map _ | rfl)) ?_
     refine rp 57 rfl (op_move rfl oC) ?_
     refine rn ?_
     refine nK ?_
     refine n_loop (ι := Nat) (fun j => ([(1, IV .i64 a), (3, .fz (VLL up)), (4, .fz (.cellp (encG g))), (12, .ptr 0 1 0 0), (45, .fz (.vals 1 (l2.map encT))), (46, IV .i64 l2.length), (47, IV .i64 i), (14, .fz (.cellp [If .i64 v])), (15, .clo 60 [] [.fz (.cellp (encG g)), .fz (.cellp [If .i64 v]), .ptr 0 1 0 0]), (55, .fz (VI row)), (56, IV .i64 row.length), (57, IV .i64 j)], [(0, some (.refs 1 [[.sl 1 1 0 n]])), (1, some (.refs 1 (ownL 1 (rowsI ((row.take j).foldl (stepU g.r a v) ll0)))))], 2)) (fun j => j ≤ row.length) (fun j => row.length - j) 0 (Nat.zero_le _) ?_ ?_
     ·refine Next.weak [0, 1] [] (by rfl) (keepsN hC _ rfl) (by repeat (first | exact trivial | refine ⟨⟨_, rfl, .inl ⟨rfl, rfl⟩⟩, ?_⟩ | refine ⟨⟨_, rfl, .inl ⟨slEq rfl tN, rfl⟩⟩, ?_⟩ | refine ⟨⟨_, rfl, .inl ⟨ivEq tX, rfl⟩⟩, ?_⟩)) (by exact ⟨ent_same rfl rfl rfl tL, ⟨ent_own rfl rfl rfl, trivial⟩⟩) (fun _ h => by simp at h) rel_intro
     ·intro j hj K3 hK4
      try dsimp only at hj hK4 ⊢
      have hlj : LLok n ((row.take j).foldl (stepU g.r a v) ll0) := LLok.steps hv _ hli fun x hx => by have := hrow x (List.mem_of_mem_take hx); omega
      refine nK ?_
      refine s_reg rfl ?_
      refine rp 58 rfl (op_lss rfl (oT rfl) (oT rfl)) ?_
      refine rn ?_
      refine nK ?_
      refine n_cond _ rfl (fun hb => ?_) (fun hb => ?_)
      ·have hltj : j < row.length := by simp at hb; omega
       have hrj := row_at' encN row j hltj
       obtain ⟨hu0, hu1, huv0⟩ := hrow _ (List.getElem_mem hltj)
       have hK3 := hK4 (j + 1) (by omega) (by omega)
       rw [foldl_take_succ _ _ _ _ hltj] at hK3
       generalize (row.take j).foldl (stepU g.r a v) ll0 = ll at *
       generalize row[j] = u at *
       have huv : u.toNat ≠ v := by omega
       have hrgu := rowsI_get (ll := ll) (v := u.toNat) (by rw [hlj.len]; omega)
       have hruok := (hlj.row u.toNat (by omega)).2
       have hrul := (hlj.row u.toNat (by omega)).len
       have hstp : stepU g.r a v ll u = (rowAt' ll u.toNat).foldl (mergeL g.r v) (if u = (a : Int) then mergeL g.r v ll (v : Int) else ll) := rfl
       have hge : ll.getD u.toNat [] = rowAt' ll u.toNat := rfl
       have hmo := merge_other g.r v ll (v : Int) huv
       have hruq : rowAt' ll u.toNat = rowAt' ll u.toNat := rfl
       rw [hge] at hrgu
       generalize hrue : rowAt' ll u.toNat = ru at *
       have hmv := merge_c g u.toNat v n ru.length ru ll v huv hlj.len hv hn (Nat.le_trans (hlj.row v hv).len (by omega))
       refine nK ?_
       refine s_reg rfl ?_
       refine rp 59 rfl (op_idx_fz j rfl (oT rfl) (oT rfl) (by intro _; exact ⟨rfl, hrj⟩)) ?_
       refine rp 60 rfl (op_load1_fz rfl (oT rfl) rfl) ?_
       refine ra 17 rfl rfl rfl ?_
       refine rn ?_
       refine nK ?_
       refine Next.take 1 u.toNat 0 rfl (ownL_get hrgu) rfl (rows' := tkL (rowsI ll) u.toNat ru.length) (by rw [List.length_map]; rfl) ?_
       refine nK ?_
       refine s_reg rfl ?_
       refine rm 61 rfl rfl rfl ?_
       refine rm 62 rfl rfl rfl ?_
       refine rp 63 rfl (op_eql rfl (oT rfl) (oT rfl)) ?_
       refine rn ?_
       refine nK ?_
       refine n_cond _ rfl (fun hb => ?_) (fun hb => ?_)
       ·have hua : u = (a : Int) := by simpa using hb
        rw [if_pos hua] at hstp
        have hl1 := hlj.merge g.r hv (x := (v : Int)) (by omega)
        refine nK ?_
        refine s_reg rfl ?_
        refine rm 64 rfl rfl rfl ?_
        refine rp 65 rfl (op_load1_fz rfl (oT rfl) rfl) ?_
        refine Run.eff (dd := some 66) rfl rfl (op_call (n := 3) (n' := 3) [0, 1, 2] (fun _ => hmv) rfl (oT rfl) (oS (oT rfl) Opds.nil) rfl rfl (Lent.of rfl rfl (by exact ⟨⟨rfl, rfl, rfl, tL⟩, ⟨rfl, rfl, congrArg some (renO_tk rfl _ _ _).symm, ltO_tk (by decide) _ _ _⟩, ⟨rfl, rfl, rfl, trivial⟩, trivial⟩) rfl) rfl rfl rfl rfl rfl) ?_
        refine rn ?_
        refine nK ?_
        refine Next.weak [0, 1, 2] [] (by rfl) (keepsN hC _ rfl) (G' := [(1, IV .i64 a), (3, .fz (VLL up)), (4, .fz (.cellp (encG g))), (12, .ptr 0 1 0 0), (45, .fz (.vals 1 (l2.map encT))), (46, IV .i64 l2.length), (47, IV .i64 i), (14, .fz (.cellp [If .i64 v])), (15, .clo 60 [] [.fz (.cellp (encG g)), .fz (.cellp [If .i64 v]), .ptr 0 1 0 0]), (55, .fz (VI row)), (56, IV .i64 row.length), (57, IV .i64 j), (17, IV .i64 u)]) (H' := [(0, some (.refs 1 [[.sl 1 1 0 n]])), (1, some (.refs 1 (tkL (rowsI (mergeL g.r v ll (v : Int))) u.toNat ru.length))), (2, OI ru)]) (by repeat (first | exact trivial | refine ⟨⟨_, rfl, .inl ⟨rfl, rfl⟩⟩, ?_⟩ | refine ⟨⟨_, rfl, .inl ⟨slEq rfl tN, rfl⟩⟩, ?_⟩ | refine ⟨⟨_, rfl, .inl ⟨ivEq tX, rfl⟩⟩, ?_⟩)) (by exact ⟨ent_same rfl rfl rfl tL, ⟨ent_tk rfl rfl rfl (by decide) (congrArg some (renO_tk rfl _ _ _)), ⟨ent_same rfl rfl rfl tL, trivial⟩⟩⟩) (fun _ h => by simp at h) ?_
        generalize mergeL g.r v ll (v : Int) = ll1 at *
        have hl1 : LLok n ll1 := hl1
        have hru1 : rowAt' ll1 u.toNat = ru := hmo
        have hfin : ru.foldl (mergeL g.r v) ll1 = stepU g.r a v ll u := hstp.symm
        rw [← hfin] at hK3
        clear hfin
        refine nK ?_
        refine s_reg rfl ?_
        refine rl 67 rfl (op_load1_refs rfl (oT rfl) tH rfl) ?_
        refine rm 68 rfl rfl rfl ?_
        refine rp 69 rfl (op_idx_sl0 u.toNat rfl (oT rfl) (oT rfl) (by intro _; omega)) ?_
        refine rl 70 rfl (op_load1_refs rfl (oT rfl) (by intro _; exact ⟨rfl, set_get (ownL 1 (rowsI ll1)) u.toNat [.sl 2 1 0 ru.length] (by rw [ownL_len, rowsI_len, hl1.len]; omega)⟩) rfl) ?_
        refine rp 71 rfl (op_len_sl rfl (oT rfl)) ?_
        refine rp 72 rfl (op_move rfl oC) ?_
        refine rn ?_
        refine nK ?_
        refine n_loop (ι := Nat) (fun k => ([(1, IV .i64 a), (3, .fz (VLL up)), (4, .fz (.cellp (encG g))), (12, .ptr 0 1 0 0), (45, .fz (.vals 1 (l2.map encT))), (46, IV .i64 l2.length), (47, IV .i64 i), (14, .fz (.cellp [If .i64 v])), (15, .clo 60 [] [.fz (.cellp (encG g)), .fz (.cellp [If .i64 v]), .ptr 0 1 0 0]), (55, .fz (VI row)), (56, IV .i64 row.length), (57, IV .i64 j), (70, .sl 2 1 0 ru.length), (71, IV .i64 ru.length), (72, IV .i64 k)], [(0, some (.refs 1 [[.sl 1 1 0 n]])), (1, some (.refs 1 (tkL (rowsI ((ru.take k).foldl (mergeL g.r v) ll1)) u.toNat ru.length))), (2, OI ru)], 3)) (fun k => k ≤ ru.length) (fun k => ru.length - k) 0 (Nat.zero_le _) ?_ ?_
        ·refine Next.weak [0, 1, 2] [] (by rfl) (keepsN hC _ rfl) (by repeat (first | exact trivial | refine ⟨⟨_, rfl, .inl ⟨rfl, rfl⟩⟩, ?_⟩ | refine ⟨⟨_, rfl, .inl ⟨slEq rfl tN, rfl⟩⟩, ?_⟩ | refine ⟨⟨_, rfl, .inl ⟨ivEq tX, rfl⟩⟩, ?_⟩)) (by exact ⟨ent_same rfl rfl rfl tL, ⟨ent_tk rfl rfl rfl (by decide) rfl, ⟨ent_same rfl rfl rfl tL, trivial⟩⟩⟩) (fun _ h => by simp at h) rel_intro
        ·intro k hk K4 hK4
         try dsimp only at hk hK4 ⊢
         have hlk : LLok n ((ru.take k).foldl (mergeL g.r v) ll1) := LLok.fold hv _ hl1 fun x hx => hruok x (List.mem_of_mem_take hx)
         have hok := fold_other (r := g.r) (v := v) (u := u.toNat) huv (ru.take k) ll1
         refine nK ?_
         refine s_reg rfl ?_
         refine rp 73 rfl (op_lss rfl (oT rfl) (oT rfl)) ?_
         refine rn ?_
         refine nK ?_
         refine n_cond _ rfl (fun hb => ?_) (fun hb => ?_)
         ·have hkl : k < ru.length := by simp at hb; omega
          have hrk := row_at' encN ru k hkl
          have hxk := hruok _ (List.getElem_mem hkl)
          have hK5 := hK4 (k + 1) (by omega) (by omega)
          rw [foldl_take_succ _ _ _ _ hkl] at hK5
          have hmg := fun x => merge_c g u.toNat v n ru.length ru ((ru.take k).foldl (mergeL g.r v) ll1) x huv hlk.len hv hn (Nat.le_trans (hlk.row v hv).len (by omega))
          generalize (ru.take k).foldl (mergeL g.r v) ll1 = llk at *
          generalize ru[k] = x at *
          refine nK ?_
          refine s_reg rfl ?_
          refine rp 74 rfl (op_idx_sl0 k rfl (oT rfl) (oT rfl) (by intro _; exact ⟨rfl, hkl⟩)) ?_
          refine rl 75 rfl (op_load1_flat rfl (oT rfl) (by intro _; exact ⟨rfl, hrk⟩) rfl) ?_
          refine ra 19 rfl rfl rfl ?_
          refine rn ?_
          refine nK ?_
          refine s_reg rfl ?_
          refine rm 76 rfl rfl rfl ?_
          refine rm 77 rfl rfl rfl ?_
          refine Run.eff (dd := some 78) rfl rfl (op_call (n := 3) (n' := 3) [0, 1, 2] (fun _ => hmg x) rfl (oT rfl) (oS (oT rfl) Opds.nil) rfl rfl (Lent.of rfl rfl (by exact ⟨⟨rfl, rfl, rfl, tL⟩, ⟨rfl, rfl, congrArg some (renO_tk rfl _ _ _).symm, ltO_tk (by decide) _ _ _⟩, ⟨rfl, rfl, rfl, trivial⟩, trivial⟩) rfl) rfl rfl rfl rfl rfl) ?_
          refine rn ?_
          refine nK ?_
          refine s_reg rfl ?_
          refine rp 79 rfl (op_add rfl (oT rfl) oC tI) ?_
          refine rm 72 rfl rfl rfl ?_
          refine rn ?_
          refine nK ?_
          refine Next.weak [0, 1, 2] [] (by rfl) (keepsN hC _ rfl) (by repeat (first | exact trivial | refine ⟨⟨_, rfl, .inl ⟨rfl, rfl⟩⟩, ?_⟩ | refine ⟨⟨_, rfl, .inl ⟨slEq rfl tN, rfl⟩⟩, ?_⟩ | refine ⟨⟨_, rfl, .inl ⟨ivEq tX, rfl⟩⟩, ?_⟩)) (by exact ⟨ent_same rfl rfl rfl tL, ⟨ent_tk rfl rfl rfl (by decide) (congrArg some (renO_tk rfl _ _ _)), ⟨ent_same rfl rfl rfl tL, trivial⟩⟩⟩) (fun _ h => by simp at h) hK5
         ·have hke : k = ru.length := by simp at hb; omega
          subst hke
          rw [List.take_length] at *
          refine nK ?_
          refine s_reg rfl ?_
          refine rp 80 rfl (op_add rfl (oT rfl) oC tI) ?_
          refine rm 57 rfl rfl rfl ?_
          refine rn ?_
          refine nK ?_
          refine Next.untake 1 u.toNat 0 rfl (set_get _ _ _ (by rw [ownL_len, rowsI_len, hlk.len]; omega)) rfl rfl (List.length_map _) (tk_put (by rw [rowsI_get (by rw [hlk.len]; omega)]; exact congrArg (fun r => some (r.map encN)) (hok.trans hru1))) ?_
          refine Next.weak [0, 1] [] (by rfl) (keepsN hC _ rfl) (by repeat (first | exact trivial | refine ⟨⟨_, rfl, .inl ⟨rfl, rfl⟩⟩, ?_⟩ | refine ⟨⟨_, rfl, .inl ⟨slEq rfl tN, rfl⟩⟩, ?_⟩ | refine ⟨⟨_, rfl, .inl ⟨ivEq tX, rfl⟩⟩, ?_⟩)) (by exact ⟨ent_same rfl rfl rfl tL, ⟨ent_own rfl rfl rfl, trivial⟩⟩) (fun _ h => by simp at h) hK3
       ·have hua : ¬ u = (a : Int) := by simpa using hb
        rw [if_neg hua] at hstp
        have hl1 : LLok n ll := hlj
        have hru1 : rowAt' ll u.toNat = ru := hrue
        have hfin : ru.foldl (mergeL g.r v) ll = stepU g.r a v ll u := hstp.symm
        rw [← hfin] at hK3
        clear hfin
        refine nK ?_
        refine s_reg rfl ?_
        refine rl 67 rfl (op_load1_refs rfl (oT rfl) tH rfl) ?_
        refine rm 68 rfl rfl rfl ?_
        refine rp 69 rfl (op_idx_sl0 u.toNat rfl (oT rfl) (oT rfl) (by intro _; omega)) ?_
        refine rl 70 rfl (op_load1_refs rfl (oT rfl) (by intro _; exact ⟨rfl, set_get (ownL 1 (rowsI ll)) u.toNat [.sl 2 1 0 ru.length] (by rw [ownL_len, rowsI_len, hl1.len]; omega)⟩) rfl) ?_
        refine rp 71 rfl (op_len_sl rfl (oT rfl)) ?_
        refine rp 72 rfl (op_move rfl oC) ?_
        refine rn ?_
        refine nK ?_
        refine n_loop (ι := Nat) (fun k => ([(1, IV .i64 a), (3, .fz (VLL up)), (4, .fz (.cellp (encG g))), (12, .ptr 0 1 0 0), (45, .fz (.vals 1 (l2.map encT))), (46, IV .i64 l2.length), (47, IV .i64 i), (14, .fz (.cellp [If .i64 v])), (15, .clo 60 [] [.fz (.cellp (encG g)), .fz (.cellp [If .i64 v]), .ptr 0 1 0 0]), (55, .fz (VI row)), (56, IV .i64 row.length), (57, IV .i64 j), (70, .sl 2 1 0 ru.length), (71, IV .i64 ru.length), (72, IV .i64 k)], [(0, some (.refs 1 [[.sl 1 1 0 n]])), (1, some (.refs 1 (tkL (rowsI ((ru.take k).foldl (mergeL g.r v) ll)) u.toNat ru.length))), (2, OI ru)], 3)) (fun k => k ≤ ru.length) (fun k => ru.length - k) 0 (Nat.zero_le _) ?_ ?_
        ·refine Next.weak [0, 1, 2] [] (by rfl) (keepsN hC _ rfl) (by repeat (first | exact trivial | refine ⟨⟨_, rfl, .inl ⟨rfl, rfl⟩⟩, ?_⟩ | refine ⟨⟨_, rfl, .inl ⟨slEq rfl tN, rfl⟩⟩, ?_⟩ | refine ⟨⟨_, rfl, .inl ⟨ivEq tX, rfl⟩⟩, ?_⟩)) (by exact ⟨ent_same rfl rfl rfl tL, ⟨ent_tk rfl rfl rfl (by decide) rfl, ⟨ent_same rfl rfl rfl tL, trivial⟩⟩⟩) (fun _ h => by simp at h) rel_intro
        ·intro k hk K4 hK4
         try dsimp only at hk hK4 ⊢
         have hlk : LLok n ((ru.take k).foldl (mergeL g.r v) ll) := LLok.fold hv _ hl1 fun x hx => hruok x (List.mem_of_mem_take hx)
         have hok := fold_other (r := g.r) (v := v) (u := u.toNat) huv (ru.take k) ll
         refine nK ?_
         refine s_reg rfl ?_
         refine rp 73 rfl (op_lss rfl (oT rfl) (oT rfl)) ?_
         refine rn ?_
         refine nK ?_
         refine n_cond _ rfl (fun hb => ?_) (fun hb => ?_)
         ·have hkl : k < ru.length := by simp at hb; omega
          have hrk := row_at' encN ru k hkl
          have hxk := hruok _ (List.getElem_mem hkl)
          have hK5 := hK4 (k + 1) (by omega) (by omega)
          rw [foldl_take_succ _ _ _ _ hkl] at hK5
          have hmg := fun x => merge_c g u.toNat v n ru.length ru ((ru.take k).foldl (mergeL g.r v) ll) x huv hlk.len hv hn (Nat.le_trans (hlk.row v hv).len (by omega))
          generalize (ru.take k).foldl (mergeL g.r v) ll = llk at *
          generalize ru[k] = x at *
          refine nK ?_
          refine s_reg rfl ?_
          refine rp 74 rfl (op_idx_sl0 k rfl (oT rfl) (oT rfl) (by intro _; exact ⟨rfl, hkl⟩)) ?_
          refine rl 75 rfl (op_load1_flat rfl (oT rfl) (by intro _; exact ⟨rfl, hrk⟩) rfl) ?_
          refine ra 19 rfl rfl rfl ?_
          refine rn ?_
          refine nK ?_
          refine s_reg rfl ?_
          refine rm 76 rfl rfl rfl ?_
          refine rm 77 rfl rfl rfl ?_
          refine Run.eff (dd := some 78) rfl rfl (op_call (n := 3) (n' := 3) [0, 1, 2] (fun _ => hmg x) rfl (oT rfl) (oS (oT rfl) Opds.nil) rfl rfl (Lent.of rfl rfl (by exact ⟨⟨rfl, rfl, rfl, tL⟩, ⟨rfl, rfl, congrArg some (renO_tk rfl _ _ _).symm, ltO_tk (by decide) _ _ _⟩, ⟨rfl, rfl, rfl, trivial⟩, trivial⟩) rfl) rfl rfl rfl rfl rfl) ?_
          refine rn ?_
          refine nK ?_
          refine s_reg rfl ?_
          refine rp 79 rfl (op_add rfl (oT rfl) oC tI) ?_
          refine rm 72 rfl rfl rfl ?_
          refine rn ?_
          refine nK ?_
          refine Next.weak [0, 1, 2] [] (by rfl) (keepsN hC _ rfl) (by repeat (first | exact trivial | refine ⟨⟨_, rfl, .inl ⟨rfl, rfl⟩⟩, ?_⟩ | refine ⟨⟨_, rfl, .inl ⟨slEq rfl tN, rfl⟩⟩, ?_⟩ | refine ⟨⟨_, rfl, .inl ⟨ivEq tX, rfl⟩⟩, ?_⟩)) (by exact ⟨ent_same rfl rfl rfl tL, ⟨ent_tk rfl rfl rfl (by decide) (congrArg some (renO_tk rfl _ _ _)), ⟨ent_same rfl rfl rfl tL, trivial⟩⟩⟩) (fun _ h => by simp at h) hK5
         ·have hke : k = ru.length := by simp at hb; omega
          subst hke
          rw [List.take_length] at *
          refine nK ?_
          refine s_reg rfl ?_
          refine rp 80 rfl (op_add rfl (oT rfl) oC tI) ?_
          refine rm 57 rfl rfl rfl ?_
          refine rn ?_
          refine nK ?_
          refine Next.untake 1 u.toNat 0 rfl (set_get _ _ _ (by rw [ownL_len, rowsI_len, hlk.len]; omega)) rfl rfl (List.length_map _) (tk_put (by rw [rowsI_get (by rw [hlk.len]; omega)]; exact congrArg (fun r => some (r.map encN)) (hok.trans hru1))) ?_
          refine Next.weak [0, 1] [] (by rfl) (keepsN hC _ rfl) (by repeat (first | exact trivial | refine ⟨⟨_, rfl, .inl ⟨rfl, rfl⟩⟩, ?_⟩ | refine ⟨⟨_, rfl, .inl ⟨slEq rfl tN, rfl⟩⟩, ?_⟩ | refine ⟨⟨_, rfl, .inl ⟨ivEq tX, rfl⟩⟩, ?_⟩)) (by exact ⟨ent_same rfl rfl rfl tL, ⟨ent_own rfl rfl rfl, trivial⟩⟩) (fun _ h => by simp at h) hK3
      ·have hje : j = row.length := by simp at hb; omega
       subst hje
       rw [List.take_length] at *
       refine nK ?_
       refine s_reg rfl ?_
       refine rp 81 rfl (op_add rfl (oT rfl) oC tI) ?_
       refine rm 47 rfl rfl rfl ?_
       refine rn ?_
       refine nK ?_
       refine Next.weak [0, 1] [] (by rfl) (keepsN hC _ rfl) (by repeat (first | exact trivial | refine ⟨⟨_, rfl, .inl ⟨rfl, rfl⟩⟩, ?_⟩ | refine ⟨⟨_, rfl, .inl ⟨slEq rfl tN, rfl⟩⟩, ?_⟩ | refine ⟨⟨_, rfl, .inl ⟨ivEq tX, rfl⟩⟩, ?_⟩)) (by exact ⟨ent_same rfl rfl rfl tL, ⟨ent_own rfl rfl rfl, trivial⟩⟩) (fun _ h => by simp at h) hK3
    ·have hie : i = l2.length := by simp at hb; omega
     subst hie
     rw [List.take_length] at *
     refine Next.freezeOwn 1 rfl rfl ?_
     refine nK ?_
     refine s_reg rfl ?_
     refine rl 82 rfl (op_load1_refs rfl (oT rfl) tH rfl) ?_
     refine ra 8 rfl rfl rfl ?_
     refine rn ?_
     refine nK ?_
     have hFl : (fzL 1 (rowsI (hopsL g.r a n up l2))).length = n := by rw [fzL_len, rowsI_len]; exact hli.len
     refine Next.weakS [] [8] (by rfl) (keeps0 hC _) (G' := [(8, .fz (VLL (hopsL g.r a n up l2)))]) (H' := []) ⟨⟨_, rfl, .inr ⟨_, rfl, .sl _ _ _ _ _ _ rfl rfl ((take_all0 hFl).trans (fz_rowsI _)) (by rw [← fz_rowsI, hFl])⟩⟩, trivial⟩ trivial rfl ?_
     exact n_out1 rfl (by rfl) rfl rfl
end Go.Proofs.Ytnkhlbljnmodbaa
namespace Go.Proofs.Ytnkhlbljnmodbaa
open Go Go.RT Go.Proofs Go.Pl
set_option linter.all false
set_option maxRecDepth 20000
set_option maxHeartbeats 2000000
theorem run_c (g : Gr) (a : Nat) (t : Tr) (hok : okG g) (h : RunOk g a t) : Pure Try.prog 35 [.agg (encG g), If .i64 a] (.tup [.agg (encTr t), If .i64 0]) := by
 obtain ⟨vg, h0, h1⟩ := checkI_vg h.ok
 have hlt := h.lt
 obtain ⟨l2, p, q, hh⟩ := h.hops
 have hd := dist_c g a t.dist h.ok hok (by omega) h.dl h.dist
 have hp := parents_c g a t.dist h.ok h.dl (fun v hv => by have := (h.dist v hv).small vg (by omega) hv; omega)
 have hup := parL_ok vg a t.dist
 rw [← h.par] at hp hup
 have hho := hops_c g a (g.r + g.n).toNat t.dist t.par l2 vg.n128 h.dl (by omega) hup p q
 rw [← hh] at hho
 have hck := h.ok
 obtain ⟨rt, d, hs, pr⟩ := t
 have hrt : rt = a := h.root
 subst hrt
 dsimp only at hd hp hho
 clear hh h hup q p
 refine Meets.intro Try.func35 rfl (Nat.le_of_ble_eq_true rfl) fun C hC => ?_
 simp only [List.map, argEnv, Nat.reduceAdd]
 refine nK ?_
 refine s_reg rfl ?_
 refine Run.eff (dd := some 2) rfl rfl (op_box_flat rfl (oT rfl) tC rfl) ?_
 refine Run.eff (dd := some 4) rfl rfl (op_alloc rfl rfl rfl rfl) ?_
 refine rp 5 rfl (op_assign rfl oC) ?_
 refine rn ?_
 refine nK ?_
 refine s_reg rfl ?_
 refine rl 8 rfl (op_loadw_flat rfl (oT rfl) tH rfl) ?_
 refine rp 9 rfl (op_call_pure (fun _ => check_c _ (by assumption)) rfl (Opd.func _) (oS (oT rfl) Opds.nil)) ?_
 refine ra 6 rfl rfl rfl ?_
 refine rn ?_
 refine nK ?_
 refine s_reg rfl ?_
 refine rm 10 rfl rfl rfl ?_
 refine rp 11 rfl (op_neq rfl (oT rfl) oC) ?_
 refine rn ?_
 refine nK ?_
 refine n_cond _ rfl (fun hb => ?_) (fun hb => ?_)
 ·simp at hb; omega
 ·refine nK ?_
  refine s_reg rfl ?_
  refine rm 14 rfl rfl rfl ?_
  refine rp 15 rfl (op_lss rfl (oT rfl) oC) ?_
  refine rm 16 rfl rfl rfl ?_
  refine gm 17 rfl rfl tG rfl rfl ?_
  refine rg 18 rfl rfl tG (op_fld_ptr (by decide) rfl (oT rfl)) ?_
  refine rk 19 rfl rfl tG (op_load1_flat rfl (oO rfl tO) tH rfl) ?_
  refine rg 20 rfl rfl tG (op_geq rfl (oO rfl tO) (oO rfl tO)) ?_
  refine rp 21 rfl (op_pick_or rfl (oT rfl) (oO rfl tO)) ?_
  refine rn ?_
  refine nK ?_
  refine n_cond _ rfl (fun hb => ?_) (fun hb => ?_)
  ·simp at hb; omega
  ·refine nK ?_
   refine s_reg rfl ?_
   refine rm 23 rfl rfl rfl ?_
   refine rl 24 rfl (op_loadw_flat rfl (oT rfl) tH rfl) ?_
   refine rm 25 rfl rfl rfl ?_
   refine rp 26 rfl (op_call_pure (fun _ => hd) rfl (Opd.func _) (oS (oT rfl) (oS (oT rfl) Opds.nil))) ?_
   refine rp 27 rfl (op_build rfl rfl rfl (FillF.cons _ _ _ _ _ _ _ _ _ _ (by rfl) (oT rfl) tC (by rfl) tR (FillF.cons _ _ _ _ _ _ _ _ _ _ (by rfl) (oT rfl) tC (by rfl) tR (FillF.nil _)))) ?_
   refine Run.eff (dd := some 7) rfl rfl (op_alloc rfl rfl rfl rfl) ?_
   refine Run.eff (dd := none) rfl rfl (op_store_flat rfl (oT rfl) (oT rfl) tC rfl rfl (by first | rfl | assumption) tS) ?_
   refine rn ?_
   refine nK ?_
   refine s_reg rfl ?_
   refine rl 28 rfl (op_loadw_flat rfl (oT rfl) tH rfl) ?_
   refine rm 29 rfl rfl rfl ?_
   refine rp 30 rfl (op_fld_ptr (by decide) rfl (oT rfl)) ?_
   refine rl 31 rfl (op_load1_flat rfl (oT rfl) tH rfl) ?_
   refine rp 32 rfl (op_call_pure (fun _ => hp) rfl (Opd.func _) (oS (oT rfl) (oS (oT rfl) (oS (oT rfl) Opds.nil)))) ?_
   refine rp 33 rfl (op_fld_ptr (by decide) rfl (oT rfl)) ?_
   refine Run.eff (dd := none) rfl rfl (op_store_flat rfl (oT rfl) (oT rfl) tC rfl rfl (by first | rfl | assumption) tS) ?_
   refine rn ?_
   refine nK ?_
   refine s_reg rfl ?_
   refine rl 34 rfl (op_loadw_flat rfl (oT rfl) tH rfl) ?_
   refine rm 35 rfl rfl rfl ?_
   refine rp 36 rfl (op_fld_ptr (by decide) rfl (oT rfl)) ?_
   refine rl 37 rfl (op_load1_flat rfl (oT rfl) tH rfl) ?_
   refine rp 38 rfl (op_fld_ptr (by decide) rfl (oT rfl)) ?_
   refine rl 39 rfl (op_load1_flat rfl (oT rfl) tH rfl) ?_
   refine rp 40 rfl (op_call_pure (fun _ => hho) rfl (Opd.func _) (oS (oT rfl) (oS (oT rfl) (oS (oT rfl) (oS (oT rfl) Opds.nil))))) ?_
   refine rp 41 rfl (op_fld_ptr (by decide) rfl (oT rfl)) ?_
   refine Run.eff (dd := none) rfl rfl (op_store_flat rfl (oT rfl) (oT rfl) tC rfl rfl (by first | rfl | assumption) tS) ?_
   refine rn ?_
   refine nK ?_
   refine s_reg rfl ?_
   refine rl 42 rfl (op_loadw_flat rfl (oT rfl) tH rfl) ?_
   refine Run.eff (dd := none) rfl rfl (op_store_flat rfl (oT rfl) (oT rfl) tC rfl rfl (by first | rfl | assumption) tS) ?_
   refine rp 5 rfl (op_assign rfl oC) ?_
   refine rn ?_
   refine nK ?_
   (first | exact s_o1 hC rfl tV | exact s_o2 hC rfl tV tV | exact s_o3 hC rfl tV tV tV | exact s_out0 hC rfl | exact s_outO hC rfl rfl rfl)
end Go.Proofs.Ytnkhlbljnmodbaa
namespace Go.Proofs.Ytnkhlbljnmodbaa
open Go Go.RT Go.Proofs Go.Pl
set_option linter.all false
set_option maxRecDepth 20000
set_option maxHeartbeats 2000000
theorem indexi_c (l : List Int) (x : Int) (hl : l.length ≤ 1999999) : Pure Try.prog 40 [VI l, If .i64 x] (If .i64 (idxAt (fun y => decide (x = y)) 0 l)) := by
 refine Meets.intro Try.func40 rfl (Nat.le_of_ble_eq_true rfl) fun C hC => ?_
 simp only [List.map, argEnv, Nat.reduceAdd]
 refine nK ?_
 refine s_reg rfl ?_
 refine rp 4 rfl (op_assign rfl oC) ?_
 refine rn ?_
 refine nK ?_
 refine s_reg rfl ?_
 refine rm 6 rfl rfl rfl ?_
 refine rp 7 rfl (op_len_fz rfl (by first | exact Opd.tmp _ _ rfl | exact Opd.nil _ _ (oT rfl)) (by first | exact List.length_map _ | rfl)) ?_
 refine rp 8 rfl (op_move rfl oC) ?_
 refine rn ?_
 refine nK ?_
 refine n_loop (ι := Nat) (fun i => ([(0, .fz (VI l)), (1, IV .i64 x), (7, IV .i64 l.length), (8, IV .i64 i)], [], 0)) (fun i => i ≤ l.length ∧ idxAt (fun y => decide (x = y)) 0 l = idxAt (fun y => decide (x = y)) i (l.drop i)) (fun i => l.length - i) 0 ⟨Nat.zero_le _, rfl⟩ ?_ ?_
 ·refine Next.weak [] [] (by rfl) (keeps0 hC _) (by repeat (first | exact trivial | refine ⟨⟨_, rfl, .inl ⟨rfl, rfl⟩⟩, ?_⟩)) (by repeat (first | exact trivial | refine ⟨ent_same rfl rfl rfl tL, ?_⟩ | refine ⟨ent_same rfl rfl (rfEq rfl tU) tL, ?_⟩ | refine ⟨ent_same rfl rfl (flEq rfl (by first | (simp; done) | (simp; omega) | (simp [encE, encN, encB, encT, encL, encTr]; done) | simp [maxC, minC])) trivial, ?_⟩)) (fun _ h => by simp at h) rel_intro
 ·intro i ⟨hi, ho⟩ K hK
  refine nK ?_
  refine s_reg rfl ?_
  refine rp 9 rfl (op_lss rfl (oT rfl) (oT rfl)) ?_
  refine rn ?_
  refine nK ?_
  refine n_cond _ rfl (fun hb => ?_) (fun hb => ?_)
  ·have hlt : i < l.length := by simp at hb; omega
   rw [List.drop_eq_getElem_cons hlt] at ho
   have hr1 := row_at' encN l i hlt
   have hK1 := fun h => hK (i + 1) ⟨by omega, h⟩ (by omega)
   generalize l[i] = y at *
   refine nK ?_
   refine s_reg rfl ?_
   refine rm 10 rfl rfl rfl ?_
   refine ra 5 rfl rfl rfl ?_
   refine rn ?_
   refine nK ?_
   refine s_reg rfl ?_
   refine rm 11 rfl rfl rfl ?_
   refine rm 12 rfl rfl rfl ?_
   refine rm 13 rfl rfl rfl ?_
   refine rp 14 rfl (op_idx_fz _ rfl (oT rfl) (oT rfl) tF) ?_
   refine rp 15 rfl (op_load1_fz rfl (oT rfl) rfl) ?_
   refine rp 16 rfl (op_eql rfl (oT rfl) (oT rfl)) ?_
   refine rn ?_
   refine nK ?_
   refine n_cond _ rfl (fun hb => ?_) (fun hb => ?_)
   ·have e : x = y := by simpa using hb
    rw [ho, show idxAt (fun y => decide (x = y)) i (y :: l.drop (i + 1)) = (i : Int) by simp [idxAt, e]]
    refine nK ?_
    refine s_reg rfl ?_
    refine rm 17 rfl rfl rfl ?_
    refine ra 4 rfl rfl rfl ?_
    refine rn ?_
    refine nK ?_
    (first | exact s_o1 hC rfl tV | exact s_o2 hC rfl tV tV | exact s_o3 hC rfl tV tV tV | exact s_out0 hC rfl | exact s_outO hC rfl rfl rfl)
   ·have e : ¬ x = y := by simpa using hb
    rw [show idxAt (fun y => decide (x = y)) i (y :: l.drop (i + 1)) = idxAt (fun y => decide (x = y)) (i + 1) (l.drop (i + 1)) by simp [idxAt, e]] at ho
    refine nK ?_
    refine s_reg rfl ?_
    refine rp 18 rfl (op_add rfl (oT rfl) oC tI) ?_
    refine rm 8 rfl rfl rfl ?_
    refine rn ?_
    refine nK ?_
    refine Next.weak [] [] (by rfl) (keeps0 hC _) (by repeat (first | exact trivial | refine ⟨⟨_, rfl, .inl ⟨rfl, rfl⟩⟩, ?_⟩)) (by repeat (first | exact trivial | refine ⟨ent_same rfl rfl rfl tL, ?_⟩ | refine ⟨ent_same rfl rfl (rfEq rfl tU) tL, ?_⟩ | refine ⟨ent_same rfl rfl (flEq rfl (by first | (simp; done) | (simp; omega) | (simp [encE, encN, encB, encT, encL, encTr]; done) | simp [maxC, minC])) trivial, ?_⟩)) (fun _ h => by simp at h) (hK1 ho)
  ·have hie : i = l.length := by simp at hb; omega
   rw [hie, List.drop_length] at ho
   rw [ho]
   refine nK ?_
   refine s_reg rfl ?_
   refine rp 4 rfl (op_assign rfl oC) ?_
   refine rn ?_
   refine nK ?_
   (first | exact s_o1 hC rfl tV | exact s_o2 hC rfl tV tV | exact s_o3 hC rfl tV tV tV | exact s_out0 hC rfl | exact s_outO hC rfl rfl rfl)
theorem containsi_c (l : List Int) (x : Int) (hl : l.length ≤ 1999999) : Pure Try.prog 29 [VI l, If .i64 x] (Bf (decide (x ∈ l))) := by
 have e : decide (x ∈ l) = decide (0 ≤ idxAt (fun y => decide (x = y)) 0 l) := by
  rw [decide_eq_decide]
  have : ∀ (l : List Int) (k : Nat), x ∈ l ↔ 0 ≤ idxAt (fun y => decide (x = y)) k l := by
   intro l
   induction l with
   | nil => intro k; simp [idxAt]
   | cons y l ih =>
    intro k
    simp only [idxAt, List.mem_cons]
    by_cases e : x = y
    ·simp [e]
    ·simp [e, ← ih (k + 1)]
  exact this l 0
 rw [e]
 refine Meets.intro Try.func29 rfl (Nat.le_of_ble_eq_true rfl) fun C hC => ?_
 simp only [List.map, argEnv, Nat.reduceAdd]
 refine nK ?_
 refine s_reg rfl ?_
 refine rp 4 rfl (op_assign rfl oC) ?_
 refine rn ?_
 refine nK ?_
 refine s_reg rfl ?_
 refine rm 5 rfl rfl rfl ?_
 refine rm 6 rfl rfl rfl ?_
 refine rp 7 rfl (op_call_pure (fun _ => indexi_c _ _ (by omega)) rfl (Opd.func _) (oS (oT rfl) (oS (oT rfl) Opds.nil))) ?_
 refine rp 8 rfl (op_geq rfl (oT rfl) oC) ?_
 refine ra 4 rfl rfl rfl ?_
 refine rn ?_
 refine nK ?_
 (first | exact s_o1 hC rfl tV | exact s_o2 hC rfl tV tV | exact s_o3 hC rfl tV tV tV | exact s_out0 hC rfl | exact s_outO hC rfl rfl rfl)
end Go.Proofs.Ytnkhlbljnmodbaa
namespace Go.Proofs.Ytnkhlbljnmodbaa
open Go Go.RT Go.Proofs Go.Pl
set_option linter.all false
set_option maxRecDepth 20000
set_option maxHeartbeats 4000000
theorem rdist_c (g : Gr) (hg : checkI g = 0) : Pure Try.prog 33 [.agg (encG g)] (VLL (matF g.m (disF g.es g.m))) := by
 obtain ⟨vg, hr0, hn0⟩ := checkI_vg hg
 have hn := vg.n128
 have hel := vg.e1024
 have hrn : g.r + g.n = (g.m : Int) := by unfold Gr.m; omega
 change VG g.es g.r.toNat g.m at vg
 change g.m ≤ 128 at hn
 unfold disF
 generalize g.m = n at *
 refine Meets.intro Try.func33 rfl (Nat.le_of_ble_eq_true rfl) fun C hC => ?_
 simp only [List.map, argEnv, Nat.reduceAdd]
 refine nK2 ?_
 refine s_reg rfl ?_
 refine Run.eff (dd := some 1) rfl rfl (op_box_flat rfl (oT rfl) tC rfl) ?_
 refine rp 2 rfl (op_assign rfl oC) ?_
 refine rn ?_
 refine nK2 ?_
 refine s_reg rfl ?_
 refine rp 11 rfl (op_fld_ptr (by decide) rfl (oT rfl)) ?_
 refine rl 12 rfl (op_load1_flat rfl (oT rfl) tH rfl) ?_
 refine rp 13 rfl (op_fld_ptr (by decide) rfl (oT rfl)) ?_
 refine rl 14 rfl (op_load1_flat rfl (oT rfl) tH rfl) ?_
 refine rp 15 rfl (op_add rfl (oT rfl) (oT rfl) tI) ?_
 refine ra 3 rfl rfl rfl ?_
 refine rn ?_
 refine nK2 ?_
 refine s_reg rfl ?_
 refine rm 16 rfl rfl rfl ?_
 refine Run.eff (dd := some 17) rfl rfl (op_make (l := n) (c := n) rfl (oT rfl) (oT rfl) rfl rfl rfl rfl (by intro _; refine ⟨hrn, hrn, ?_⟩; omega)) ?_
 refine ra 4 rfl rfl rfl ?_
 refine rn ?_
 refine nK2 ?_
 refine Next.toOwn 1 1 n rfl ?_
 refine Next.weak [0, 1] [] (by rfl) (keepsN hC _ rfl) (G' := [(1, .ptr 0 3 0 0), (3, IV .i64 n), (4, .sl 1 1 0 n)]) (H' := [(0, OG g), (1, some (.refs 1 (ownL 1 (rowsI (llA n 0)))))]) (by repeat (first | exact trivial | refine ⟨⟨_, rfl, .inl ⟨rfl, rfl⟩⟩, ?_⟩ | refine ⟨⟨_, rfl, .inl ⟨slEq rfl tN, rfl⟩⟩, ?_⟩ | refine ⟨⟨_, rfl, .inl ⟨ivEq tX, rfl⟩⟩, ?_⟩)) (by exact ⟨ent_same rfl rfl rfl tL, ⟨ent_own rfl rfl (by rw [llA_0, rowsI_nil, ← ownL_rep]; rfl), trivial⟩⟩) (fun _ h => by simp at h) ?_
 refine nK2 ?_
 refine s_reg rfl ?_
 refine rp 5 rfl (op_assign rfl oC) ?_
 refine rn ?_
 refine nK2 ?_
 refine n_loop (ι := Nat) (fun i => ([(1, .ptr 0 3 0 0), (3, IV .i64 n), (4, .sl 1 1 0 n), (5, IV .i64 i)], [(0, OG g), (1, some (.refs 1 (ownL 1 (rowsI (llA n i)))))], 2)) (fun i => i ≤ n) (fun i => n - i) 0 (Nat.zero_le _) ?_ ?_
 ·refine Next.weak [0, 1] [] (by rfl) (keepsN hC _ rfl) (by repeat (first | exact trivial | refine ⟨⟨_, rfl, .inl ⟨rfl, rfl⟩⟩, ?_⟩ | refine ⟨⟨_, rfl, .inl ⟨slEq rfl tN, rfl⟩⟩, ?_⟩ | refine ⟨⟨_, rfl, .inl ⟨ivEq tX, rfl⟩⟩, ?_⟩)) (by exact ⟨ent_same rfl rfl rfl tL, ⟨ent_own rfl rfl rfl, trivial⟩⟩) (fun _ h => by simp at h) rel_intro
 ·intro i hi K hK
  try dsimp only at hi hK ⊢
  refine nK2 ?_
  refine s_reg rfl ?_
  refine rm 18 rfl rfl rfl ?_
  refine rm 19 rfl rfl rfl ?_
  refine rp 20 rfl (op_lss rfl (oT rfl) (oT rfl)) ?_
  refine rn ?_
  refine nK2 ?_
  refine n_cond _ rfl (fun hb => ?_) (fun hb => ?_)
  ·have hlt : i < n := by simpa using hb
   have hrA := rowsI_get (ll := llA n i) (v := i) (by rw [llA_len]; exact hlt)
   rw [show (llA n i).getD i [] = [] from llA_at hlt] at hrA
   have hK1 := hK (i + 1) (by omega) (by omega)
   rw [← llA_set, ← rowsI_set] at hK1
   have hll : (rowsI (llA n i)).length = n := by rw [rowsI_len, llA_len]
   generalize rowsI (llA n i) = irs at *
   refine nK2 ?_
   refine Next.take 1 i 0 rfl (ownL_get hrA) rfl rfl ?_
   have hs1 := set_get (ownL 1 irs) i [.sl 2 1 0 0] (by rw [ownL_len, hll]; omega)
   refine nK2 ?_
   refine s_reg rfl ?_
   refine rm 23 rfl rfl rfl ?_
   refine rm 24 rfl rfl rfl ?_
   refine rm 25 rfl rfl rfl ?_
   refine Run.eff (dd := some 26) rfl rfl (op_make (l := n) (c := n) rfl (oT rfl) (oT rfl) rfl rfl rfl rfl (by intro _; refine ⟨rfl, rfl, ?_⟩; omega)) ?_
   refine rp 27 rfl (op_idx_sl0 i rfl (oT rfl) (oT rfl) (by intro _; exact ⟨rfl, hlt⟩)) ?_
   refine Run.eff (dd := none) rfl rfl (op_store_refs rfl (oT rfl) (oT rfl) tP rfl rfl hs1 tS) ?_
   refine rn ?_
   refine nK2 ?_
   refine Next.weak [0, 1, 3] [] (by rfl) (keepsN hC _ rfl) (G' := [(1, .ptr 0 3 0 0), (3, IV .i64 n), (4, .sl 1 1 0 n), (5, IV .i64 i)]) (H' := [(0, OG g), (1, some (.refs 1 (tkL irs i n))), (2, OI (fillN n 0))]) (by repeat (first | exact trivial | refine ⟨⟨_, rfl, .inl ⟨rfl, rfl⟩⟩, ?_⟩ | refine ⟨⟨_, rfl, .inl ⟨slEq rfl tN, rfl⟩⟩, ?_⟩ | refine ⟨⟨_, rfl, .inl ⟨ivEq tX, rfl⟩⟩, ?_⟩)) (by exact ⟨ent_same rfl rfl rfl tL, ⟨ent_tkG rfl rfl (by decide) (congrArg (fun r => some (Ob.refs 1 r)) (List.set_set ..)), ⟨ent_same rfl rfl (flEq rfl (by rw [fillN_0, List.map_replicate]; rfl)) trivial, trivial⟩⟩⟩) (fun _ h => by simp at h) ?_
   have hs2 := set_get (ownL 1 irs) i [.sl 2 1 0 n] (by rw [ownL_len, hll]; omega)
   refine nK2 ?_
   refine s_reg rfl ?_
   refine rp 6 rfl (op_assign rfl oC) ?_
   refine rn ?_
   refine nK2 ?_
   refine n_loop (ι := Nat) (fun k => ([(1, .ptr 0 3 0 0), (3, IV .i64 n), (4, .sl 1 1 0 n), (5, IV .i64 i), (6, IV .i64 k)], [(0, OG g), (1, some (.refs 1 (tkL irs i n))), (2, OI (fillN n k))], 3)) (fun k => k ≤ n) (fun k => n - k) 0 (Nat.zero_le _) ?_ ?_
   ·refine Next.weak [0, 1, 2] [] (by rfl) (keepsN hC _ rfl) (by repeat (first | exact trivial | refine ⟨⟨_, rfl, .inl ⟨rfl, rfl⟩⟩, ?_⟩ | refine ⟨⟨_, rfl, .inl ⟨slEq rfl tN, rfl⟩⟩, ?_⟩ | refine ⟨⟨_, rfl, .inl ⟨ivEq tX, rfl⟩⟩, ?_⟩)) (by exact ⟨ent_same rfl rfl rfl tL, ⟨ent_tk rfl rfl rfl (by decide) rfl, ⟨ent_same rfl rfl rfl tL, trivial⟩⟩⟩) (fun _ h => by simp at h) rel_intro
   ·intro k hk K2 hK2
    try dsimp only at hk hK2 ⊢
    refine nK2 ?_
    refine s_reg rfl ?_
    refine rm 28 rfl rfl rfl ?_
    refine rm 29 rfl rfl rfl ?_
    refine rp 30 rfl (op_lss rfl (oT rfl) (oT rfl)) ?_
    refine rn ?_
    refine nK2 ?_
    refine n_cond _ rfl (fun hb => ?_) (fun hb => ?_)
    ·have hlk : k < n := by simpa using hb
     have hrow := row_of encN (fillN n k) k 0 (by rw [fillN_len _ _ hk]; exact hlk)
     refine nK2 ?_
     refine s_reg rfl ?_
     refine rm 33 rfl rfl rfl ?_
     refine rm 34 rfl rfl rfl ?_
     refine rp 35 rfl (op_idx_sl0 i rfl (oT rfl) (oT rfl) (by intro _; exact ⟨rfl, hlt⟩)) ?_
     refine rl 36 rfl (op_load1_refs rfl (oT rfl) (by intro _; exact ⟨rfl, hs2⟩) rfl) ?_
     refine rm 37 rfl rfl rfl ?_
     refine rp 38 rfl (op_idx_sl0 k rfl (oT rfl) (oT rfl) (by intro _; exact ⟨rfl, hlk⟩)) ?_
     refine Run.eff (dd := none) rfl rfl (op_store_flat rfl (oT rfl) oC tC rfl rfl hrow tS) ?_
     refine rn ?_
     refine nK2 ?_
     refine s_reg rfl ?_
     refine rm 31 rfl rfl rfl ?_
     refine rp 32 rfl (op_add rfl (oT rfl) oC tI) ?_
     refine ra 6 rfl rfl rfl ?_
     refine rn ?_
     refine nK2 ?_
     refine Next.weak [0, 1, 2] [] (by rfl) (keepsN hC _ rfl) (by repeat (first | exact trivial | refine ⟨⟨_, rfl, .inl ⟨rfl, rfl⟩⟩, ?_⟩ | refine ⟨⟨_, rfl, .inl ⟨slEq rfl tN, rfl⟩⟩, ?_⟩ | refine ⟨⟨_, rfl, .inl ⟨ivEq tX, rfl⟩⟩, ?_⟩)) (by exact ⟨ent_same rfl rfl rfl tL, ⟨ent_tk rfl rfl rfl (by decide) rfl, ⟨ent_same rfl rfl (flEq rfl (by rw [← fillN_set n k hlk, List.map_set]; rfl)) trivial, trivial⟩⟩⟩) (fun _ h => by simp at h) (hK2 (k + 1) (by omega) (by omega))
    ·have hke : k = n := by simp at hb; omega
     subst hke
     have hrow := row_of encN (fillN k k) i 0 (by rw [fillN_len _ _ (Nat.le_refl _)]; exact hlt)
     refine nK2 ?_
     refine s_reg rfl ?_
     refine rm 39 rfl rfl rfl ?_
     refine rm 40 rfl rfl rfl ?_
     refine rp 41 rfl (op_idx_sl0 i rfl (oT rfl) (oT rfl) (by intro _; exact ⟨rfl, hlt⟩)) ?_
     refine rl 42 rfl (op_load1_refs rfl (oT rfl) (by intro _; exact ⟨rfl, hs2⟩) rfl) ?_
     refine rm 43 rfl rfl rfl ?_
     refine rp 44 rfl (op_idx_sl0 i rfl (oT rfl) (oT rfl) (by intro _; exact ⟨rfl, hlt⟩)) ?_
     refine Run.eff (dd := none) rfl rfl (op_store_flat rfl (oT rfl) oC tC rfl rfl hrow tS) ?_
     refine rn ?_
     refine nK2 ?_
     refine s_reg rfl ?_
     refine rm 21 rfl rfl rfl ?_
     refine rp 22 rfl (op_add rfl (oT rfl) oC tI) ?_
     refine ra 5 rfl rfl rfl ?_
     refine rn ?_
     refine nK2 ?_
     refine Next.untake 1 i 0 rfl (set_get _ _ _ (by rw [ownL_len, hll]; omega)) rfl rfl (by simp [fillN_len]) rfl ?_
     refine Next.weak [0, 1] [] (by rfl) (keepsN hC _ rfl) (by repeat (first | exact trivial | refine ⟨⟨_, rfl, .inl ⟨rfl, rfl⟩⟩, ?_⟩ | refine ⟨⟨_, rfl, .inl ⟨slEq rfl tN, rfl⟩⟩, ?_⟩ | refine ⟨⟨_, rfl, .inl ⟨ivEq tX, rfl⟩⟩, ?_⟩)) (by exact ⟨ent_same rfl rfl rfl tL, ⟨ent_own rfl rfl (congrArg (fun r => some (Ob.refs 1 r)) ((List.set_set ..).trans ((ownL_set ..).trans (congrArg (fun r => ownL 1 (irs.set i r)) (by rw [← fill_row, List.map_set]; rfl))))), trivial⟩⟩) (fun _ h => by simp at h) hK1
  ·have hie : i = n := by simp at hb; omega
   subst hie
   rw [llA_n]
   refine nK2 ?_
   refine s_reg rfl ?_
   refine rp 7 rfl (op_assign rfl oC) ?_
   refine rn ?_
   refine nK2 ?_
   refine n_loop (ι := Nat) (fun j => ([(1, .ptr 0 3 0 0), (3, IV .i64 i), (4, .sl 1 1 0 i), (7, IV .i64 j)], [(0, OG g), (1, some (.refs 1 (ownL 1 (rowsI (matF i (iniD (g.es.take j)))))))], 2)) (fun j => j ≤ g.es.length) (fun j => g.es.length - j) 0 (Nat.zero_le _) ?_ ?_
   ·refine Next.weak [0, 1] [] (by rfl) (keepsN hC _ rfl) (by repeat (first | exact trivial | refine ⟨⟨_, rfl, .inl ⟨rfl, rfl⟩⟩, ?_⟩ | refine ⟨⟨_, rfl, .inl ⟨slEq rfl tN, rfl⟩⟩, ?_⟩ | refine ⟨⟨_, rfl, .inl ⟨ivEq tX, rfl⟩⟩, ?_⟩)) (by exact ⟨ent_same rfl rfl rfl tL, ⟨ent_own rfl rfl rfl, trivial⟩⟩) (fun _ h => by simp at h) rel_intro
   ·intro j hj K2 hK2
    try dsimp only at hj hK2 ⊢
    refine nK2 ?_
    refine s_reg rfl ?_
    refine rm 45 rfl rfl rfl ?_
    refine rp 46 rfl (op_fld_ptr (by decide) rfl (oT rfl)) ?_
    refine rl 47 rfl (op_load1_flat rfl (oT rfl) tH rfl) ?_
    refine rp 48 rfl (op_len_fz rfl (by first | exact Opd.tmp _ _ rfl | exact Opd.nil _ _ (oT rfl)) (by first | exact List.length_map _ | rfl)) ?_
    refine rp 49 rfl (op_lss rfl (oT rfl) (oT rfl)) ?_
    refine rn ?_
    refine nK2 ?_
    refine n_cond _ rfl (fun hb => ?_) (fun hb => ?_)
    ·have hlj : j < g.es.length := by simp at hb; omega
     have hr1 := row_at' encE g.es j hlj
     have hef := vg.f _ (List.getElem_mem hlj)
     have het := vg.t _ (List.getElem_mem hlj)
     have hK3 := hK2 (j + 1) (by omega) (by omega)
     have hput := matF_put (n := i) (f := g.es[j].f.toNat) (t := g.es[j].t.toNat) (c := g.es[j].c) (D := iniD (g.es.take j)) (D' := iniD (g.es.take (j + 1))) (fun a b => iniD_succ vg.asc (fun e he => ⟨vg.ne e he, (vg.f e he).1, (vg.t e he).1⟩) hlj a b)
     rw [← hput, ← rowsI_set] at hK3
     generalize iniD (g.es.take j) = D at *
     clear hput
     have hrA := rowsI_get (ll := matF i D) (v := g.es[j].f.toNat) (by rw [matF_len]; omega)
     rw [show (matF i D).getD g.es[j].f.toNat [] = rowF i (D g.es[j].f.toNat) from matF_get i D (by omega)] at hrA
     have hll : (rowsI (matF i D)).length = i := by rw [rowsI_len, matF_len]
     generalize rowsI (matF i D) = irs at *
     generalize g.es[j] = e at *
     have hrl := rowF_len i (D e.f.toNat)
     generalize rowF i (D e.f.toNat) = row at *
     have hrt := row_of encN row e.t.toNat 0 (by omega)
     refine nK2 ?_
     refine Next.take 1 e.f.toNat 0 rfl (ownL_get hrA) rfl rfl ?_
     have hs1 := set_get (ownL 1 irs) e.f.toNat [.sl 2 1 0 (row.map encN).length] (by rw [ownL_len, hll]; omega)
     refine nK2 ?_
     refine s_draw mixed ?_
     refine rm 52 rfl rfl rfl ?_
     refine rp 53 rfl (op_fld_ptr (by decide) rfl (oT rfl)) ?_
     refine rl 54 rfl (op_load1_flat rfl (oT rfl) tH rfl) ?_
     refine rm 55 rfl rfl rfl ?_
     refine rp 56 rfl (op_idx_fz _ rfl (oT rfl) (oT rfl) tF) ?_
     refine rp 57 rfl (op_fld_fz (by decide) rfl (oT rfl) tR) ?_
     refine rp 58 rfl (op_load1_fz rfl (oT rfl) rfl) ?_
     refine rp 59 rfl (op_idx_sl0 e.f.toNat rfl (oT rfl) (oT rfl) (by intro _; omega)) ?_
     refine rl 60 rfl (op_load1_refs rfl (oT rfl) (by intro _; exact ⟨rfl, hs1⟩) rfl) ?_
     refine rp 61 rfl (op_fld_ptr (by decide) rfl (oT rfl)) ?_
     refine rl 62 rfl (op_load1_flat rfl (oT rfl) tH rfl) ?_
     refine rm 63 rfl rfl rfl ?_
     refine rp 64 rfl (op_idx_fz _ rfl (oT rfl) (oT rfl) tF) ?_
     refine rp 65 rfl (op_fld_fz (by decide) rfl (oT rfl) tR) ?_
     refine rp 66 rfl (op_load1_fz rfl (oT rfl) rfl) ?_
     refine rp 67 rfl (op_fld_ptr (by decide) rfl (oT rfl)) ?_
     refine rl 68 rfl (op_load1_flat rfl (oT rfl) tH rfl) ?_
     refine rm 69 rfl rfl rfl ?_
     refine rp 70 rfl (op_idx_fz _ rfl (oT rfl) (oT rfl) tF) ?_
     refine rp 71 rfl (op_fld_fz (by decide) rfl (oT rfl) tR) ?_
     refine rp 72 rfl (op_load1_fz rfl (oT rfl) rfl) ?_
     refine rp 73 rfl (op_idx_sl0 e.t.toNat rfl (oT rfl) (oT rfl) (by intro _; rw [List.length_map]; omega)) ?_
     refine Run.effW (dd := none) rfl rfl (op_store_flat rfl (oT rfl) (oT rfl) tC rfl rfl hrt tS) (by first | exact ext_call | exact tE) ?_
     refine Run.nil (FinD.mk (by kernel_rfl) ?_)
     refine nK2 ?_
     refine s_reg rfl ?_
     refine rm 50 rfl rfl rfl ?_
     refine rp 51 rfl (op_add rfl (oT rfl) oC tI) ?_
     refine ra 7 rfl rfl rfl ?_
     refine rn ?_
     refine nK2 ?_
     refine Next.untake 1 e.f.toNat 0 rfl (set_get _ _ _ (by rw [ownL_len, hll]; omega)) rfl rfl (by simp) rfl ?_
     refine Next.weak [0, 1] [] (by rfl) (keepsN hC _ rfl) (by repeat (first | exact trivial | refine ⟨⟨_, rfl, .inl ⟨rfl, rfl⟩⟩, ?_⟩ | refine ⟨⟨_, rfl, .inl ⟨slEq rfl tN, rfl⟩⟩, ?_⟩ | refine ⟨⟨_, rfl, .inl ⟨ivEq tX, rfl⟩⟩, ?_⟩)) (by exact ⟨ent_same rfl rfl rfl tL, ⟨ent_own rfl rfl (congrArg (fun r => some (Ob.refs 1 r)) ((List.set_set ..).trans ((ownL_set ..).trans (congrArg (fun r => ownL 1 (irs.set e.f.toNat r)) (by rw [List.map_set]; rfl))))), trivial⟩⟩) (fun _ h => by simp at h) hK3
    ·have hje : j = g.es.length := by simp at hb; omega
     subst hje
     rw [List.take_length]
     refine nK2 ?_
     refine s_reg rfl ?_
     refine rp 8 rfl (op_assign rfl oC) ?_
     refine rn ?_
     refine nK2 ?_
     refine n_loop (ι := Nat) (fun m => ([(1, .ptr 0 3 0 0), (3, IV .i64 i), (4, .sl 1 1 0 i), (8, IV .i64 m)], [(0, OG g), (1, some (.refs 1 (ownL 1 (rowsI (matF i (fwN g.es m))))))], 2)) (fun m => m ≤ i) (fun m => i - m) 0 (Nat.zero_le _) ?_ ?_
     ·refine Next.weak [0, 1] [] (by rfl) (keepsN hC _ rfl) (by repeat (first | exact trivial | refine ⟨⟨_, rfl, .inl ⟨rfl, rfl⟩⟩, ?_⟩ | refine ⟨⟨_, rfl, .inl ⟨slEq rfl tN, rfl⟩⟩, ?_⟩ | refine ⟨⟨_, rfl, .inl ⟨ivEq tX, rfl⟩⟩, ?_⟩)) (by exact ⟨ent_same rfl rfl rfl tL, ⟨ent_own rfl rfl rfl, trivial⟩⟩) (fun _ h => by simp at h) rel_intro
     ·intro m hm K3 hK3
      try dsimp only at hm hK3 ⊢
      refine nK2 ?_
      refine s_reg rfl ?_
      refine rm 74 rfl rfl rfl ?_
      refine rm 75 rfl rfl rfl ?_
      refine rp 76 rfl (op_lss rfl (oT rfl) (oT rfl)) ?_
      refine rn ?_
      refine nK2 ?_
      refine n_cond _ rfl (fun hb => ?_) (fun hb => ?_)
      ·have hlm : m < i := by simpa using hb
       have hI := fwN_ok vg m hm
       have h00 : fwN g.es m m m = 0 := hI.diag vg hlm
       have hbd := fun a b (ha : a < i) (hb : b < i) => hI.bnd vg ha hb
       have hK4 := hK3 (m + 1) (by omega) (by omega)
       rw [show fwN g.es (m + 1) = fwP m (fwN g.es m) from rfl] at hK4
       rw [← matM_n] at hK4
       rw [← matM_0 i m (fwN g.es m)]
       generalize fwN g.es m = D at *
       clear hI
       refine nK2 ?_
       refine s_reg rfl ?_
       refine rp 9 rfl (op_assign rfl oC) ?_
       refine rn ?_
       refine nK2 ?_
       refine n_loop (ι := Nat) (fun a => ([(1, .ptr 0 3 0 0), (3, IV .i64 i), (4, .sl 1 1 0 i), (8, IV .i64 m), (9, IV .i64 a)], [(0, OG g), (1, some (.refs 1 (ownL 1 (rowsI (matM i m D a)))))], 2)) (fun a => a ≤ i) (fun a => i - a) 0 (Nat.zero_le _) ?_ ?_
       ·refine Next.weak [0, 1] [] (by rfl) (keepsN hC _ rfl) (by repeat (first | exact trivial | refine ⟨⟨_, rfl, .inl ⟨rfl, rfl⟩⟩, ?_⟩ | refine ⟨⟨_, rfl, .inl ⟨slEq rfl tN, rfl⟩⟩, ?_⟩ | refine ⟨⟨_, rfl, .inl ⟨ivEq tX, rfl⟩⟩, ?_⟩)) (by exact ⟨ent_same rfl rfl rfl tL, ⟨ent_own rfl rfl rfl, trivial⟩⟩) (fun _ h => by simp at h) rel_intro
       ·intro a ha K4 hK5
        try dsimp only at ha hK5 ⊢
        refine nK2 ?_
        refine s_reg rfl ?_
        refine rm 79 rfl rfl rfl ?_
        refine rm 80 rfl rfl rfl ?_
        refine rp 81 rfl (op_lss rfl (oT rfl) (oT rfl)) ?_
        refine rn ?_
        refine nK2 ?_
        refine n_cond _ rfl (fun hb => ?_) (fun hb => ?_)
        ·have hla : a < i := by simpa using hb
         have hK6 := hK5 (a + 1) (by omega) (by omega)
         have hrA := rowsI_get (ll := matM i m D a) (v := a) (by rw [matM_len]; omega)
         rw [show (matM i m D a).getD a [] = rowF i (D a) from matM_at hla] at hrA
         have hrM := rowsI_get (ll := matM i m D a) (v := m) (by rw [matM_len]; omega)
         rw [show (matM i m D a).getD m [] = rowF i (D m) from matM_atm hlm h00] at hrM
         have hll : (rowsI (matM i m D a)).length = i := by rw [rowsI_len, matM_len]
         have hskip := fun h => matM_same (n := i) (m := m) (i := a) (D := D) h
         rw [← matM_set, ← rowsI_set] at hK6
         have hrm := row_of encN (rowF i (D a)) m 0 (by rw [rowF_len]; omega)
         rw [show (rowF i (D a)).getD m 0 = D a m from rowF_get _ _ hlm] at hrm
         refine nK2 ?_
         refine Next.take 1 a 0 rfl (ownL_get hrA) rfl rfl ?_
         generalize rowsI (matM i m D a) = irs at *
         refine Next.weak [0, 1, 2] [] (by rfl) (keepsN hC _ rfl) (G' := [(1, .ptr 0 3 0 0), (3, IV .i64 i), (4, .sl 1 1 0 i), (8, IV .i64 m), (9, IV .i64 a)]) (H' := [(0, OG g), (1, some (.refs 1 (tkL irs a i))), (2, OI (rowF i (D a)))]) (by repeat (first | exact trivial | refine ⟨⟨_, rfl, .inl ⟨rfl, rfl⟩⟩, ?_⟩ | refine ⟨⟨_, rfl, .inl ⟨slEq rfl tN, rfl⟩⟩, ?_⟩ | refine ⟨⟨_, rfl, .inl ⟨ivEq tX, rfl⟩⟩, ?_⟩)) (by exact ⟨ent_same rfl rfl rfl tL, ⟨ent_tkG rfl rfl (by decide) (congrArg (fun x => some (Ob.refs 1 ((ownL 1 irs).set a [PV.sl 2 1 0 x]))) (by simp)), ⟨ent_same rfl rfl rfl tL, trivial⟩⟩⟩) (fun _ h => by simp at h) ?_
         have hs1 := set_get (ownL 1 irs) a [.sl 2 1 0 i] (by rw [ownL_len, hll]; omega)
         refine nK2 ?_
         refine s_reg rfl ?_
         refine rm 84 rfl rfl rfl ?_
         refine rm 85 rfl rfl rfl ?_
         refine rp 86 rfl (op_idx_sl0 a rfl (oT rfl) (oT rfl) (by intro _; exact ⟨rfl, hla⟩)) ?_
         refine rl 87 rfl (op_load1_refs rfl (oT rfl) (by intro _; exact ⟨rfl, hs1⟩) rfl) ?_
         refine rm 88 rfl rfl rfl ?_
         refine rp 89 rfl (op_idx_sl0 m rfl (oT rfl) (oT rfl) (by intro _; exact ⟨rfl, hlm⟩)) ?_
         refine rl 90 rfl (op_load1_flat rfl (oT rfl) (by intro _; exact ⟨rfl, hrm⟩) rfl) ?_
         refine rp 91 rfl (op_lss rfl (oT rfl) oC) ?_
         refine rn ?_
         refine nK2 ?_
         refine n_cond _ rfl (fun hb => ?_) (fun hb => ?_)
         ·have hneg : D a m < 0 := by simpa using hb
          rw [fwP_skip hneg] at hK6
          refine nK2 ?_
          refine s_reg rfl ?_
          refine rm 82 rfl rfl rfl ?_
          refine rp 83 rfl (op_add rfl (oT rfl) oC tI) ?_
          refine ra 9 rfl rfl rfl ?_
          refine rn ?_
          refine nK2 ?_
          refine Next.untake 1 a 0 rfl (set_get _ _ _ (by rw [ownL_len, hll]; omega)) rfl rfl (by simp) rfl ?_
          refine Next.weak [0, 1] [] (by rfl) (keepsN hC _ rfl) (by repeat (first | exact trivial | refine ⟨⟨_, rfl, .inl ⟨rfl, rfl⟩⟩, ?_⟩ | refine ⟨⟨_, rfl, .inl ⟨slEq rfl tN, rfl⟩⟩, ?_⟩ | refine ⟨⟨_, rfl, .inl ⟨ivEq tX, rfl⟩⟩, ?_⟩)) (by exact ⟨ent_same rfl rfl rfl tL, ⟨ent_own rfl rfl (congrArg (fun r => some (Ob.refs 1 r)) ((List.set_set ..).trans (ownL_set ..))), trivial⟩⟩) (fun _ h => by simp at h) hK6
         ·have hpos : 0 ≤ D a m := by simpa using hb
          by_cases ham : a = m
          ·subst ham
           rw [show fwP a D a = D a from funext fun k => fwP_row h00] at hK6
           refine nK2 ?_
           refine s_reg rfl ?_
           refine rp 10 rfl (op_assign rfl oC) ?_
           refine rn ?_
           refine nK2 ?_
           refine n_loop (ι := Nat) (fun k => ([(1, .ptr 0 3 0 0), (3, IV .i64 i), (4, .sl 1 1 0 i), (8, IV .i64 a), (9, IV .i64 a), (10, IV .i64 k)], [(0, OG g), (1, some (.refs 1 (tkL irs a i))), (2, OI (rowF i (D a)))], 3)) (fun k => k ≤ i) (fun k => i - k) 0 (Nat.zero_le _) ?_ ?_
           ·refine Next.weak [0, 1, 2] [] (by rfl) (keepsN hC _ rfl) (by repeat (first | exact trivial | refine ⟨⟨_, rfl, .inl ⟨rfl, rfl⟩⟩, ?_⟩ | refine ⟨⟨_, rfl, .inl ⟨slEq rfl tN, rfl⟩⟩, ?_⟩ | refine ⟨⟨_, rfl, .inl ⟨ivEq tX, rfl⟩⟩, ?_⟩)) (by exact ⟨ent_same rfl rfl rfl tL, ⟨ent_tk rfl rfl rfl (by decide) rfl, ⟨ent_same rfl rfl rfl tL, trivial⟩⟩⟩) (fun _ h => by simp at h) rel_intro
           ·intro k hk K5 hK7
            try dsimp only at hk hK7 ⊢
            refine nK2 ?_
            refine s_reg rfl ?_
            refine rm 92 rfl rfl rfl ?_
            refine rm 93 rfl rfl rfl ?_
            refine rp 94 rfl (op_lss rfl (oT rfl) (oT rfl)) ?_
            refine rn ?_
            refine nK2 ?_
            refine n_cond _ rfl (fun hb => ?_) (fun hb => ?_)
            ·have hlk : k < i := by simpa using hb
             have hrk := row_of encN (rowF i (D a)) k 0 (by rw [rowF_len]; omega)
             rw [show (rowF i (D a)).getD k 0 = D a k from rowF_get _ _ hlk] at hrk
             have hb1 := hbd a k hla hlk
             have hb2 := hbd a a hla hla
             refine nK2 ?_
             refine s_draw mixed ?_
             refine rm 97 rfl rfl rfl ?_
             refine rm 98 rfl rfl rfl ?_
             refine rp 99 rfl (op_idx_sl0 a rfl (oT rfl) (oT rfl) (by intro _; exact ⟨rfl, hla⟩)) ?_
             refine rl 100 rfl (op_load1_refs rfl (oT rfl) (by intro _; exact ⟨rfl, hs1⟩) rfl) ?_
             refine rm 101 rfl rfl rfl ?_
             refine rp 102 rfl (op_idx_sl0 k rfl (oT rfl) (oT rfl) (by intro _; exact ⟨rfl, hlk⟩)) ?_
             refine rl 103 rfl (op_load1_flat rfl (oT rfl) (by intro _; exact ⟨rfl, hrk⟩) rfl) ?_
             refine rp 104 rfl (op_geq rfl (oT rfl) oC) ?_
             refine rm 105 rfl rfl rfl ?_
             refine gm 106 rfl rfl tG rfl rfl ?_
             refine gm 107 rfl rfl tG rfl rfl ?_
             refine rg 108 rfl rfl tG (op_idx_sl0 a rfl (oO rfl tO) (oO rfl tO) (by intro _; exact ⟨rfl, hla⟩)) ?_
             refine rk 109 rfl rfl tG (op_load1_refs rfl (oO rfl tO) (by intro _; exact ⟨rfl, hs1⟩) rfl) ?_
             refine gm 110 rfl rfl tG rfl rfl ?_
             refine rg 111 rfl rfl tG (op_idx_sl0 k rfl (oO rfl tO) (oO rfl tO) (by intro _; exact ⟨rfl, hlk⟩)) ?_
             refine rk 112 rfl rfl tG (op_load1_flat rfl (oO rfl tO) (by intro _; exact ⟨rfl, hrk⟩) rfl) ?_
             refine rg 113 rfl rfl tG (op_lss rfl (oO rfl tO) oC) ?_
             refine rg 114 rfl rfl tG (op_move rfl (oO rfl tO)) ?_
             refine gm 115 rfl rfl tG rfl rfl ?_
             refine gm 116 rfl rfl tG rfl rfl ?_
             refine rg 117 rfl rfl tG (op_idx_sl0 a rfl (oO rfl tO) (oO rfl tO) (by intro _; exact ⟨rfl, hla⟩)) ?_
             refine rk 118 rfl rfl tG (op_load1_refs rfl (oO rfl tO) (by intro _; exact ⟨rfl, hs1⟩) rfl) ?_
             refine gm 119 rfl rfl tG rfl rfl ?_
             refine rg 120 rfl rfl tG (op_idx_sl0 a rfl (oO rfl tO) (oO rfl tO) (by intro _; exact ⟨rfl, hla⟩)) ?_
             refine rk 121 rfl rfl tG (op_load1_flat rfl (oO rfl tO) (by intro _; exact ⟨rfl, hrm⟩) rfl) ?_
             refine gm 122 rfl rfl tG rfl rfl ?_
             refine gm 123 rfl rfl tG rfl rfl ?_
             refine rg 124 rfl rfl tG (op_idx_sl0 a rfl (oO rfl tO) (oO rfl tO) (by intro _; exact ⟨rfl, hla⟩)) ?_
             refine rk 125 rfl rfl tG (op_load1_refs rfl (oO rfl tO) (by intro _; exact ⟨rfl, hs1⟩) rfl) ?_
             refine gm 126 rfl rfl tG rfl rfl ?_
             refine rg 127 rfl rfl tG (op_idx_sl0 k rfl (oO rfl tO) (oO rfl tO) (by intro _; exact ⟨rfl, hlk⟩)) ?_
             refine rk 128 rfl rfl tG (op_load1_flat rfl (oO rfl tO) (by intro _; exact ⟨rfl, hrk⟩) rfl) ?_
             refine rg 129 rfl rfl tG (op_add rfl (oO rfl tO) (oO rfl tO) tI) ?_
             refine gm 130 rfl rfl tG rfl rfl ?_
             refine gm 131 rfl rfl tG rfl rfl ?_
             refine rg 132 rfl rfl tG (op_idx_sl0 a rfl (oO rfl tO) (oO rfl tO) (by intro _; exact ⟨rfl, hla⟩)) ?_
             refine rk 133 rfl rfl tG (op_load1_refs rfl (oO rfl tO) (by intro _; exact ⟨rfl, hs1⟩) rfl) ?_
             refine gm 134 rfl rfl tG rfl rfl ?_
             refine rg 135 rfl rfl tG (op_idx_sl0 k rfl (oO rfl tO) (oO rfl tO) (by intro _; exact ⟨rfl, hlk⟩)) ?_
             refine rk 136 rfl rfl tG (op_load1_flat rfl (oO rfl tO) (by intro _; exact ⟨rfl, hrk⟩) rfl) ?_
             refine rg 137 rfl rfl tG (op_lss rfl (oO rfl tO) (oO rfl tO)) ?_
             refine rg 138 rfl rfl tG (op_pick_or rfl (oO rfl tO) (oO rfl tO)) ?_
             refine rp 139 rfl (op_pick_and rfl (oT rfl) (oO rfl tO)) ?_
             refine Run.nil (FinD.mk (by kernel_rfl) ?_)
             refine nK2 ?_
             refine n_cond _ rfl (fun hb => ?_) (fun hb => ?_)
             ·exfalso
              rw [h00] at hb
              simp at hb; omega
             ·refine nK2 ?_
              refine s_reg rfl ?_
              refine rm 95 rfl rfl rfl ?_
              refine rp 96 rfl (op_add rfl (oT rfl) oC tI) ?_
              refine ra 10 rfl rfl rfl ?_
              refine rn ?_
              refine nK2 ?_
              refine Next.weak [0, 1, 2] [] (by rfl) (keepsN hC _ rfl) (by repeat (first | exact trivial | refine ⟨⟨_, rfl, .inl ⟨rfl, rfl⟩⟩, ?_⟩ | refine ⟨⟨_, rfl, .inl ⟨slEq rfl tN, rfl⟩⟩, ?_⟩ | refine ⟨⟨_, rfl, .inl ⟨ivEq tX, rfl⟩⟩, ?_⟩)) (by exact ⟨ent_same rfl rfl rfl tL, ⟨ent_tk rfl rfl rfl (by decide) rfl, ⟨ent_same rfl rfl rfl tL, trivial⟩⟩⟩) (fun _ h => by simp at h) (hK7 (k + 1) (by omega) (by omega))
            ·have hke : k = i := by simp at hb; omega
             subst hke
             refine nK2 ?_
             refine s_reg rfl ?_
             refine rm 82 rfl rfl rfl ?_
             refine rp 83 rfl (op_add rfl (oT rfl) oC tI) ?_
             refine ra 9 rfl rfl rfl ?_
             refine rn ?_
             refine nK2 ?_
             refine Next.untake 1 a 0 rfl (set_get _ _ _ (by rw [ownL_len, hll]; omega)) rfl rfl (by simp) rfl ?_
             refine Next.weak [0, 1] [] (by rfl) (keepsN hC _ rfl) (by repeat (first | exact trivial | refine ⟨⟨_, rfl, .inl ⟨rfl, rfl⟩⟩, ?_⟩ | refine ⟨⟨_, rfl, .inl ⟨slEq rfl tN, rfl⟩⟩, ?_⟩ | refine ⟨⟨_, rfl, .inl ⟨ivEq tX, rfl⟩⟩, ?_⟩)) (by exact ⟨ent_same rfl rfl rfl tL, ⟨ent_own rfl rfl (congrArg (fun r => some (Ob.refs 1 r)) ((List.set_set ..).trans (ownL_set ..))), trivial⟩⟩) (fun _ h => by simp at h) hK6
          ·refine Next.take 1 m 0 rfl (tk_get ham hrM) rfl rfl ?_
           refine Next.weak [0, 1, 2, 3] [] (by rfl) (keepsN hC _ rfl) (G' := [(1, .ptr 0 3 0 0), (3, IV .i64 i), (4, .sl 1 1 0 i), (8, IV .i64 m), (9, IV .i64 a)]) (H' := [(0, OG g), (1, some (.refs 1 (tk2 irs a m i i))), (2, OI (rowF i (D a))), (3, OI (rowF i (D m)))]) (by repeat (first | exact trivial | refine ⟨⟨_, rfl, .inl ⟨rfl, rfl⟩⟩, ?_⟩ | refine ⟨⟨_, rfl, .inl ⟨slEq rfl tN, rfl⟩⟩, ?_⟩ | refine ⟨⟨_, rfl, .inl ⟨ivEq tX, rfl⟩⟩, ?_⟩)) (by exact ⟨ent_same rfl rfl rfl tL, ⟨ent_tk2 rfl rfl (by decide) rfl rfl (congrArg (fun x => some (Ob.refs 1 ((tkL irs a i).set m [PV.sl 3 1 0 x]))) (by simp)), ⟨ent_same rfl rfl rfl tL, ⟨ent_same rfl rfl rfl tL, trivial⟩⟩⟩⟩) (fun _ h => by simp at h) ?_
           have hsm := set_get (tkL irs a i) m [.sl 3 1 0 i] (by rw [tk_len, hll]; omega)
           have hsa : (tk2 irs a m i i)[a]? = some [PV.sl 2 1 0 i] := by
            unfold tk2
            rw [List.getElem?_set_ne (fun e => ham e.symm)]; exact hs1
           refine nK2 ?_
           refine s_reg rfl ?_
           refine rp 10 rfl (op_assign rfl oC) ?_
           refine rn ?_
           refine nK2 ?_
           rw [← rowK_0 i m D a]
           refine n_loop (ι := Nat) (fun k => ([(1, .ptr 0 3 0 0), (3, IV .i64 i), (4, .sl 1 1 0 i), (8, IV .i64 m), (9, IV .i64 a), (10, IV .i64 k)], [(0, OG g), (1, some (.refs 1 (tk2 irs a m i i))), (2, OI (rowK i m D a k)), (3, OI (rowF i (D m)))], 4)) (fun k => k ≤ i) (fun k => i - k) 0 (Nat.zero_le _) ?_ ?_
           ·refine Next.weak [0, 1, 2, 3] [] (by rfl) (keepsN hC _ rfl) (by repeat (first | exact trivial | refine ⟨⟨_, rfl, .inl ⟨rfl, rfl⟩⟩, ?_⟩ | refine ⟨⟨_, rfl, .inl ⟨slEq rfl tN, rfl⟩⟩, ?_⟩ | refine ⟨⟨_, rfl, .inl ⟨ivEq tX, rfl⟩⟩, ?_⟩)) (by exact ⟨ent_same rfl rfl rfl tL, ⟨ent_tk2 rfl rfl (by decide) rfl rfl rfl, ⟨ent_same rfl rfl rfl tL, ⟨ent_same rfl rfl rfl tL, trivial⟩⟩⟩⟩) (fun _ h => by simp at h) rel_intro
           ·intro k hk K5 hK7
            try dsimp only at hk hK7 ⊢
            refine nK2 ?_
            refine s_reg rfl ?_
            refine rm 92 rfl rfl rfl ?_
            refine rm 93 rfl rfl rfl ?_
            refine rp 94 rfl (op_lss rfl (oT rfl) (oT rfl)) ?_
            refine rn ?_
            refine nK2 ?_
            refine n_cond _ rfl (fun hb => ?_) (fun hb => ?_)
            ·have hlk : k < i := by simpa using hb
             have hrk := row_of encN (rowF i (D m)) k 0 (by rw [rowF_len]; omega)
             rw [show (rowF i (D m)).getD k 0 = D m k from rowF_get _ _ hlk] at hrk
             have hK8 := hK7 (k + 1) (by omega) (by omega)
             have hset := fun v h => rowK_set (n := i) (m := m) (i := a) (k := k) (D := D) (v := v) h
             have hsame := fun h => rowK_same (n := i) (m := m) (i := a) (k := k) (D := D) h
             have hrl := rowK_len i m D a k
             have hxk := rowK_at (n := i) (m := m) (i := a) (k := k) (D := D) hlk
             have hxm := rowK_m (n := i) (m := m) (i := a) (k := k) (D := D) hlm h00
             generalize rowK i m D a k = row at *
             have hrak := row_of encN row k 0 (by omega)
             rw [show row.getD k 0 = D a k from hxk] at hrak
             have hram := row_of encN row m 0 (by omega)
             rw [show row.getD m 0 = D a m from hxm] at hram
             have hb1 := hbd a k hla hlk
             have hb2 := hbd a m hla hlm
             have hb3 := hbd m k hlm hlk
             refine nK2 ?_
             refine s_draw mixed ?_
             refine rm 97 rfl rfl rfl ?_
             refine rm 98 rfl rfl rfl ?_
             refine rp 99 rfl (op_idx_sl0 m rfl (oT rfl) (oT rfl) (by intro _; exact ⟨rfl, hlm⟩)) ?_
             refine rl 100 rfl (op_load1_refs rfl (oT rfl) (by intro _; exact ⟨rfl, hsm⟩) rfl) ?_
             refine rm 101 rfl rfl rfl ?_
             refine rp 102 rfl (op_idx_sl0 k rfl (oT rfl) (oT rfl) (by intro _; exact ⟨rfl, hlk⟩)) ?_
             refine rl 103 rfl (op_load1_flat rfl (oT rfl) (by intro _; exact ⟨rfl, hrk⟩) rfl) ?_
             refine rp 104 rfl (op_geq rfl (oT rfl) oC) ?_
             refine rm 105 rfl rfl rfl ?_
             refine gm 106 rfl rfl tG rfl rfl ?_
             refine gm 107 rfl rfl tG rfl rfl ?_
             refine rg 108 rfl rfl tG (op_idx_sl0 a rfl (oO rfl tO) (oO rfl tO) (by intro _; exact ⟨rfl, hla⟩)) ?_
             refine rk 109 rfl rfl tG (op_load1_refs rfl (oO rfl tO) (by intro _; exact ⟨rfl, hsa⟩) rfl) ?_
             refine gm 110 rfl rfl tG rfl rfl ?_
             refine rg 111 rfl rfl tG (op_idx_sl0 k rfl (oO rfl tO) (oO rfl tO) (by intro _; exact ⟨rfl, hlk⟩)) ?_
             refine rk 112 rfl rfl tG (op_load1_flat rfl (oO rfl tO) (by intro _; exact ⟨rfl, hrak⟩) rfl) ?_
             refine rg 113 rfl rfl tG (op_lss rfl (oO rfl tO) oC) ?_
             refine rg 114 rfl rfl tG (op_move rfl (oO rfl tO)) ?_
             refine gm 115 rfl rfl tG rfl rfl ?_
             refine gm 116 rfl rfl tG rfl rfl ?_
             refine rg 117 rfl rfl tG (op_idx_sl0 a rfl (oO rfl tO) (oO rfl tO) (by intro _; exact ⟨rfl, hla⟩)) ?_
             refine rk 118 rfl rfl tG (op_load1_refs rfl (oO rfl tO) (by intro _; exact ⟨rfl, hsa⟩) rfl) ?_
             refine gm 119 rfl rfl tG rfl rfl ?_
             refine rg 120 rfl rfl tG (op_idx_sl0 m rfl (oO rfl tO) (oO rfl tO) (by intro _; exact ⟨rfl, hlm⟩)) ?_
             refine rk 121 rfl rfl tG (op_load1_flat rfl (oO rfl tO) (by intro _; exact ⟨rfl, hram⟩) rfl) ?_
             refine gm 122 rfl rfl tG rfl rfl ?_
             refine gm 123 rfl rfl tG rfl rfl ?_
             refine rg 124 rfl rfl tG (op_idx_sl0 m rfl (oO rfl tO) (oO rfl tO) (by intro _; exact ⟨rfl, hlm⟩)) ?_
             refine rk 125 rfl rfl tG (op_load1_refs rfl (oO rfl tO) (by intro _; exact ⟨rfl, hsm⟩) rfl) ?_
             refine gm 126 rfl rfl tG rfl rfl ?_
             refine rg 127 rfl rfl tG (op_idx_sl0 k rfl (oO rfl tO) (oO rfl tO) (by intro _; exact ⟨rfl, hlk⟩)) ?_
             refine rk 128 rfl rfl tG (op_load1_flat rfl (oO rfl tO) (by intro _; exact ⟨rfl, hrk⟩) rfl) ?_
             refine rg 129 rfl rfl tG (op_add rfl (oO rfl tO) (oO rfl tO) tI) ?_
             refine gm 130 rfl rfl tG rfl rfl ?_
             refine gm 131 rfl rfl tG rfl rfl ?_
             refine rg 132 rfl rfl tG (op_idx_sl0 a rfl (oO rfl tO) (oO rfl tO) (by intro _; exact ⟨rfl, hla⟩)) ?_
             refine rk 133 rfl rfl tG (op_load1_refs rfl (oO rfl tO) (by intro _; exact ⟨rfl, hsa⟩) rfl) ?_
             refine gm 134 rfl rfl tG rfl rfl ?_
             refine rg 135 rfl rfl tG (op_idx_sl0 k rfl (oO rfl tO) (oO rfl tO) (by intro _; exact ⟨rfl, hlk⟩)) ?_
             refine rk 136 rfl rfl tG (op_load1_flat rfl (oO rfl tO) (by intro _; exact ⟨rfl, hrak⟩) rfl) ?_
             refine rg 137 rfl rfl tG (op_lss rfl (oO rfl tO) (oO rfl tO)) ?_
             refine rg 138 rfl rfl tG (op_pick_or rfl (oO rfl tO) (oO rfl tO)) ?_
             refine rp 139 rfl (op_pick_and rfl (oT rfl) (oO rfl tO)) ?_
             refine Run.nil (FinD.mk (by kernel_rfl) ?_)
             refine nK2 ?_
             refine n_cond _ rfl (fun hb => ?_) (fun hb => ?_)
             ·have hc : 0 ≤ D m k ∧ (D a k < 0 ∨ D a m + D m k < D a k) := by simpa using hb
              have hv : D a m + D m k = fwP m D a k := by unfold fwP; rw [if_pos ⟨hpos, hc⟩]
              rw [← hset _ hv] at hK8
              refine nK2 ?_
              refine s_draw mixed ?_
              refine rm 140 rfl rfl rfl ?_
              refine rm 141 rfl rfl rfl ?_
              refine rp 142 rfl (op_idx_sl0 a rfl (oT rfl) (oT rfl) (by intro _; exact ⟨rfl, hla⟩)) ?_
              refine rl 143 rfl (op_load1_refs rfl (oT rfl) (by intro _; exact ⟨rfl, hsa⟩) rfl) ?_
              refine rm 144 rfl rfl rfl ?_
              refine rm 145 rfl rfl rfl ?_
              refine rm 146 rfl rfl rfl ?_
              refine rp 147 rfl (op_idx_sl0 a rfl (oT rfl) (oT rfl) (by intro _; exact ⟨rfl, hla⟩)) ?_
              refine rl 148 rfl (op_load1_refs rfl (oT rfl) (by intro _; exact ⟨rfl, hsa⟩) rfl) ?_
              refine rm 149 rfl rfl rfl ?_
              refine rp 150 rfl (op_idx_sl0 m rfl (oT rfl) (oT rfl) (by intro _; exact ⟨rfl, hlm⟩)) ?_
              refine rl 151 rfl (op_load1_flat rfl (oT rfl) (by intro _; exact ⟨rfl, hram⟩) rfl) ?_
              refine rm 152 rfl rfl rfl ?_
              refine rm 153 rfl rfl rfl ?_
              refine rp 154 rfl (op_idx_sl0 m rfl (oT rfl) (oT rfl) (by intro _; exact ⟨rfl, hlm⟩)) ?_
              refine rl 155 rfl (op_load1_refs rfl (oT rfl) (by intro _; exact ⟨rfl, hsm⟩) rfl) ?_
              refine rm 156 rfl rfl rfl ?_
              refine rp 157 rfl (op_idx_sl0 k rfl (oT rfl) (oT rfl) (by intro _; exact ⟨rfl, hlk⟩)) ?_
              refine rl 158 rfl (op_load1_flat rfl (oT rfl) (by intro _; exact ⟨rfl, hrk⟩) rfl) ?_
              refine rp 159 rfl (op_add rfl (oT rfl) (oT rfl) tI) ?_
              refine rp 160 rfl (op_idx_sl0 k rfl (oT rfl) (oT rfl) (by intro _; exact ⟨rfl, hlk⟩)) ?_
              refine Run.effW (dd := none) rfl rfl (op_store_flat rfl (oT rfl) (oT rfl) tC rfl rfl hrak tS) (by first | exact ext_call | exact tE) ?_
              refine Run.nil (FinD.mk (by kernel_rfl) ?_)
              refine nK2 ?_
              refine s_reg rfl ?_
              refine rm 95 rfl rfl rfl ?_
              refine rp 96 rfl (op_add rfl (oT rfl) oC tI) ?_
              refine ra 10 rfl rfl rfl ?_
              refine rn ?_
              refine nK2 ?_
              refine Next.weak [0, 1, 2, 3] [] (by rfl) (keepsN hC _ rfl) (by repeat (first | exact trivial | refine ⟨⟨_, rfl, .inl ⟨rfl, rfl⟩⟩, ?_⟩ | refine ⟨⟨_, rfl, .inl ⟨slEq rfl tN, rfl⟩⟩, ?_⟩ | refine ⟨⟨_, rfl, .inl ⟨ivEq tX, rfl⟩⟩, ?_⟩)) (by exact ⟨ent_same rfl rfl rfl tL, ⟨ent_tk2 rfl rfl (by decide) rfl rfl rfl, ⟨ent_same rfl rfl (flEq rfl (by rw [List.map_set]; rfl)) trivial, ⟨ent_same rfl rfl rfl tL, trivial⟩⟩⟩⟩) (fun _ h => by simp at h) hK8
             ·have hc : ¬ (0 ≤ D m k ∧ (D a k < 0 ∨ D a m + D m k < D a k)) := fun h => by rw [Bool.eq_false_iff] at hb; apply hb; simpa using h
              have hv : fwP m D a k = D a k := by unfold fwP; rw [if_neg (fun h => hc h.2)]
              rw [← hsame hv] at hK8
              refine nK2 ?_
              refine s_reg rfl ?_
              refine rm 95 rfl rfl rfl ?_
              refine rp 96 rfl (op_add rfl (oT rfl) oC tI) ?_
              refine ra 10 rfl rfl rfl ?_
              refine rn ?_
              refine nK2 ?_
              refine Next.weak [0, 1, 2, 3] [] (by rfl) (keepsN hC _ rfl) (by repeat (first | exact trivial | refine ⟨⟨_, rfl, .inl ⟨rfl, rfl⟩⟩, ?_⟩ | refine ⟨⟨_, rfl, .inl ⟨slEq rfl tN, rfl⟩⟩, ?_⟩ | refine ⟨⟨_, rfl, .inl ⟨ivEq tX, rfl⟩⟩, ?_⟩)) (by exact ⟨ent_same rfl rfl rfl tL, ⟨ent_tk2 rfl rfl (by decide) rfl rfl rfl, ⟨ent_same rfl rfl rfl tL, ⟨ent_same rfl rfl rfl tL, trivial⟩⟩⟩⟩) (fun _ h => by simp at h) hK8
            ·have hke : k = i := by simp at hb; omega
             subst hke
             rw [rowK_n]
             refine nK2 ?_
             refine s_reg rfl ?_
             refine rm 82 rfl rfl rfl ?_
             refine rp 83 rfl (op_add rfl (oT rfl) oC tI) ?_
             refine ra 9 rfl rfl rfl ?_
             refine rn ?_
             refine nK2 ?_
             refine Next.untake 1 m 0 rfl (set_get _ _ _ (by rw [tk_len, hll]; omega)) rfl rfl (by simp) (show _ = tkL irs a k from by
              rw [show (tk2 irs a m k k).set m ([PV.sl 3 1 0 k].set 0 (.own 1 ((rowF k (D m)).map encN))) = (tkL irs a k).set m [PV.own 1 ((rowF k (D m)).map encN)] from List.set_set ..]
              exact set_self (tk_get ham hrM)) ?_
             refine Next.untake 1 a 0 rfl hs1 rfl rfl (by simp) rfl ?_
             refine Next.weak [0, 1] [] (by rfl) (keepsN hC _ rfl) (by repeat (first | exact trivial | refine ⟨⟨_, rfl, .inl ⟨rfl, rfl⟩⟩, ?_⟩ | refine ⟨⟨_, rfl, .inl ⟨slEq rfl tN, rfl⟩⟩, ?_⟩ | refine ⟨⟨_, rfl, .inl ⟨ivEq tX, rfl⟩⟩, ?_⟩)) (by exact ⟨ent_same rfl rfl rfl tL, ⟨ent_own rfl rfl (congrArg (fun r => some (Ob.refs 1 r)) ((List.set_set ..).trans (ownL_set ..))), trivial⟩⟩) (fun _ h => by simp at h) hK6
        ·have hae : a = i := by simp at hb; omega
         subst hae
         refine nK2 ?_
         refine s_reg rfl ?_
         refine rm 77 rfl rfl rfl ?_
         refine rp 78 rfl (op_add rfl (oT rfl) oC tI) ?_
         refine ra 8 rfl rfl rfl ?_
         refine rn ?_
         refine nK2 ?_
         refine Next.weak [0, 1] [] (by rfl) (keepsN hC _ rfl) (by repeat (first | exact trivial | refine ⟨⟨_, rfl, .inl ⟨rfl, rfl⟩⟩, ?_⟩ | refine ⟨⟨_, rfl, .inl ⟨slEq rfl tN, rfl⟩⟩, ?_⟩ | refine ⟨⟨_, rfl, .inl ⟨ivEq tX, rfl⟩⟩, ?_⟩)) (by exact ⟨ent_same rfl rfl rfl tL, ⟨ent_own rfl rfl rfl, trivial⟩⟩) (fun _ h => by simp at h) hK4
      ·have hme : m = i := by simp at hb; omega
       subst hme
       refine Next.freezeOwn 1 rfl rfl ?_
       refine nK2 ?_
       refine s_reg rfl ?_
       refine rm 161 rfl rfl rfl ?_
       refine ra 2 rfl rfl rfl ?_
       refine rn ?_
       refine nK2 ?_
       have hFl : (fzL 1 (rowsI (matF m (fwN g.es m)))).length = m := by rw [fzL_len, rowsI_len, matF_len]
       refine Next.weakS [] [2] (by rfl) (keeps0 hC _) (G' := [(2, .fz (VLL (matF m (fwN g.es m))))]) (H' := []) ⟨⟨_, rfl, .inr ⟨_, rfl, .sl _ _ _ _ _ _ rfl rfl ((take_all0 hFl).trans (fz_rowsI _)) (by rw [← fz_rowsI, hFl])⟩⟩, trivial⟩ trivial rfl ?_
       exact n_out1 rfl (by rfl) rfl rfl
end Go.Proofs.Ytnkhlbljnmodbaa
namespace Go.Proofs.Ytnkhlbljnmodbaa
open Go Go.RT Go.Proofs Go.Pl
set_option linter.all false
set_option maxRecDepth 20000
set_option maxHeartbeats 4000000
end Go.Proofs.Ytnkhlbljnmodbaa
namespace Go.Proofs.Ytnkhlbljnmodbaa
open Go Go.RT Go.Proofs Go.Pl
set_option linter.all false
set_option maxRecDepth 20000
set_option maxHeartbeats 4000000
theorem cost_bnd {es : List Edg} {r n : Nat} (vg : VG es r n) (f t : Int) : 0 ≤ (costL f t es).1 ∧ (costL f t es).1 ≤ 65535 := by
 cases h : (costL f t es).2 with
 | true =>
  obtain ⟨e, he, _, _, h3⟩ := (cost_yes vg.asc).1 h
  rw [← h3]; exact vg.c e he
 | false =>
  have : ∀ l : List Edg, (costL f t l).2 = false → (costL f t l).1 = 0 := fun l => by
   induction l with
   | nil => intro _; rfl
   | cons x l ih =>
    simp only [costL]
    split
    ·simp
    ·exact ih
  rw [this es h]; omega
end Go.Proofs.Ytnkhlbljnmodbaa
namespace Go.Proofs.Ytnkhlbljnmodbaa
open Go Go.RT Go.Proofs Go.Pl
set_option linter.all false
set_option maxRecDepth 20000
set_option maxHeartbeats 4000000
def rowA (g : Gr) (D : Nat → Nat → Int) (i : Nat) : List Int := (rowF g.m (D i)).take g.r.toNat
theorem rallL_eq (g : Gr) (D : Nat → Nat → Int) : allL g (fun i => rowF g.m (D i)) = (List.range g.r.toNat).map (rowA g D) := rfl
theorem allOk_of {g : Gr} {D : Nat → Nat → Int} (d : Dst g D) : AllOk g (fun i => rowF g.m (D i)) := by
 have hle := d.vg.le
 refine ⟨fun i _ => rowF_len _ _, fun i hi v hv => ?_⟩
 rw [rowF_get _ _ hv]
 exact d.ok i v (by omega) hv
theorem rall_c (g : Gr) (hok : okG g) (hg : checkI g = 0) : Pure Try.prog 16 [.agg (encG g)] (.tup [VLL (allL g (fun i => rowF g.m (disF g.es g.m i))), If .i64 0]) := by
 have d := dst_of hg
 have hdc := rdist_c g hg
 have h128 := d.vg.n128
 have hle := d.vg.le
 have hr0 := d.r0
 have hr : g.r = (g.r.toNat : Int) := by omega
 rw [rallL_eq]
 generalize disF g.es g.m = D at *
 generalize hR : g.r.toNat = R at *
 refine Meets.intro Try.func16 rfl (Nat.le_of_ble_eq_true rfl) fun C hC => ?_
 simp only [List.map, argEnv, Nat.reduceAdd]
 refine nK ?_
 refine s_reg rfl ?_
 refine Run.eff (dd := some 1) rfl rfl (op_box_flat rfl (oT rfl) tC rfl) ?_
 refine rp 2 rfl (op_assign rfl oC) ?_
 refine rp 3 rfl (op_assign rfl oC) ?_
 refine rn ?_
 refine nK ?_
 refine s_reg rfl ?_
 refine rl 8 rfl (op_loadw_flat rfl (oT rfl) tH rfl) ?_
 refine rp 9 rfl (op_call_pure (fun _ => rcheck_c _ (by assumption)) rfl (Opd.func _) (oS (oT rfl) Opds.nil)) ?_
 refine ra 4 rfl rfl rfl ?_
 refine rn ?_
 refine nK ?_
 refine s_reg rfl ?_
 refine rm 10 rfl rfl rfl ?_
 refine rp 11 rfl (op_neq rfl (oT rfl) oC) ?_
 refine rn ?_
 refine nK ?_
 refine n_cond _ rfl (fun hb => ?_) (fun hb => ?_)
 ·simp at hb; omega
 ·clear hb
  refine nK ?_
  refine s_reg rfl ?_
  refine rl 13 rfl (op_loadw_flat rfl (oT rfl) tH rfl) ?_
  refine rp 14 rfl (op_call_pure (fun _ => hdc) rfl (Opd.func _) (oS (oT rfl) Opds.nil)) ?_
  refine ra 5 rfl rfl rfl ?_
  refine rn ?_
  refine nK ?_
  refine s_reg rfl ?_
  refine Run.eff (dd := some 15) rfl rfl (op_buildSlice_own rfl (RowsF.nil _) rfl rfl rfl) ?_
  refine ra 6 rfl rfl rfl ?_
  refine rn ?_
  refine nK ?_
  refine s_reg rfl ?_
  refine rp 7 rfl (op_assign rfl oC) ?_
  refine rn ?_
  refine nK ?_
  refine n_loop (ι := Nat) (fun i => ([(1, .ptr 0 3 0 0), (5, .fz (VLL (matF g.m D))), (6, .sl 1 1 0 i), (7, IV .i64 i)], [(0, OG g), (1, some (.flat 1 (((List.range i).map (rowA g D)).map encL)))], 2)) (fun i => i ≤ R) (fun i => R - i) 0 (Nat.zero_le _) ?_ ?_
  ·refine Next.weak [0, 1] [] (by rfl) (keepsN hC _ rfl) (by repeat (first | exact trivial | refine ⟨⟨_, rfl, .inl ⟨rfl, rfl⟩⟩, ?_⟩ | refine ⟨⟨_, rfl, .inl ⟨slEq rfl tN, rfl⟩⟩, ?_⟩ | refine ⟨⟨_, rfl, .inl ⟨ivEq tX, rfl⟩⟩, ?_⟩)) (by exact ⟨ent_same rfl rfl rfl tL, ⟨ent_same rfl rfl rfl tL, trivial⟩⟩) (fun _ h => by simp at h) rel_intro
  ·intro i hi K hK
   try dsimp only at hi hK ⊢
   refine nK ?_
   refine s_reg rfl ?_
   refine rm 16 rfl rfl rfl ?_
   refine rp 17 rfl (op_fld_ptr (by decide) rfl (oT rfl)) ?_
   refine rl 18 rfl (op_load1_flat rfl (oT rfl) tH rfl) ?_
   refine rp 19 rfl (op_lss rfl (oT rfl) (oT rfl)) ?_
   refine rn ?_
   refine nK ?_
   refine n_cond _ rfl (fun hb => ?_) (fun hb => ?_)
   ·have hlt : i < R := by have := of_decide_eq_true hb; omega
    have him : i < g.m := by omega
    have hmi := mat_row g.m D him
    have hK1 := hK (i + 1) (by omega) (by omega)
    rw [List.range_succ, List.map_append, List.map_append] at hK1
    have hll : (((List.range i).map (rowA g D)).map encL).length = i := by simp
    generalize ((List.range i).map (rowA g D)).map encL = rows at *
    refine nK ?_
    refine s_draw mixed ?_
    refine rm 22 rfl rfl rfl ?_
    refine rm 23 rfl rfl rfl ?_
    refine rm 24 rfl rfl rfl ?_
    refine rp 25 rfl (op_idx_fz i rfl (oT rfl) (oT rfl) (by intro _; exact ⟨rfl, hmi⟩)) ?_
    refine rp 26 rfl (op_load1_fz rfl (oT rfl) rfl) ?_
    refine rp 27 rfl (op_fld_ptr (by decide) rfl (oT rfl)) ?_
    refine rl 28 rfl (op_load1_flat rfl (oT rfl) tH rfl) ?_
    refine rp 29 rfl (op_slice_fz (l := 0) (h := R) (rs := (rowA g D i).map encN) rfl (oT rfl) (Bnd.no _) (Bnd.yes _ _ _ _ _ (oT rfl) (by intro _; exact hr)) (by intro _; exact ⟨Nat.zero_le _, by rw [List.length_map, rowF_len]; omega, by unfold rowA; rw [hR, List.map_take]; rfl⟩)) ?_
    refine rp 30 rfl (op_buildSlice_fz rfl (RowsF.cons _ _ _ _ _ _ (oT rfl) tC (by rfl) (RowsF.nil _)) rfl rfl) ?_
    refine Run.effW (dd := some 31) rfl rfl (op_append rfl (oT rfl) (oT rfl) rfl (by exact hll) rfl rfl tB tB) tE ?_
    refine ra 6 rfl rfl rfl ?_
    refine Run.nil (FinD.mk (by kernel_rfl) ?_)
    refine nK ?_
    refine s_reg rfl ?_
    refine rm 20 rfl rfl rfl ?_
    refine rp 21 rfl (op_add rfl (oT rfl) oC tI) ?_
    refine ra 7 rfl rfl rfl ?_
    refine rn ?_
    refine nK ?_
    refine Next.weak [0, 2] [] (by rfl) (keepsN hC _ rfl) (by exact ⟨⟨_, rfl, .inl ⟨rfl, rfl⟩⟩, ⟨⟨_, rfl, .inl ⟨rfl, rfl⟩⟩, ⟨⟨_, rfl, .inl ⟨slEq rfl (by simp [hll]), rfl⟩⟩, ⟨⟨_, rfl, .inl ⟨rfl, rfl⟩⟩, trivial⟩⟩⟩⟩) (by exact ⟨ent_same rfl rfl rfl tL, ⟨ent_same rfl rfl (flEq rfl rfl) trivial, trivial⟩⟩) (fun _ h => by simp at h) hK1
   ·have hie : i = R := by have := of_decide_eq_false hb; omega
    subst hie
    refine nK ?_
    refine s_reg rfl ?_
    refine rm 32 rfl rfl rfl ?_
    refine ra 2 rfl rfl rfl ?_
    refine rp 3 rfl (op_assign rfl oC) ?_
    refine rn ?_
    refine nK ?_
    refine Next.weakS [] [2] (by rfl) (keeps0 hC _) (G' := [(2, .fz (VLL ((List.range i).map (rowA g D)))), (3, IV .i64 0)]) (H' := []) ⟨⟨_, rfl, .inr ⟨_, rfl, .sl _ _ _ _ _ _ rfl rfl (take_all0 (by simp)) (by simp)⟩⟩, ⟨_, rfl, .inl ⟨rfl, rfl⟩⟩, trivial⟩ trivial rfl ?_
    (first | exact s_o1 hC rfl tV | exact s_o2 hC rfl tV tV | exact s_o3 hC rfl tV tV tV | exact s_out0 hC rfl | exact s_outO hC rfl rfl rfl)
end Go.Proofs.Ytnkhlbljnmodbaa
namespace Go.Proofs.Ytnkhlbljnmodbaa
open Go Go.RT Go.Proofs Go.Pl
set_option linter.all false
set_option maxRecDepth 20000
set_option maxHeartbeats 4000000
theorem clip_c (l : List Int) (hl : l.length ≤ 1999999) : Pure Try.prog 46 [VI l] (VI l) := by
 refine Meets.intro Try.func46 rfl (Nat.le_of_ble_eq_true rfl) fun C hC => ?_
 simp only [List.map, argEnv, Nat.reduceAdd]
 refine nK ?_
 refine s_reg rfl ?_
 refine rp 2 rfl (op_assign rfl oC) ?_
 refine rn ?_
 refine nK ?_
 refine s_reg rfl ?_
 refine rm 3 rfl rfl rfl ?_
 refine rm 4 rfl rfl rfl ?_
 refine rp 5 rfl (op_len_fz rfl (by first | exact Opd.tmp _ _ rfl | exact Opd.nil _ _ (oT rfl)) (by first | exact List.length_map _ | rfl)) ?_
 refine rm 6 rfl rfl rfl ?_
 refine rp 7 rfl (op_len_fz rfl (by first | exact Opd.tmp _ _ rfl | exact Opd.nil _ _ (oT rfl)) (by first | exact List.length_map _ | rfl)) ?_
 refine rp 8 rfl (op_slice_clip (h := l.length) (mx := l.length) rfl (oT rfl) (Bnd.yes _ _ _ _ _ (oT rfl) (by intro _; rfl)) (Bnd.yes _ _ _ _ _ (oT rfl) (by intro _; rfl)) (by intro _; rw [List.length_map]; exact ⟨rfl, rfl⟩)) ?_
 refine ra 2 rfl rfl rfl ?_
 refine rn ?_
 refine nK ?_
 (first | exact s_o1 hC rfl tV | exact s_o2 hC rfl tV tV | exact s_o3 hC rfl tV tV tV | exact s_out0 hC rfl | exact s_outO hC rfl rfl rfl)
theorem all_c (g : Gr) (D : Nat → List Int) (hok : okG g) (hg : checkI g = 0) (hD : AllOk g D) : Pure Try.prog 36 [.agg (encG g)] (.tup [VLL (allL g D), If .i64 0]) := by
 obtain ⟨h128, h0, h1⟩ := checkI_sz hg
 have hdc := fun (a : Nat) (ha : a < g.r.toNat) => dist_c g a (D a) hg hok (by omega) (hD.len a ha) (hD.dist a ha)
 have hlen := hD.len
 have hr : g.r = (g.r.toNat : Int) := by omega
 refine Meets.intro Try.func36 rfl (Nat.le_of_ble_eq_true rfl) fun C hC => ?_
 simp only [List.map, argEnv, Nat.reduceAdd]
 refine nK ?_
 refine s_reg rfl ?_
 refine Run.eff (dd := some 1) rfl rfl (op_box_flat rfl (oT rfl) tC rfl) ?_
 refine rp 2 rfl (op_assign rfl oC) ?_
 refine rp 3 rfl (op_assign rfl oC) ?_
 refine rn ?_
 refine nK ?_
 refine s_reg rfl ?_
 refine rl 7 rfl (op_loadw_flat rfl (oT rfl) tH rfl) ?_
 refine rp 8 rfl (op_call_pure (fun _ => check_c _ (by assumption)) rfl (Opd.func _) (oS (oT rfl) Opds.nil)) ?_
 refine ra 4 rfl rfl rfl ?_
 refine rn ?_
 refine nK ?_
 refine s_reg rfl ?_
 refine rm 9 rfl rfl rfl ?_
 refine rp 10 rfl (op_neq rfl (oT rfl) oC) ?_
 refine rn ?_
 refine nK ?_
 refine n_cond _ rfl (fun hb => ?_) (fun hb => ?_)
 ·simp at hb; omega
 ·clear hb
  refine nK ?_
  refine s_reg rfl ?_
  refine rp 12 rfl (op_fld_ptr (by decide) rfl (oT rfl)) ?_
  refine rl 13 rfl (op_load1_flat rfl (oT rfl) tH rfl) ?_
  refine Run.eff (dd := some 14) rfl rfl (op_make (l := g.r.toNat) (c := g.r.toNat) rfl (oT rfl) (oT rfl) rfl rfl rfl rfl (by intro _; refine ⟨hr, hr, ?_⟩; omega)) ?_
  refine ra 5 rfl rfl rfl ?_
  refine rn ?_
  refine nK ?_
  refine Next.weak [0, 1] [] (by rfl) (keepsN hC _ rfl) (G' := [(1, .ptr 0 3 0 0), (5, .sl 1 1 0 g.r.toNat)]) (H' := [(0, OG g), (1, some (.flat 1 (allP g D 0)))]) (by repeat (first | exact trivial | refine ⟨⟨_, rfl, .inl ⟨rfl, rfl⟩⟩, ?_⟩ | refine ⟨⟨_, rfl, .inl ⟨slEq rfl tN, rfl⟩⟩, ?_⟩ | refine ⟨⟨_, rfl, .inl ⟨ivEq tX, rfl⟩⟩, ?_⟩)) (by exact ⟨ent_same rfl rfl rfl tL, ⟨ent_same rfl rfl (flEq rfl (by rw [allP_0]; rfl)) trivial, trivial⟩⟩) (fun _ h => by simp at h) ?_
  refine nK ?_
  refine s_reg rfl ?_
  refine rm 15 rfl rfl rfl ?_
  refine rp 16 rfl (op_len_sl rfl (oT rfl)) ?_
  refine rp 17 rfl (op_move rfl oC) ?_
  refine rn ?_
  refine nK ?_
  refine n_loop (ι := Nat) (fun k => ([(1, .ptr 0 3 0 0), (5, .sl 1 1 0 g.r.toNat), (16, IV .i64 g.r.toNat), (17, IV .i64 k)], [(0, OG g), (1, some (.flat 1 (allP g D k)))], 2)) (fun k => k ≤ g.r.toNat) (fun k => g.r.toNat - k) 0 (Nat.zero_le _) ?_ ?_
  ·refine Next.weak [0, 1] [] (by rfl) (keepsN hC _ rfl) (by repeat (first | exact trivial | refine ⟨⟨_, rfl, .inl ⟨rfl, rfl⟩⟩, ?_⟩ | refine ⟨⟨_, rfl, .inl ⟨slEq rfl tN, rfl⟩⟩, ?_⟩ | refine ⟨⟨_, rfl, .inl ⟨ivEq tX, rfl⟩⟩, ?_⟩)) (by exact ⟨ent_same rfl rfl rfl tL, ⟨ent_same rfl rfl rfl tL, trivial⟩⟩) (fun _ h => by simp at h) rel_intro
  ·intro k hk K hK
   try dsimp only at hk hK ⊢
   refine nK ?_
   refine s_reg rfl ?_
   refine rp 18 rfl (op_lss rfl (oT rfl) (oT rfl)) ?_
   refine rn ?_
   refine nK ?_
   refine n_cond _ rfl (fun hb => ?_) (fun hb => ?_)
   ·have hlt : k < g.r.toNat := Int.ofNat_lt.1 (of_decide_eq_true hb)
    have hK1 := hK (k + 1) (by omega) (by omega)
    rw [← allP_set] at hK1
    have hrow : (allP g D k)[k]? = some [.lit (.slice none 0 0)] := by unfold allP; rw [rng_get _ _ _ hlt, if_neg (by omega)]
    have hdk := hdc k hlt
    have hlk := hlen k hlt
    have hmm : g.m = (g.r + g.n).toNat := rfl
    generalize D k = dk at *
    have hcl := clip_c (dk.take g.r.toNat) (by have := List.length_take_le' g.r.toNat dk; omega)
    refine nK ?_
    refine s_reg rfl ?_
    refine rm 19 rfl rfl rfl ?_
    refine ra 6 rfl rfl rfl ?_
    refine rn ?_
    refine nK ?_
    refine s_draw mixed ?_
    refine rm 20 rfl rfl rfl ?_
    refine rm 21 rfl rfl rfl ?_
    refine rl 22 rfl (op_loadw_flat rfl (oT rfl) tH rfl) ?_
    refine rm 23 rfl rfl rfl ?_
    refine rp 24 rfl (op_call_pure (fun _ => hdk) rfl (Opd.func _) (oS (oT rfl) (oS (oT rfl) Opds.nil))) ?_
    refine rp 25 rfl (op_fld_ptr (by decide) rfl (oT rfl)) ?_
    refine rl 26 rfl (op_load1_flat rfl (oT rfl) tH rfl) ?_
    refine rp 27 rfl (op_slice_fz (l := 0) (h := g.r.toNat) (rs := (dk.take g.r.toNat).map encN) rfl (oT rfl) (Bnd.no _) (Bnd.yes _ _ _ _ _ (oT rfl) (by intro _; exact hr)) (by intro _; exact ⟨Nat.zero_le _, by simp; omega, by simp [List.map_take]⟩)) ?_
    refine rp 28 rfl (op_call_pure (fun _ => hcl) rfl (Opd.func _) (oS (oT rfl) Opds.nil)) ?_
    refine rp 29 rfl (op_idx_sl0 k rfl (oT rfl) (oT rfl) (by intro _; exact ⟨rfl, hlt⟩)) ?_
    refine Run.effW (dd := none) rfl rfl (op_store_flat rfl (oT rfl) (oT rfl) tC rfl rfl hrow tS) tE ?_
    refine Run.nil (FinD.mk (by kernel_rfl) ?_)
    refine nK ?_
    refine s_reg rfl ?_
    refine rp 30 rfl (op_add rfl (oT rfl) oC tI) ?_
    refine rm 17 rfl rfl rfl ?_
    refine rn ?_
    refine nK ?_
    refine Next.weak [0, 1] [] (by rfl) (keepsN hC _ rfl) (by repeat (first | exact trivial | refine ⟨⟨_, rfl, .inl ⟨rfl, rfl⟩⟩, ?_⟩ | refine ⟨⟨_, rfl, .inl ⟨slEq rfl tN, rfl⟩⟩, ?_⟩ | refine ⟨⟨_, rfl, .inl ⟨ivEq tX, rfl⟩⟩, ?_⟩)) (by exact ⟨ent_same rfl rfl rfl tL, ⟨ent_same rfl rfl rfl tL, trivial⟩⟩) (fun _ h => by simp at h) hK1
   ·have hke : k = g.r.toNat := by
     have := of_decide_eq_false hb; omega
    subst hke
    refine nK ?_
    refine s_reg rfl ?_
    refine rm 31 rfl rfl rfl ?_
    refine ra 2 rfl rfl rfl ?_
    refine rp 3 rfl (op_assign rfl oC) ?_
    refine rn ?_
    refine nK ?_
    refine Next.weakS [] [2] (by rfl) (keeps0 hC _) (G' := [(2, .fz (VLL (allL g D))), (3, IV .i64 0)]) (H' := []) ⟨⟨_, rfl, .inr ⟨_, rfl, .sl _ _ _ _ _ _ rfl rfl ((take_all0 (allP_len _ _ _)).trans (allP_n _ _)) (by rw [← allP_n, allP_len])⟩⟩, ⟨_, rfl, .inl ⟨rfl, rfl⟩⟩, trivial⟩ trivial rfl ?_
    (first | exact s_o1 hC rfl tV | exact s_o2 hC rfl tV tV | exact s_o3 hC rfl tV tV tV | exact s_out0 hC rfl | exact s_outO hC rfl rfl rfl)
end Go.Proofs.Ytnkhlbljnmodbaa
