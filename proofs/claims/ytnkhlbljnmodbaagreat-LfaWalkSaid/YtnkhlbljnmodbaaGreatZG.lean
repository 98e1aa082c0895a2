/- A part of the proof: Q44, Q45, Q46, LF4, Q47, LQ. -/
import Derived.Test.YtnkhlbljnmodbaaGreatZF
set_option linter.all false
namespace Go.Proofs.YtnkhlbljnmodbaaGreat
open Go Go.RT Go.Proofs Go.Pl
set_option linter.all false
set_option maxRecDepth 20000
set_option maxHeartbeats 4000000
theorem mem_idx (x : Int) : ∀ (l : List Int) (k : Nat), x ∈ l ↔ 0 ≤ idxAt (fun y => decide (x = y)) k l := by
 intro l
 induction l with
 | nil => intro k; simp [idxAt]
 | cons y l ih =>
  intro k
  simp only [idxAt, List.mem_cons]
  by_cases e : x = y
  ·simp [e]
  ·simp [e, ← ih (k + 1)]
theorem rindex_c (l : List Int) (x : Int) (hl : l.length ≤ 1000000000) : Pure Tryz.prog 53 [VI l, If .i64 x] (If .i64 (idxAt (fun y => decide (x = y)) 0 l)) := by
 refine Meets.intro Tryz.func53 rfl (Nat.le_of_ble_eq_true rfl) fun C hC => ?_
 simp only [List.map, argEnv, Nat.reduceAdd]
 refine nK ?_
 refine s_reg rfl ?_
 refine rp 4 rfl (op_assign rfl oC) ?_
 refine rn ?_
 refine nK ?_
 refine s_reg rfl ?_
 refine rm 7 rfl rfl rfl ?_
 refine rp 8 rfl (op_len_fz rfl (by first | exact Opd.tmp _ _ rfl | exact Opd.nil _ _ (oT rfl)) (by first | exact List.length_map _ | rfl)) ?_
 refine rp 9 rfl (op_move rfl oC) ?_
 refine rn ?_
 refine nK ?_
 refine n_loop (ι := Nat) (fun i => ([(1, IV .i64 x), (7, .fz (VI l)), (8, IV .i64 l.length), (9, IV .i64 i)], [], 0)) (fun i => i ≤ l.length ∧ idxAt (fun y => decide (x = y)) 0 l = idxAt (fun y => decide (x = y)) i (l.drop i)) (fun i => l.length - i) 0 ⟨Nat.zero_le _, rfl⟩ ?_ ?_
 ·refine Next.weak [] [] (by rfl) (keeps0 hC _) (by repeat (first | exact trivial | refine ⟨⟨_, rfl, .inl ⟨rfl, rfl⟩⟩, ?_⟩)) (by repeat (first | exact trivial | refine ⟨ent_same rfl rfl rfl tL, ?_⟩ | refine ⟨ent_same rfl rfl (rfEq rfl tU) tL, ?_⟩ | refine ⟨ent_same rfl rfl (flEq rfl (by first | (simp; done) | (simp; omega) | (simp [encE, encN, encB, encT, encL, encTr, encAl]; done) | simp [maxC, minC])) trivial, ?_⟩)) (fun _ h => by simp at h) rel_intro
 ·intro i ⟨hi, ho⟩ K hK
  refine nK ?_
  refine s_reg rfl ?_
  refine rp 10 rfl (op_lss rfl (oT rfl) (oT rfl)) ?_
  refine rn ?_
  refine nK ?_
  refine n_cond _ rfl (fun hb => ?_) (fun hb => ?_)
  ·have hlt : i < l.length := by simp at hb; omega
   rw [List.drop_eq_getElem_cons hlt] at ho
   have hr1 := row_at' encN l i hlt
   have hK1 := fun h => hK (i + 1) ⟨by omega, h⟩ (by omega)
   generalize l[i] = y at *
   refine nK ?_
   refine s_reg rfl ?_
   refine rm 11 rfl rfl rfl ?_
   refine rp 12 rfl (op_idx_fz _ rfl (oT rfl) (oT rfl) tF) ?_
   refine rp 13 rfl (op_load1_fz rfl (oT rfl) rfl) ?_
   refine ra 5 rfl rfl rfl ?_
   refine ra 6 rfl rfl rfl ?_
   refine rn ?_
   refine nK ?_
   refine s_reg rfl ?_
   refine rm 14 rfl rfl rfl ?_
   refine rm 15 rfl rfl rfl ?_
   refine rp 16 rfl (op_eql rfl (oT rfl) (oT rfl)) ?_
   refine rn ?_
   refine nK ?_
   refine n_cond _ rfl (fun hb => ?_) (fun hb => ?_)
   ·have e : y = x := by simpa using hb
    rw [ho, show idxAt (fun y => decide (x = y)) i (y :: l.drop (i + 1)) = (i : Int) by simp [idxAt, e]]
    refine nK ?_
    refine s_reg rfl ?_
    refine rm 17 rfl rfl rfl ?_
    refine ra 4 rfl rfl rfl ?_
    refine rn ?_
    refine nK ?_
    (first | exact s_o1 hC rfl tV | exact s_o2 hC rfl tV tV | exact s_o3 hC rfl tV tV tV | exact s_out0 hC rfl | exact s_outO hC rfl rfl rfl)
   ·have e : ¬ x = y := fun h => by simp at hb; exact hb h.symm
    rw [show idxAt (fun y => decide (x = y)) i (y :: l.drop (i + 1)) = idxAt (fun y => decide (x = y)) (i + 1) (l.drop (i + 1)) by simp [idxAt, e]] at ho
    refine nK ?_
    refine s_reg rfl ?_
    refine rp 18 rfl (op_add rfl (oT rfl) oC tI) ?_
    refine rm 9 rfl rfl rfl ?_
    refine rn ?_
    refine nK ?_
    refine Next.weak [] [] (by rfl) (keeps0 hC _) (by repeat (first | exact trivial | refine ⟨⟨_, rfl, .inl ⟨rfl, rfl⟩⟩, ?_⟩)) (by repeat (first | exact trivial | refine ⟨ent_same rfl rfl rfl tL, ?_⟩ | refine ⟨ent_same rfl rfl (rfEq rfl tU) tL, ?_⟩ | refine ⟨ent_same rfl rfl (flEq rfl (by first | (simp; done) | (simp; omega) | (simp [encE, encN, encB, encT, encL, encTr, encAl]; done) | simp [maxC, minC])) trivial, ?_⟩)) (fun _ h => by simp at h) (hK1 ho)
  ·have hie : i = l.length := by simp at hb; omega
   rw [hie, List.drop_length] at ho
   rw [ho]
   refine nK ?_
   refine s_reg rfl ?_
   refine rp 4 rfl (op_assign rfl oC) ?_
   refine rn ?_
   refine nK ?_
   (first | exact s_o1 hC rfl tV | exact s_o2 hC rfl tV tV | exact s_o3 hC rfl tV tV tV | exact s_out0 hC rfl | exact s_outO hC rfl rfl rfl)
theorem hasint_c (l : List Int) (x : Int) (hl : l.length ≤ 1000000000) : Pure Tryz.prog 27 [VI l, If .i64 x] (Bf (decide (x ∈ l))) := by
 rw [show decide (x ∈ l) = decide (0 ≤ idxAt (fun y => decide (x = y)) 0 l) from decide_eq_decide.2 (mem_idx x l 0)]
 refine Meets.intro Tryz.func27 rfl (Nat.le_of_ble_eq_true rfl) fun C hC => ?_
 simp only [List.map, argEnv, Nat.reduceAdd]
 refine nK ?_
 refine s_reg rfl ?_
 refine rp 4 rfl (op_assign rfl oC) ?_
 refine rn ?_
 refine nK ?_
 refine s_reg rfl ?_
 refine rm 5 rfl rfl rfl ?_
 refine rm 6 rfl rfl rfl ?_
 refine rp 7 rfl (op_call_pure (fun _ => rindex_c _ _ (by omega)) rfl (Opd.func _) (oS (oT rfl) (oS (oT rfl) Opds.nil))) ?_
 refine rp 8 rfl (op_geq rfl (oT rfl) oC) ?_
 refine ra 4 rfl rfl rfl ?_
 refine rn ?_
 refine nK ?_
 (first | exact s_o1 hC rfl tV | exact s_o2 hC rfl tV tV | exact s_o3 hC rfl tV tV tV | exact s_out0 hC rfl | exact s_outO hC rfl rfl rfl)
def linkI (g : Gr) (s e : Int) : Int := if plainI g ≠ 0 then plainI g else if s < 0 ∨ g.r ≤ s ∨ e < 0 ∨ g.r ≤ e then 5 else if (costL s e g.es).2 = false then 6 else 0
theorem linkI_ok {g : Gr} {s e : Int} (h : linkI g s e = 0) : plainI g = 0 ∧ 0 ≤ s ∧ s < g.r ∧ 0 ≤ e ∧ e < g.r ∧ (costL s e g.es).2 = true := by
 unfold linkI at h
 split at h
 ·rename_i h1; exact absurd h h1
 ·split at h
  ·cases h
  ·split at h
   ·cases h
   ·rename_i h1 h2 h3
    refine ⟨by omega, by omega, by omega, by omega, by omega, by simpa using h3⟩
theorem es_len {g : Gr} (h : plainI g = 0) : g.es.length ≤ 2000000 := by
 have := (checkI_vg (plainI_ok h).1).1.e1024; omega
theorem llink_bad (g : Gr) (s e : Int) (hok : okG g) (h : linkI g s e ≠ 0) : Pure Tryz.prog 45 [.agg (encG g), If .i64 s, If .i64 e] (.tup [VLL [], If .i64 0, If .i64 (linkI g s e)]) := by
 have hco := fun (h : plainI g = 0) => cost_c g s e (es_len h)
 unfold linkI at *
 refine Meets.intro Tryz.func45 rfl (Nat.le_of_ble_eq_true rfl) fun C hC => ?_
 simp only [List.map, argEnv, Nat.reduceAdd]
 refine nK ?_
 refine s_reg rfl ?_
 refine Run.eff (dd := some 3) rfl rfl (op_box_flat rfl (oT rfl) tC rfl) ?_
 refine rp 6 rfl (op_assign rfl oC) ?_
 refine rp 7 rfl (op_assign rfl oC) ?_
 refine rp 8 rfl (op_assign rfl oC) ?_
 refine rn ?_
 refine nK ?_
 refine s_reg rfl ?_
 refine rl 14 rfl (op_loadw_flat rfl (oT rfl) tH rfl) ?_
 refine rp 15 rfl (op_call_pure (fun _ => lplain_c _ (by assumption)) rfl (Opd.func _) (oS (oT rfl) Opds.nil)) ?_
 refine ra 9 rfl rfl rfl ?_
 refine rn ?_
 refine nK ?_
 refine s_reg rfl ?_
 refine rm 16 rfl rfl rfl ?_
 refine rp 17 rfl (op_neq rfl (oT rfl) oC) ?_
 refine rn ?_
 refine nK ?_
 refine n_cond _ rfl (fun hb => ?_) (fun hb => ?_)
 ·have hp : plainI g ≠ 0 := by simpa using hb
  rw [if_pos hp]
  refine nK ?_
  refine s_reg rfl ?_
  refine rm 18 rfl rfl rfl ?_
  refine rp 6 rfl (op_assign rfl oC) ?_
  refine rp 7 rfl (op_assign rfl oC) ?_
  refine ra 8 rfl rfl rfl ?_
  refine rn ?_
  refine nK ?_
  refine Next.weakS [] [] (by rfl) (keeps0 hC _) (G' := [(6, .fz (VLL [])), (7, IV .i64 0), (8, .fz _)]) (H' := []) (by repeat (first | exact trivial | refine ⟨⟨_, rfl, .inl ⟨rfl, rfl⟩⟩, ?_⟩ | refine ⟨⟨_, rfl, .inl ⟨slEq rfl tN, rfl⟩⟩, ?_⟩ | refine ⟨⟨_, rfl, .inl ⟨ivEq tX, rfl⟩⟩, ?_⟩ | refine ⟨⟨_, rfl, .inr ⟨_, rfl, tW⟩⟩, ?_⟩)) trivial rfl ?_
  (first | exact s_o1 hC rfl tV | exact s_o2 hC rfl tV tV | exact s_o3 hC rfl tV tV tV | exact s_out0 hC rfl | exact s_outO hC rfl rfl rfl)
 ·have hp : plainI g = 0 := by simpa using hb
  rw [if_neg (by omega)] at h ⊢
  have hco := hco hp
  refine nK ?_
  refine s_reg rfl ?_
  refine rm 19 rfl rfl rfl ?_
  refine rp 20 rfl (op_lss rfl (oT rfl) oC) ?_
  refine rm 21 rfl rfl rfl ?_
  refine gm 22 rfl rfl tG rfl rfl ?_
  refine rg 23 rfl rfl tG (op_fld_ptr (by decide) rfl (oT rfl)) ?_
  refine rk 24 rfl rfl tG (op_load1_flat rfl (oO rfl tO) tH rfl) ?_
  refine rg 25 rfl rfl tG (op_geq rfl (oO rfl tO) (oO rfl tO)) ?_
  refine rp 26 rfl (op_pick_or rfl (oT rfl) (oO rfl tO)) ?_
  refine rm 27 rfl rfl rfl ?_
  refine gm 28 rfl rfl tG rfl rfl ?_
  refine rg 29 rfl rfl tG (op_lss rfl (oO rfl tO) oC) ?_
  refine rp 30 rfl (op_pick_or rfl (oT rfl) (oO rfl tO)) ?_
  refine rm 31 rfl rfl rfl ?_
  refine gm 32 rfl rfl tG rfl rfl ?_
  refine rg 33 rfl rfl tG (op_fld_ptr (by decide) rfl (oT rfl)) ?_
  refine rk 34 rfl rfl tG (op_load1_flat rfl (oO rfl tO) tH rfl) ?_
  refine rg 35 rfl rfl tG (op_geq rfl (oO rfl tO) (oO rfl tO)) ?_
  refine rp 36 rfl (op_pick_or rfl (oT rfl) (oO rfl tO)) ?_
  refine rn ?_
  refine nK ?_
  refine n_cond _ rfl (fun hb => ?_) (fun hb => ?_)
  ·have hc : s < 0 ∨ g.r ≤ s ∨ e < 0 ∨ g.r ≤ e := by simp only [Bool.or_eq_true, decide_eq_true_eq] at hb; omega
   rw [if_pos hc]
   refine nK ?_
   refine s_reg rfl ?_
   refine rp 6 rfl (op_assign rfl oC) ?_
   refine rp 7 rfl (op_assign rfl oC) ?_
   refine rp 8 rfl (op_assign rfl oC) ?_
   refine rn ?_
   refine nK ?_
   refine Next.weakS [] [] (by rfl) (keeps0 hC _) (G' := [(6, .fz (VLL [])), (7, IV .i64 0), (8, .fz _)]) (H' := []) (by repeat (first | exact trivial | refine ⟨⟨_, rfl, .inl ⟨rfl, rfl⟩⟩, ?_⟩ | refine ⟨⟨_, rfl, .inl ⟨slEq rfl tN, rfl⟩⟩, ?_⟩ | refine ⟨⟨_, rfl, .inl ⟨ivEq tX, rfl⟩⟩, ?_⟩ | refine ⟨⟨_, rfl, .inr ⟨_, rfl, tW⟩⟩, ?_⟩)) trivial rfl ?_
   (first | exact s_o1 hC rfl tV | exact s_o2 hC rfl tV tV | exact s_o3 hC rfl tV tV tV | exact s_out0 hC rfl | exact s_outO hC rfl rfl rfl)
  ·have hc : ¬ (s < 0 ∨ g.r ≤ s ∨ e < 0 ∨ g.r ≤ e) := by simp only [Bool.or_eq_false_iff, decide_eq_false_iff_not] at hb; omega
   rw [if_neg hc] at h ⊢
   refine nK ?_
   refine s_reg rfl ?_
   refine rl 38 rfl (op_loadw_flat rfl (oT rfl) tH rfl) ?_
   refine rm 39 rfl rfl rfl ?_
   refine rm 40 rfl rfl rfl ?_
   refine rp 41 rfl (op_call_pure (fun _ => hco) rfl (Opd.func _) (oS (oT rfl) (oS (oT rfl) (oS (oT rfl) Opds.nil)))) ?_
   refine rm 37 rfl rfl rfl ?_
   refine rp 42 rfl (op_extract_fz rfl (oT rfl) rfl) ?_
   refine rp 43 rfl (op_extract_fz rfl (oT rfl) rfl) ?_
   refine ra 10 rfl rfl rfl ?_
   refine ra 11 rfl rfl rfl ?_
   refine rn ?_
   refine nK ?_
   refine s_reg rfl ?_
   refine rm 44 rfl rfl rfl ?_
   refine rp 45 rfl (op_not rfl (oT rfl)) ?_
   refine rn ?_
   refine nK ?_
   refine n_cond _ rfl (fun hb => ?_) (fun hb => ?_)
   ·have hc2 : (costL s e g.es).2 = false := by simpa using hb
    rw [if_pos hc2]
    refine nK ?_
    refine s_reg rfl ?_
    refine rp 6 rfl (op_assign rfl oC) ?_
    refine rp 7 rfl (op_assign rfl oC) ?_
    refine rp 8 rfl (op_assign rfl oC) ?_
    refine rn ?_
    refine nK ?_
    refine Next.weakS [] [] (by rfl) (keeps0 hC _) (G' := [(6, .fz (VLL [])), (7, IV .i64 0), (8, .fz _)]) (H' := []) (by repeat (first | exact trivial | refine ⟨⟨_, rfl, .inl ⟨rfl, rfl⟩⟩, ?_⟩ | refine ⟨⟨_, rfl, .inl ⟨slEq rfl tN, rfl⟩⟩, ?_⟩ | refine ⟨⟨_, rfl, .inl ⟨ivEq tX, rfl⟩⟩, ?_⟩ | refine ⟨⟨_, rfl, .inr ⟨_, rfl, tW⟩⟩, ?_⟩)) trivial rfl ?_
    (first | exact s_o1 hC rfl tV | exact s_o2 hC rfl tV tV | exact s_o3 hC rfl tV tV tV | exact s_out0 hC rfl | exact s_outO hC rfl rfl rfl)
   ·have hc2 : (costL s e g.es).2 = true := by simpa using hb
    rw [if_neg (by rw [hc2]; simp)] at h
    exact absurd rfl h
theorem llink_c (g : Gr) (s e : Int) (hok : okG g) (h : linkI g s e = 0) : Pure Tryz.prog 45 [.agg (encG g), If .i64 s, If .i64 e] (.tup [VLL (tabL g (disF g.es g.m)), If .i64 (costL s e g.es).1, If .i64 0]) := by
 obtain ⟨hp, h1, h2, h3, h4, h5⟩ := linkI_ok h
 have hco := cost_c g s e (es_len hp)
 obtain ⟨hg, hN⟩ := plainI_ok hp
 have d := dst_of hg
 have hac := all_c g _ hok hg (allOk_of d)
 change RT.Pure _ _ _ (.tup [.vals 1 ((tabL g (disF g.es g.m)).map encL), If .i64 0]) at hac
 refine Meets.intro Tryz.func45 rfl (Nat.le_of_ble_eq_true rfl) fun C hC => ?_
 simp only [List.map, argEnv, Nat.reduceAdd]
 refine nK ?_
 refine s_reg rfl ?_
 refine Run.eff (dd := some 3) rfl rfl (op_box_flat rfl (oT rfl) tC rfl) ?_
 refine rp 6 rfl (op_assign rfl oC) ?_
 refine rp 7 rfl (op_assign rfl oC) ?_
 refine rp 8 rfl (op_assign rfl oC) ?_
 refine rn ?_
 refine nK ?_
 refine s_reg rfl ?_
 refine rl 14 rfl (op_loadw_flat rfl (oT rfl) tH rfl) ?_
 refine rp 15 rfl (op_call_pure (fun _ => lplain_c _ (by assumption)) rfl (Opd.func _) (oS (oT rfl) Opds.nil)) ?_
 refine ra 9 rfl rfl rfl ?_
 refine rn ?_
 refine nK ?_
 refine s_reg rfl ?_
 refine rm 16 rfl rfl rfl ?_
 refine rp 17 rfl (op_neq rfl (oT rfl) oC) ?_
 refine rn ?_
 refine nK ?_
 refine n_cond _ rfl (fun hb => ?_) (fun hb => ?_)
 ·exfalso; simp at hb; exact hb hp
 ·clear hb
  refine nK ?_
  refine s_reg rfl ?_
  refine rm 19 rfl rfl rfl ?_
  refine rp 20 rfl (op_lss rfl (oT rfl) oC) ?_
  refine rm 21 rfl rfl rfl ?_
  refine gm 22 rfl rfl tG rfl rfl ?_
  refine rg 23 rfl rfl tG (op_fld_ptr (by decide) rfl (oT rfl)) ?_
  refine rk 24 rfl rfl tG (op_load1_flat rfl (oO rfl tO) tH rfl) ?_
  refine rg 25 rfl rfl tG (op_geq rfl (oO rfl tO) (oO rfl tO)) ?_
  refine rp 26 rfl (op_pick_or rfl (oT rfl) (oO rfl tO)) ?_
  refine rm 27 rfl rfl rfl ?_
  refine gm 28 rfl rfl tG rfl rfl ?_
  refine rg 29 rfl rfl tG (op_lss rfl (oO rfl tO) oC) ?_
  refine rp 30 rfl (op_pick_or rfl (oT rfl) (oO rfl tO)) ?_
  refine rm 31 rfl rfl rfl ?_
  refine gm 32 rfl rfl tG rfl rfl ?_
  refine rg 33 rfl rfl tG (op_fld_ptr (by decide) rfl (oT rfl)) ?_
  refine rk 34 rfl rfl tG (op_load1_flat rfl (oO rfl tO) tH rfl) ?_
  refine rg 35 rfl rfl tG (op_geq rfl (oO rfl tO) (oO rfl tO)) ?_
  refine rp 36 rfl (op_pick_or rfl (oT rfl) (oO rfl tO)) ?_
  refine rn ?_
  refine nK ?_
  refine n_cond _ rfl (fun hb => ?_) (fun hb => ?_)
  ·exfalso; simp only [Bool.or_eq_true, decide_eq_true_eq] at hb; omega
  ·clear hb
   refine nK ?_
   refine s_reg rfl ?_
   refine rl 38 rfl (op_loadw_flat rfl (oT rfl) tH rfl) ?_
   refine rm 39 rfl rfl rfl ?_
   refine rm 40 rfl rfl rfl ?_
   refine rp 41 rfl (op_call_pure (fun _ => hco) rfl (Opd.func _) (oS (oT rfl) (oS (oT rfl) (oS (oT rfl) Opds.nil)))) ?_
   refine rm 37 rfl rfl rfl ?_
   refine rp 42 rfl (op_extract_fz rfl (oT rfl) rfl) ?_
   refine rp 43 rfl (op_extract_fz rfl (oT rfl) rfl) ?_
   refine ra 10 rfl rfl rfl ?_
   refine ra 11 rfl rfl rfl ?_
   refine rn ?_
   refine nK ?_
   refine s_reg rfl ?_
   refine rm 44 rfl rfl rfl ?_
   refine rp 45 rfl (op_not rfl (oT rfl)) ?_
   refine rn ?_
   refine nK ?_
   refine n_cond _ rfl (fun hb => ?_) (fun hb => ?_)
   ·exfalso; rw [h5] at hb; simp at hb
   ·refine nK ?_
    refine s_reg rfl ?_
    refine rl 47 rfl (op_loadw_flat rfl (oT rfl) tH rfl) ?_
    refine rp 48 rfl (op_call_pure (fun _ => hac) rfl (Opd.func _) (oS (oT rfl) Opds.nil)) ?_
    refine rm 46 rfl rfl rfl ?_
    refine rp 49 rfl (op_extract_fz rfl (oT rfl) rfl) ?_
    refine rp 50 rfl (op_extract_fz rfl (oT rfl) rfl) ?_
    refine ra 12 rfl rfl rfl ?_
    refine ra 13 rfl rfl rfl ?_
    refine rn ?_
    refine nK ?_
    refine s_reg rfl ?_
    refine rm 51 rfl rfl rfl ?_
    refine rm 52 rfl rfl rfl ?_
    refine ra 6 rfl rfl rfl ?_
    refine ra 7 rfl rfl rfl ?_
    refine rp 8 rfl (op_assign rfl oC) ?_
    refine rn ?_
    refine nK ?_
    (first | exact s_o1 hC rfl tV | exact s_o2 hC rfl tV tV | exact s_o3 hC rfl tV tV tV | exact s_out0 hC rfl | exact s_outO hC rfl rfl rfl)
theorem rlink_bad (g : Gr) (s e : Int) (hok : okG g) (h : linkI g s e ≠ 0) : Pure Tryz.prog 47 [.agg (encG g), If .i64 s, If .i64 e] (.tup [If .i64 0, VLL [], If .i64 (linkI g s e)]) := by
 have hco := fun (h : plainI g = 0) => rcost_c g s e (es_len h)
 unfold linkI at *
 refine Meets.intro Tryz.func47 rfl (Nat.le_of_ble_eq_true rfl) fun C hC => ?_
 simp only [List.map, argEnv, Nat.reduceAdd]
 refine nK ?_
 refine s_reg rfl ?_
 refine Run.eff (dd := some 3) rfl rfl (op_box_flat rfl (oT rfl) tC rfl) ?_
 refine rp 6 rfl (op_assign rfl oC) ?_
 refine rp 7 rfl (op_assign rfl oC) ?_
 refine rp 8 rfl (op_assign rfl oC) ?_
 refine rn ?_
 refine nK ?_
 refine s_reg rfl ?_
 refine rl 14 rfl (op_loadw_flat rfl (oT rfl) tH rfl) ?_
 refine rp 15 rfl (op_call_pure (fun _ => rplain_c _ (by assumption)) rfl (Opd.func _) (oS (oT rfl) Opds.nil)) ?_
 refine ra 9 rfl rfl rfl ?_
 refine rn ?_
 refine nK ?_
 refine s_reg rfl ?_
 refine rm 16 rfl rfl rfl ?_
 refine rp 17 rfl (op_neq rfl (oT rfl) oC) ?_
 refine rn ?_
 refine nK ?_
 refine n_cond _ rfl (fun hb => ?_) (fun hb => ?_)
 ·have hp : plainI g ≠ 0 := by simpa using hb
  rw [if_pos hp]
  refine nK ?_
  refine s_reg rfl ?_
  refine rm 18 rfl rfl rfl ?_
  refine rp 6 rfl (op_assign rfl oC) ?_
  refine rp 7 rfl (op_assign rfl oC) ?_
  refine ra 8 rfl rfl rfl ?_
  refine rn ?_
  refine nK ?_
  refine Next.weakS [] [] (by rfl) (keeps0 hC _) (G' := [(6, IV .i64 0), (7, .fz (VLL [])), (8, .fz _)]) (H' := []) (by repeat (first | exact trivial | refine ⟨⟨_, rfl, .inl ⟨rfl, rfl⟩⟩, ?_⟩ | refine ⟨⟨_, rfl, .inl ⟨slEq rfl tN, rfl⟩⟩, ?_⟩ | refine ⟨⟨_, rfl, .inl ⟨ivEq tX, rfl⟩⟩, ?_⟩ | refine ⟨⟨_, rfl, .inr ⟨_, rfl, tW⟩⟩, ?_⟩)) trivial rfl ?_
  (first | exact s_o1 hC rfl tV | exact s_o2 hC rfl tV tV | exact s_o3 hC rfl tV tV tV | exact s_out0 hC rfl | exact s_outO hC rfl rfl rfl)
 ·have hp : plainI g = 0 := by simpa using hb
  rw [if_neg (by omega)] at h ⊢
  have hco := hco hp
  refine nK ?_
  refine s_reg rfl ?_
  refine rm 19 rfl rfl rfl ?_
  refine rp 20 rfl (op_lss rfl (oT rfl) oC) ?_
  refine rm 21 rfl rfl rfl ?_
  refine gm 22 rfl rfl tG rfl rfl ?_
  refine rg 23 rfl rfl tG (op_fld_ptr (by decide) rfl (oT rfl)) ?_
  refine rk 24 rfl rfl tG (op_load1_flat rfl (oO rfl tO) tH rfl) ?_
  refine rg 25 rfl rfl tG (op_geq rfl (oO rfl tO) (oO rfl tO)) ?_
  refine rp 26 rfl (op_pick_or rfl (oT rfl) (oO rfl tO)) ?_
  refine rm 27 rfl rfl rfl ?_
  refine gm 28 rfl rfl tG rfl rfl ?_
  refine rg 29 rfl rfl tG (op_lss rfl (oO rfl tO) oC) ?_
  refine rp 30 rfl (op_pick_or rfl (oT rfl) (oO rfl tO)) ?_
  refine rm 31 rfl rfl rfl ?_
  refine gm 32 rfl rfl tG rfl rfl ?_
  refine rg 33 rfl rfl tG (op_fld_ptr (by decide) rfl (oT rfl)) ?_
  refine rk 34 rfl rfl tG (op_load1_flat rfl (oO rfl tO) tH rfl) ?_
  refine rg 35 rfl rfl tG (op_geq rfl (oO rfl tO) (oO rfl tO)) ?_
  refine rp 36 rfl (op_pick_or rfl (oT rfl) (oO rfl tO)) ?_
  refine rn ?_
  refine nK ?_
  refine n_cond _ rfl (fun hb => ?_) (fun hb => ?_)
  ·have hc : s < 0 ∨ g.r ≤ s ∨ e < 0 ∨ g.r ≤ e := by simp only [Bool.or_eq_true, decide_eq_true_eq] at hb; omega
   rw [if_pos hc]
   refine nK ?_
   refine s_reg rfl ?_
   refine rp 6 rfl (op_assign rfl oC) ?_
   refine rp 7 rfl (op_assign rfl oC) ?_
   refine rp 8 rfl (op_assign rfl oC) ?_
   refine rn ?_
   refine nK ?_
   refine Next.weakS [] [] (by rfl) (keeps0 hC _) (G' := [(6, IV .i64 0), (7, .fz (VLL [])), (8, .fz _)]) (H' := []) (by repeat (first | exact trivial | refine ⟨⟨_, rfl, .inl ⟨rfl, rfl⟩⟩, ?_⟩ | refine ⟨⟨_, rfl, .inl ⟨slEq rfl tN, rfl⟩⟩, ?_⟩ | refine ⟨⟨_, rfl, .inl ⟨ivEq tX, rfl⟩⟩, ?_⟩ | refine ⟨⟨_, rfl, .inr ⟨_, rfl, tW⟩⟩, ?_⟩)) trivial rfl ?_
   (first | exact s_o1 hC rfl tV | exact s_o2 hC rfl tV tV | exact s_o3 hC rfl tV tV tV | exact s_out0 hC rfl | exact s_outO hC rfl rfl rfl)
  ·have hc : ¬ (s < 0 ∨ g.r ≤ s ∨ e < 0 ∨ g.r ≤ e) := by simp only [Bool.or_eq_false_iff, decide_eq_false_iff_not] at hb; omega
   rw [if_neg hc] at h ⊢
   refine nK ?_
   refine s_reg rfl ?_
   refine rl 38 rfl (op_loadw_flat rfl (oT rfl) tH rfl) ?_
   refine rm 39 rfl rfl rfl ?_
   refine rm 40 rfl rfl rfl ?_
   refine rp 41 rfl (op_call_pure (fun _ => hco) rfl (Opd.func _) (oS (oT rfl) (oS (oT rfl) (oS (oT rfl) Opds.nil)))) ?_
   refine rm 37 rfl rfl rfl ?_
   refine rp 42 rfl (op_extract_fz rfl (oT rfl) rfl) ?_
   refine rp 43 rfl (op_extract_fz rfl (oT rfl) rfl) ?_
   refine ra 10 rfl rfl rfl ?_
   refine ra 11 rfl rfl rfl ?_
   refine rn ?_
   refine nK ?_
   refine s_reg rfl ?_
   refine rm 44 rfl rfl rfl ?_
   refine rp 45 rfl (op_not rfl (oT rfl)) ?_
   refine rn ?_
   refine nK ?_
   refine n_cond _ rfl (fun hb => ?_) (fun hb => ?_)
   ·have hc2 : (costL s e g.es).2 = false := by simpa using hb
    rw [if_pos hc2]
    refine nK ?_
    refine s_reg rfl ?_
    refine rp 6 rfl (op_assign rfl oC) ?_
    refine rp 7 rfl (op_assign rfl oC) ?_
    refine rp 8 rfl (op_assign rfl oC) ?_
    refine rn ?_
    refine nK ?_
    refine Next.weakS [] [] (by rfl) (keeps0 hC _) (G' := [(6, IV .i64 0), (7, .fz (VLL [])), (8, .fz _)]) (H' := []) (by repeat (first | exact trivial | refine ⟨⟨_, rfl, .inl ⟨rfl, rfl⟩⟩, ?_⟩ | refine ⟨⟨_, rfl, .inl ⟨slEq rfl tN, rfl⟩⟩, ?_⟩ | refine ⟨⟨_, rfl, .inl ⟨ivEq tX, rfl⟩⟩, ?_⟩ | refine ⟨⟨_, rfl, .inr ⟨_, rfl, tW⟩⟩, ?_⟩)) trivial rfl ?_
    (first | exact s_o1 hC rfl tV | exact s_o2 hC rfl tV tV | exact s_o3 hC rfl tV tV tV | exact s_out0 hC rfl | exact s_outO hC rfl rfl rfl)
   ·have hc2 : (costL s e g.es).2 = true := by simpa using hb
    rw [if_neg (by rw [hc2]; simp)] at h
    exact absurd rfl h
theorem rlink_c (g : Gr) (s e : Int) (hok : okG g) (h : linkI g s e = 0) : Pure Tryz.prog 47 [.agg (encG g), If .i64 s, If .i64 e] (.tup [If .i64 (costL s e g.es).1, VLL (tabL g (disF g.es g.m)), If .i64 0]) := by
 obtain ⟨hp, h1, h2, h3, h4, h5⟩ := linkI_ok h
 have hco := rcost_c g s e (es_len hp)
 obtain ⟨hg, hN⟩ := plainI_ok hp
 have d := dst_of hg
 have hac := rall_c g hok hg
 change RT.Pure _ _ _ (.tup [.vals 1 ((tabL g (disF g.es g.m)).map encL), If .i64 0]) at hac
 refine Meets.intro Tryz.func47 rfl (Nat.le_of_ble_eq_true rfl) fun C hC => ?_
 simp only [List.map, argEnv, Nat.reduceAdd]
 refine nK ?_
 refine s_reg rfl ?_
 refine Run.eff (dd := some 3) rfl rfl (op_box_flat rfl (oT rfl) tC rfl) ?_
 refine rp 6 rfl (op_assign rfl oC) ?_
 refine rp 7 rfl (op_assign rfl oC) ?_
 refine rp 8 rfl (op_assign rfl oC) ?_
 refine rn ?_
 refine nK ?_
 refine s_reg rfl ?_
 refine rl 14 rfl (op_loadw_flat rfl (oT rfl) tH rfl) ?_
 refine rp 15 rfl (op_call_pure (fun _ => rplain_c _ (by assumption)) rfl (Opd.func _) (oS (oT rfl) Opds.nil)) ?_
 refine ra 9 rfl rfl rfl ?_
 refine rn ?_
 refine nK ?_
 refine s_reg rfl ?_
 refine rm 16 rfl rfl rfl ?_
 refine rp 17 rfl (op_neq rfl (oT rfl) oC) ?_
 refine rn ?_
 refine nK ?_
 refine n_cond _ rfl (fun hb => ?_) (fun hb => ?_)
 ·exfalso; simp at hb; exact hb hp
 ·clear hb
  refine nK ?_
  refine s_reg rfl ?_
  refine rm 19 rfl rfl rfl ?_
  refine rp 20 rfl (op_lss rfl (oT rfl) oC) ?_
  refine rm 21 rfl rfl rfl ?_
  refine gm 22 rfl rfl tG rfl rfl ?_
  refine rg 23 rfl rfl tG (op_fld_ptr (by decide) rfl (oT rfl)) ?_
  refine rk 24 rfl rfl tG (op_load1_flat rfl (oO rfl tO) tH rfl) ?_
  refine rg 25 rfl rfl tG (op_geq rfl (oO rfl tO) (oO rfl tO)) ?_
  refine rp 26 rfl (op_pick_or rfl (oT rfl) (oO rfl tO)) ?_
  refine rm 27 rfl rfl rfl ?_
  refine gm 28 rfl rfl tG rfl rfl ?_
  refine rg 29 rfl rfl tG (op_lss rfl (oO rfl tO) oC) ?_
  refine rp 30 rfl (op_pick_or rfl (oT rfl) (oO rfl tO)) ?_
  refine rm 31 rfl rfl rfl ?_
  refine gm 32 rfl rfl tG rfl rfl ?_
  refine rg 33 rfl rfl tG (op_fld_ptr (by decide) rfl (oT rfl)) ?_
  refine rk 34 rfl rfl tG (op_load1_flat rfl (oO rfl tO) tH rfl) ?_
  refine rg 35 rfl rfl tG (op_geq rfl (oO rfl tO) (oO rfl tO)) ?_
  refine rp 36 rfl (op_pick_or rfl (oT rfl) (oO rfl tO)) ?_
  refine rn ?_
  refine nK ?_
  refine n_cond _ rfl (fun hb => ?_) (fun hb => ?_)
  ·exfalso; simp only [Bool.or_eq_true, decide_eq_true_eq] at hb; omega
  ·clear hb
   refine nK ?_
   refine s_reg rfl ?_
   refine rl 38 rfl (op_loadw_flat rfl (oT rfl) tH rfl) ?_
   refine rm 39 rfl rfl rfl ?_
   refine rm 40 rfl rfl rfl ?_
   refine rp 41 rfl (op_call_pure (fun _ => hco) rfl (Opd.func _) (oS (oT rfl) (oS (oT rfl) (oS (oT rfl) Opds.nil)))) ?_
   refine rm 37 rfl rfl rfl ?_
   refine rp 42 rfl (op_extract_fz rfl (oT rfl) rfl) ?_
   refine rp 43 rfl (op_extract_fz rfl (oT rfl) rfl) ?_
   refine ra 10 rfl rfl rfl ?_
   refine ra 11 rfl rfl rfl ?_
   refine rn ?_
   refine nK ?_
   refine s_reg rfl ?_
   refine rm 44 rfl rfl rfl ?_
   refine rp 45 rfl (op_not rfl (oT rfl)) ?_
   refine rn ?_
   refine nK ?_
   refine n_cond _ rfl (fun hb => ?_) (fun hb => ?_)
   ·exfalso; rw [h5] at hb; simp at hb
   ·refine nK ?_
    refine s_reg rfl ?_
    refine rl 47 rfl (op_loadw_flat rfl (oT rfl) tH rfl) ?_
    refine rp 48 rfl (op_call_pure (fun _ => hac) rfl (Opd.func _) (oS (oT rfl) Opds.nil)) ?_
    refine rm 46 rfl rfl rfl ?_
    refine rp 49 rfl (op_extract_fz rfl (oT rfl) rfl) ?_
    refine rp 50 rfl (op_extract_fz rfl (oT rfl) rfl) ?_
    refine ra 12 rfl rfl rfl ?_
    refine ra 13 rfl rfl rfl ?_
    refine rn ?_
    refine nK ?_
    refine s_reg rfl ?_
    refine rm 51 rfl rfl rfl ?_
    refine rm 52 rfl rfl rfl ?_
    refine ra 6 rfl rfl rfl ?_
    refine ra 7 rfl rfl rfl ?_
    refine rp 8 rfl (op_assign rfl oC) ?_
    refine rn ?_
    refine nK ?_
    (first | exact s_o1 hC rfl tV | exact s_o2 hC rfl tV tV | exact s_o3 hC rfl tV tV tV | exact s_out0 hC rfl | exact s_outO hC rfl rfl rfl)
theorem lps_bad (g : Gr) (s e : Int) (hok : okG g) (h : linkI g s e ≠ 0) : Pure Tryz.prog 13 [.agg (encG g), If .i64 s, If .i64 e] (.tup [VI [], If .i64 (linkI g s e)]) := by
 have hl := llink_bad g s e hok h
 refine Meets.intro Tryz.func13 rfl (Nat.le_of_ble_eq_true rfl) fun C hC => ?_
 simp only [List.map, argEnv, Nat.reduceAdd]
 refine nK ?_
 refine s_reg rfl ?_
 refine Run.eff (dd := some 3) rfl rfl (op_box_flat rfl (oT rfl) tC rfl) ?_
 refine rp 6 rfl (op_assign rfl oC) ?_
 refine rp 7 rfl (op_assign rfl oC) ?_
 refine rn ?_
 refine nK ?_
 refine s_reg rfl ?_
 refine rl 14 rfl (op_loadw_flat rfl (oT rfl) tH rfl) ?_
 refine rm 15 rfl rfl rfl ?_
 refine rm 16 rfl rfl rfl ?_
 refine rp 17 rfl (op_call_pure (fun _ => hl) rfl (Opd.func _) (oS (oT rfl) (oS (oT rfl) (oS (oT rfl) Opds.nil)))) ?_
 refine rm 13 rfl rfl rfl ?_
 refine rp 18 rfl (op_extract_fz rfl (oT rfl) rfl) ?_
 refine rp 19 rfl (op_extract_fz rfl (oT rfl) rfl) ?_
 refine rp 20 rfl (op_extract_fz rfl (oT rfl) rfl) ?_
 refine ra 8 rfl rfl rfl ?_
 refine ra 9 rfl rfl rfl ?_
 refine ra 10 rfl rfl rfl ?_
 refine rn ?_
 refine nK ?_
 refine s_reg rfl ?_
 refine rp 11 rfl (op_assign rfl oC) ?_
 refine rn ?_
 refine nK ?_
 refine s_reg rfl ?_
 refine rm 21 rfl rfl rfl ?_
 refine rp 22 rfl (op_len_fz rfl (by first | exact Opd.tmp _ _ rfl | exact Opd.nil _ _ (oT rfl)) (by first | exact List.length_map _ | rfl)) ?_
 refine rp 23 rfl (op_move rfl oC) ?_
 refine rn ?_
 refine nK ?_
 refine n_loop (ι := Nat) (fun _ => ([(10, IV .i64 (linkI g s e)), (11, .fz (.lit (.slice none 0 0))), (22, IV .i64 0), (23, IV .i64 0)], [], 0)) (fun _ => True) (fun _ => 0) 0 trivial ?_ ?_
 ·refine Next.weak [] [] (by rfl) (keepsN hC _ rfl) (H' := []) (by repeat (first | exact trivial | refine ⟨⟨_, rfl, .inl ⟨rfl, rfl⟩⟩, ?_⟩ | refine ⟨⟨_, rfl, .inl ⟨slEq rfl tN, rfl⟩⟩, ?_⟩ | refine ⟨⟨_, rfl, .inl ⟨ivEq tX, rfl⟩⟩, ?_⟩)) trivial (fun _ h => by simp at h) rel_intro
 ·intro i _ K hK
  refine nK ?_
  refine s_reg rfl ?_
  refine rp 24 rfl (op_lss rfl (oT rfl) (oT rfl)) ?_
  refine rn ?_
  refine nK ?_
  refine n_cond _ rfl (fun hb => ?_) (fun hb => ?_)
  ·exact absurd hb (by simp)
  ·refine nK ?_
   refine s_reg rfl ?_
   refine rm 68 rfl rfl rfl ?_
   refine rm 69 rfl rfl rfl ?_
   refine ra 6 rfl rfl rfl ?_
   refine ra 7 rfl rfl rfl ?_
   refine rn ?_
   refine nK ?_
   refine Next.weakS [] [] (by rfl) (keeps0 hC _) (G' := [(6, .fz (VI [])), (7, IV .i64 (linkI g s e))]) (H' := []) (by repeat (first | exact trivial | refine ⟨⟨_, rfl, .inl ⟨rfl, rfl⟩⟩, ?_⟩ | refine ⟨⟨_, rfl, .inl ⟨slEq rfl tN, rfl⟩⟩, ?_⟩ | refine ⟨⟨_, rfl, .inl ⟨ivEq tX, rfl⟩⟩, ?_⟩ | refine ⟨⟨_, rfl, .inr ⟨_, rfl, tW⟩⟩, ?_⟩)) trivial rfl ?_
   (first | exact s_o1 hC rfl tV | exact s_o2 hC rfl tV tV | exact s_o3 hC rfl tV tV tV | exact s_out0 hC rfl | exact s_outO hC rfl rfl rfl)
theorem lps_c (g : Gr) (s e : Nat) (hok : okG g) (h : linkI g s e = 0) : Pure Tryz.prog 13 [.agg (encG g), If .i64 s, If .i64 e] (.tup [VI (fil (psB (tabL g (disF g.es g.m)) s e (costL s e g.es).1) g.m), If .i64 0]) := by
 have hl := llink_c g s e hok h
 obtain ⟨hp, h1, h2, h3, h4, h5⟩ := linkI_ok h
 obtain ⟨hg, hN⟩ := plainI_ok hp
 have d := dst_of hg
 have hm := plain_m hN
 have h128 := d.vg.n128
 have hcb := cost_bnd d.vg (s : Int) (e : Int)
 have hdb := fun i k (hi : i < g.m) (hk : k < g.m) => d.bnd hi hk
 have htr := fun x (hx : x < g.m) => tab_rows (D := disF g.es g.m) hN hx
 have htg := fun x y (hx : x < g.m) (hy : y < g.m) => tab_get (D := disF g.es g.m) hN hx hy
 have htl := tab_len g (disF g.es g.m)
 rw [← hm] at htl
 generalize disF g.es g.m = D at *
 generalize (costL s e g.es).1 = c at *
 have hsm : s < g.m := by omega
 have hem : e < g.m := by omega
 have hrs := htr s hsm
 have hre := htr e hem
 refine Meets.intro Tryz.func13 rfl (Nat.le_of_ble_eq_true rfl) fun C hC => ?_
 simp only [List.map, argEnv, Nat.reduceAdd]
 refine nK ?_
 refine s_reg rfl ?_
 refine Run.eff (dd := some 3) rfl rfl (op_box_flat rfl (oT rfl) tC rfl) ?_
 refine rp 6 rfl (op_assign rfl oC) ?_
 refine rp 7 rfl (op_assign rfl oC) ?_
 refine rn ?_
 refine nK ?_
 refine s_reg rfl ?_
 refine rl 14 rfl (op_loadw_flat rfl (oT rfl) tH rfl) ?_
 refine rm 15 rfl rfl rfl ?_
 refine rm 16 rfl rfl rfl ?_
 refine rp 17 rfl (op_call_pure (fun _ => hl) rfl (Opd.func _) (oS (oT rfl) (oS (oT rfl) (oS (oT rfl) Opds.nil)))) ?_
 refine rm 13 rfl rfl rfl ?_
 refine rp 18 rfl (op_extract_fz rfl (oT rfl) rfl) ?_
 refine rp 19 rfl (op_extract_fz rfl (oT rfl) rfl) ?_
 refine rp 20 rfl (op_extract_fz rfl (oT rfl) rfl) ?_
 refine ra 8 rfl rfl rfl ?_
 refine ra 9 rfl rfl rfl ?_
 refine ra 10 rfl rfl rfl ?_
 refine rn ?_
 refine nK ?_
 refine s_reg rfl ?_
 refine rp 11 rfl (op_assign rfl oC) ?_
 refine rn ?_
 refine nK ?_
 refine Next.adopt 11 1 rfl ?_
 refine Next.weak [1] [] (by rfl) (keepsN hC _ rfl) (G' := [(1, IV .i64 s), (2, IV .i64 e), (8, .fz (VLL (tabL g D))), (9, IV .i64 c), (10, IV .i64 0), (11, .sl 0 1 0 0)]) (H' := [(0, OI [])]) (by repeat (first | exact trivial | refine ⟨⟨_, rfl, .inl ⟨rfl, rfl⟩⟩, ?_⟩ | refine ⟨⟨_, rfl, .inl ⟨slEq rfl tN, rfl⟩⟩, ?_⟩ | refine ⟨⟨_, rfl, .inl ⟨ivEq tX, rfl⟩⟩, ?_⟩)) (by exact ⟨ent_same rfl rfl rfl tL, trivial⟩) (fun _ h => by simp at h) ?_
 refine nK ?_
 refine s_reg rfl ?_
 refine rm 21 rfl rfl rfl ?_
 refine rp 22 rfl (op_len_fz rfl (by first | exact Opd.tmp _ _ rfl | exact Opd.nil _ _ (oT rfl)) (by first | exact List.length_map _ | rfl)) ?_
 refine rp 23 rfl (op_move rfl oC) ?_
 refine rn ?_
 refine nK ?_
 refine n_loop (ι := Nat) (fun y => ([(1, IV .i64 s), (2, IV .i64 e), (8, .fz (VLL (tabL g D))), (9, IV .i64 c), (10, IV .i64 0), (11, .sl 0 1 0 (fil (psB (tabL g D) s e c) y).length), (22, IV .i64 g.m), (23, IV .i64 y)], [(0, OI (fil (psB (tabL g D) s e c) y))], 1)) (fun y => y ≤ g.m) (fun y => g.m - y) 0 (Nat.zero_le _) ?_ ?_
 ·refine Next.weak [0] [] (by rfl) (keepsN hC _ rfl) (by repeat (first | exact trivial | refine ⟨⟨_, rfl, .inl ⟨rfl, rfl⟩⟩, ?_⟩ | refine ⟨⟨_, rfl, .inl ⟨ivEq (by rw [htl]), rfl⟩⟩, ?_⟩)) (by exact ⟨ent_same rfl rfl rfl tL, trivial⟩) (fun _ h => by simp at h) rel_intro
 ·intro y hy K hK
  try dsimp only at hy hK ⊢
  have hfl := fil_len (psB (tabL g D) s e c) y
  refine nK ?_
  refine s_reg rfl ?_
  refine rp 24 rfl (op_lss rfl (oT rfl) (oT rfl)) ?_
  refine rn ?_
  refine nK ?_
  refine n_cond _ rfl (fun hb => ?_) (fun hb => ?_)
  ·have hlt : y < g.m := by have := of_decide_eq_true hb; omega
   have hK1 := hK (y + 1) (by omega) (by omega)
   rw [fil_succ] at hK1
   have hPB : psB (tabL g D) s e c y = (decide (0 ≤ D s y) && (decide (D e y < 0) || decide (D s y < c + D e y))) := by
    unfold psB
    rw [htg s y hsm hlt, htg e y hem hlt]
   have hry := htr y hlt
   have hsy := row_row g.m (D s) hlt
   have hey := row_row g.m (D e) hlt
   have hys := row_row g.m (D y) hsm
   have hye := row_row g.m (D y) hem
   have hb1 := hdb s y hsm hlt
   have hb2 := hdb e y hem hlt
   have hb3 := hdb y s hlt hsm
   have hb4 := hdb y e hlt hem
   clear hK hb
   generalize psB (tabL g D) s e c y = pb at *
   generalize fil (psB (tabL g D) s e c) y = F at *
   refine nK ?_
   refine s_reg rfl ?_
   refine rm 25 rfl rfl rfl ?_
   refine ra 12 rfl rfl rfl ?_
   refine rn ?_
   refine nK ?_
   refine s_draw mixed ?_
   refine rm 26 rfl rfl rfl ?_
   refine rm 27 rfl rfl rfl ?_
   refine rp 28 rfl (op_idx_fz s rfl (oT rfl) (oT rfl) (by intro _; exact ⟨rfl, hrs⟩)) ?_
   refine rp 29 rfl (op_load1_fz rfl (oT rfl) rfl) ?_
   refine rm 30 rfl rfl rfl ?_
   refine rp 31 rfl (op_idx_fz y rfl (oT rfl) (oT rfl) (by intro _; exact ⟨rfl, hsy⟩)) ?_
   refine rp 32 rfl (op_load1_fz rfl (oT rfl) rfl) ?_
   refine rp 33 rfl (op_geq rfl (oT rfl) oC) ?_
   refine rm 34 rfl rfl rfl ?_
   refine gm 35 rfl rfl tG rfl rfl ?_
   refine gm 36 rfl rfl tG rfl rfl ?_
   refine rg 37 rfl rfl tG (op_idx_fz e rfl (oO rfl tO) (oO rfl tO) (by intro _; exact ⟨rfl, hre⟩)) ?_
   refine rg 38 rfl rfl tG (op_load1_fz rfl (oO rfl tO) rfl) ?_
   refine gm 39 rfl rfl tG rfl rfl ?_
   refine rg 40 rfl rfl tG (op_idx_fz y rfl (oO rfl tO) (oO rfl tO) (by intro _; exact ⟨rfl, hey⟩)) ?_
   refine rg 41 rfl rfl tG (op_load1_fz rfl (oO rfl tO) rfl) ?_
   refine rg 42 rfl rfl tG (op_lss rfl (oO rfl tO) oC) ?_
   refine rg 43 rfl rfl tG (op_move rfl (oO rfl tO)) ?_
   refine gm 44 rfl rfl tG rfl rfl ?_
   refine gm 45 rfl rfl tG rfl rfl ?_
   refine rg 46 rfl rfl tG (op_idx_fz s rfl (oO rfl tO) (oO rfl tO) (by intro _; exact ⟨rfl, hrs⟩)) ?_
   refine rg 47 rfl rfl tG (op_load1_fz rfl (oO rfl tO) rfl) ?_
   refine gm 48 rfl rfl tG rfl rfl ?_
   refine rg 49 rfl rfl tG (op_idx_fz y rfl (oO rfl tO) (oO rfl tO) (by intro _; exact ⟨rfl, hsy⟩)) ?_
   refine rg 50 rfl rfl tG (op_load1_fz rfl (oO rfl tO) rfl) ?_
   refine gm 51 rfl rfl tG rfl rfl ?_
   refine gm 52 rfl rfl tG rfl rfl ?_
   refine gm 53 rfl rfl tG rfl rfl ?_
   refine rg 54 rfl rfl tG (op_idx_fz e rfl (oO rfl tO) (oO rfl tO) (by intro _; exact ⟨rfl, hre⟩)) ?_
   refine rg 55 rfl rfl tG (op_load1_fz rfl (oO rfl tO) rfl) ?_
   refine gm 56 rfl rfl tG rfl rfl ?_
   refine rg 57 rfl rfl tG (op_idx_fz y rfl (oO rfl tO) (oO rfl tO) (by intro _; exact ⟨rfl, hey⟩)) ?_
   refine rg 58 rfl rfl tG (op_load1_fz rfl (oO rfl tO) rfl) ?_
   refine rg 59 rfl rfl tG (op_add rfl (oO rfl tO) (oO rfl tO) tI) ?_
   refine rg 60 rfl rfl tG (op_lss rfl (oO rfl tO) (oO rfl tO)) ?_
   refine rg 61 rfl rfl tG (op_pick_or rfl (oO rfl tO) (oO rfl tO)) ?_
   refine rp 62 rfl (op_pick_and rfl (oT rfl) (oO rfl tO)) ?_
   refine Run.nil (FinD.mk (by kernel_rfl) ?_)
   refine nK ?_
   refine n_cond _ rfl (fun hb => ?_) (fun hb => ?_)
   ·rw [hPB.trans hb, if_pos rfl] at hK1
    refine nK ?_
    refine s_reg rfl ?_
    refine rm 63 rfl rfl rfl ?_
    refine rm 64 rfl rfl rfl ?_
    refine rp 65 rfl (op_buildSlice_fz rfl (RowsF.cons _ _ _ _ _ _ (oT rfl) tC (by rfl) (RowsF.nil _)) rfl rfl) ?_
    refine Run.eff (dd := some 66) rfl rfl (op_append rfl (oT rfl) (by first | exact Opd.tmp _ _ rfl | exact Opd.nil _ _ (oT rfl)) rfl (by first | rfl | simp) rfl rfl tB tB) ?_
    refine ra 11 rfl rfl rfl ?_
    refine rn ?_
    refine nK ?_
    refine s_reg rfl ?_
    refine rp 67 rfl (op_add rfl (oT rfl) oC tI) ?_
    refine rm 23 rfl rfl rfl ?_
    refine rn ?_
    refine nK ?_
    refine Next.weak [1] [] (by rfl) (keepsN hC _ rfl) (by repeat (first | exact trivial | refine ⟨⟨_, rfl, .inl ⟨rfl, rfl⟩⟩, ?_⟩ | refine ⟨⟨_, rfl, .inl ⟨slEq rfl tN, rfl⟩⟩, ?_⟩ | refine ⟨⟨_, rfl, .inl ⟨ivEq tX, rfl⟩⟩, ?_⟩)) (by exact ⟨ent_same rfl rfl (flEq rfl (by rw [List.map_append]; rfl)) trivial, trivial⟩) (fun _ h => by simp at h) hK1
   ·rw [hPB.trans hb, if_neg (by simp), List.append_nil] at hK1
    refine nK ?_
    refine s_reg rfl ?_
    refine rp 67 rfl (op_add rfl (oT rfl) oC tI) ?_
    refine rm 23 rfl rfl rfl ?_
    refine rn ?_
    refine nK ?_
    refine Next.weak [0] [] (by rfl) (keepsN hC _ rfl) (by repeat (first | exact trivial | refine ⟨⟨_, rfl, .inl ⟨rfl, rfl⟩⟩, ?_⟩ | refine ⟨⟨_, rfl, .inl ⟨slEq rfl tN, rfl⟩⟩, ?_⟩ | refine ⟨⟨_, rfl, .inl ⟨ivEq tX, rfl⟩⟩, ?_⟩)) (by exact ⟨ent_same rfl rfl rfl tL, trivial⟩) (fun _ h => by simp at h) hK1
  ·have hye : y = g.m := by have := of_decide_eq_false hb; omega
   rw [hye]
   refine nK ?_
   refine s_reg rfl ?_
   refine rm 68 rfl rfl rfl ?_
   refine rm 69 rfl rfl rfl ?_
   refine ra 6 rfl rfl rfl ?_
   refine ra 7 rfl rfl rfl ?_
   refine rn ?_
   refine nK ?_
   refine Next.weakS [] [6] (by rfl) (keeps0 hC _) (G' := [(6, .fz (VI (fil (psB (tabL g D) s e c) g.m))), (7, IV .i64 0)]) (H' := []) ⟨⟨_, rfl, .inr ⟨_, rfl, .sl _ _ _ _ _ _ rfl rfl (take_all0 (List.length_map _)) (List.length_map _)⟩⟩, ⟨_, rfl, .inl ⟨rfl, rfl⟩⟩, trivial⟩ trivial rfl ?_
   (first | exact s_o1 hC rfl tV | exact s_o2 hC rfl tV tV | exact s_o3 hC rfl tV tV tV | exact s_out0 hC rfl | exact s_outO hC rfl rfl rfl)
theorem lqs_bad (g : Gr) (s e : Int) (hok : okG g) (h : linkI g s e ≠ 0) : Pure Tryz.prog 14 [.agg (encG g), If .i64 s, If .i64 e] (.tup [VI [], If .i64 (linkI g s e)]) := by
 have hl := llink_bad g s e hok h
 refine Meets.intro Tryz.func14 rfl (Nat.le_of_ble_eq_true rfl) fun C hC => ?_
 simp only [List.map, argEnv, Nat.reduceAdd]
 refine nK ?_
 refine s_reg rfl ?_
 refine Run.eff (dd := some 3) rfl rfl (op_box_flat rfl (oT rfl) tC rfl) ?_
 refine rp 6 rfl (op_assign rfl oC) ?_
 refine rp 7 rfl (op_assign rfl oC) ?_
 refine rn ?_
 refine nK ?_
 refine s_reg rfl ?_
 refine rl 14 rfl (op_loadw_flat rfl (oT rfl) tH rfl) ?_
 refine rm 15 rfl rfl rfl ?_
 refine rm 16 rfl rfl rfl ?_
 refine rp 17 rfl (op_call_pure (fun _ => hl) rfl (Opd.func _) (oS (oT rfl) (oS (oT rfl) (oS (oT rfl) Opds.nil)))) ?_
 refine rm 13 rfl rfl rfl ?_
 refine rp 18 rfl (op_extract_fz rfl (oT rfl) rfl) ?_
 refine rp 19 rfl (op_extract_fz rfl (oT rfl) rfl) ?_
 refine rp 20 rfl (op_extract_fz rfl (oT rfl) rfl) ?_
 refine ra 8 rfl rfl rfl ?_
 refine ra 9 rfl rfl rfl ?_
 refine ra 10 rfl rfl rfl ?_
 refine rn ?_
 refine nK ?_
 refine s_reg rfl ?_
 refine rp 11 rfl (op_assign rfl oC) ?_
 refine rn ?_
 refine nK ?_
 refine s_reg rfl ?_
 refine rm 21 rfl rfl rfl ?_
 refine rp 22 rfl (op_len_fz rfl (by first | exact Opd.tmp _ _ rfl | exact Opd.nil _ _ (oT rfl)) (by first | exact List.length_map _ | rfl)) ?_
 refine rp 23 rfl (op_move rfl oC) ?_
 refine rn ?_
 refine nK ?_
 refine n_loop (ι := Nat) (fun _ => ([(10, IV .i64 (linkI g s e)), (11, .fz (.lit (.slice none 0 0))), (22, IV .i64 0), (23, IV .i64 0)], [], 0)) (fun _ => True) (fun _ => 0) 0 trivial ?_ ?_
 ·refine Next.weak [] [] (by rfl) (keepsN hC _ rfl) (H' := []) (by repeat (first | exact trivial | refine ⟨⟨_, rfl, .inl ⟨rfl, rfl⟩⟩, ?_⟩ | refine ⟨⟨_, rfl, .inl ⟨slEq rfl tN, rfl⟩⟩, ?_⟩ | refine ⟨⟨_, rfl, .inl ⟨ivEq tX, rfl⟩⟩, ?_⟩)) trivial (fun _ h => by simp at h) rel_intro
 ·intro i _ K hK
  refine nK ?_
  refine s_reg rfl ?_
  refine rp 24 rfl (op_lss rfl (oT rfl) (oT rfl)) ?_
  refine rn ?_
  refine nK ?_
  refine n_cond _ rfl (fun hb => ?_) (fun hb => ?_)
  ·exact absurd hb (by simp)
  ·refine nK ?_
   refine s_reg rfl ?_
   refine rm 68 rfl rfl rfl ?_
   refine rm 69 rfl rfl rfl ?_
   refine ra 6 rfl rfl rfl ?_
   refine ra 7 rfl rfl rfl ?_
   refine rn ?_
   refine nK ?_
   refine Next.weakS [] [] (by rfl) (keeps0 hC _) (G' := [(6, .fz (VI [])), (7, IV .i64 (linkI g s e))]) (H' := []) (by repeat (first | exact trivial | refine ⟨⟨_, rfl, .inl ⟨rfl, rfl⟩⟩, ?_⟩ | refine ⟨⟨_, rfl, .inl ⟨slEq rfl tN, rfl⟩⟩, ?_⟩ | refine ⟨⟨_, rfl, .inl ⟨ivEq tX, rfl⟩⟩, ?_⟩ | refine ⟨⟨_, rfl, .inr ⟨_, rfl, tW⟩⟩, ?_⟩)) trivial rfl ?_
   (first | exact s_o1 hC rfl tV | exact s_o2 hC rfl tV tV | exact s_o3 hC rfl tV tV tV | exact s_out0 hC rfl | exact s_outO hC rfl rfl rfl)
theorem lqs_c (g : Gr) (s e : Nat) (hok : okG g) (h : linkI g s e = 0) : Pure Tryz.prog 14 [.agg (encG g), If .i64 s, If .i64 e] (.tup [VI (fil (qsB (tabL g (disF g.es g.m)) s e (costL s e g.es).1) g.m), If .i64 0]) := by
 have hl := llink_c g s e hok h
 obtain ⟨hp, h1, h2, h3, h4, h5⟩ := linkI_ok h
 obtain ⟨hg, hN⟩ := plainI_ok hp
 have d := dst_of hg
 have hm := plain_m hN
 have h128 := d.vg.n128
 have hcb := cost_bnd d.vg (s : Int) (e : Int)
 have hdb := fun i k (hi : i < g.m) (hk : k < g.m) => d.bnd hi hk
 have htr := fun x (hx : x < g.m) => tab_rows (D := disF g.es g.m) hN hx
 have htg := fun x y (hx : x < g.m) (hy : y < g.m) => tab_get (D := disF g.es g.m) hN hx hy
 have htl := tab_len g (disF g.es g.m)
 rw [← hm] at htl
 generalize disF g.es g.m = D at *
 generalize (costL s e g.es).1 = c at *
 have hsm : s < g.m := by omega
 have hem : e < g.m := by omega
 have hrs := htr s hsm
 have hre := htr e hem
 refine Meets.intro Tryz.func14 rfl (Nat.le_of_ble_eq_true rfl) fun C hC => ?_
 simp only [List.map, argEnv, Nat.reduceAdd]
 refine nK ?_
 refine s_reg rfl ?_
 refine Run.eff (dd := some 3) rfl rfl (op_box_flat rfl (oT rfl) tC rfl) ?_
 refine rp 6 rfl (op_assign rfl oC) ?_
 refine rp 7 rfl (op_assign rfl oC) ?_
 refine rn ?_
 refine nK ?_
 refine s_reg rfl ?_
 refine rl 14 rfl (op_loadw_flat rfl (oT rfl) tH rfl) ?_
 refine rm 15 rfl rfl rfl ?_
 refine rm 16 rfl rfl rfl ?_
 refine rp 17 rfl (op_call_pure (fun _ => hl) rfl (Opd.func _) (oS (oT rfl) (oS (oT rfl) (oS (oT rfl) Opds.nil)))) ?_
 refine rm 13 rfl rfl rfl ?_
 refine rp 18 rfl (op_extract_fz rfl (oT rfl) rfl) ?_
 refine rp 19 rfl (op_extract_fz rfl (oT rfl) rfl) ?_
 refine rp 20 rfl (op_extract_fz rfl (oT rfl) rfl) ?_
 refine ra 8 rfl rfl rfl ?_
 refine ra 9 rfl rfl rfl ?_
 refine ra 10 rfl rfl rfl ?_
 refine rn ?_
 refine nK ?_
 refine s_reg rfl ?_
 refine rp 11 rfl (op_assign rfl oC) ?_
 refine rn ?_
 refine nK ?_
 refine Next.adopt 11 1 rfl ?_
 refine Next.weak [1] [] (by rfl) (keepsN hC _ rfl) (G' := [(1, IV .i64 s), (2, IV .i64 e), (8, .fz (VLL (tabL g D))), (9, IV .i64 c), (10, IV .i64 0), (11, .sl 0 1 0 0)]) (H' := [(0, OI [])]) (by repeat (first | exact trivial | refine ⟨⟨_, rfl, .inl ⟨rfl, rfl⟩⟩, ?_⟩ | refine ⟨⟨_, rfl, .inl ⟨slEq rfl tN, rfl⟩⟩, ?_⟩ | refine ⟨⟨_, rfl, .inl ⟨ivEq tX, rfl⟩⟩, ?_⟩)) (by exact ⟨ent_same rfl rfl rfl tL, trivial⟩) (fun _ h => by simp at h) ?_
 refine nK ?_
 refine s_reg rfl ?_
 refine rm 21 rfl rfl rfl ?_
 refine rp 22 rfl (op_len_fz rfl (by first | exact Opd.tmp _ _ rfl | exact Opd.nil _ _ (oT rfl)) (by first | exact List.length_map _ | rfl)) ?_
 refine rp 23 rfl (op_move rfl oC) ?_
 refine rn ?_
 refine nK ?_
 refine n_loop (ι := Nat) (fun y => ([(1, IV .i64 s), (2, IV .i64 e), (8, .fz (VLL (tabL g D))), (9, IV .i64 c), (10, IV .i64 0), (11, .sl 0 1 0 (fil (qsB (tabL g D) s e c) y).length), (22, IV .i64 g.m), (23, IV .i64 y)], [(0, OI (fil (qsB (tabL g D) s e c) y))], 1)) (fun y => y ≤ g.m) (fun y => g.m - y) 0 (Nat.zero_le _) ?_ ?_
 ·refine Next.weak [0] [] (by rfl) (keepsN hC _ rfl) (by repeat (first | exact trivial | refine ⟨⟨_, rfl, .inl ⟨rfl, rfl⟩⟩, ?_⟩ | refine ⟨⟨_, rfl, .inl ⟨ivEq (by rw [htl]), rfl⟩⟩, ?_⟩)) (by exact ⟨ent_same rfl rfl rfl tL, trivial⟩) (fun _ h => by simp at h) rel_intro
 ·intro y hy K hK
  try dsimp only at hy hK ⊢
  have hfl := fil_len (qsB (tabL g D) s e c) y
  refine nK ?_
  refine s_reg rfl ?_
  refine rp 24 rfl (op_lss rfl (oT rfl) (oT rfl)) ?_
  refine rn ?_
  refine nK ?_
  refine n_cond _ rfl (fun hb => ?_) (fun hb => ?_)
  ·have hlt : y < g.m := by have := of_decide_eq_true hb; omega
   have hK1 := hK (y + 1) (by omega) (by omega)
   rw [fil_succ] at hK1
   have hPB : qsB (tabL g D) s e c y = (decide (0 ≤ D y e) && (decide (D y s < 0) || decide (D y e < D y s + c))) := by
    unfold qsB
    rw [htg y e hlt hem, htg y s hlt hsm]
   have hry := htr y hlt
   have hsy := row_row g.m (D s) hlt
   have hey := row_row g.m (D e) hlt
   have hys := row_row g.m (D y) hsm
   have hye := row_row g.m (D y) hem
   have hb1 := hdb s y hsm hlt
   have hb2 := hdb e y hem hlt
   have hb3 := hdb y s hlt hsm
   have hb4 := hdb y e hlt hem
   clear hK hb
   generalize qsB (tabL g D) s e c y = pb at *
   generalize fil (qsB (tabL g D) s e c) y = F at *
   refine nK ?_
   refine s_reg rfl ?_
   refine rm 25 rfl rfl rfl ?_
   refine ra 12 rfl rfl rfl ?_
   refine rn ?_
   refine nK ?_
   refine s_draw mixed ?_
   refine rm 26 rfl rfl rfl ?_
   refine rm 27 rfl rfl rfl ?_
   refine rp 28 rfl (op_idx_fz y rfl (oT rfl) (oT rfl) (by intro _; exact ⟨rfl, hry⟩)) ?_
   refine rp 29 rfl (op_load1_fz rfl (oT rfl) rfl) ?_
   refine rm 30 rfl rfl rfl ?_
   refine rp 31 rfl (op_idx_fz e rfl (oT rfl) (oT rfl) (by intro _; exact ⟨rfl, hye⟩)) ?_
   refine rp 32 rfl (op_load1_fz rfl (oT rfl) rfl) ?_
   refine rp 33 rfl (op_geq rfl (oT rfl) oC) ?_
   refine rm 34 rfl rfl rfl ?_
   refine gm 35 rfl rfl tG rfl rfl ?_
   refine gm 36 rfl rfl tG rfl rfl ?_
   refine rg 37 rfl rfl tG (op_idx_fz y rfl (oO rfl tO) (oO rfl tO) (by intro _; exact ⟨rfl, hry⟩)) ?_
   refine rg 38 rfl rfl tG (op_load1_fz rfl (oO rfl tO) rfl) ?_
   refine gm 39 rfl rfl tG rfl rfl ?_
   refine rg 40 rfl rfl tG (op_idx_fz s rfl (oO rfl tO) (oO rfl tO) (by intro _; exact ⟨rfl, hys⟩)) ?_
   refine rg 41 rfl rfl tG (op_load1_fz rfl (oO rfl tO) rfl) ?_
   refine rg 42 rfl rfl tG (op_lss rfl (oO rfl tO) oC) ?_
   refine rg 43 rfl rfl tG (op_move rfl (oO rfl tO)) ?_
   refine gm 44 rfl rfl tG rfl rfl ?_
   refine gm 45 rfl rfl tG rfl rfl ?_
   refine rg 46 rfl rfl tG (op_idx_fz y rfl (oO rfl tO) (oO rfl tO) (by intro _; exact ⟨rfl, hry⟩)) ?_
   refine rg 47 rfl rfl tG (op_load1_fz rfl (oO rfl tO) rfl) ?_
   refine gm 48 rfl rfl tG rfl rfl ?_
   refine rg 49 rfl rfl tG (op_idx_fz e rfl (oO rfl tO) (oO rfl tO) (by intro _; exact ⟨rfl, hye⟩)) ?_
   refine rg 50 rfl rfl tG (op_load1_fz rfl (oO rfl tO) rfl) ?_
   refine gm 51 rfl rfl tG rfl rfl ?_
   refine gm 52 rfl rfl tG rfl rfl ?_
   refine rg 53 rfl rfl tG (op_idx_fz y rfl (oO rfl tO) (oO rfl tO) (by intro _; exact ⟨rfl, hry⟩)) ?_
   refine rg 54 rfl rfl tG (op_load1_fz rfl (oO rfl tO) rfl) ?_
   refine gm 55 rfl rfl tG rfl rfl ?_
   refine rg 56 rfl rfl tG (op_idx_fz s rfl (oO rfl tO) (oO rfl tO) (by intro _; exact ⟨rfl, hys⟩)) ?_
   refine rg 57 rfl rfl tG (op_load1_fz rfl (oO rfl tO) rfl) ?_
   refine gm 58 rfl rfl tG rfl rfl ?_
   refine rg 59 rfl rfl tG (op_add rfl (oO rfl tO) (oO rfl tO) tI) ?_
   refine rg 60 rfl rfl tG (op_lss rfl (oO rfl tO) (oO rfl tO)) ?_
   refine rg 61 rfl rfl tG (op_pick_or rfl (oO rfl tO) (oO rfl tO)) ?_
   refine rp 62 rfl (op_pick_and rfl (oT rfl) (oO rfl tO)) ?_
   refine Run.nil (FinD.mk (by kernel_rfl) ?_)
   refine nK ?_
   refine n_cond _ rfl (fun hb => ?_) (fun hb => ?_)
   ·rw [hPB.trans hb, if_pos rfl] at hK1
    refine nK ?_
    refine s_reg rfl ?_
    refine rm 63 rfl rfl rfl ?_
    refine rm 64 rfl rfl rfl ?_
    refine rp 65 rfl (op_buildSlice_fz rfl (RowsF.cons _ _ _ _ _ _ (oT rfl) tC (by rfl) (RowsF.nil _)) rfl rfl) ?_
    refine Run.eff (dd := some 66) rfl rfl (op_append rfl (oT rfl) (by first | exact Opd.tmp _ _ rfl | exact Opd.nil _ _ (oT rfl)) rfl (by first | rfl | simp) rfl rfl tB tB) ?_
    refine ra 11 rfl rfl rfl ?_
    refine rn ?_
    refine nK ?_
    refine s_reg rfl ?_
    refine rp 67 rfl (op_add rfl (oT rfl) oC tI) ?_
    refine rm 23 rfl rfl rfl ?_
    refine rn ?_
    refine nK ?_
    refine Next.weak [1] [] (by rfl) (keepsN hC _ rfl) (by repeat (first | exact trivial | refine ⟨⟨_, rfl, .inl ⟨rfl, rfl⟩⟩, ?_⟩ | refine ⟨⟨_, rfl, .inl ⟨slEq rfl tN, rfl⟩⟩, ?_⟩ | refine ⟨⟨_, rfl, .inl ⟨ivEq tX, rfl⟩⟩, ?_⟩)) (by exact ⟨ent_same rfl rfl (flEq rfl (by rw [List.map_append]; rfl)) trivial, trivial⟩) (fun _ h => by simp at h) hK1
   ·rw [hPB.trans hb, if_neg (by simp), List.append_nil] at hK1
    refine nK ?_
    refine s_reg rfl ?_
    refine rp 67 rfl (op_add rfl (oT rfl) oC tI) ?_
    refine rm 23 rfl rfl rfl ?_
    refine rn ?_
    refine nK ?_
    refine Next.weak [0] [] (by rfl) (keepsN hC _ rfl) (by repeat (first | exact trivial | refine ⟨⟨_, rfl, .inl ⟨rfl, rfl⟩⟩, ?_⟩ | refine ⟨⟨_, rfl, .inl ⟨slEq rfl tN, rfl⟩⟩, ?_⟩ | refine ⟨⟨_, rfl, .inl ⟨ivEq tX, rfl⟩⟩, ?_⟩)) (by exact ⟨ent_same rfl rfl rfl tL, trivial⟩) (fun _ h => by simp at h) hK1
  ·have hye : y = g.m := by have := of_decide_eq_false hb; omega
   rw [hye]
   refine nK ?_
   refine s_reg rfl ?_
   refine rm 68 rfl rfl rfl ?_
   refine rm 69 rfl rfl rfl ?_
   refine ra 6 rfl rfl rfl ?_
   refine ra 7 rfl rfl rfl ?_
   refine rn ?_
   refine nK ?_
   refine Next.weakS [] [6] (by rfl) (keeps0 hC _) (G' := [(6, .fz (VI (fil (qsB (tabL g D) s e c) g.m))), (7, IV .i64 0)]) (H' := []) ⟨⟨_, rfl, .inr ⟨_, rfl, .sl _ _ _ _ _ _ rfl rfl (take_all0 (List.length_map _)) (List.length_map _)⟩⟩, ⟨_, rfl, .inl ⟨rfl, rfl⟩⟩, trivial⟩ trivial rfl ?_
   (first | exact s_o1 hC rfl tV | exact s_o2 hC rfl tV tV | exact s_o3 hC rfl tV tV tV | exact s_out0 hC rfl | exact s_outO hC rfl rfl rfl)
theorem rps_bad (g : Gr) (s e : Int) (hok : okG g) (h : linkI g s e ≠ 0) : Pure Tryz.prog 16 [.agg (encG g), If .i64 s, If .i64 e] (.tup [VI [], If .i64 (linkI g s e)]) := by
 have hl := rlink_bad g s e hok h
 refine Meets.intro Tryz.func16 rfl (Nat.le_of_ble_eq_true rfl) fun C hC => ?_
 simp only [List.map, argEnv, Nat.reduceAdd]
 refine nK ?_
 refine s_reg rfl ?_
 refine Run.eff (dd := some 3) rfl rfl (op_box_flat rfl (oT rfl) tC rfl) ?_
 refine rp 6 rfl (op_assign rfl oC) ?_
 refine rp 7 rfl (op_assign rfl oC) ?_
 refine rn ?_
 refine nK ?_
 refine s_reg rfl ?_
 refine rl 14 rfl (op_loadw_flat rfl (oT rfl) tH rfl) ?_
 refine rm 15 rfl rfl rfl ?_
 refine rm 16 rfl rfl rfl ?_
 refine rp 17 rfl (op_call_pure (fun _ => hl) rfl (Opd.func _) (oS (oT rfl) (oS (oT rfl) (oS (oT rfl) Opds.nil)))) ?_
 refine rm 13 rfl rfl rfl ?_
 refine rp 18 rfl (op_extract_fz rfl (oT rfl) rfl) ?_
 refine rp 19 rfl (op_extract_fz rfl (oT rfl) rfl) ?_
 refine rp 20 rfl (op_extract_fz rfl (oT rfl) rfl) ?_
 refine ra 8 rfl rfl rfl ?_
 refine ra 9 rfl rfl rfl ?_
 refine ra 10 rfl rfl rfl ?_
 refine rn ?_
 refine nK ?_
 refine s_reg rfl ?_
 refine rp 11 rfl (op_assign rfl oC) ?_
 refine rn ?_
 refine nK ?_
 refine s_reg rfl ?_
 refine rm 21 rfl rfl rfl ?_
 refine rp 22 rfl (op_len_fz rfl (by first | exact Opd.tmp _ _ rfl | exact Opd.nil _ _ (oT rfl)) (by first | exact List.length_map _ | rfl)) ?_
 refine rp 23 rfl (op_move rfl oC) ?_
 refine rn ?_
 refine nK ?_
 refine n_loop (ι := Nat) (fun _ => ([(10, IV .i64 (linkI g s e)), (11, .fz (.lit (.slice none 0 0))), (22, IV .i64 0), (23, IV .i64 0)], [], 0)) (fun _ => True) (fun _ => 0) 0 trivial ?_ ?_
 ·refine Next.weak [] [] (by rfl) (keepsN hC _ rfl) (H' := []) (by repeat (first | exact trivial | refine ⟨⟨_, rfl, .inl ⟨rfl, rfl⟩⟩, ?_⟩ | refine ⟨⟨_, rfl, .inl ⟨slEq rfl tN, rfl⟩⟩, ?_⟩ | refine ⟨⟨_, rfl, .inl ⟨ivEq tX, rfl⟩⟩, ?_⟩)) trivial (fun _ h => by simp at h) rel_intro
 ·intro i _ K hK
  refine nK ?_
  refine s_reg rfl ?_
  refine rp 24 rfl (op_lss rfl (oT rfl) (oT rfl)) ?_
  refine rn ?_
  refine nK ?_
  refine n_cond _ rfl (fun hb => ?_) (fun hb => ?_)
  ·exact absurd hb (by simp)
  ·refine nK ?_
   refine s_reg rfl ?_
   refine rm 68 rfl rfl rfl ?_
   refine rm 69 rfl rfl rfl ?_
   refine ra 6 rfl rfl rfl ?_
   refine ra 7 rfl rfl rfl ?_
   refine rn ?_
   refine nK ?_
   refine Next.weakS [] [] (by rfl) (keeps0 hC _) (G' := [(6, .fz (VI [])), (7, IV .i64 (linkI g s e))]) (H' := []) (by repeat (first | exact trivial | refine ⟨⟨_, rfl, .inl ⟨rfl, rfl⟩⟩, ?_⟩ | refine ⟨⟨_, rfl, .inl ⟨slEq rfl tN, rfl⟩⟩, ?_⟩ | refine ⟨⟨_, rfl, .inl ⟨ivEq tX, rfl⟩⟩, ?_⟩ | refine ⟨⟨_, rfl, .inr ⟨_, rfl, tW⟩⟩, ?_⟩)) trivial rfl ?_
   (first | exact s_o1 hC rfl tV | exact s_o2 hC rfl tV tV | exact s_o3 hC rfl tV tV tV | exact s_out0 hC rfl | exact s_outO hC rfl rfl rfl)
theorem rps_c (g : Gr) (s e : Nat) (hok : okG g) (h : linkI g s e = 0) : Pure Tryz.prog 16 [.agg (encG g), If .i64 s, If .i64 e] (.tup [VI (fil (psB (tabL g (disF g.es g.m)) s e (costL s e g.es).1) g.m), If .i64 0]) := by
 have hl := rlink_c g s e hok h
 obtain ⟨hp, h1, h2, h3, h4, h5⟩ := linkI_ok h
 obtain ⟨hg, hN⟩ := plainI_ok hp
 have d := dst_of hg
 have hm := plain_m hN
 have h128 := d.vg.n128
 have hcb := cost_bnd d.vg (s : Int) (e : Int)
 have hdb := fun i k (hi : i < g.m) (hk : k < g.m) => d.bnd hi hk
 have htr := fun x (hx : x < g.m) => tab_rows (D := disF g.es g.m) hN hx
 have htg := fun x y (hx : x < g.m) (hy : y < g.m) => tab_get (D := disF g.es g.m) hN hx hy
 have htl := tab_len g (disF g.es g.m)
 rw [← hm] at htl
 generalize disF g.es g.m = D at *
 generalize (costL s e g.es).1 = c at *
 have hsm : s < g.m := by omega
 have hem : e < g.m := by omega
 have hrs := htr s hsm
 have hre := htr e hem
 refine Meets.intro Tryz.func16 rfl (Nat.le_of_ble_eq_true rfl) fun C hC => ?_
 simp only [List.map, argEnv, Nat.reduceAdd]
 refine nK ?_
 refine s_reg rfl ?_
 refine Run.eff (dd := some 3) rfl rfl (op_box_flat rfl (oT rfl) tC rfl) ?_
 refine rp 6 rfl (op_assign rfl oC) ?_
 refine rp 7 rfl (op_assign rfl oC) ?_
 refine rn ?_
 refine nK ?_
 refine s_reg rfl ?_
 refine rl 14 rfl (op_loadw_flat rfl (oT rfl) tH rfl) ?_
 refine rm 15 rfl rfl rfl ?_
 refine rm 16 rfl rfl rfl ?_
 refine rp 17 rfl (op_call_pure (fun _ => hl) rfl (Opd.func _) (oS (oT rfl) (oS (oT rfl) (oS (oT rfl) Opds.nil)))) ?_
 refine rm 13 rfl rfl rfl ?_
 refine rp 18 rfl (op_extract_fz rfl (oT rfl) rfl) ?_
 refine rp 19 rfl (op_extract_fz rfl (oT rfl) rfl) ?_
 refine rp 20 rfl (op_extract_fz rfl (oT rfl) rfl) ?_
 refine ra 8 rfl rfl rfl ?_
 refine ra 9 rfl rfl rfl ?_
 refine ra 10 rfl rfl rfl ?_
 refine rn ?_
 refine nK ?_
 refine s_reg rfl ?_
 refine rp 11 rfl (op_assign rfl oC) ?_
 refine rn ?_
 refine nK ?_
 refine Next.adopt 11 1 rfl ?_
 refine Next.weak [1] [] (by rfl) (keepsN hC _ rfl) (G' := [(1, IV .i64 s), (2, IV .i64 e), (9, .fz (VLL (tabL g D))), (8, IV .i64 c), (10, IV .i64 0), (11, .sl 0 1 0 0)]) (H' := [(0, OI [])]) (by repeat (first | exact trivial | refine ⟨⟨_, rfl, .inl ⟨rfl, rfl⟩⟩, ?_⟩ | refine ⟨⟨_, rfl, .inl ⟨slEq rfl tN, rfl⟩⟩, ?_⟩ | refine ⟨⟨_, rfl, .inl ⟨ivEq tX, rfl⟩⟩, ?_⟩)) (by exact ⟨ent_same rfl rfl rfl tL, trivial⟩) (fun _ h => by simp at h) ?_
 refine nK ?_
 refine s_reg rfl ?_
 refine rm 21 rfl rfl rfl ?_
 refine rp 22 rfl (op_len_fz rfl (by first | exact Opd.tmp _ _ rfl | exact Opd.nil _ _ (oT rfl)) (by first | exact List.length_map _ | rfl)) ?_
 refine rp 23 rfl (op_move rfl oC) ?_
 refine rn ?_
 refine nK ?_
 refine n_loop (ι := Nat) (fun y => ([(1, IV .i64 s), (2, IV .i64 e), (9, .fz (VLL (tabL g D))), (8, IV .i64 c), (10, IV .i64 0), (11, .sl 0 1 0 (fil (psB (tabL g D) s e c) y).length), (22, IV .i64 g.m), (23, IV .i64 y)], [(0, OI (fil (psB (tabL g D) s e c) y))], 1)) (fun y => y ≤ g.m) (fun y => g.m - y) 0 (Nat.zero_le _) ?_ ?_
 ·refine Next.weak [0] [] (by rfl) (keepsN hC _ rfl) (by repeat (first | exact trivial | refine ⟨⟨_, rfl, .inl ⟨rfl, rfl⟩⟩, ?_⟩ | refine ⟨⟨_, rfl, .inl ⟨ivEq (by rw [htl]), rfl⟩⟩, ?_⟩)) (by exact ⟨ent_same rfl rfl rfl tL, trivial⟩) (fun _ h => by simp at h) rel_intro
 ·intro y hy K hK
  try dsimp only at hy hK ⊢
  have hfl := fil_len (psB (tabL g D) s e c) y
  refine nK ?_
  refine s_reg rfl ?_
  refine rp 24 rfl (op_lss rfl (oT rfl) (oT rfl)) ?_
  refine rn ?_
  refine nK ?_
  refine n_cond _ rfl (fun hb => ?_) (fun hb => ?_)
  ·have hlt : y < g.m := by have := of_decide_eq_true hb; omega
   have hK1 := hK (y + 1) (by omega) (by omega)
   rw [fil_succ] at hK1
   have hPB : psB (tabL g D) s e c y = (decide (0 ≤ D s y) && (decide (D e y < 0) || decide (D s y < c + D e y))) := by
    unfold psB
    rw [htg s y hsm hlt, htg e y hem hlt]
   have hry := htr y hlt
   have hsy := row_row g.m (D s) hlt
   have hey := row_row g.m (D e) hlt
   have hys := row_row g.m (D y) hsm
   have hye := row_row g.m (D y) hem
   have hb1 := hdb s y hsm hlt
   have hb2 := hdb e y hem hlt
   have hb3 := hdb y s hlt hsm
   have hb4 := hdb y e hlt hem
   clear hK hb
   generalize psB (tabL g D) s e c y = pb at *
   generalize fil (psB (tabL g D) s e c) y = F at *
   refine nK ?_
   refine s_reg rfl ?_
   refine rm 25 rfl rfl rfl ?_
   refine ra 12 rfl rfl rfl ?_
   refine rn ?_
   refine nK ?_
   refine s_draw mixed ?_
   refine rm 26 rfl rfl rfl ?_
   refine rm 27 rfl rfl rfl ?_
   refine rp 28 rfl (op_idx_fz s rfl (oT rfl) (oT rfl) (by intro _; exact ⟨rfl, hrs⟩)) ?_
   refine rp 29 rfl (op_load1_fz rfl (oT rfl) rfl) ?_
   refine rm 30 rfl rfl rfl ?_
   refine rp 31 rfl (op_idx_fz y rfl (oT rfl) (oT rfl) (by intro _; exact ⟨rfl, hsy⟩)) ?_
   refine rp 32 rfl (op_load1_fz rfl (oT rfl) rfl) ?_
   refine rp 33 rfl (op_geq rfl (oT rfl) oC) ?_
   refine rm 34 rfl rfl rfl ?_
   refine gm 35 rfl rfl tG rfl rfl ?_
   refine gm 36 rfl rfl tG rfl rfl ?_
   refine rg 37 rfl rfl tG (op_idx_fz e rfl (oO rfl tO) (oO rfl tO) (by intro _; exact ⟨rfl, hre⟩)) ?_
   refine rg 38 rfl rfl tG (op_load1_fz rfl (oO rfl tO) rfl) ?_
   refine gm 39 rfl rfl tG rfl rfl ?_
   refine rg 40 rfl rfl tG (op_idx_fz y rfl (oO rfl tO) (oO rfl tO) (by intro _; exact ⟨rfl, hey⟩)) ?_
   refine rg 41 rfl rfl tG (op_load1_fz rfl (oO rfl tO) rfl) ?_
   refine rg 42 rfl rfl tG (op_lss rfl (oO rfl tO) oC) ?_
   refine rg 43 rfl rfl tG (op_move rfl (oO rfl tO)) ?_
   refine gm 44 rfl rfl tG rfl rfl ?_
   refine gm 45 rfl rfl tG rfl rfl ?_
   refine rg 46 rfl rfl tG (op_idx_fz s rfl (oO rfl tO) (oO rfl tO) (by intro _; exact ⟨rfl, hrs⟩)) ?_
   refine rg 47 rfl rfl tG (op_load1_fz rfl (oO rfl tO) rfl) ?_
   refine gm 48 rfl rfl tG rfl rfl ?_
   refine rg 49 rfl rfl tG (op_idx_fz y rfl (oO rfl tO) (oO rfl tO) (by intro _; exact ⟨rfl, hsy⟩)) ?_
   refine rg 50 rfl rfl tG (op_load1_fz rfl (oO rfl tO) rfl) ?_
   refine gm 51 rfl rfl tG rfl rfl ?_
   refine gm 52 rfl rfl tG rfl rfl ?_
   refine gm 53 rfl rfl tG rfl rfl ?_
   refine rg 54 rfl rfl tG (op_idx_fz e rfl (oO rfl tO) (oO rfl tO) (by intro _; exact ⟨rfl, hre⟩)) ?_
   refine rg 55 rfl rfl tG (op_load1_fz rfl (oO rfl tO) rfl) ?_
   refine gm 56 rfl rfl tG rfl rfl ?_
   refine rg 57 rfl rfl tG (op_idx_fz y rfl (oO rfl tO) (oO rfl tO) (by intro _; exact ⟨rfl, hey⟩)) ?_
   refine rg 58 rfl rfl tG (op_load1_fz rfl (oO rfl tO) rfl) ?_
   refine rg 59 rfl rfl tG (op_add rfl (oO rfl tO) (oO rfl tO) tI) ?_
   refine rg 60 rfl rfl tG (op_lss rfl (oO rfl tO) (oO rfl tO)) ?_
   refine rg 61 rfl rfl tG (op_pick_or rfl (oO rfl tO) (oO rfl tO)) ?_
   refine rp 62 rfl (op_pick_and rfl (oT rfl) (oO rfl tO)) ?_
   refine Run.nil (FinD.mk (by kernel_rfl) ?_)
   refine nK ?_
   refine n_cond _ rfl (fun hb => ?_) (fun hb => ?_)
   ·rw [hPB.trans hb, if_pos rfl] at hK1
    refine nK ?_
    refine s_reg rfl ?_
    refine rm 63 rfl rfl rfl ?_
    refine rm 64 rfl rfl rfl ?_
    refine rp 65 rfl (op_buildSlice_fz rfl (RowsF.cons _ _ _ _ _ _ (oT rfl) tC (by rfl) (RowsF.nil _)) rfl rfl) ?_
    refine Run.eff (dd := some 66) rfl rfl (op_append rfl (oT rfl) (by first | exact Opd.tmp _ _ rfl | exact Opd.nil _ _ (oT rfl)) rfl (by first | rfl | simp) rfl rfl tB tB) ?_
    refine ra 11 rfl rfl rfl ?_
    refine rn ?_
    refine nK ?_
    refine s_reg rfl ?_
    refine rp 67 rfl (op_add rfl (oT rfl) oC tI) ?_
    refine rm 23 rfl rfl rfl ?_
    refine rn ?_
    refine nK ?_
    refine Next.weak [1] [] (by rfl) (keepsN hC _ rfl) (by repeat (first | exact trivial | refine ⟨⟨_, rfl, .inl ⟨rfl, rfl⟩⟩, ?_⟩ | refine ⟨⟨_, rfl, .inl ⟨slEq rfl tN, rfl⟩⟩, ?_⟩ | refine ⟨⟨_, rfl, .inl ⟨ivEq tX, rfl⟩⟩, ?_⟩)) (by exact ⟨ent_same rfl rfl (flEq rfl (by rw [List.map_append]; rfl)) trivial, trivial⟩) (fun _ h => by simp at h) hK1
   ·rw [hPB.trans hb, if_neg (by simp), List.append_nil] at hK1
    refine nK ?_
    refine s_reg rfl ?_
    refine rp 67 rfl (op_add rfl (oT rfl) oC tI) ?_
    refine rm 23 rfl rfl rfl ?_
    refine rn ?_
    refine nK ?_
    refine Next.weak [0] [] (by rfl) (keepsN hC _ rfl) (by repeat (first | exact trivial | refine ⟨⟨_, rfl, .inl ⟨rfl, rfl⟩⟩, ?_⟩ | refine ⟨⟨_, rfl, .inl ⟨slEq rfl tN, rfl⟩⟩, ?_⟩ | refine ⟨⟨_, rfl, .inl ⟨ivEq tX, rfl⟩⟩, ?_⟩)) (by exact ⟨ent_same rfl rfl rfl tL, trivial⟩) (fun _ h => by simp at h) hK1
  ·have hye : y = g.m := by have := of_decide_eq_false hb; omega
   rw [hye]
   refine nK ?_
   refine s_reg rfl ?_
   refine rm 68 rfl rfl rfl ?_
   refine rm 69 rfl rfl rfl ?_
   refine ra 6 rfl rfl rfl ?_
   refine ra 7 rfl rfl rfl ?_
   refine rn ?_
   refine nK ?_
   refine Next.weakS [] [6] (by rfl) (keeps0 hC _) (G' := [(6, .fz (VI (fil (psB (tabL g D) s e c) g.m))), (7, IV .i64 0)]) (H' := []) ⟨⟨_, rfl, .inr ⟨_, rfl, .sl _ _ _ _ _ _ rfl rfl (take_all0 (List.length_map _)) (List.length_map _)⟩⟩, ⟨_, rfl, .inl ⟨rfl, rfl⟩⟩, trivial⟩ trivial rfl ?_
   (first | exact s_o1 hC rfl tV | exact s_o2 hC rfl tV tV | exact s_o3 hC rfl tV tV tV | exact s_out0 hC rfl | exact s_outO hC rfl rfl rfl)
theorem rqs_bad (g : Gr) (s e : Int) (hok : okG g) (h : linkI g s e ≠ 0) : Pure Tryz.prog 17 [.agg (encG g), If .i64 s, If .i64 e] (.tup [VI [], If .i64 (linkI g s e)]) := by
 have hl := rlink_bad g s e hok h
 refine Meets.intro Tryz.func17 rfl (Nat.le_of_ble_eq_true rfl) fun C hC => ?_
 simp only [List.map, argEnv, Nat.reduceAdd]
 refine nK ?_
 refine s_reg rfl ?_
 refine Run.eff (dd := some 3) rfl rfl (op_box_flat rfl (oT rfl) tC rfl) ?_
 refine rp 6 rfl (op_assign rfl oC) ?_
 refine rp 7 rfl (op_assign rfl oC) ?_
 refine rn ?_
 refine nK ?_
 refine s_reg rfl ?_
 refine rl 14 rfl (op_loadw_flat rfl (oT rfl) tH rfl) ?_
 refine rm 15 rfl rfl rfl ?_
 refine rm 16 rfl rfl rfl ?_
 refine rp 17 rfl (op_call_pure (fun _ => hl) rfl (Opd.func _) (oS (oT rfl) (oS (oT rfl) (oS (oT rfl) Opds.nil)))) ?_
 refine rm 13 rfl rfl rfl ?_
 refine rp 18 rfl (op_extract_fz rfl (oT rfl) rfl) ?_
 refine rp 19 rfl (op_extract_fz rfl (oT rfl) rfl) ?_
 refine rp 20 rfl (op_extract_fz rfl (oT rfl) rfl) ?_
 refine ra 8 rfl rfl rfl ?_
 refine ra 9 rfl rfl rfl ?_
 refine ra 10 rfl rfl rfl ?_
 refine rn ?_
 refine nK ?_
 refine s_reg rfl ?_
 refine rp 11 rfl (op_assign rfl oC) ?_
 refine rn ?_
 refine nK ?_
 refine s_reg rfl ?_
 refine rm 21 rfl rfl rfl ?_
 refine rp 22 rfl (op_len_fz rfl (by first | exact Opd.tmp _ _ rfl | exact Opd.nil _ _ (oT rfl)) (by first | exact List.length_map _ | rfl)) ?_
 refine rp 23 rfl (op_move rfl oC) ?_
 refine rn ?_
 refine nK ?_
 refine n_loop (ι := Nat) (fun _ => ([(10, IV .i64 (linkI g s e)), (11, .fz (.lit (.slice none 0 0))), (22, IV .i64 0), (23, IV .i64 0)], [], 0)) (fun _ => True) (fun _ => 0) 0 trivial ?_ ?_
 ·refine Next.weak [] [] (by rfl) (keepsN hC _ rfl) (H' := []) (by repeat (first | exact trivial | refine ⟨⟨_, rfl, .inl ⟨rfl, rfl⟩⟩, ?_⟩ | refine ⟨⟨_, rfl, .inl ⟨slEq rfl tN, rfl⟩⟩, ?_⟩ | refine ⟨⟨_, rfl, .inl ⟨ivEq tX, rfl⟩⟩, ?_⟩)) trivial (fun _ h => by simp at h) rel_intro
 ·intro i _ K hK
  refine nK ?_
  refine s_reg rfl ?_
  refine rp 24 rfl (op_lss rfl (oT rfl) (oT rfl)) ?_
  refine rn ?_
  refine nK ?_
  refine n_cond _ rfl (fun hb => ?_) (fun hb => ?_)
  ·exact absurd hb (by simp)
  ·refine nK ?_
   refine s_reg rfl ?_
   refine rm 68 rfl rfl rfl ?_
   refine rm 69 rfl rfl rfl ?_
   refine ra 6 rfl rfl rfl ?_
   refine ra 7 rfl rfl rfl ?_
   refine rn ?_
   refine nK ?_
   refine Next.weakS [] [] (by rfl) (keeps0 hC _) (G' := [(6, .fz (VI [])), (7, IV .i64 (linkI g s e))]) (H' := []) (by repeat (first | exact trivial | refine ⟨⟨_, rfl, .inl ⟨rfl, rfl⟩⟩, ?_⟩ | refine ⟨⟨_, rfl, .inl ⟨slEq rfl tN, rfl⟩⟩, ?_⟩ | refine ⟨⟨_, rfl, .inl ⟨ivEq tX, rfl⟩⟩, ?_⟩ | refine ⟨⟨_, rfl, .inr ⟨_, rfl, tW⟩⟩, ?_⟩)) trivial rfl ?_
   (first | exact s_o1 hC rfl tV | exact s_o2 hC rfl tV tV | exact s_o3 hC rfl tV tV tV | exact s_out0 hC rfl | exact s_outO hC rfl rfl rfl)
theorem rqs_c (g : Gr) (s e : Nat) (hok : okG g) (h : linkI g s e = 0) : Pure Tryz.prog 17 [.agg (encG g), If .i64 s, If .i64 e] (.tup [VI (fil (qsB (tabL g (disF g.es g.m)) s e (costL s e g.es).1) g.m), If .i64 0]) := by
 have hl := rlink_c g s e hok h
 obtain ⟨hp, h1, h2, h3, h4, h5⟩ := linkI_ok h
 obtain ⟨hg, hN⟩ := plainI_ok hp
 have d := dst_of hg
 have hm := plain_m hN
 have h128 := d.vg.n128
 have hcb := cost_bnd d.vg (s : Int) (e : Int)
 have hdb := fun i k (hi : i < g.m) (hk : k < g.m) => d.bnd hi hk
 have htr := fun x (hx : x < g.m) => tab_rows (D := disF g.es g.m) hN hx
 have htg := fun x y (hx : x < g.m) (hy : y < g.m) => tab_get (D := disF g.es g.m) hN hx hy
 have htl := tab_len g (disF g.es g.m)
 rw [← hm] at htl
 generalize disF g.es g.m = D at *
 generalize (costL s e g.es).1 = c at *
 have hsm : s < g.m := by omega
 have hem : e < g.m := by omega
 have hrs := htr s hsm
 have hre := htr e hem
 refine Meets.intro Tryz.func17 rfl (Nat.le_of_ble_eq_true rfl) fun C hC => ?_
 simp only [List.map, argEnv, Nat.reduceAdd]
 refine nK ?_
 refine s_reg rfl ?_
 refine Run.eff (dd := some 3) rfl rfl (op_box_flat rfl (oT rfl) tC rfl) ?_
 refine rp 6 rfl (op_assign rfl oC) ?_
 refine rp 7 rfl (op_assign rfl oC) ?_
 refine rn ?_
 refine nK ?_
 refine s_reg rfl ?_
 refine rl 14 rfl (op_loadw_flat rfl (oT rfl) tH rfl) ?_
 refine rm 15 rfl rfl rfl ?_
 refine rm 16 rfl rfl rfl ?_
 refine rp 17 rfl (op_call_pure (fun _ => hl) rfl (Opd.func _) (oS (oT rfl) (oS (oT rfl) (oS (oT rfl) Opds.nil)))) ?_
 refine rm 13 rfl rfl rfl ?_
 refine rp 18 rfl (op_extract_fz rfl (oT rfl) rfl) ?_
 refine rp 19 rfl (op_extract_fz rfl (oT rfl) rfl) ?_
 refine rp 20 rfl (op_extract_fz rfl (oT rfl) rfl) ?_
 refine ra 8 rfl rfl rfl ?_
 refine ra 9 rfl rfl rfl ?_
 refine ra 10 rfl rfl rfl ?_
 refine rn ?_
 refine nK ?_
 refine s_reg rfl ?_
 refine rp 11 rfl (op_assign rfl oC) ?_
 refine rn ?_
 refine nK ?_
 refine Next.adopt 11 1 rfl ?_
 refine Next.weak [1] [] (by rfl) (keepsN hC _ rfl) (G' := [(1, IV .i64 s), (2, IV .i64 e), (9, .fz (VLL (tabL g D))), (8, IV .i64 c), (10, IV .i64 0), (11, .sl 0 1 0 0)]) (H' := [(0, OI [])]) (by repeat (first | exact trivial | refine ⟨⟨_, rfl, .inl ⟨rfl, rfl⟩⟩, ?_⟩ | refine ⟨⟨_, rfl, .inl ⟨slEq rfl tN, rfl⟩⟩, ?_⟩ | refine ⟨⟨_, rfl, .inl ⟨ivEq tX, rfl⟩⟩, ?_⟩)) (by exact ⟨ent_same rfl rfl rfl tL, trivial⟩) (fun _ h => by simp at h) ?_
 refine nK ?_
 refine s_reg rfl ?_
 refine rm 21 rfl rfl rfl ?_
 refine rp 22 rfl (op_len_fz rfl (by first | exact Opd.tmp _ _ rfl | exact Opd.nil _ _ (oT rfl)) (by first | exact List.length_map _ | rfl)) ?_
 refine rp 23 rfl (op_move rfl oC) ?_
 refine rn ?_
 refine nK ?_
 refine n_loop (ι := Nat) (fun y => ([(1, IV .i64 s), (2, IV .i64 e), (9, .fz (VLL (tabL g D))), (8, IV .i64 c), (10, IV .i64 0), (11, .sl 0 1 0 (fil (qsB (tabL g D) s e c) y).length), (22, IV .i64 g.m), (23, IV .i64 y)], [(0, OI (fil (qsB (tabL g D) s e c) y))], 1)) (fun y => y ≤ g.m) (fun y => g.m - y) 0 (Nat.zero_le _) ?_ ?_
 ·refine Next.weak [0] [] (by rfl) (keepsN hC _ rfl) (by repeat (first | exact trivial | refine ⟨⟨_, rfl, .inl ⟨rfl, rfl⟩⟩, ?_⟩ | refine ⟨⟨_, rfl, .inl ⟨ivEq (by rw [htl]), rfl⟩⟩, ?_⟩)) (by exact ⟨ent_same rfl rfl rfl tL, trivial⟩) (fun _ h => by simp at h) rel_intro
 ·intro y hy K hK
  try dsimp only at hy hK ⊢
  have hfl := fil_len (qsB (tabL g D) s e c) y
  refine nK ?_
  refine s_reg rfl ?_
  refine rp 24 rfl (op_lss rfl (oT rfl) (oT rfl)) ?_
  refine rn ?_
  refine nK ?_
  refine n_cond _ rfl (fun hb => ?_) (fun hb => ?_)
  ·have hlt : y < g.m := by have := of_decide_eq_true hb; omega
   have hK1 := hK (y + 1) (by omega) (by omega)
   rw [fil_succ] at hK1
   have hPB : qsB (tabL g D) s e c y = (decide (0 ≤ D y e) && (decide (D y s < 0) || decide (D y e < D y s + c))) := by
    unfold qsB
    rw [htg y e hlt hem, htg y s hlt hsm]
   have hry := htr y hlt
   have hsy := row_row g.m (D s) hlt
   have hey := row_row g.m (D e) hlt
   have hys := row_row g.m (D y) hsm
   have hye := row_row g.m (D y) hem
   have hb1 := hdb s y hsm hlt
   have hb2 := hdb e y hem hlt
   have hb3 := hdb y s hlt hsm
   have hb4 := hdb y e hlt hem
   clear hK hb
   generalize qsB (tabL g D) s e c y = pb at *
   generalize fil (qsB (tabL g D) s e c) y = F at *
   refine nK ?_
   refine s_reg rfl ?_
   refine rm 25 rfl rfl rfl ?_
   refine ra 12 rfl rfl rfl ?_
   refine rn ?_
   refine nK ?_
   refine s_draw mixed ?_
   refine rm 26 rfl rfl rfl ?_
   refine rm 27 rfl rfl rfl ?_
   refine rp 28 rfl (op_idx_fz y rfl (oT rfl) (oT rfl) (by intro _; exact ⟨rfl, hry⟩)) ?_
   refine rp 29 rfl (op_load1_fz rfl (oT rfl) rfl) ?_
   refine rm 30 rfl rfl rfl ?_
   refine rp 31 rfl (op_idx_fz e rfl (oT rfl) (oT rfl) (by intro _; exact ⟨rfl, hye⟩)) ?_
   refine rp 32 rfl (op_load1_fz rfl (oT rfl) rfl) ?_
   refine rp 33 rfl (op_geq rfl (oT rfl) oC) ?_
   refine rm 34 rfl rfl rfl ?_
   refine gm 35 rfl rfl tG rfl rfl ?_
   refine gm 36 rfl rfl tG rfl rfl ?_
   refine rg 37 rfl rfl tG (op_idx_fz y rfl (oO rfl tO) (oO rfl tO) (by intro _; exact ⟨rfl, hry⟩)) ?_
   refine rg 38 rfl rfl tG (op_load1_fz rfl (oO rfl tO) rfl) ?_
   refine gm 39 rfl rfl tG rfl rfl ?_
   refine rg 40 rfl rfl tG (op_idx_fz s rfl (oO rfl tO) (oO rfl tO) (by intro _; exact ⟨rfl, hys⟩)) ?_
   refine rg 41 rfl rfl tG (op_load1_fz rfl (oO rfl tO) rfl) ?_
   refine rg 42 rfl rfl tG (op_lss rfl (oO rfl tO) oC) ?_
   refine rg 43 rfl rfl tG (op_move rfl (oO rfl tO)) ?_
   refine gm 44 rfl rfl tG rfl rfl ?_
   refine gm 45 rfl rfl tG rfl rfl ?_
   refine rg 46 rfl rfl tG (op_idx_fz y rfl (oO rfl tO) (oO rfl tO) (by intro _; exact ⟨rfl, hry⟩)) ?_
   refine rg 47 rfl rfl tG (op_load1_fz rfl (oO rfl tO) rfl) ?_
   refine gm 48 rfl rfl tG rfl rfl ?_
   refine rg 49 rfl rfl tG (op_idx_fz e rfl (oO rfl tO) (oO rfl tO) (by intro _; exact ⟨rfl, hye⟩)) ?_
   refine rg 50 rfl rfl tG (op_load1_fz rfl (oO rfl tO) rfl) ?_
   refine gm 51 rfl rfl tG rfl rfl ?_
   refine gm 52 rfl rfl tG rfl rfl ?_
   refine rg 53 rfl rfl tG (op_idx_fz y rfl (oO rfl tO) (oO rfl tO) (by intro _; exact ⟨rfl, hry⟩)) ?_
   refine rg 54 rfl rfl tG (op_load1_fz rfl (oO rfl tO) rfl) ?_
   refine gm 55 rfl rfl tG rfl rfl ?_
   refine rg 56 rfl rfl tG (op_idx_fz s rfl (oO rfl tO) (oO rfl tO) (by intro _; exact ⟨rfl, hys⟩)) ?_
   refine rg 57 rfl rfl tG (op_load1_fz rfl (oO rfl tO) rfl) ?_
   refine gm 58 rfl rfl tG rfl rfl ?_
   refine rg 59 rfl rfl tG (op_add rfl (oO rfl tO) (oO rfl tO) tI) ?_
   refine rg 60 rfl rfl tG (op_lss rfl (oO rfl tO) (oO rfl tO)) ?_
   refine rg 61 rfl rfl tG (op_pick_or rfl (oO rfl tO) (oO rfl tO)) ?_
   refine rp 62 rfl (op_pick_and rfl (oT rfl) (oO rfl tO)) ?_
   refine Run.nil (FinD.mk (by kernel_rfl) ?_)
   refine nK ?_
   refine n_cond _ rfl (fun hb => ?_) (fun hb => ?_)
   ·rw [hPB.trans hb, if_pos rfl] at hK1
    refine nK ?_
    refine s_reg rfl ?_
    refine rm 63 rfl rfl rfl ?_
    refine rm 64 rfl rfl rfl ?_
    refine rp 65 rfl (op_buildSlice_fz rfl (RowsF.cons _ _ _ _ _ _ (oT rfl) tC (by rfl) (RowsF.nil _)) rfl rfl) ?_
    refine Run.eff (dd := some 66) rfl rfl (op_append rfl (oT rfl) (by first | exact Opd.tmp _ _ rfl | exact Opd.nil _ _ (oT rfl)) rfl (by first | rfl | simp) rfl rfl tB tB) ?_
    refine ra 11 rfl rfl rfl ?_
    refine rn ?_
    refine nK ?_
    refine s_reg rfl ?_
    refine rp 67 rfl (op_add rfl (oT rfl) oC tI) ?_
    refine rm 23 rfl rfl rfl ?_
    refine rn ?_
    refine nK ?_
    refine Next.weak [1] [] (by rfl) (keepsN hC _ rfl) (by repeat (first | exact trivial | refine ⟨⟨_, rfl, .inl ⟨rfl, rfl⟩⟩, ?_⟩ | refine ⟨⟨_, rfl, .inl ⟨slEq rfl tN, rfl⟩⟩, ?_⟩ | refine ⟨⟨_, rfl, .inl ⟨ivEq tX, rfl⟩⟩, ?_⟩)) (by exact ⟨ent_same rfl rfl (flEq rfl (by rw [List.map_append]; rfl)) trivial, trivial⟩) (fun _ h => by simp at h) hK1
   ·rw [hPB.trans hb, if_neg (by simp), List.append_nil] at hK1
    refine nK ?_
    refine s_reg rfl ?_
    refine rp 67 rfl (op_add rfl (oT rfl) oC tI) ?_
    refine rm 23 rfl rfl rfl ?_
    refine rn ?_
    refine nK ?_
    refine Next.weak [0] [] (by rfl) (keepsN hC _ rfl) (by repeat (first | exact trivial | refine ⟨⟨_, rfl, .inl ⟨rfl, rfl⟩⟩, ?_⟩ | refine ⟨⟨_, rfl, .inl ⟨slEq rfl tN, rfl⟩⟩, ?_⟩ | refine ⟨⟨_, rfl, .inl ⟨ivEq tX, rfl⟩⟩, ?_⟩)) (by exact ⟨ent_same rfl rfl rfl tL, trivial⟩) (fun _ h => by simp at h) hK1
  ·have hye : y = g.m := by have := of_decide_eq_false hb; omega
   rw [hye]
   refine nK ?_
   refine s_reg rfl ?_
   refine rm 68 rfl rfl rfl ?_
   refine rm 69 rfl rfl rfl ?_
   refine ra 6 rfl rfl rfl ?_
   refine ra 7 rfl rfl rfl ?_
   refine rn ?_
   refine nK ?_
   refine Next.weakS [] [6] (by rfl) (keeps0 hC _) (G' := [(6, .fz (VI (fil (qsB (tabL g D) s e c) g.m))), (7, IV .i64 0)]) (H' := []) ⟨⟨_, rfl, .inr ⟨_, rfl, .sl _ _ _ _ _ _ rfl rfl (take_all0 (List.length_map _)) (List.length_map _)⟩⟩, ⟨_, rfl, .inl ⟨rfl, rfl⟩⟩, trivial⟩ trivial rfl ?_
   (first | exact s_o1 hC rfl tV | exact s_o2 hC rfl tV tV | exact s_o3 hC rfl tV tV tV | exact s_out0 hC rfl | exact s_outO hC rfl rfl rfl)
end Go.Proofs.YtnkhlbljnmodbaaGreat
namespace Go.Proofs.YtnkhlbljnmodbaaGreat
open Go Go.RT Go.Proofs Go.Pl
set_option linter.all false
set_option maxRecDepth 20000
set_option maxHeartbeats 4000000
theorem ints3_c (a b : List Int) (ha : a.length ≤ 1000000000) (hb0 : b.length ≤ 1000000000) : Pure Tryz.prog 19 [VI a, VI b] (Bf (decide (a = b))) := by
 refine Meets.intro Tryz.func19 rfl (Nat.le_of_ble_eq_true rfl) fun C hC => ?_
 simp only [List.map, argEnv, Nat.reduceAdd]
 refine nK ?_
 refine s_reg rfl ?_
 refine rp 4 rfl (op_assign rfl oC) ?_
 refine rn ?_
 refine nK ?_
 refine s_reg rfl ?_
 refine rm 7 rfl rfl rfl ?_
 refine rp 8 rfl (op_len_fz rfl (by first | exact Opd.tmp _ _ rfl | exact Opd.nil _ _ (oT rfl)) (by first | exact List.length_map _ | rfl)) ?_
 refine rm 9 rfl rfl rfl ?_
 refine rp 10 rfl (op_len_fz rfl (by first | exact Opd.tmp _ _ rfl | exact Opd.nil _ _ (oT rfl)) (by first | exact List.length_map _ | rfl)) ?_
 refine rp 11 rfl (op_neq rfl (oT rfl) (oT rfl)) ?_
 refine rn ?_
 refine nK ?_
 refine n_cond _ rfl (fun hb => ?_) (fun hb => ?_)
 ·have e : decide (a = b) = false := by
   rw [decide_eq_false_iff_not]; rintro rfl; simp at hb
  rw [e]
  refine nK ?_
  refine s_reg rfl ?_
  refine rp 4 rfl (op_assign rfl oC) ?_
  refine rn ?_
  refine nK ?_
  (first | exact s_o1 hC rfl tV | exact s_o2 hC rfl tV tV | exact s_o3 hC rfl tV tV tV | exact s_out0 hC rfl | exact s_outO hC rfl rfl rfl)
 ·have hl : a.length = b.length := by simp at hb; omega
  refine nK ?_
  refine s_reg rfl ?_
  refine rm 12 rfl rfl rfl ?_
  refine rp 13 rfl (op_len_fz rfl (by first | exact Opd.tmp _ _ rfl | exact Opd.nil _ _ (oT rfl)) (by first | exact List.length_map _ | rfl)) ?_
  refine rp 14 rfl (op_move rfl oC) ?_
  refine rn ?_
  refine nK ?_
  refine n_loop (ι := Nat) (fun i => ([(1, .fz (VI b)), (12, .fz (VI a)), (13, IV .i64 a.length), (14, IV .i64 i)], [], 0)) (fun i => i ≤ a.length ∧ (a = b ↔ a.drop i = b.drop i)) (fun i => a.length - i) 0 ⟨Nat.zero_le _, Iff.rfl⟩ ?_ ?_
  ·refine Next.weak [] [] (by rfl) (keeps0 hC _) (by repeat (first | exact trivial | refine ⟨⟨_, rfl, .inl ⟨rfl, rfl⟩⟩, ?_⟩)) (by repeat (first | exact trivial | refine ⟨ent_same rfl rfl rfl tL, ?_⟩ | refine ⟨ent_same rfl rfl (rfEq rfl tU) tL, ?_⟩ | refine ⟨ent_same rfl rfl (flEq rfl (by first | (simp; done) | (simp; omega) | (simp [encE, encN, encB, encT, encL, encTr, encAl]; done) | simp [maxC, minC])) trivial, ?_⟩)) (fun _ h => by simp at h) rel_intro
  ·intro i ⟨hi, ho⟩ K hK
   refine nK ?_
   refine s_reg rfl ?_
   refine rp 15 rfl (op_lss rfl (oT rfl) (oT rfl)) ?_
   refine rn ?_
   refine nK ?_
   refine n_cond _ rfl (fun hb => ?_) (fun hb => ?_)
   ·have hlt : i < a.length := by simp at hb; omega
    have hlt2 : i < b.length := by omega
    rw [same_step hlt hlt2] at ho
    have hr1 := row_at' encN a i hlt
    have hr2 := row_at' encN b i hlt2
    have hK1 := fun h => hK (i + 1) ⟨by omega, h⟩ (by omega)
    generalize a[i] = x at *
    generalize b[i] = y at *
    refine nK ?_
    refine s_reg rfl ?_
    refine rm 16 rfl rfl rfl ?_
    refine rp 17 rfl (op_idx_fz _ rfl (oT rfl) (oT rfl) tF) ?_
    refine rp 18 rfl (op_load1_fz rfl (oT rfl) rfl) ?_
    refine ra 5 rfl rfl rfl ?_
    refine ra 6 rfl rfl rfl ?_
    refine rn ?_
    refine nK ?_
    refine s_reg rfl ?_
    refine rm 19 rfl rfl rfl ?_
    refine rm 20 rfl rfl rfl ?_
    refine rm 21 rfl rfl rfl ?_
    refine rp 22 rfl (op_idx_fz _ rfl (oT rfl) (oT rfl) tF) ?_
    refine rp 23 rfl (op_load1_fz rfl (oT rfl) rfl) ?_
    refine rp 24 rfl (op_neq rfl (oT rfl) (oT rfl)) ?_
    refine rn ?_
    refine nK ?_
    refine n_cond _ rfl (fun hb => ?_) (fun hb => ?_)
    ·have e : decide (a = b) = false := by
      rw [decide_eq_false_iff_not, ho]
      rintro ⟨rfl, _⟩
      simp at hb
     rw [e]
     refine nK ?_
     refine s_reg rfl ?_
     refine rp 4 rfl (op_assign rfl oC) ?_
     refine rn ?_
     refine nK ?_
     (first | exact s_o1 hC rfl tV | exact s_o2 hC rfl tV tV | exact s_o3 hC rfl tV tV tV | exact s_out0 hC rfl | exact s_outO hC rfl rfl rfl)
    ·have e : x = y := by simpa using hb
     refine nK ?_
     refine s_reg rfl ?_
     refine rp 25 rfl (op_add rfl (oT rfl) oC tI) ?_
     refine rm 14 rfl rfl rfl ?_
     refine rn ?_
     refine nK ?_
     refine Next.weak [] [] (by rfl) (keeps0 hC _) (by repeat (first | exact trivial | refine ⟨⟨_, rfl, .inl ⟨rfl, rfl⟩⟩, ?_⟩)) (by repeat (first | exact trivial | refine ⟨ent_same rfl rfl rfl tL, ?_⟩ | refine ⟨ent_same rfl rfl (rfEq rfl tU) tL, ?_⟩ | refine ⟨ent_same rfl rfl (flEq rfl (by first | (simp; done) | (simp; omega) | (simp [encE, encN, encB, encT, encL, encTr, encAl]; done) | simp [maxC, minC])) trivial, ?_⟩)) (fun _ h => by simp at h) (hK1 (by rw [ho]; exact ⟨fun h => h.2, fun h => ⟨e, h⟩⟩))
   ·have hie : i = a.length := by simp at hb; omega
    have e : decide (a = b) = true := by
     rw [decide_eq_true_iff, ho, hie, List.drop_length, hl, List.drop_length]
    rw [e]
    refine nK ?_
    refine s_reg rfl ?_
    refine rp 4 rfl (op_assign rfl oC) ?_
    refine rn ?_
    refine nK ?_
    (first | exact s_o1 hC rfl tV | exact s_o2 hC rfl tV tV | exact s_o3 hC rfl tV tV tV | exact s_out0 hC rfl | exact s_outO hC rfl rfl rfl)
theorem alts3_c (a b : List Alt) (ha : a.length ≤ 1000000000) (hb0 : b.length ≤ 1000000000) : Pure Tryz.prog 12 [VAl a, VAl b] (Bf (decide (a = b))) := by
 refine Meets.intro Tryz.func12 rfl (Nat.le_of_ble_eq_true rfl) fun C hC => ?_
 simp only [List.map, argEnv, Nat.reduceAdd]
 refine nK ?_
 refine s_reg rfl ?_
 refine rp 4 rfl (op_assign rfl oC) ?_
 refine rn ?_
 refine nK ?_
 refine s_reg rfl ?_
 refine rm 7 rfl rfl rfl ?_
 refine rp 8 rfl (op_len_fz rfl (by first | exact Opd.tmp _ _ rfl | exact Opd.nil _ _ (oT rfl)) (by first | exact List.length_map _ | rfl)) ?_
 refine rm 9 rfl rfl rfl ?_
 refine rp 10 rfl (op_len_fz rfl (by first | exact Opd.tmp _ _ rfl | exact Opd.nil _ _ (oT rfl)) (by first | exact List.length_map _ | rfl)) ?_
 refine rp 11 rfl (op_neq rfl (oT rfl) (oT rfl)) ?_
 refine rn ?_
 refine nK ?_
 refine n_cond _ rfl (fun hb => ?_) (fun hb => ?_)
 ·have e : decide (a = b) = false := by
   rw [decide_eq_false_iff_not]; rintro rfl; simp at hb
  rw [e]
  refine nK ?_
  refine s_reg rfl ?_
  refine rp 4 rfl (op_assign rfl oC) ?_
  refine rn ?_
  refine nK ?_
  (first | exact s_o1 hC rfl tV | exact s_o2 hC rfl tV tV | exact s_o3 hC rfl tV tV tV | exact s_out0 hC rfl | exact s_outO hC rfl rfl rfl)
 ·have hl : a.length = b.length := by simp at hb; omega
  refine nK ?_
  refine s_reg rfl ?_
  refine rm 12 rfl rfl rfl ?_
  refine rp 13 rfl (op_len_fz rfl (by first | exact Opd.tmp _ _ rfl | exact Opd.nil _ _ (oT rfl)) (by first | exact List.length_map _ | rfl)) ?_
  refine rp 14 rfl (op_move rfl oC) ?_
  refine rn ?_
  refine nK ?_
  refine n_loop (ι := Nat) (fun i => ([(1, .fz (VAl b)), (12, .fz (VAl a)), (13, IV .i64 a.length), (14, IV .i64 i)], [], 0)) (fun i => i ≤ a.length ∧ (a = b ↔ a.drop i = b.drop i)) (fun i => a.length - i) 0 ⟨Nat.zero_le _, Iff.rfl⟩ ?_ ?_
  ·refine Next.weak [] [] (by rfl) (keeps0 hC _) (by repeat (first | exact trivial | refine ⟨⟨_, rfl, .inl ⟨rfl, rfl⟩⟩, ?_⟩)) (by repeat (first | exact trivial | refine ⟨ent_same rfl rfl rfl tL, ?_⟩ | refine ⟨ent_same rfl rfl (rfEq rfl tU) tL, ?_⟩ | refine ⟨ent_same rfl rfl (flEq rfl (by first | (simp; done) | (simp; omega) | (simp [encE, encN, encB, encT, encL, encTr, encAl]; done) | simp [maxC, minC])) trivial, ?_⟩)) (fun _ h => by simp at h) rel_intro
  ·intro i ⟨hi, ho⟩ K hK
   refine nK ?_
   refine s_reg rfl ?_
   refine rp 15 rfl (op_lss rfl (oT rfl) (oT rfl)) ?_
   refine rn ?_
   refine nK ?_
   refine n_cond _ rfl (fun hb => ?_) (fun hb => ?_)
   ·have hlt : i < a.length := by simp at hb; omega
    have hlt2 : i < b.length := by omega
    rw [same_step hlt hlt2] at ho
    have hr1 := row_at' encAl a i hlt
    have hr2 := row_at' encAl b i hlt2
    have hK1 := fun h => hK (i + 1) ⟨by omega, h⟩ (by omega)
    generalize a[i] = x at *
    generalize b[i] = y at *
    refine nK ?_
    refine s_reg rfl ?_
    refine rm 16 rfl rfl rfl ?_
    refine rp 17 rfl (op_idx_fz _ rfl (oT rfl) (oT rfl) tF) ?_
    refine rp 18 rfl (op_loadw_fz rfl (oT rfl) rfl) ?_
    refine Run.eff (dd := some 6) rfl rfl (op_alloc rfl rfl rfl rfl) ?_
    refine ra 5 rfl rfl rfl ?_
    refine Run.eff (dd := none) rfl rfl (op_store_flat rfl (oT rfl) (oT rfl) tC rfl rfl (by first | rfl | assumption) tS) ?_
    refine rn ?_
    refine nK ?_
    refine s_draw mixed ?_
    refine rl 19 rfl (op_loadw_flat rfl (oT rfl) tH rfl) ?_
    refine rm 20 rfl rfl rfl ?_
    refine rm 21 rfl rfl rfl ?_
    refine rp 22 rfl (op_idx_fz _ rfl (oT rfl) (oT rfl) tF) ?_
    refine rp 23 rfl (op_loadw_fz rfl (oT rfl) rfl) ?_
    refine rp 24 rfl (op_neS rfl (oT rfl) (oT rfl) (by kernel_rfl)) ?_
    refine Run.nil (FinD.mk (by kernel_rfl) ?_)
    refine nK ?_
    refine n_cond _ rfl (fun hb => ?_) (fun hb => ?_)
    ·have e : decide (a = b) = false := by
      rw [decide_eq_false_iff_not, ho]
      rintro ⟨rfl, _⟩
      simp [eqFs_encAl] at hb
     rw [e]
     refine nK ?_
     refine s_reg rfl ?_
     refine rp 4 rfl (op_assign rfl oC) ?_
     refine rn ?_
     refine nK ?_
     (first | exact s_o1 hC rfl tV | exact s_o2 hC rfl tV tV | exact s_o3 hC rfl tV tV tV | exact s_out0 hC rfl | exact s_outO hC rfl rfl rfl)
    ·have e : x = y := by simpa [eqFs_encAl] using hb
     refine nK ?_
     refine s_reg rfl ?_
     refine rp 25 rfl (op_add rfl (oT rfl) oC tI) ?_
     refine rm 14 rfl rfl rfl ?_
     refine rn ?_
     refine nK ?_
     refine Next.weak [] [] (by rfl) (keeps0 hC _) (by repeat (first | exact trivial | refine ⟨⟨_, rfl, .inl ⟨rfl, rfl⟩⟩, ?_⟩)) (by repeat (first | exact trivial | refine ⟨ent_same rfl rfl rfl tL, ?_⟩ | refine ⟨ent_same rfl rfl (rfEq rfl tU) tL, ?_⟩ | refine ⟨ent_same rfl rfl (flEq rfl (by first | (simp; done) | (simp; omega) | (simp [encE, encN, encB, encT, encL, encTr, encAl]; done) | simp [maxC, minC])) trivial, ?_⟩)) (fun _ h => by simp at h) (hK1 (by rw [ho]; exact ⟨fun h => h.2, fun h => ⟨e, h⟩⟩))
   ·have hie : i = a.length := by simp at hb; omega
    have e : decide (a = b) = true := by
     rw [decide_eq_true_iff, ho, hie, List.drop_length, hl, List.drop_length]
    rw [e]
    refine nK ?_
    refine s_reg rfl ?_
    refine rp 4 rfl (op_assign rfl oC) ?_
    refine rn ?_
    refine nK ?_
    (first | exact s_o1 hC rfl tV | exact s_o2 hC rfl tV tV | exact s_o3 hC rfl tV tV tV | exact s_out0 hC rfl | exact s_outO hC rfl rfl rfl)
def remG (g : Gr) (s e : Nat) : Int := remL (tabL g (disF g.es g.m)) s (fil (psB (tabL g (disF g.es g.m)) s e (costL s e g.es).1) g.m) (fil (qsB (tabL g (disF g.es g.m)) s e (costL s e g.es).1) g.m)
def remV (g : Gr) (s e : Nat) : Int := if remG g s e < 0 then 0 else remG g s e
theorem nb_lt (b : Int) : (!decide (0 ≤ b)) = decide (b < 0) := by
 by_cases h : b < 0
 ·rw [decide_eq_true h, decide_eq_false (by omega)]; rfl
 ·rw [decide_eq_false h, decide_eq_true (by omega)]; rfl
theorem lrem_bad (g : Gr) (s e : Int) (hok : okG g) (h : linkI g s e ≠ 0) : Pure Tryz.prog 15 [.agg (encG g), If .i64 s, If .i64 e] (.tup [If .i64 0, Bf false, If .i64 (linkI g s e)]) := by
 have hl := llink_bad g s e hok h
 refine Meets.intro Tryz.func15 rfl (Nat.le_of_ble_eq_true rfl) fun C hC => ?_
 simp only [List.map, argEnv, Nat.reduceAdd]
 refine nK ?_
 refine s_reg rfl ?_
 refine Run.eff (dd := some 3) rfl rfl (op_box_flat rfl (oT rfl) tC rfl) ?_
 refine rp 6 rfl (op_assign rfl oC) ?_
 refine rp 7 rfl (op_assign rfl oC) ?_
 refine rp 8 rfl (op_assign rfl oC) ?_
 refine rn ?_
 refine nK ?_
 refine s_reg rfl ?_
 refine rl 20 rfl (op_loadw_flat rfl (oT rfl) tH rfl) ?_
 refine rm 21 rfl rfl rfl ?_
 refine rm 22 rfl rfl rfl ?_
 refine rp 23 rfl (op_call_pure (fun _ => hl) rfl (Opd.func _) (oS (oT rfl) (oS (oT rfl) (oS (oT rfl) Opds.nil)))) ?_
 refine rm 19 rfl rfl rfl ?_
 refine rp 24 rfl (op_extract_fz rfl (oT rfl) rfl) ?_
 refine rp 25 rfl (op_extract_fz rfl (oT rfl) rfl) ?_
 refine rp 26 rfl (op_extract_fz rfl (oT rfl) rfl) ?_
 refine ra 9 rfl rfl rfl ?_
 refine ra 10 rfl rfl rfl ?_
 refine ra 11 rfl rfl rfl ?_
 refine rn ?_
 refine nK ?_
 refine s_reg rfl ?_
 refine rm 27 rfl rfl rfl ?_
 refine rp 28 rfl (op_neq rfl (oT rfl) oC) ?_
 refine rn ?_
 refine nK ?_
 refine n_cond _ rfl (fun hb => ?_) (fun hb => ?_)
 ·refine nK ?_
  refine s_reg rfl ?_
  refine rm 29 rfl rfl rfl ?_
  refine rp 6 rfl (op_assign rfl oC) ?_
  refine rp 7 rfl (op_assign rfl oC) ?_
  refine ra 8 rfl rfl rfl ?_
  refine rn ?_
  refine nK ?_
  (first | exact s_o1 hC rfl tV | exact s_o2 hC rfl tV tV | exact s_o3 hC rfl tV tV tV | exact s_out0 hC rfl | exact s_outO hC rfl rfl rfl)
 ·exfalso; simp at hb; exact h hb
theorem lrem_c (g : Gr) (s e : Nat) (hok : okG g) (h : linkI g s e = 0) : Pure Tryz.prog 15 [.agg (encG g), If .i64 s, If .i64 e] (.tup [If .i64 (remV g s e), Bf (decide (0 ≤ remG g s e)), If .i64 0]) := by
 have hl := llink_c g s e hok h
 have hps := lps_c g s e hok h
 have hqs := lqs_c g s e hok h
 obtain ⟨hp, h1, h2, h3, h4, h5⟩ := linkI_ok h
 obtain ⟨hg, hN⟩ := plainI_ok hp
 have hm := plain_m hN
 have h128 := (dst_of hg).vg.n128
 have htr := fun x (hx : x < g.m) => tab_rows (D := disF g.es g.m) hN hx
 have htg := fun x y (hx : x < g.m) (hy : y < g.m) => tab_get (D := disF g.es g.m) hN hx hy
 have hpm : ∀ y ∈ fil (psB (tabL g (disF g.es g.m)) s e (costL s e g.es).1) g.m, ∃ w : Nat, y = w ∧ w < g.m := fun y hy => by
  obtain ⟨w, h1, h2, _⟩ := fil_mem.1 hy
  exact ⟨w, h1, h2⟩
 have hpl := fil_len (psB (tabL g (disF g.es g.m)) s e (costL s e g.es).1) g.m
 have hql := fil_len (qsB (tabL g (disF g.es g.m)) s e (costL s e g.es).1) g.m
 unfold remV remG
 unfold remL
 generalize fil (psB (tabL g (disF g.es g.m)) s e (costL s e g.es).1) g.m = p at *
 generalize fil (qsB (tabL g (disF g.es g.m)) s e (costL s e g.es).1) g.m = q at *
 generalize disF g.es g.m = D at *
 have hsm : s < g.m := by omega
 have hrs := htr s hsm
 refine Meets.intro Tryz.func15 rfl (Nat.le_of_ble_eq_true rfl) fun C hC => ?_
 simp only [List.map, argEnv, Nat.reduceAdd]
 refine nK ?_
 refine s_reg rfl ?_
 refine Run.eff (dd := some 3) rfl rfl (op_box_flat rfl (oT rfl) tC rfl) ?_
 refine rp 6 rfl (op_assign rfl oC) ?_
 refine rp 7 rfl (op_assign rfl oC) ?_
 refine rp 8 rfl (op_assign rfl oC) ?_
 refine rn ?_
 refine nK ?_
 refine s_reg rfl ?_
 refine rl 20 rfl (op_loadw_flat rfl (oT rfl) tH rfl) ?_
 refine rm 21 rfl rfl rfl ?_
 refine rm 22 rfl rfl rfl ?_
 refine rp 23 rfl (op_call_pure (fun _ => hl) rfl (Opd.func _) (oS (oT rfl) (oS (oT rfl) (oS (oT rfl) Opds.nil)))) ?_
 refine rm 19 rfl rfl rfl ?_
 refine rp 24 rfl (op_extract_fz rfl (oT rfl) rfl) ?_
 refine rp 25 rfl (op_extract_fz rfl (oT rfl) rfl) ?_
 refine rp 26 rfl (op_extract_fz rfl (oT rfl) rfl) ?_
 refine ra 9 rfl rfl rfl ?_
 refine ra 10 rfl rfl rfl ?_
 refine ra 11 rfl rfl rfl ?_
 refine rn ?_
 refine nK ?_
 refine s_reg rfl ?_
 refine rm 27 rfl rfl rfl ?_
 refine rp 28 rfl (op_neq rfl (oT rfl) oC) ?_
 refine rn ?_
 refine nK ?_
 refine n_cond _ rfl (fun hb => ?_) (fun hb => ?_)
 ·exfalso; simp at hb
 ·clear hb
  refine nK ?_
  refine s_reg rfl ?_
  refine rl 31 rfl (op_loadw_flat rfl (oT rfl) tH rfl) ?_
  refine rm 32 rfl rfl rfl ?_
  refine rm 33 rfl rfl rfl ?_
  refine rp 34 rfl (op_call_pure (fun _ => hps) rfl (Opd.func _) (oS (oT rfl) (oS (oT rfl) (oS (oT rfl) Opds.nil)))) ?_
  refine rm 30 rfl rfl rfl ?_
  refine rp 35 rfl (op_extract_fz rfl (oT rfl) rfl) ?_
  refine rp 36 rfl (op_extract_fz rfl (oT rfl) rfl) ?_
  refine ra 12 rfl rfl rfl ?_
  refine ra 13 rfl rfl rfl ?_
  refine rn ?_
  refine nK ?_
  refine s_reg rfl ?_
  refine rl 38 rfl (op_loadw_flat rfl (oT rfl) tH rfl) ?_
  refine rm 39 rfl rfl rfl ?_
  refine rm 40 rfl rfl rfl ?_
  refine rp 41 rfl (op_call_pure (fun _ => hqs) rfl (Opd.func _) (oS (oT rfl) (oS (oT rfl) (oS (oT rfl) Opds.nil)))) ?_
  refine rm 37 rfl rfl rfl ?_
  refine rp 42 rfl (op_extract_fz rfl (oT rfl) rfl) ?_
  refine rp 43 rfl (op_extract_fz rfl (oT rfl) rfl) ?_
  refine ra 14 rfl rfl rfl ?_
  refine ra 15 rfl rfl rfl ?_
  refine rn ?_
  refine nK ?_
  refine s_reg rfl ?_
  refine rp 16 rfl (op_assign rfl oC) ?_
  refine rn ?_
  refine nK ?_
  refine s_reg rfl ?_
  refine rm 44 rfl rfl rfl ?_
  refine rp 45 rfl (op_len_fz rfl (by first | exact Opd.tmp _ _ rfl | exact Opd.nil _ _ (oT rfl)) (by first | exact List.length_map _ | rfl)) ?_
  refine rp 46 rfl (op_move rfl oC) ?_
  refine rn ?_
  refine nK ?_
  refine n_loop (ι := Nat × Int) (fun i => ([(1, IV .i64 s), (9, .fz (VLL (tabL g D))), (14, .fz (VI q)), (16, IV .i64 i.2), (44, .fz (VI p)), (45, IV .i64 p.length), (46, IV .i64 i.1)], [], 0)) (fun i => i.1 ≤ p.length ∧ i.2 = (p.take i.1).foldl (remS (tabL g D) s q) (-1) ∧ (i.2 = -1 ∨ ∃ w : Nat, i.2 = w ∧ w < g.m)) (fun i => p.length - i.1) (0, -1) ⟨Nat.zero_le _, rfl, .inl rfl⟩ ?_ ?_
  ·refine Next.weak [] [] (by rfl) (keepsN hC _ rfl) (H' := []) (by repeat (first | exact trivial | refine ⟨⟨_, rfl, .inl ⟨rfl, rfl⟩⟩, ?_⟩ | refine ⟨⟨_, rfl, .inl ⟨ivEq (by rw [List.length_map]), rfl⟩⟩, ?_⟩)) trivial (fun _ h => by simp at h) rel_intro
  ·intro ⟨i, b⟩ ⟨hi, hb0, hbw⟩ K hK
   dsimp only at hi hb0 hbw hK ⊢
   refine nK ?_
   refine s_reg rfl ?_
   refine rp 47 rfl (op_lss rfl (oT rfl) (oT rfl)) ?_
   refine rn ?_
   refine nK ?_
   refine n_cond _ rfl (fun hb => ?_) (fun hb => ?_)
   ·have hlt : i < p.length := by have := of_decide_eq_true hb; omega
    have hri := row_at' encN p i hlt
    obtain ⟨w, hw, hwm⟩ := hpm _ (List.getElem_mem hlt)
    have hK1 := fun b' h1 h2 => hK (i + 1, b') ⟨by dsimp only; omega, h1, h2⟩ (by dsimp only; omega)
    dsimp only at hK1
    rw [foldl_take_succ _ _ _ _ hlt, ← hb0] at hK1
    clear hK hb
    rw [hw] at hri hK1
    have hgw := htg s w hsm hwm
    have hrw := row_row g.m (D s) hwm
    have hbrow : ¬ b < 0 → b = ((b.toNat : Nat) : Int) ∧ b.toNat < g.m := fun hb => by
     rcases hbw with h | ⟨w', h, h'⟩
     ·omega
     ·omega
    have hct := containsi_c q w (by omega)
    have hst : remS (tabL g D) s q b w = if (decide ((w : Int) ≠ (s : Int)) && decide ((w : Int) ∈ q) && (decide (b < 0) || decide (D s w < gt0 (rowAt' (tabL g D) s) b.toNat))) = true then (w : Int) else b := by
     unfold remS
     rw [Int.toNat_natCast, hgw]
    have hgb := fun (h : ¬ b < 0) => htg s b.toNat hsm (hbrow h).2
    have hrb := fun (h : ¬ b < 0) => row_row g.m (D s) (hbrow h).2
    have hst2 : remS (tabL g D) s q b w = if (decide ((w : Int) ≠ (s : Int)) && decide ((w : Int) ∈ q) && (decide (b < 0) || decide (D s w < D s b.toNat))) = true then (w : Int) else b := by
     rw [hst]
     by_cases h : b < 0
     ·simp [h]
     ·rw [hgb h]
    rw [hst2] at hK1
    clear hst hst2
    refine nK ?_
    refine s_reg rfl ?_
    refine rp 48 rfl (op_idx_fz i rfl (oT rfl) (oT rfl) (by intro _; exact ⟨rfl, hri⟩)) ?_
    refine rp 49 rfl (op_load1_fz rfl (oT rfl) rfl) ?_
    refine ra 18 rfl rfl rfl ?_
    refine rn ?_
    refine nK ?_
    refine s_draw mixed ?_
    refine rm 50 rfl rfl rfl ?_
    refine rm 51 rfl rfl rfl ?_
    refine rp 52 rfl (op_neq rfl (oT rfl) (oT rfl)) ?_
    refine rm 53 rfl rfl rfl ?_
    refine gm 54 rfl rfl tG rfl rfl ?_
    refine gm 55 rfl rfl tG rfl rfl ?_
    refine rg 56 rfl rfl tG (op_call_pure (fun _ => hct) rfl (Opd.func _) (oS (oO rfl tO) (oS (oO rfl tO) Opds.nil))) ?_
    refine rp 57 rfl (op_pick_and rfl (oT rfl) (oO rfl tO)) ?_
    refine rm 58 rfl rfl rfl ?_
    refine gm 59 rfl rfl tG rfl rfl ?_
    refine rg 60 rfl rfl tG (op_lss rfl (oO rfl tO) oC) ?_
    refine rg 61 rfl rfl tG (op_move rfl (oO rfl tO)) ?_
    refine gm 62 rfl rfl tG rfl rfl ?_
    refine gm 63 rfl rfl tG rfl rfl ?_
    refine rg 64 rfl rfl tG (op_idx_fz s rfl (oO rfl tO) (oO rfl tO) (by intro _; exact ⟨rfl, hrs⟩)) ?_
    refine rg 65 rfl rfl tG (op_load1_fz rfl (oO rfl tO) rfl) ?_
    refine gm 66 rfl rfl tG rfl rfl ?_
    refine rg 67 rfl rfl tG (op_idx_fz w rfl (oO rfl tO) (oO rfl tO) (by intro _; exact ⟨rfl, hrw⟩)) ?_
    refine rg 68 rfl rfl tG (op_load1_fz rfl (oO rfl tO) rfl) ?_
    refine gm 69 rfl rfl tG rfl rfl ?_
    refine gm 70 rfl rfl tG rfl rfl ?_
    refine rg 71 rfl rfl tG (op_idx_fz s rfl (oO rfl tO) (oO rfl tO) (by intro _; exact ⟨rfl, hrs⟩)) ?_
    refine rg 72 rfl rfl tG (op_load1_fz rfl (oO rfl tO) rfl) ?_
    refine gm 73 rfl rfl tG rfl rfl ?_
    refine rg 74 rfl rfl tG (op_idx_fz b.toNat rfl (oO rfl tO) (oO rfl tO) (by intro hgd; have h6 : ¬ b < 0 := (by simp at hgd; omega); exact ⟨(hbrow h6).1, hrb h6⟩)) ?_
    refine rg 75 rfl rfl tG (op_load1_fz rfl (oO rfl tO) rfl) ?_
    refine rg 76 rfl rfl tG (op_lss rfl (oO rfl tO) (oO rfl tO)) ?_
    refine rg 77 rfl rfl tG (op_pick_or rfl (oO rfl tO) (oO rfl tO)) ?_
    refine rp 78 rfl (op_pick_and rfl (oT rfl) (oO rfl tO)) ?_
    refine Run.nil (FinD.mk (by kernel_rfl) ?_)
    refine nK ?_
    refine n_cond _ rfl (fun hb => ?_) (fun hb => ?_)
    ·rw [if_pos (hb)] at hK1
     have hK2 := hK1 w rfl (.inr ⟨w, rfl, hwm⟩)
     refine nK ?_
     refine s_reg rfl ?_
     refine rm 79 rfl rfl rfl ?_
     refine ra 16 rfl rfl rfl ?_
     refine rn ?_
     refine nK ?_
     refine s_reg rfl ?_
     refine rp 80 rfl (op_add rfl (oT rfl) oC tI) ?_
     refine rm 46 rfl rfl rfl ?_
     refine rn ?_
     refine nK ?_
     refine Next.weak [] [] (by rfl) (keepsN hC _ rfl) (H' := []) (by repeat (first | exact trivial | refine ⟨⟨_, rfl, .inl ⟨rfl, rfl⟩⟩, ?_⟩ | refine ⟨⟨_, rfl, .inl ⟨slEq rfl tN, rfl⟩⟩, ?_⟩ | refine ⟨⟨_, rfl, .inl ⟨ivEq tX, rfl⟩⟩, ?_⟩)) trivial (fun _ h => by simp at h) hK2
    ·rw [if_neg (by rw [hb]; simp)] at hK1
     refine nK ?_
     refine s_reg rfl ?_
     refine rp 80 rfl (op_add rfl (oT rfl) oC tI) ?_
     refine rm 46 rfl rfl rfl ?_
     refine rn ?_
     refine nK ?_
     refine Next.weak [] [] (by rfl) (keepsN hC _ rfl) (H' := []) (by repeat (first | exact trivial | refine ⟨⟨_, rfl, .inl ⟨rfl, rfl⟩⟩, ?_⟩ | refine ⟨⟨_, rfl, .inl ⟨slEq rfl tN, rfl⟩⟩, ?_⟩ | refine ⟨⟨_, rfl, .inl ⟨ivEq tX, rfl⟩⟩, ?_⟩)) trivial (fun _ h => by simp at h) (hK1 b rfl hbw)
   ·have hie : i = p.length := by have := of_decide_eq_false hb; omega
    subst hie
    rw [List.take_length] at hb0
    rw [← hb0]
    clear hb
    refine nK ?_
    refine s_reg rfl ?_
    refine rm 81 rfl rfl rfl ?_
    refine rp 82 rfl (op_lss rfl (oT rfl) oC) ?_
    refine rn ?_
    refine nK ?_
    refine n_cond _ rfl (fun hb => ?_) (fun hb => ?_)
    ·have h : b < 0 := by simpa using hb
     rw [if_pos h, show decide (0 ≤ b) = false from decide_eq_false (by omega)]
     refine nK ?_
     refine s_reg rfl ?_
     refine rp 6 rfl (op_assign rfl oC) ?_
     refine rp 7 rfl (op_assign rfl oC) ?_
     refine rp 8 rfl (op_assign rfl oC) ?_
     refine rn ?_
     refine nK ?_
     (first | exact s_o1 hC rfl tV | exact s_o2 hC rfl tV tV | exact s_o3 hC rfl tV tV tV | exact s_out0 hC rfl | exact s_outO hC rfl rfl rfl)
    ·have h : ¬ b < 0 := by simpa using hb
     rw [if_neg h, show decide (0 ≤ b) = true from decide_eq_true (by omega)]
     refine nK ?_
     refine s_reg rfl ?_
     refine rm 83 rfl rfl rfl ?_
     refine ra 6 rfl rfl rfl ?_
     refine rp 7 rfl (op_assign rfl oC) ?_
     refine rp 8 rfl (op_assign rfl oC) ?_
     refine rn ?_
     refine nK ?_
     (first | exact s_o1 hC rfl tV | exact s_o2 hC rfl tV tV | exact s_o3 hC rfl tV tV tV | exact s_out0 hC rfl | exact s_outO hC rfl rfl rfl)
theorem rrem_bad (g : Gr) (s e : Int) (hok : okG g) (h : linkI g s e ≠ 0) : Pure Tryz.prog 18 [.agg (encG g), If .i64 s, If .i64 e] (.tup [If .i64 0, Bf false, If .i64 (linkI g s e)]) := by
 have hl := rlink_bad g s e hok h
 refine Meets.intro Tryz.func18 rfl (Nat.le_of_ble_eq_true rfl) fun C hC => ?_
 simp only [List.map, argEnv, Nat.reduceAdd]
 refine nK ?_
 refine s_reg rfl ?_
 refine Run.eff (dd := some 3) rfl rfl (op_box_flat rfl (oT rfl) tC rfl) ?_
 refine rp 6 rfl (op_assign rfl oC) ?_
 refine rp 7 rfl (op_assign rfl oC) ?_
 refine rp 8 rfl (op_assign rfl oC) ?_
 refine rn ?_
 refine nK ?_
 refine s_reg rfl ?_
 refine rl 21 rfl (op_loadw_flat rfl (oT rfl) tH rfl) ?_
 refine rm 22 rfl rfl rfl ?_
 refine rm 23 rfl rfl rfl ?_
 refine rp 24 rfl (op_call_pure (fun _ => hl) rfl (Opd.func _) (oS (oT rfl) (oS (oT rfl) (oS (oT rfl) Opds.nil)))) ?_
 refine rm 20 rfl rfl rfl ?_
 refine rp 25 rfl (op_extract_fz rfl (oT rfl) rfl) ?_
 refine rp 26 rfl (op_extract_fz rfl (oT rfl) rfl) ?_
 refine rp 27 rfl (op_extract_fz rfl (oT rfl) rfl) ?_
 refine ra 9 rfl rfl rfl ?_
 refine ra 10 rfl rfl rfl ?_
 refine ra 11 rfl rfl rfl ?_
 refine rn ?_
 refine nK ?_
 refine s_reg rfl ?_
 refine rm 28 rfl rfl rfl ?_
 refine rp 29 rfl (op_neq rfl (oT rfl) oC) ?_
 refine rn ?_
 refine nK ?_
 refine n_cond _ rfl (fun hb => ?_) (fun hb => ?_)
 ·refine nK ?_
  refine s_reg rfl ?_
  refine rm 30 rfl rfl rfl ?_
  refine rp 6 rfl (op_assign rfl oC) ?_
  refine rp 7 rfl (op_assign rfl oC) ?_
  refine ra 8 rfl rfl rfl ?_
  refine rn ?_
  refine nK ?_
  (first | exact s_o1 hC rfl tV | exact s_o2 hC rfl tV tV | exact s_o3 hC rfl tV tV tV | exact s_out0 hC rfl | exact s_outO hC rfl rfl rfl)
 ·exfalso; simp at hb; exact h hb
theorem rrem_c (g : Gr) (s e : Nat) (hok : okG g) (h : linkI g s e = 0) : Pure Tryz.prog 18 [.agg (encG g), If .i64 s, If .i64 e] (.tup [If .i64 (remV g s e), Bf (decide (0 ≤ remG g s e)), If .i64 0]) := by
 have hl := rlink_c g s e hok h
 have hps := rps_c g s e hok h
 have hqs := rqs_c g s e hok h
 obtain ⟨hp, h1, h2, h3, h4, h5⟩ := linkI_ok h
 obtain ⟨hg, hN⟩ := plainI_ok hp
 have hm := plain_m hN
 have h128 := (dst_of hg).vg.n128
 have htr := fun x (hx : x < g.m) => tab_rows (D := disF g.es g.m) hN hx
 have htg := fun x y (hx : x < g.m) (hy : y < g.m) => tab_get (D := disF g.es g.m) hN hx hy
 have hpm : ∀ y ∈ fil (psB (tabL g (disF g.es g.m)) s e (costL s e g.es).1) g.m, ∃ w : Nat, y = w ∧ w < g.m := fun y hy => by
  obtain ⟨w, h1, h2, _⟩ := fil_mem.1 hy
  exact ⟨w, h1, h2⟩
 have hpl := fil_len (psB (tabL g (disF g.es g.m)) s e (costL s e g.es).1) g.m
 have hql := fil_len (qsB (tabL g (disF g.es g.m)) s e (costL s e g.es).1) g.m
 unfold remV remG
 unfold remL
 generalize fil (psB (tabL g (disF g.es g.m)) s e (costL s e g.es).1) g.m = p at *
 generalize fil (qsB (tabL g (disF g.es g.m)) s e (costL s e g.es).1) g.m = q at *
 generalize disF g.es g.m = D at *
 have hsm : s < g.m := by omega
 have hrs := htr s hsm
 refine Meets.intro Tryz.func18 rfl (Nat.le_of_ble_eq_true rfl) fun C hC => ?_
 simp only [List.map, argEnv, Nat.reduceAdd]
 refine nK ?_
 refine s_reg rfl ?_
 refine Run.eff (dd := some 3) rfl rfl (op_box_flat rfl (oT rfl) tC rfl) ?_
 refine rp 6 rfl (op_assign rfl oC) ?_
 refine rp 7 rfl (op_assign rfl oC) ?_
 refine rp 8 rfl (op_assign rfl oC) ?_
 refine rn ?_
 refine nK ?_
 refine s_reg rfl ?_
 refine rl 21 rfl (op_loadw_flat rfl (oT rfl) tH rfl) ?_
 refine rm 22 rfl rfl rfl ?_
 refine rm 23 rfl rfl rfl ?_
 refine rp 24 rfl (op_call_pure (fun _ => hl) rfl (Opd.func _) (oS (oT rfl) (oS (oT rfl) (oS (oT rfl) Opds.nil)))) ?_
 refine rm 20 rfl rfl rfl ?_
 refine rp 25 rfl (op_extract_fz rfl (oT rfl) rfl) ?_
 refine rp 26 rfl (op_extract_fz rfl (oT rfl) rfl) ?_
 refine rp 27 rfl (op_extract_fz rfl (oT rfl) rfl) ?_
 refine ra 9 rfl rfl rfl ?_
 refine ra 10 rfl rfl rfl ?_
 refine ra 11 rfl rfl rfl ?_
 refine rn ?_
 refine nK ?_
 refine s_reg rfl ?_
 refine rm 28 rfl rfl rfl ?_
 refine rp 29 rfl (op_neq rfl (oT rfl) oC) ?_
 refine rn ?_
 refine nK ?_
 refine n_cond _ rfl (fun hb => ?_) (fun hb => ?_)
 ·exfalso; simp at hb
 ·clear hb
  refine nK ?_
  refine s_reg rfl ?_
  refine rl 32 rfl (op_loadw_flat rfl (oT rfl) tH rfl) ?_
  refine rm 33 rfl rfl rfl ?_
  refine rm 34 rfl rfl rfl ?_
  refine rp 35 rfl (op_call_pure (fun _ => hps) rfl (Opd.func _) (oS (oT rfl) (oS (oT rfl) (oS (oT rfl) Opds.nil)))) ?_
  refine rm 31 rfl rfl rfl ?_
  refine rp 36 rfl (op_extract_fz rfl (oT rfl) rfl) ?_
  refine rp 37 rfl (op_extract_fz rfl (oT rfl) rfl) ?_
  refine ra 12 rfl rfl rfl ?_
  refine ra 13 rfl rfl rfl ?_
  refine rn ?_
  refine nK ?_
  refine s_reg rfl ?_
  refine rl 39 rfl (op_loadw_flat rfl (oT rfl) tH rfl) ?_
  refine rm 40 rfl rfl rfl ?_
  refine rm 41 rfl rfl rfl ?_
  refine rp 42 rfl (op_call_pure (fun _ => hqs) rfl (Opd.func _) (oS (oT rfl) (oS (oT rfl) (oS (oT rfl) Opds.nil)))) ?_
  refine rm 38 rfl rfl rfl ?_
  refine rp 43 rfl (op_extract_fz rfl (oT rfl) rfl) ?_
  refine rp 44 rfl (op_extract_fz rfl (oT rfl) rfl) ?_
  refine ra 14 rfl rfl rfl ?_
  refine ra 15 rfl rfl rfl ?_
  refine rn ?_
  refine nK ?_
  refine s_reg rfl ?_
  refine rp 16 rfl (op_assign rfl oC) ?_
  refine rp 17 rfl (op_assign rfl oC) ?_
  refine rn ?_
  refine nK ?_
  refine s_reg rfl ?_
  refine rm 45 rfl rfl rfl ?_
  refine rp 46 rfl (op_len_fz rfl (by first | exact Opd.tmp _ _ rfl | exact Opd.nil _ _ (oT rfl)) (by first | exact List.length_map _ | rfl)) ?_
  refine rp 47 rfl (op_move rfl oC) ?_
  refine rn ?_
  refine nK ?_
  refine n_loop (ι := Nat × Int) (fun i => ([(1, IV .i64 s), (10, .fz (VLL (tabL g D))), (14, .fz (VI q)), (16, IV .i64 (if i.2 < 0 then 0 else i.2)), (17, BV (decide (0 ≤ i.2))), (45, .fz (VI p)), (46, IV .i64 p.length), (47, IV .i64 i.1)], [], 0)) (fun i => i.1 ≤ p.length ∧ i.2 = (p.take i.1).foldl (remS (tabL g D) s q) (-1) ∧ (i.2 = -1 ∨ ∃ w : Nat, i.2 = w ∧ w < g.m)) (fun i => p.length - i.1) (0, -1) ⟨Nat.zero_le _, rfl, .inl rfl⟩ ?_ ?_
  ·refine Next.weak [] [] (by rfl) (keepsN hC _ rfl) (H' := []) (by repeat (first | exact trivial | refine ⟨⟨_, rfl, .inl ⟨rfl, rfl⟩⟩, ?_⟩ | refine ⟨⟨_, rfl, .inl ⟨ivEq (by rw [List.length_map]), rfl⟩⟩, ?_⟩)) trivial (fun _ h => by simp at h) rel_intro
  ·intro ⟨i, b⟩ ⟨hi, hb0, hbw⟩ K hK
   dsimp only at hi hb0 hbw hK ⊢
   refine nK ?_
   refine s_reg rfl ?_
   refine rp 48 rfl (op_lss rfl (oT rfl) (oT rfl)) ?_
   refine rn ?_
   refine nK ?_
   refine n_cond _ rfl (fun hb => ?_) (fun hb => ?_)
   ·have hlt : i < p.length := by have := of_decide_eq_true hb; omega
    have hri := row_at' encN p i hlt
    obtain ⟨w, hw, hwm⟩ := hpm _ (List.getElem_mem hlt)
    have hK1 := fun b' h1 h2 => hK (i + 1, b') ⟨by dsimp only; omega, h1, h2⟩ (by dsimp only; omega)
    dsimp only at hK1
    rw [foldl_take_succ _ _ _ _ hlt, ← hb0] at hK1
    clear hK hb
    rw [hw] at hri hK1
    have hgw := htg s w hsm hwm
    have hrw := row_row g.m (D s) hwm
    have hbrow : ¬ b < 0 → b = ((b.toNat : Nat) : Int) ∧ b.toNat < g.m := fun hb => by
     rcases hbw with h | ⟨w', h, h'⟩
     ·omega
     ·omega
    have hct := hasint_c q w (by omega)
    have hst : remS (tabL g D) s q b w = if (decide ((w : Int) ≠ (s : Int)) && decide ((w : Int) ∈ q) && (decide (b < 0) || decide (D s w < gt0 (rowAt' (tabL g D) s) b.toNat))) = true then (w : Int) else b := by
     unfold remS
     rw [Int.toNat_natCast, hgw]
    have hgb := fun (h : ¬ b < 0) => htg s b.toNat hsm (hbrow h).2
    have hrb := fun (h : ¬ b < 0) => row_row g.m (D s) (hbrow h).2
    have hst2 : remS (tabL g D) s q b w = if (decide ((w : Int) ≠ (s : Int)) && decide ((w : Int) ∈ q) && (decide (b < 0) || decide (D s w < D s b.toNat))) = true then (w : Int) else b := by
     rw [hst]
     by_cases h : b < 0
     ·simp [h]
     ·rw [hgb h]
    rw [hst2] at hK1
    clear hst hst2
    refine nK ?_
    refine s_reg rfl ?_
    refine rp 49 rfl (op_idx_fz i rfl (oT rfl) (oT rfl) (by intro _; exact ⟨rfl, hri⟩)) ?_
    refine rp 50 rfl (op_load1_fz rfl (oT rfl) rfl) ?_
    refine ra 19 rfl rfl rfl ?_
    refine rn ?_
    refine nK ?_
    refine s_draw mixed ?_
    refine rm 51 rfl rfl rfl ?_
    refine rm 52 rfl rfl rfl ?_
    refine rp 53 rfl (op_neq rfl (oT rfl) (oT rfl)) ?_
    refine rm 54 rfl rfl rfl ?_
    refine gm 55 rfl rfl tG rfl rfl ?_
    refine gm 56 rfl rfl tG rfl rfl ?_
    refine rg 57 rfl rfl tG (op_call_pure (fun _ => hct) rfl (Opd.func _) (oS (oO rfl tO) (oS (oO rfl tO) Opds.nil))) ?_
    refine rp 58 rfl (op_pick_and rfl (oT rfl) (oO rfl tO)) ?_
    refine rm 59 rfl rfl rfl ?_
    refine gm 60 rfl rfl tG rfl rfl ?_
    refine rg 61 rfl rfl tG (op_not rfl (oO rfl tO)) ?_
    refine rg 62 rfl rfl tG (op_move rfl (oO rfl tO)) ?_
    refine gm 63 rfl rfl tG rfl rfl ?_
    refine gm 64 rfl rfl tG rfl rfl ?_
    refine rg 65 rfl rfl tG (op_idx_fz s rfl (oO rfl tO) (oO rfl tO) (by intro _; exact ⟨rfl, hrs⟩)) ?_
    refine rg 66 rfl rfl tG (op_load1_fz rfl (oO rfl tO) rfl) ?_
    refine gm 67 rfl rfl tG rfl rfl ?_
    refine rg 68 rfl rfl tG (op_idx_fz w rfl (oO rfl tO) (oO rfl tO) (by intro _; exact ⟨rfl, hrw⟩)) ?_
    refine rg 69 rfl rfl tG (op_load1_fz rfl (oO rfl tO) rfl) ?_
    refine gm 70 rfl rfl tG rfl rfl ?_
    refine gm 71 rfl rfl tG rfl rfl ?_
    refine rg 72 rfl rfl tG (op_idx_fz s rfl (oO rfl tO) (oO rfl tO) (by intro _; exact ⟨rfl, hrs⟩)) ?_
    refine rg 73 rfl rfl tG (op_load1_fz rfl (oO rfl tO) rfl) ?_
    refine gm 74 rfl rfl tG rfl rfl ?_
    refine rg 75 rfl rfl tG (op_idx_fz b.toNat rfl (oO rfl tO) (oO rfl tO) (by intro hgd; have h6 : ¬ b < 0 := (by simp at hgd; omega); exact ⟨(if_neg h6).trans (hbrow h6).1, hrb h6⟩)) ?_
    refine rg 76 rfl rfl tG (op_load1_fz rfl (oO rfl tO) rfl) ?_
    refine rg 77 rfl rfl tG (op_lss rfl (oO rfl tO) (oO rfl tO)) ?_
    refine rg 78 rfl rfl tG (op_pick_or rfl (oO rfl tO) (oO rfl tO)) ?_
    refine rp 79 rfl (op_pick_and rfl (oT rfl) (oO rfl tO)) ?_
    refine Run.nil (FinD.mk (by kernel_rfl) ?_)
    refine nK ?_
    refine n_cond _ rfl (fun hb => ?_) (fun hb => ?_)
    ·rw [if_pos (by rw [nb_lt] at hb; exact hb)] at hK1
     have hK2 := hK1 w rfl (.inr ⟨w, rfl, hwm⟩)
     rw [if_neg (by omega : ¬ (w : Int) < 0), decide_eq_true (by omega : 0 ≤ (w : Int))] at hK2
     refine nK ?_
     refine s_reg rfl ?_
     refine rm 80 rfl rfl rfl ?_
     refine ra 16 rfl rfl rfl ?_
     refine rp 17 rfl (op_assign rfl oC) ?_
     refine rn ?_
     refine nK ?_
     refine s_reg rfl ?_
     refine rp 81 rfl (op_add rfl (oT rfl) oC tI) ?_
     refine rm 47 rfl rfl rfl ?_
     refine rn ?_
     refine nK ?_
     refine Next.weak [] [] (by rfl) (keepsN hC _ rfl) (H' := []) (by repeat (first | exact trivial | refine ⟨⟨_, rfl, .inl ⟨rfl, rfl⟩⟩, ?_⟩ | refine ⟨⟨_, rfl, .inl ⟨slEq rfl tN, rfl⟩⟩, ?_⟩ | refine ⟨⟨_, rfl, .inl ⟨ivEq tX, rfl⟩⟩, ?_⟩)) trivial (fun _ h => by simp at h) hK2
    ·rw [if_neg (by rw [nb_lt] at hb; rw [hb]; simp)] at hK1
     refine nK ?_
     refine s_reg rfl ?_
     refine rp 81 rfl (op_add rfl (oT rfl) oC tI) ?_
     refine rm 47 rfl rfl rfl ?_
     refine rn ?_
     refine nK ?_
     refine Next.weak [] [] (by rfl) (keepsN hC _ rfl) (H' := []) (by repeat (first | exact trivial | refine ⟨⟨_, rfl, .inl ⟨rfl, rfl⟩⟩, ?_⟩ | refine ⟨⟨_, rfl, .inl ⟨slEq rfl tN, rfl⟩⟩, ?_⟩ | refine ⟨⟨_, rfl, .inl ⟨ivEq tX, rfl⟩⟩, ?_⟩)) trivial (fun _ h => by simp at h) (hK1 b rfl hbw)
   ·have hie : i = p.length := by have := of_decide_eq_false hb; omega
    subst hie
    rw [List.take_length] at hb0
    rw [← hb0]
    clear hb
    refine nK ?_
    refine s_reg rfl ?_
    refine rm 82 rfl rfl rfl ?_
    refine rm 83 rfl rfl rfl ?_
    refine ra 6 rfl rfl rfl ?_
    refine ra 7 rfl rfl rfl ?_
    refine rp 8 rfl (op_assign rfl oC) ?_
    refine rn ?_
    refine nK ?_
    (first | exact s_o1 hC rfl tV | exact s_o2 hC rfl tV tV | exact s_o3 hC rfl tV tV tV | exact s_out0 hC rfl | exact s_outO hC rfl rfl rfl)
theorem srunT (g : Gr) (y : Nat) (hok : okG g) (hg : checkI g = 0) (hy : (y : Int) < g.r) : Pure Tryz.prog 30 [.agg (encG g), If .i64 y] (.tup [.agg (encTr (refT g (disF g.es g.m) y)), If .i64 0]) := by
 obtain ⟨t, ht⟩ := run_exists hg hy
 rw [← ht.refT (dst_of hg)]
 exact run_c g y t hok ht
def walkV (g : Gr) (x z : Nat) (a b : Int) : List Int × Bool := walkL (fun x => hopR g (disF g.es g.m) x z) z a b ((disF g.es g.m x z).toNat + 1) x [(x : Int)]
theorem lwalk_bad (g : Gr) (x z a b : Int) (hok : okG g) (h : ¬ (plainI g = 0 ∧ 0 ≤ x ∧ x < g.r ∧ 0 ≤ z ∧ z < g.r)) : Pure Tryz.prog 24 [.agg (encG g), If .i64 x, If .i64 z, If .i64 a, If .i64 b] (.tup [VI [], Bf false]) := by
 refine Meets.intro Tryz.func24 rfl (Nat.le_of_ble_eq_true rfl) fun C hC => ?_
 simp only [List.map, argEnv, Nat.reduceAdd]
 refine nK ?_
 refine s_reg rfl ?_
 refine Run.eff (dd := some 5) rfl rfl (op_box_flat rfl (oT rfl) tC rfl) ?_
 refine rp 10 rfl (op_assign rfl oC) ?_
 refine rp 11 rfl (op_assign rfl oC) ?_
 refine rn ?_
 refine nK ?_
 refine s_reg rfl ?_
 refine rl 17 rfl (op_loadw_flat rfl (oT rfl) tH rfl) ?_
 refine rp 18 rfl (op_call_pure (fun _ => lplain_c _ (by assumption)) rfl (Opd.func _) (oS (oT rfl) Opds.nil)) ?_
 refine rp 19 rfl (op_neq rfl (oT rfl) oC) ?_
 refine rm 20 rfl rfl rfl ?_
 refine gm 21 rfl rfl tG rfl rfl ?_
 refine rg 22 rfl rfl tG (op_lss rfl (oO rfl tO) oC) ?_
 refine rp 23 rfl (op_pick_or rfl (oT rfl) (oO rfl tO)) ?_
 refine rm 24 rfl rfl rfl ?_
 refine gm 25 rfl rfl tG rfl rfl ?_
 refine rg 26 rfl rfl tG (op_fld_ptr (by decide) rfl (oT rfl)) ?_
 refine rk 27 rfl rfl tG (op_load1_flat rfl (oO rfl tO) tH rfl) ?_
 refine rg 28 rfl rfl tG (op_geq rfl (oO rfl tO) (oO rfl tO)) ?_
 refine rp 29 rfl (op_pick_or rfl (oT rfl) (oO rfl tO)) ?_
 refine rm 30 rfl rfl rfl ?_
 refine gm 31 rfl rfl tG rfl rfl ?_
 refine rg 32 rfl rfl tG (op_lss rfl (oO rfl tO) oC) ?_
 refine rp 33 rfl (op_pick_or rfl (oT rfl) (oO rfl tO)) ?_
 refine rm 34 rfl rfl rfl ?_
 refine gm 35 rfl rfl tG rfl rfl ?_
 refine rg 36 rfl rfl tG (op_fld_ptr (by decide) rfl (oT rfl)) ?_
 refine rk 37 rfl rfl tG (op_load1_flat rfl (oO rfl tO) tH rfl) ?_
 refine rg 38 rfl rfl tG (op_geq rfl (oO rfl tO) (oO rfl tO)) ?_
 refine rp 39 rfl (op_pick_or rfl (oT rfl) (oO rfl tO)) ?_
 refine rn ?_
 refine nK ?_
 refine n_cond _ rfl (fun hb => ?_) (fun hb => ?_)
 ·refine nK ?_
  refine s_reg rfl ?_
  refine rp 10 rfl (op_assign rfl oC) ?_
  refine rp 11 rfl (op_assign rfl oC) ?_
  refine rn ?_
  refine nK ?_
  refine Next.weakS [] [] (by rfl) (keeps0 hC _) (G' := [(10, .fz (VI [])), (11, .fz (Bf false))]) (H' := []) (by repeat (first | exact trivial | refine ⟨⟨_, rfl, .inl ⟨rfl, rfl⟩⟩, ?_⟩ | refine ⟨⟨_, rfl, .inl ⟨slEq rfl tN, rfl⟩⟩, ?_⟩ | refine ⟨⟨_, rfl, .inl ⟨ivEq tX, rfl⟩⟩, ?_⟩ | refine ⟨⟨_, rfl, .inr ⟨_, rfl, tW⟩⟩, ?_⟩)) trivial rfl ?_
  (first | exact s_o1 hC rfl tV | exact s_o2 hC rfl tV tV | exact s_o3 hC rfl tV tV tV | exact s_out0 hC rfl | exact s_outO hC rfl rfl rfl)
 ·exfalso
  simp only [Bool.or_eq_false_iff, decide_eq_false_iff_not, ne_eq, Decidable.not_not] at hb
  exact h (by omega)
theorem lwalk_c (g : Gr) (x z : Nat) (a b : Int) (hok : okG g) (hp : plainI g = 0) (hx : (x : Int) < g.r) (hz : (z : Int) < g.r) : Pure Tryz.prog 24 [.agg (encG g), If .i64 x, If .i64 z, If .i64 a, If .i64 b] (.tup [VI (walkV g x z a b).1, Bf (walkV g x z a b).2]) := by
 obtain ⟨hg, hN⟩ := plainI_ok hp
 have d := dst_of hg
 have hm := plain_m hN
 have hr0 := d.r0
 have hrun := fun (y : Nat) (hy : (y : Int) < g.r) => srunT g y hok hg hy
 have hsp := fun (y : Nat) (hy : y < g.m) (h : Int) hh => hop_spec d hN (x := y) (z := z) hy (by omega) (h := h) hh
 have hbd := d.bnd (i := x) (k := z) (by omega) (by omega)
 unfold walkV
 have hrz : ∀ y, ((refT g (disF g.es g.m) y).hops.map encL)[z]? = some [VI (hopR g (disF g.es g.m) y z)] := fun y => by
  simp [refT, encL, (by omega : z < g.m)]
 generalize disF g.es g.m = D at *
 have hzm : z < g.m := by omega
 generalize hW : walkL (fun x => hopR g D x z) z a b ((D x z).toNat + 1) x [(x : Int)] = W at *
 refine Meets.intro Tryz.func24 rfl (Nat.le_of_ble_eq_true rfl) fun C hC => ?_
 simp only [List.map, argEnv, Nat.reduceAdd]
 refine nK ?_
 refine s_reg rfl ?_
 refine Run.eff (dd := some 5) rfl rfl (op_box_flat rfl (oT rfl) tC rfl) ?_
 refine rp 10 rfl (op_assign rfl oC) ?_
 refine rp 11 rfl (op_assign rfl oC) ?_
 refine rn ?_
 refine nK ?_
 refine s_reg rfl ?_
 refine rl 17 rfl (op_loadw_flat rfl (oT rfl) tH rfl) ?_
 refine rp 18 rfl (op_call_pure (fun _ => lplain_c _ (by assumption)) rfl (Opd.func _) (oS (oT rfl) Opds.nil)) ?_
 refine rp 19 rfl (op_neq rfl (oT rfl) oC) ?_
 refine rm 20 rfl rfl rfl ?_
 refine gm 21 rfl rfl tG rfl rfl ?_
 refine rg 22 rfl rfl tG (op_lss rfl (oO rfl tO) oC) ?_
 refine rp 23 rfl (op_pick_or rfl (oT rfl) (oO rfl tO)) ?_
 refine rm 24 rfl rfl rfl ?_
 refine gm 25 rfl rfl tG rfl rfl ?_
 refine rg 26 rfl rfl tG (op_fld_ptr (by decide) rfl (oT rfl)) ?_
 refine rk 27 rfl rfl tG (op_load1_flat rfl (oO rfl tO) tH rfl) ?_
 refine rg 28 rfl rfl tG (op_geq rfl (oO rfl tO) (oO rfl tO)) ?_
 refine rp 29 rfl (op_pick_or rfl (oT rfl) (oO rfl tO)) ?_
 refine rm 30 rfl rfl rfl ?_
 refine gm 31 rfl rfl tG rfl rfl ?_
 refine rg 32 rfl rfl tG (op_lss rfl (oO rfl tO) oC) ?_
 refine rp 33 rfl (op_pick_or rfl (oT rfl) (oO rfl tO)) ?_
 refine rm 34 rfl rfl rfl ?_
 refine gm 35 rfl rfl tG rfl rfl ?_
 refine rg 36 rfl rfl tG (op_fld_ptr (by decide) rfl (oT rfl)) ?_
 refine rk 37 rfl rfl tG (op_load1_flat rfl (oO rfl tO) tH rfl) ?_
 refine rg 38 rfl rfl tG (op_geq rfl (oO rfl tO) (oO rfl tO)) ?_
 refine rp 39 rfl (op_pick_or rfl (oT rfl) (oO rfl tO)) ?_
 refine rn ?_
 refine nK ?_
 refine n_cond _ rfl (fun hb => ?_) (fun hb => ?_)
 ·exfalso
  simp only [Bool.or_eq_true, decide_eq_true_eq, ne_eq] at hb
  omega
 ·clear hb
  refine nK ?_
  refine s_reg rfl ?_
  refine rm 40 rfl rfl rfl ?_
  refine Run.eff (dd := some 41) rfl rfl (op_buildSlice_own rfl (RowsF.cons _ _ _ _ _ _ (oT rfl) tC (by rfl) (RowsF.nil _)) rfl rfl rfl) ?_
  refine ra 12 rfl rfl rfl ?_
  refine rn ?_
  refine nK ?_
  refine s_reg rfl ?_
  refine rm 42 rfl rfl rfl ?_
  refine ra 13 rfl rfl rfl ?_
  refine rn ?_
  refine nK ?_
  refine n_loop (ι := Nat × Nat × List Int) (fun s => ([(2, IV .i64 z), (3, IV .i64 a), (4, IV .i64 b), (5, .ptr 0 3 0 0), (12, .sl 1 1 0 s.2.2.length), (13, IV .i64 s.2.1)], [(0, OG g), (1, OI s.2.2)], 2)) (fun s => walkL (fun x => hopR g D x z) z a b s.1 s.2.1 s.2.2 = W ∧ (D s.2.1 z).toNat < s.1 ∧ s.2.1 < g.m ∧ s.2.2.length + s.1 ≤ 8388490) (fun s => s.1) ((D x z).toNat + 1, x, [(x : Int)]) ⟨hW, by dsimp only; omega, by dsimp only; omega, by simp; omega⟩ ?_ ?_
  ·refine Next.weak [0, 1] [] (by rfl) (keepsN hC _ rfl) (by repeat (first | exact trivial | refine ⟨⟨_, rfl, .inl ⟨rfl, rfl⟩⟩, ?_⟩ | refine ⟨⟨_, rfl, .inl ⟨slEq rfl tN, rfl⟩⟩, ?_⟩ | refine ⟨⟨_, rfl, .inl ⟨ivEq tX, rfl⟩⟩, ?_⟩)) (by exact ⟨ent_same rfl rfl rfl tL, ⟨ent_same rfl rfl rfl tL, trivial⟩⟩) (fun _ h => by simp at h) rel_intro
  ·intro ⟨f, y, out⟩ ⟨hwl, hf, hy, hol⟩ K hK
   dsimp only at hwl hf hy hol hK ⊢
   obtain ⟨f, rfl⟩ : ∃ f', f = f' + 1 := ⟨f - 1, by omega⟩
   simp only [walkL] at hwl
   have hr := hrun y (by omega)
   have hsy := hsp y hy
   have hrow := hrz y
   refine nK ?_
   refine s_reg rfl ?_
   refine rm 43 rfl rfl rfl ?_
   refine rm 44 rfl rfl rfl ?_
   refine rp 45 rfl (op_neq rfl (oT rfl) (oT rfl)) ?_
   refine rn ?_
   refine nK ?_
   refine n_cond _ rfl (fun hb => ?_) (fun hb => ?_)
   ·have hne : ¬ y = z := by simp at hb; omega
    rw [if_neg hne] at hwl
    clear hb
    generalize hopR g D y z = L at *
    rcases L with _ | ⟨h, L⟩
    ·dsimp only at hwl
     subst hwl
     refine nK ?_
     refine s_reg rfl ?_
     refine rl 47 rfl (op_loadw_flat rfl (oT rfl) tH rfl) ?_
     refine rm 48 rfl rfl rfl ?_
     refine rp 49 rfl (op_call_pure (fun _ => hr) rfl (Opd.func _) (oS (oT rfl) (oS (oT rfl) Opds.nil))) ?_
     refine rm 46 rfl rfl rfl ?_
     refine rp 50 rfl (op_extract_fz rfl (oT rfl) rfl) ?_
     refine rp 51 rfl (op_extract_fz rfl (oT rfl) rfl) ?_
     refine Run.eff (dd := some 14) rfl rfl (op_alloc rfl rfl rfl rfl) ?_
     refine Run.eff (dd := none) rfl rfl (op_store_flat rfl (oT rfl) (oT rfl) tC rfl rfl (by first | rfl | assumption) tS) ?_
     refine ra 15 rfl rfl rfl ?_
     refine rn ?_
     refine nK ?_
     refine s_reg rfl ?_
     refine rp 52 rfl (op_fld_ptr (by decide) rfl (oT rfl)) ?_
     refine rl 53 rfl (op_load1_flat rfl (oT rfl) tH rfl) ?_
     refine rm 54 rfl rfl rfl ?_
     refine rp 55 rfl (op_idx_fz z rfl (oT rfl) (oT rfl) (by intro _; exact ⟨rfl, hrow⟩)) ?_
     refine rp 56 rfl (op_load1_fz rfl (oT rfl) rfl) ?_
     refine rp 57 rfl (op_len_fz rfl (by first | exact Opd.tmp _ _ rfl | exact Opd.nil _ _ (oT rfl)) (by first | exact List.length_map _ | rfl)) ?_
     refine rp 58 rfl (op_eql rfl (oT rfl) oC) ?_
     refine rn ?_
     refine nK ?_
     refine n_cond _ rfl (fun hb => ?_) (fun hb => ?_)
     ·refine nK ?_
      refine s_reg rfl ?_
      refine rm 59 rfl rfl rfl ?_
      refine ra 10 rfl rfl rfl ?_
      refine rp 11 rfl (op_assign rfl oC) ?_
      refine rn ?_
      refine nK ?_
      refine Next.weakS [] [10] (by rfl) (keeps0 hC _) (G' := [(10, .fz (VI out)), (11, .fz (Bf false))]) (H' := []) ⟨⟨_, rfl, .inr ⟨_, rfl, .sl _ _ _ _ _ _ rfl rfl (take_all0 (List.length_map _)) (List.length_map _)⟩⟩, ⟨_, rfl, .inl ⟨rfl, rfl⟩⟩, trivial⟩ trivial rfl ?_
      (first | exact s_o1 hC rfl tV | exact s_o2 hC rfl tV tV | exact s_o3 hC rfl tV tV tV | exact s_out0 hC rfl | exact s_outO hC rfl rfl rfl)
     ·exact absurd hb (by simp)
    ·obtain ⟨v, hv, hvm, k1, k2, k3, _⟩ := hsy h (by simp)
     subst hv
     dsimp only at hwl
     have hr0 : ((((v : Int) :: L).map encN))[0]? = some [If .i64 (v : Int)] := rfl
     have hK1 := hK (f, v, out ++ [(v : Int)])
     dsimp only at hK1
     clear hK hsy
     refine nK ?_
     refine s_reg rfl ?_
     refine rl 47 rfl (op_loadw_flat rfl (oT rfl) tH rfl) ?_
     refine rm 48 rfl rfl rfl ?_
     refine rp 49 rfl (op_call_pure (fun _ => hr) rfl (Opd.func _) (oS (oT rfl) (oS (oT rfl) Opds.nil))) ?_
     refine rm 46 rfl rfl rfl ?_
     refine rp 50 rfl (op_extract_fz rfl (oT rfl) rfl) ?_
     refine rp 51 rfl (op_extract_fz rfl (oT rfl) rfl) ?_
     refine Run.eff (dd := some 14) rfl rfl (op_alloc rfl rfl rfl rfl) ?_
     refine Run.eff (dd := none) rfl rfl (op_store_flat rfl (oT rfl) (oT rfl) tC rfl rfl (by first | rfl | assumption) tS) ?_
     refine ra 15 rfl rfl rfl ?_
     refine rn ?_
     refine nK ?_
     refine s_reg rfl ?_
     refine rp 52 rfl (op_fld_ptr (by decide) rfl (oT rfl)) ?_
     refine rl 53 rfl (op_load1_flat rfl (oT rfl) tH rfl) ?_
     refine rm 54 rfl rfl rfl ?_
     refine rp 55 rfl (op_idx_fz z rfl (oT rfl) (oT rfl) (by intro _; exact ⟨rfl, hrow⟩)) ?_
     refine rp 56 rfl (op_load1_fz rfl (oT rfl) rfl) ?_
     refine rp 57 rfl (op_len_fz rfl (by first | exact Opd.tmp _ _ rfl | exact Opd.nil _ _ (oT rfl)) (by first | exact List.length_map _ | rfl)) ?_
     refine rp 58 rfl (op_eql rfl (oT rfl) oC) ?_
     refine rn ?_
     refine nK ?_
     refine n_cond _ rfl (fun hb => ?_) (fun hb => ?_)
     ·exact absurd hb (by simp; omega)
     ·clear hb
      refine nK ?_
      refine s_reg rfl ?_
      refine rp 60 rfl (op_fld_ptr (by decide) rfl (oT rfl)) ?_
      refine rl 61 rfl (op_load1_flat rfl (oT rfl) tH rfl) ?_
      refine rm 62 rfl rfl rfl ?_
      refine rp 63 rfl (op_idx_fz z rfl (oT rfl) (oT rfl) (by intro _; exact ⟨rfl, hrow⟩)) ?_
      refine rp 64 rfl (op_load1_fz rfl (oT rfl) rfl) ?_
      refine rp 65 rfl (op_idx_fz 0 rfl (oT rfl) oC (by intro _; exact ⟨rfl, hr0⟩)) ?_
      refine rp 66 rfl (op_load1_fz rfl (oT rfl) rfl) ?_
      refine ra 16 rfl rfl rfl ?_
      refine rn ?_
      refine nK ?_
      refine s_reg rfl ?_
      refine rm 67 rfl rfl rfl ?_
      refine rm 68 rfl rfl rfl ?_
      refine rp 69 rfl (op_eql rfl (oT rfl) (oT rfl)) ?_
      refine rm 70 rfl rfl rfl ?_
      refine gm 71 rfl rfl tG rfl rfl ?_
      refine gm 72 rfl rfl tG rfl rfl ?_
      refine rg 73 rfl rfl tG (op_eql rfl (oO rfl tO) (oO rfl tO)) ?_
      refine rp 74 rfl (op_pick_and rfl (oT rfl) (oO rfl tO)) ?_
      refine rm 75 rfl rfl rfl ?_
      refine gm 76 rfl rfl tG rfl rfl ?_
      refine gm 77 rfl rfl tG rfl rfl ?_
      refine rg 78 rfl rfl tG (op_eql rfl (oO rfl tO) (oO rfl tO)) ?_
      refine rg 79 rfl rfl tG (op_move rfl (oO rfl tO)) ?_
      refine gm 80 rfl rfl tG rfl rfl ?_
      refine gm 81 rfl rfl tG rfl rfl ?_
      refine rg 82 rfl rfl tG (op_eql rfl (oO rfl tO) (oO rfl tO)) ?_
      refine rg 83 rfl rfl tG (op_pick_and rfl (oO rfl tO) (oO rfl tO)) ?_
      refine rp 84 rfl (op_pick_or rfl (oT rfl) (oO rfl tO)) ?_
      refine rn ?_
      refine nK ?_
      refine n_cond _ rfl (fun hb => ?_) (fun hb => ?_)
      ·have hc : ((y : Int) = a ∧ (v : Int) = b) ∨ ((y : Int) = b ∧ (v : Int) = a) := by
        simp only [Bool.or_eq_true, Bool.and_eq_true, decide_eq_true_eq] at hb; exact hb
       rw [if_pos hc] at hwl
       subst hwl
       refine nK ?_
       refine s_reg rfl ?_
       refine rm 85 rfl rfl rfl ?_
       refine ra 10 rfl rfl rfl ?_
       refine rp 11 rfl (op_assign rfl oC) ?_
       refine rn ?_
       refine nK ?_
       refine Next.weakS [] [10] (by rfl) (keeps0 hC _) (G' := [(10, .fz (VI out)), (11, .fz (Bf false))]) (H' := []) ⟨⟨_, rfl, .inr ⟨_, rfl, .sl _ _ _ _ _ _ rfl rfl (take_all0 (List.length_map _)) (List.length_map _)⟩⟩, ⟨_, rfl, .inl ⟨rfl, rfl⟩⟩, trivial⟩ trivial rfl ?_
       (first | exact s_o1 hC rfl tV | exact s_o2 hC rfl tV tV | exact s_o3 hC rfl tV tV tV | exact s_out0 hC rfl | exact s_outO hC rfl rfl rfl)
      ·have hc : ¬ (((y : Int) = a ∧ (v : Int) = b) ∨ ((y : Int) = b ∧ (v : Int) = a)) := fun h => by
        rw [Bool.eq_false_iff] at hb
        apply hb
        simp only [Bool.or_eq_true, Bool.and_eq_true, decide_eq_true_eq]; exact h
       rw [if_neg hc, Int.toNat_natCast] at hwl
       refine nK ?_
       refine s_reg rfl ?_
       refine rm 86 rfl rfl rfl ?_
       refine rm 87 rfl rfl rfl ?_
       refine rp 88 rfl (op_buildSlice_fz rfl (RowsF.cons _ _ _ _ _ _ (oT rfl) tC (by rfl) (RowsF.nil _)) rfl rfl) ?_
       refine Run.eff (dd := some 89) rfl rfl (op_append rfl (oT rfl) (by first | exact Opd.tmp _ _ rfl | exact Opd.nil _ _ (oT rfl)) rfl (by first | rfl | simp) rfl rfl tB tB) ?_
       refine ra 12 rfl rfl rfl ?_
       refine rn ?_
       refine nK ?_
       refine s_reg rfl ?_
       refine rm 90 rfl rfl rfl ?_
       refine ra 13 rfl rfl rfl ?_
       refine rn ?_
       refine nK ?_
       refine Next.weak [0, 3] [] (by rfl) (keepsN hC _ rfl) (by repeat (first | exact trivial | refine ⟨⟨_, rfl, .inl ⟨rfl, rfl⟩⟩, ?_⟩ | refine ⟨⟨_, rfl, .inl ⟨slEq rfl (by simp), rfl⟩⟩, ?_⟩)) (by exact ⟨ent_same rfl rfl rfl tL, ⟨ent_same rfl rfl (flEq rfl (by rw [List.map_append]; rfl)) trivial, trivial⟩⟩) (fun _ h => by simp at h) (hK1 ⟨hwl, by omega, hvm, by simp; omega⟩ (by omega))
   ·have he : y = z := by simp at hb; omega
    rw [if_pos he] at hwl
    subst hwl
    refine nK ?_
    refine s_reg rfl ?_
    refine rm 91 rfl rfl rfl ?_
    refine ra 10 rfl rfl rfl ?_
    refine rp 11 rfl (op_assign rfl oC) ?_
    refine rn ?_
    refine nK ?_
    refine Next.weakS [] [10] (by rfl) (keeps0 hC _) (G' := [(10, .fz (VI out)), (11, .fz (Bf true))]) (H' := []) ⟨⟨_, rfl, .inr ⟨_, rfl, .sl _ _ _ _ _ _ rfl rfl (take_all0 (List.length_map _)) (List.length_map _)⟩⟩, ⟨_, rfl, .inl ⟨rfl, rfl⟩⟩, trivial⟩ trivial rfl ?_
    (first | exact s_o1 hC rfl tV | exact s_o2 hC rfl tV tV | exact s_o3 hC rfl tV tV tV | exact s_out0 hC rfl | exact s_outO hC rfl rfl rfl)
theorem rwalk_bad (g : Gr) (x z a b : Int) (hok : okG g) (h : ¬ (plainI g = 0 ∧ 0 ≤ x ∧ x < g.r ∧ 0 ≤ z ∧ z < g.r)) : Pure Tryz.prog 25 [.agg (encG g), If .i64 x, If .i64 z, If .i64 a, If .i64 b] (.tup [VI [], Bf false]) := by
 refine Meets.intro Tryz.func25 rfl (Nat.le_of_ble_eq_true rfl) fun C hC => ?_
 simp only [List.map, argEnv, Nat.reduceAdd]
 refine nK ?_
 refine s_reg rfl ?_
 refine Run.eff (dd := some 5) rfl rfl (op_box_flat rfl (oT rfl) tC rfl) ?_
 refine rp 10 rfl (op_assign rfl oC) ?_
 refine rp 11 rfl (op_assign rfl oC) ?_
 refine rn ?_
 refine nK ?_
 refine s_reg rfl ?_
 refine rl 17 rfl (op_loadw_flat rfl (oT rfl) tH rfl) ?_
 refine rp 18 rfl (op_call_pure (fun _ => rplain_c _ (by assumption)) rfl (Opd.func _) (oS (oT rfl) Opds.nil)) ?_
 refine rp 19 rfl (op_neq rfl (oT rfl) oC) ?_
 refine rm 20 rfl rfl rfl ?_
 refine gm 21 rfl rfl tG rfl rfl ?_
 refine rg 22 rfl rfl tG (op_lss rfl (oO rfl tO) oC) ?_
 refine rp 23 rfl (op_pick_or rfl (oT rfl) (oO rfl tO)) ?_
 refine rm 24 rfl rfl rfl ?_
 refine gm 25 rfl rfl tG rfl rfl ?_
 refine rg 26 rfl rfl tG (op_fld_ptr (by decide) rfl (oT rfl)) ?_
 refine rk 27 rfl rfl tG (op_load1_flat rfl (oO rfl tO) tH rfl) ?_
 refine rg 28 rfl rfl tG (op_geq rfl (oO rfl tO) (oO rfl tO)) ?_
 refine rp 29 rfl (op_pick_or rfl (oT rfl) (oO rfl tO)) ?_
 refine rm 30 rfl rfl rfl ?_
 refine gm 31 rfl rfl tG rfl rfl ?_
 refine rg 32 rfl rfl tG (op_lss rfl (oO rfl tO) oC) ?_
 refine rp 33 rfl (op_pick_or rfl (oT rfl) (oO rfl tO)) ?_
 refine rm 34 rfl rfl rfl ?_
 refine gm 35 rfl rfl tG rfl rfl ?_
 refine rg 36 rfl rfl tG (op_fld_ptr (by decide) rfl (oT rfl)) ?_
 refine rk 37 rfl rfl tG (op_load1_flat rfl (oO rfl tO) tH rfl) ?_
 refine rg 38 rfl rfl tG (op_geq rfl (oO rfl tO) (oO rfl tO)) ?_
 refine rp 39 rfl (op_pick_or rfl (oT rfl) (oO rfl tO)) ?_
 refine rn ?_
 refine nK ?_
 refine n_cond _ rfl (fun hb => ?_) (fun hb => ?_)
 ·refine nK ?_
  refine s_reg rfl ?_
  refine rp 10 rfl (op_assign rfl oC) ?_
  refine rp 11 rfl (op_assign rfl oC) ?_
  refine rn ?_
  refine nK ?_
  refine Next.weakS [] [] (by rfl) (keeps0 hC _) (G' := [(10, .fz (VI [])), (11, .fz (Bf false))]) (H' := []) (by repeat (first | exact trivial | refine ⟨⟨_, rfl, .inl ⟨rfl, rfl⟩⟩, ?_⟩ | refine ⟨⟨_, rfl, .inl ⟨slEq rfl tN, rfl⟩⟩, ?_⟩ | refine ⟨⟨_, rfl, .inl ⟨ivEq tX, rfl⟩⟩, ?_⟩ | refine ⟨⟨_, rfl, .inr ⟨_, rfl, tW⟩⟩, ?_⟩)) trivial rfl ?_
  (first | exact s_o1 hC rfl tV | exact s_o2 hC rfl tV tV | exact s_o3 hC rfl tV tV tV | exact s_out0 hC rfl | exact s_outO hC rfl rfl rfl)
 ·exfalso
  simp only [Bool.or_eq_false_iff, decide_eq_false_iff_not, ne_eq, Decidable.not_not] at hb
  exact h (by omega)
theorem rwalk_c (g : Gr) (x z : Nat) (a b : Int) (hok : okG g) (hp : plainI g = 0) (hx : (x : Int) < g.r) (hz : (z : Int) < g.r) : Pure Tryz.prog 25 [.agg (encG g), If .i64 x, If .i64 z, If .i64 a, If .i64 b] (.tup [VI (walkV g x z a b).1, Bf (walkV g x z a b).2]) := by
 obtain ⟨hg, hN⟩ := plainI_ok hp
 have d := dst_of hg
 have hm := plain_m hN
 have hr0 := d.r0
 have hrun := fun (y : Nat) (hy : (y : Int) < g.r) => rrun_c g y hok hg hy
 have hsp := fun (y : Nat) (hy : y < g.m) (h : Int) hh => hop_spec d hN (x := y) (z := z) hy (by omega) (h := h) hh
 have hbd := d.bnd (i := x) (k := z) (by omega) (by omega)
 unfold walkV
 have hrz : ∀ y, ((refT g (disF g.es g.m) y).hops.map encL)[z]? = some [VI (hopR g (disF g.es g.m) y z)] := fun y => by
  simp [refT, encL, (by omega : z < g.m)]
 generalize disF g.es g.m = D at *
 have hzm : z < g.m := by omega
 generalize hW : walkL (fun x => hopR g D x z) z a b ((D x z).toNat + 1) x [(x : Int)] = W at *
 refine Meets.intro Tryz.func25 rfl (Nat.le_of_ble_eq_true rfl) fun C hC => ?_
 simp only [List.map, argEnv, Nat.reduceAdd]
 refine nK ?_
 refine s_reg rfl ?_
 refine Run.eff (dd := some 5) rfl rfl (op_box_flat rfl (oT rfl) tC rfl) ?_
 refine rp 10 rfl (op_assign rfl oC) ?_
 refine rp 11 rfl (op_assign rfl oC) ?_
 refine rn ?_
 refine nK ?_
 refine s_reg rfl ?_
 refine rl 17 rfl (op_loadw_flat rfl (oT rfl) tH rfl) ?_
 refine rp 18 rfl (op_call_pure (fun _ => rplain_c _ (by assumption)) rfl (Opd.func _) (oS (oT rfl) Opds.nil)) ?_
 refine rp 19 rfl (op_neq rfl (oT rfl) oC) ?_
 refine rm 20 rfl rfl rfl ?_
 refine gm 21 rfl rfl tG rfl rfl ?_
 refine rg 22 rfl rfl tG (op_lss rfl (oO rfl tO) oC) ?_
 refine rp 23 rfl (op_pick_or rfl (oT rfl) (oO rfl tO)) ?_
 refine rm 24 rfl rfl rfl ?_
 refine gm 25 rfl rfl tG rfl rfl ?_
 refine rg 26 rfl rfl tG (op_fld_ptr (by decide) rfl (oT rfl)) ?_
 refine rk 27 rfl rfl tG (op_load1_flat rfl (oO rfl tO) tH rfl) ?_
 refine rg 28 rfl rfl tG (op_geq rfl (oO rfl tO) (oO rfl tO)) ?_
 refine rp 29 rfl (op_pick_or rfl (oT rfl) (oO rfl tO)) ?_
 refine rm 30 rfl rfl rfl ?_
 refine gm 31 rfl rfl tG rfl rfl ?_
 refine rg 32 rfl rfl tG (op_lss rfl (oO rfl tO) oC) ?_
 refine rp 33 rfl (op_pick_or rfl (oT rfl) (oO rfl tO)) ?_
 refine rm 34 rfl rfl rfl ?_
 refine gm 35 rfl rfl tG rfl rfl ?_
 refine rg 36 rfl rfl tG (op_fld_ptr (by decide) rfl (oT rfl)) ?_
 refine rk 37 rfl rfl tG (op_load1_flat rfl (oO rfl tO) tH rfl) ?_
 refine rg 38 rfl rfl tG (op_geq rfl (oO rfl tO) (oO rfl tO)) ?_
 refine rp 39 rfl (op_pick_or rfl (oT rfl) (oO rfl tO)) ?_
 refine rn ?_
 refine nK ?_
 refine n_cond _ rfl (fun hb => ?_) (fun hb => ?_)
 ·exfalso
  simp only [Bool.or_eq_true, decide_eq_true_eq, ne_eq] at hb
  omega
 ·clear hb
  refine nK ?_
  refine s_reg rfl ?_
  refine rm 40 rfl rfl rfl ?_
  refine Run.eff (dd := some 41) rfl rfl (op_buildSlice_own rfl (RowsF.cons _ _ _ _ _ _ (oT rfl) tC (by rfl) (RowsF.nil _)) rfl rfl rfl) ?_
  refine ra 12 rfl rfl rfl ?_
  refine rn ?_
  refine nK ?_
  refine s_reg rfl ?_
  refine rm 42 rfl rfl rfl ?_
  refine ra 13 rfl rfl rfl ?_
  refine rn ?_
  refine nK ?_
  refine n_loop (ι := Nat × Nat × List Int) (fun s => ([(2, IV .i64 z), (3, IV .i64 a), (4, IV .i64 b), (5, .ptr 0 3 0 0), (12, .sl 1 1 0 s.2.2.length), (13, IV .i64 s.2.1)], [(0, OG g), (1, OI s.2.2)], 2)) (fun s => walkL (fun x => hopR g D x z) z a b s.1 s.2.1 s.2.2 = W ∧ (D s.2.1 z).toNat < s.1 ∧ s.2.1 < g.m ∧ s.2.2.length + s.1 ≤ 8388490) (fun s => s.1) ((D x z).toNat + 1, x, [(x : Int)]) ⟨hW, by dsimp only; omega, by dsimp only; omega, by simp; omega⟩ ?_ ?_
  ·refine Next.weak [0, 1] [] (by rfl) (keepsN hC _ rfl) (by repeat (first | exact trivial | refine ⟨⟨_, rfl, .inl ⟨rfl, rfl⟩⟩, ?_⟩ | refine ⟨⟨_, rfl, .inl ⟨slEq rfl tN, rfl⟩⟩, ?_⟩ | refine ⟨⟨_, rfl, .inl ⟨ivEq tX, rfl⟩⟩, ?_⟩)) (by exact ⟨ent_same rfl rfl rfl tL, ⟨ent_same rfl rfl rfl tL, trivial⟩⟩) (fun _ h => by simp at h) rel_intro
  ·intro ⟨f, y, out⟩ ⟨hwl, hf, hy, hol⟩ K hK
   dsimp only at hwl hf hy hol hK ⊢
   obtain ⟨f, rfl⟩ : ∃ f', f = f' + 1 := ⟨f - 1, by omega⟩
   simp only [walkL] at hwl
   have hr := hrun y (by omega)
   have hsy := hsp y hy
   have hrow := hrz y
   refine nK ?_
   refine s_reg rfl ?_
   refine rm 43 rfl rfl rfl ?_
   refine rm 44 rfl rfl rfl ?_
   refine rp 45 rfl (op_neq rfl (oT rfl) (oT rfl)) ?_
   refine rn ?_
   refine nK ?_
   refine n_cond _ rfl (fun hb => ?_) (fun hb => ?_)
   ·have hne : ¬ y = z := by simp at hb; omega
    rw [if_neg hne] at hwl
    clear hb
    generalize hopR g D y z = L at *
    rcases L with _ | ⟨h, L⟩
    ·dsimp only at hwl
     subst hwl
     refine nK ?_
     refine s_reg rfl ?_
     refine rl 47 rfl (op_loadw_flat rfl (oT rfl) tH rfl) ?_
     refine rm 48 rfl rfl rfl ?_
     refine rp 49 rfl (op_call_pure (fun _ => hr) rfl (Opd.func _) (oS (oT rfl) (oS (oT rfl) Opds.nil))) ?_
     refine rm 46 rfl rfl rfl ?_
     refine rp 50 rfl (op_extract_fz rfl (oT rfl) rfl) ?_
     refine rp 51 rfl (op_extract_fz rfl (oT rfl) rfl) ?_
     refine Run.eff (dd := some 14) rfl rfl (op_alloc rfl rfl rfl rfl) ?_
     refine Run.eff (dd := none) rfl rfl (op_store_flat rfl (oT rfl) (oT rfl) tC rfl rfl (by first | rfl | assumption) tS) ?_
     refine ra 15 rfl rfl rfl ?_
     refine rn ?_
     refine nK ?_
     refine s_reg rfl ?_
     refine rp 52 rfl (op_fld_ptr (by decide) rfl (oT rfl)) ?_
     refine rl 53 rfl (op_load1_flat rfl (oT rfl) tH rfl) ?_
     refine rm 54 rfl rfl rfl ?_
     refine rp 55 rfl (op_idx_fz z rfl (oT rfl) (oT rfl) (by intro _; exact ⟨rfl, hrow⟩)) ?_
     refine rp 56 rfl (op_load1_fz rfl (oT rfl) rfl) ?_
     refine rp 57 rfl (op_len_fz rfl (by first | exact Opd.tmp _ _ rfl | exact Opd.nil _ _ (oT rfl)) (by first | exact List.length_map _ | rfl)) ?_
     refine rp 58 rfl (op_eql rfl (oT rfl) oC) ?_
     refine rn ?_
     refine nK ?_
     refine n_cond _ rfl (fun hb => ?_) (fun hb => ?_)
     ·refine nK ?_
      refine s_reg rfl ?_
      refine rm 59 rfl rfl rfl ?_
      refine ra 10 rfl rfl rfl ?_
      refine rp 11 rfl (op_assign rfl oC) ?_
      refine rn ?_
      refine nK ?_
      refine Next.weakS [] [10] (by rfl) (keeps0 hC _) (G' := [(10, .fz (VI out)), (11, .fz (Bf false))]) (H' := []) ⟨⟨_, rfl, .inr ⟨_, rfl, .sl _ _ _ _ _ _ rfl rfl (take_all0 (List.length_map _)) (List.length_map _)⟩⟩, ⟨_, rfl, .inl ⟨rfl, rfl⟩⟩, trivial⟩ trivial rfl ?_
      (first | exact s_o1 hC rfl tV | exact s_o2 hC rfl tV tV | exact s_o3 hC rfl tV tV tV | exact s_out0 hC rfl | exact s_outO hC rfl rfl rfl)
     ·exact absurd hb (by simp)
    ·obtain ⟨v, hv, hvm, k1, k2, k3, _⟩ := hsy h (by simp)
     subst hv
     dsimp only at hwl
     have hr0 : ((((v : Int) :: L).map encN))[0]? = some [If .i64 (v : Int)] := rfl
     have hK1 := hK (f, v, out ++ [(v : Int)])
     dsimp only at hK1
     clear hK hsy
     refine nK ?_
     refine s_reg rfl ?_
     refine rl 47 rfl (op_loadw_flat rfl (oT rfl) tH rfl) ?_
     refine rm 48 rfl rfl rfl ?_
     refine rp 49 rfl (op_call_pure (fun _ => hr) rfl (Opd.func _) (oS (oT rfl) (oS (oT rfl) Opds.nil))) ?_
     refine rm 46 rfl rfl rfl ?_
     refine rp 50 rfl (op_extract_fz rfl (oT rfl) rfl) ?_
     refine rp 51 rfl (op_extract_fz rfl (oT rfl) rfl) ?_
     refine Run.eff (dd := some 14) rfl rfl (op_alloc rfl rfl rfl rfl) ?_
     refine Run.eff (dd := none) rfl rfl (op_store_flat rfl (oT rfl) (oT rfl) tC rfl rfl (by first | rfl | assumption) tS) ?_
     refine ra 15 rfl rfl rfl ?_
     refine rn ?_
     refine nK ?_
     refine s_reg rfl ?_
     refine rp 52 rfl (op_fld_ptr (by decide) rfl (oT rfl)) ?_
     refine rl 53 rfl (op_load1_flat rfl (oT rfl) tH rfl) ?_
     refine rm 54 rfl rfl rfl ?_
     refine rp 55 rfl (op_idx_fz z rfl (oT rfl) (oT rfl) (by intro _; exact ⟨rfl, hrow⟩)) ?_
     refine rp 56 rfl (op_load1_fz rfl (oT rfl) rfl) ?_
     refine rp 57 rfl (op_len_fz rfl (by first | exact Opd.tmp _ _ rfl | exact Opd.nil _ _ (oT rfl)) (by first | exact List.length_map _ | rfl)) ?_
     refine rp 58 rfl (op_eql rfl (oT rfl) oC) ?_
     refine rn ?_
     refine nK ?_
     refine n_cond _ rfl (fun hb => ?_) (fun hb => ?_)
     ·exact absurd hb (by simp; omega)
     ·clear hb
      refine nK ?_
      refine s_reg rfl ?_
      refine rp 60 rfl (op_fld_ptr (by decide) rfl (oT rfl)) ?_
      refine rl 61 rfl (op_load1_flat rfl (oT rfl) tH rfl) ?_
      refine rm 62 rfl rfl rfl ?_
      refine rp 63 rfl (op_idx_fz z rfl (oT rfl) (oT rfl) (by intro _; exact ⟨rfl, hrow⟩)) ?_
      refine rp 64 rfl (op_load1_fz rfl (oT rfl) rfl) ?_
      refine rp 65 rfl (op_idx_fz 0 rfl (oT rfl) oC (by intro _; exact ⟨rfl, hr0⟩)) ?_
      refine rp 66 rfl (op_load1_fz rfl (oT rfl) rfl) ?_
      refine ra 16 rfl rfl rfl ?_
      refine rn ?_
      refine nK ?_
      refine s_reg rfl ?_
      refine rm 67 rfl rfl rfl ?_
      refine rm 68 rfl rfl rfl ?_
      refine rp 69 rfl (op_eql rfl (oT rfl) (oT rfl)) ?_
      refine rm 70 rfl rfl rfl ?_
      refine gm 71 rfl rfl tG rfl rfl ?_
      refine gm 72 rfl rfl tG rfl rfl ?_
      refine rg 73 rfl rfl tG (op_eql rfl (oO rfl tO) (oO rfl tO)) ?_
      refine rp 74 rfl (op_pick_and rfl (oT rfl) (oO rfl tO)) ?_
      refine rm 75 rfl rfl rfl ?_
      refine gm 76 rfl rfl tG rfl rfl ?_
      refine gm 77 rfl rfl tG rfl rfl ?_
      refine rg 78 rfl rfl tG (op_eql rfl (oO rfl tO) (oO rfl tO)) ?_
      refine rg 79 rfl rfl tG (op_move rfl (oO rfl tO)) ?_
      refine gm 80 rfl rfl tG rfl rfl ?_
      refine gm 81 rfl rfl tG rfl rfl ?_
      refine rg 82 rfl rfl tG (op_eql rfl (oO rfl tO) (oO rfl tO)) ?_
      refine rg 83 rfl rfl tG (op_pick_and rfl (oO rfl tO) (oO rfl tO)) ?_
      refine rp 84 rfl (op_pick_or rfl (oT rfl) (oO rfl tO)) ?_
      refine rn ?_
      refine nK ?_
      refine n_cond _ rfl (fun hb => ?_) (fun hb => ?_)
      ·have hc : ((y : Int) = a ∧ (v : Int) = b) ∨ ((y : Int) = b ∧ (v : Int) = a) := by
        simp only [Bool.or_eq_true, Bool.and_eq_true, decide_eq_true_eq] at hb; exact hb
       rw [if_pos hc] at hwl
       subst hwl
       refine nK ?_
       refine s_reg rfl ?_
       refine rm 85 rfl rfl rfl ?_
       refine ra 10 rfl rfl rfl ?_
       refine rp 11 rfl (op_assign rfl oC) ?_
       refine rn ?_
       refine nK ?_
       refine Next.weakS [] [10] (by rfl) (keeps0 hC _) (G' := [(10, .fz (VI out)), (11, .fz (Bf false))]) (H' := []) ⟨⟨_, rfl, .inr ⟨_, rfl, .sl _ _ _ _ _ _ rfl rfl (take_all0 (List.length_map _)) (List.length_map _)⟩⟩, ⟨_, rfl, .inl ⟨rfl, rfl⟩⟩, trivial⟩ trivial rfl ?_
       (first | exact s_o1 hC rfl tV | exact s_o2 hC rfl tV tV | exact s_o3 hC rfl tV tV tV | exact s_out0 hC rfl | exact s_outO hC rfl rfl rfl)
      ·have hc : ¬ (((y : Int) = a ∧ (v : Int) = b) ∨ ((y : Int) = b ∧ (v : Int) = a)) := fun h => by
        rw [Bool.eq_false_iff] at hb
        apply hb
        simp only [Bool.or_eq_true, Bool.and_eq_true, decide_eq_true_eq]; exact h
       rw [if_neg hc, Int.toNat_natCast] at hwl
       refine nK ?_
       refine s_reg rfl ?_
       refine rm 86 rfl rfl rfl ?_
       refine rm 87 rfl rfl rfl ?_
       refine rp 88 rfl (op_buildSlice_fz rfl (RowsF.cons _ _ _ _ _ _ (oT rfl) tC (by rfl) (RowsF.nil _)) rfl rfl) ?_
       refine Run.eff (dd := some 89) rfl rfl (op_append rfl (oT rfl) (by first | exact Opd.tmp _ _ rfl | exact Opd.nil _ _ (oT rfl)) rfl (by first | rfl | simp) rfl rfl tB tB) ?_
       refine ra 12 rfl rfl rfl ?_
       refine rn ?_
       refine nK ?_
       refine s_reg rfl ?_
       refine rm 90 rfl rfl rfl ?_
       refine ra 13 rfl rfl rfl ?_
       refine rn ?_
       refine nK ?_
       refine Next.weak [0, 3] [] (by rfl) (keepsN hC _ rfl) (by repeat (first | exact trivial | refine ⟨⟨_, rfl, .inl ⟨rfl, rfl⟩⟩, ?_⟩ | refine ⟨⟨_, rfl, .inl ⟨slEq rfl (by simp), rfl⟩⟩, ?_⟩)) (by exact ⟨ent_same rfl rfl rfl tL, ⟨ent_same rfl rfl (flEq rfl (by rw [List.map_append]; rfl)) trivial, trivial⟩⟩) (fun _ h => by simp at h) (hK1 ⟨hwl, by omega, hvm, by simp; omega⟩ (by omega))
   ·have he : y = z := by simp at hb; omega
    rw [if_pos he] at hwl
    subst hwl
    refine nK ?_
    refine s_reg rfl ?_
    refine rm 91 rfl rfl rfl ?_
    refine ra 10 rfl rfl rfl ?_
    refine rp 11 rfl (op_assign rfl oC) ?_
    refine rn ?_
    refine nK ?_
    refine Next.weakS [] [10] (by rfl) (keeps0 hC _) (G' := [(10, .fz (VI out)), (11, .fz (Bf true))]) (H' := []) ⟨⟨_, rfl, .inr ⟨_, rfl, .sl _ _ _ _ _ _ rfl rfl (take_all0 (List.length_map _)) (List.length_map _)⟩⟩, ⟨_, rfl, .inl ⟨rfl, rfl⟩⟩, trivial⟩ trivial rfl ?_
    (first | exact s_o1 hC rfl tV | exact s_o2 hC rfl tV tV | exact s_o3 hC rfl tV tV tV | exact s_out0 hC rfl | exact s_outO hC rfl rfl rfl)
end Go.Proofs.YtnkhlbljnmodbaaGreat
namespace Go.Proofs.YtnkhlbljnmodbaaGreat
open Go Go.RT Go.Proofs Go.Pl
set_option linter.all false
set_option maxRecDepth 20000
set_option maxHeartbeats 4000000
def ringE (n i : Nat) : List Edg := [⟨i, min (((i : Int) + n - 1) % n) (((i : Int) + 1) % n), 1⟩, ⟨i, max (((i : Int) + n - 1) % n) (((i : Int) + 1) % n), 1⟩]
def ringL (n k : Nat) : List Edg := (List.range k).flatMap (ringE n)
def ringG (n : Nat) : Gr := ⟨n, 0, ringL n n⟩
theorem ringL_succ (n k : Nat) : ringL n (k + 1) = ringL n k ++ ringE n k := by unfold ringL; rw [List.range_succ, List.flatMap_append]; simp
theorem ringL_len (n k : Nat) : (ringL n k).length = 2 * k := by
 induction k with
 | zero => rfl
 | succ k ih => rw [ringL_succ, List.length_append, ih]; simp [ringE]; omega
theorem ring_c (n : Nat) (h1 : 1 ≤ n) (h2 : n ≤ 100) : Pure Tryz.prog 28 [If .i64 n] (.agg (encG (ringG n))) := by
 refine Meets.intro Tryz.func28 rfl (Nat.le_of_ble_eq_true rfl) fun C hC => ?_
 simp only [List.map, argEnv, Nat.reduceAdd]
 refine nK ?_
 refine s_reg rfl ?_
 refine Run.eff (dd := some 2) rfl rfl (op_alloc rfl rfl rfl rfl) ?_
 refine rn ?_
 refine nK ?_
 refine s_reg rfl ?_
 refine rm 7 rfl rfl rfl ?_
 refine rp 8 rfl (op_build rfl rfl rfl (FillF.cons _ _ _ _ _ _ _ _ _ _ (by rfl) (oT rfl) tC (by rfl) tR (FillF.nil _))) ?_
 refine Run.eff (dd := some 3) rfl rfl (op_alloc rfl rfl rfl rfl) ?_
 refine Run.eff (dd := none) rfl rfl (op_store_flat rfl (oT rfl) (oT rfl) tC rfl rfl (by first | rfl | assumption) tS) ?_
 refine rn ?_
 refine nK ?_
 refine Next.toRefs 1 rfl rfl ?_
 refine Next.adoptCell 1 0 2 3 rfl rfl rfl rfl ?_
 refine Next.weak [0, 1, 2] [] (by rfl) (keeps0 hC _) (G' := [(0, IV .i64 n), (2, .ptr 0 3 0 0), (3, .ptr 1 3 0 0)]) (H' := [(0, OG ⟨0, 0, []⟩), (1, some (.refs 3 [[IV .i64 n, IV .i64 0, .sl 2 3 0 0]])), (2, OE [])]) (by repeat (first | exact trivial | refine ⟨⟨_, rfl, .inl ⟨rfl, rfl⟩⟩, ?_⟩ | refine ⟨⟨_, rfl, .inl ⟨slEq rfl tN, rfl⟩⟩, ?_⟩ | refine ⟨⟨_, rfl, .inl ⟨ivEq tX, rfl⟩⟩, ?_⟩)) (by exact ⟨⟨rfl, rfl, .fflat _ _ _ rfl tW⟩, ⟨ent_same rfl rfl rfl tL, ⟨ent_same rfl rfl rfl tL, trivial⟩⟩⟩) (fun _ h => by simp at h) ?_
 refine nK ?_
 refine s_reg rfl ?_
 refine rp 4 rfl (op_assign rfl oC) ?_
 refine rn ?_
 refine nK ?_
 refine n_loop (ι := Nat) (fun i => ([(0, IV .i64 n), (2, .ptr 0 3 0 0), (3, .ptr 1 3 0 0), (4, IV .i64 i)], [(0, OG ⟨0, 0, []⟩), (1, some (.refs 3 [[IV .i64 n, IV .i64 0, .sl 2 3 0 (ringL n i).length]])), (2, OE (ringL n i))], 3)) (fun i => i ≤ n) (fun i => n - i) 0 (Nat.zero_le _) ?_ ?_
 ·refine Next.weak [0, 1, 2] [] (by rfl) (keeps0 hC _) (by repeat (first | exact trivial | refine ⟨⟨_, rfl, .inl ⟨rfl, rfl⟩⟩, ?_⟩ | refine ⟨⟨_, rfl, .inl ⟨slEq rfl tN, rfl⟩⟩, ?_⟩ | refine ⟨⟨_, rfl, .inl ⟨ivEq tX, rfl⟩⟩, ?_⟩)) (by exact ⟨ent_same rfl rfl rfl tL, ⟨ent_same rfl rfl rfl tL, ⟨ent_same rfl rfl rfl tL, trivial⟩⟩⟩) (fun _ h => by simp at h) rel_intro
 ·intro i hi K hK
  try dsimp only at hi hK ⊢
  have hrl := ringL_len n i
  refine nK ?_
  refine s_reg rfl ?_
  refine rm 9 rfl rfl rfl ?_
  refine rm 10 rfl rfl rfl ?_
  refine rp 11 rfl (op_lss rfl (oT rfl) (oT rfl)) ?_
  refine rn ?_
  refine nK ?_
  refine n_cond _ rfl (fun hb => ?_) (fun hb => ?_)
  ·have hlt : i < n := by have := of_decide_eq_true hb; omega
   have hK1 := hK (i + 1) (by omega) (by omega)
   rw [ringL_succ] at hK1
   generalize ringL n i = acc at *
   have e4 : (acc ++ ringE n i).length = acc.length + 2 := by simp [ringE]
   rw [e4, show OE (acc ++ ringE n i) = some (.flat 3 (acc.map encE ++ (ringE n i).map encE)) by simp] at hK1
   refine nK ?_
   refine s_draw mixed ?_
   refine rm 14 rfl rfl rfl ?_
   refine rm 15 rfl rfl rfl ?_
   refine rp 16 rfl (op_add rfl (oT rfl) (oT rfl) tI) ?_
   refine rp 17 rfl (op_sub rfl (oT rfl) oC tI) ?_
   refine rm 18 rfl rfl rfl ?_
   refine rp 19 rfl (op_rem rfl (oT rfl) (oT rfl) tM) ?_
   refine rm 20 rfl rfl rfl ?_
   refine rp 21 rfl (op_add rfl (oT rfl) oC tI) ?_
   refine rm 22 rfl rfl rfl ?_
   refine rp 23 rfl (op_rem rfl (oT rfl) (oT rfl) tM) ?_
   refine ra 5 rfl rfl rfl ?_
   refine ra 6 rfl rfl rfl ?_
   refine Run.nil (FinD.mk (by kernel_rfl) ?_)
   refine nK ?_
   refine s_reg rfl ?_
   refine rp 24 rfl (op_fld_ptr (by decide) rfl (oT rfl)) ?_
   refine rl 25 rfl (op_load1_refs rfl (oT rfl) tH rfl) ?_
   refine rm 26 rfl rfl rfl ?_
   refine rm 27 rfl rfl rfl ?_
   refine rm 28 rfl rfl rfl ?_
   refine rp 29 rfl (op_min rfl (oT rfl) (oT rfl)) ?_
   refine rp 30 rfl (op_build rfl rfl rfl (FillF.cons _ _ _ _ _ _ _ _ _ _ (by rfl) (oT rfl) tC (by rfl) tR (FillF.cons _ _ _ _ _ _ _ _ _ _ (by rfl) (oT rfl) tC (by rfl) tR (FillF.cons _ _ _ _ _ _ _ _ _ _ (by rfl) oC tC (by rfl) tR (FillF.nil _))))) ?_
   refine rm 31 rfl rfl rfl ?_
   refine rm 32 rfl rfl rfl ?_
   refine rm 33 rfl rfl rfl ?_
   refine rp 34 rfl (op_max rfl (oT rfl) (oT rfl)) ?_
   refine rp 35 rfl (op_build rfl rfl rfl (FillF.cons _ _ _ _ _ _ _ _ _ _ (by rfl) (oT rfl) tC (by rfl) tR (FillF.cons _ _ _ _ _ _ _ _ _ _ (by rfl) (oT rfl) tC (by rfl) tR (FillF.cons _ _ _ _ _ _ _ _ _ _ (by rfl) oC tC (by rfl) tR (FillF.nil _))))) ?_
   refine rp 36 rfl (op_buildSlice_fz rfl (RowsF.cons _ _ _ _ _ _ (oT rfl) tC (by rfl) (RowsF.cons _ _ _ _ _ _ (oT rfl) tC (by rfl) (RowsF.nil _))) rfl rfl) ?_
   refine Run.eff (dd := some 37) rfl rfl (op_append rfl (oT rfl) (by first | exact Opd.tmp _ _ rfl | exact Opd.nil _ _ (oT rfl)) rfl (by first | rfl | simp) rfl rfl tB tB) ?_
   refine rp 38 rfl (op_fld_ptr (by decide) rfl (oT rfl)) ?_
   refine Run.eff (dd := none) rfl rfl (op_store_refs rfl (oT rfl) (oT rfl) tP rfl rfl rfl tS) ?_
   refine rn ?_
   refine nK ?_
   refine s_reg rfl ?_
   refine rm 12 rfl rfl rfl ?_
   refine rp 13 rfl (op_add rfl (oT rfl) oC tI) ?_
   refine ra 4 rfl rfl rfl ?_
   refine rn ?_
   refine nK ?_
   refine Next.weak [0, 1, 3] [] (by rfl) (keeps0 hC _) (by repeat (first | exact trivial | refine ⟨⟨_, rfl, .inl ⟨rfl, rfl⟩⟩, ?_⟩ | refine ⟨⟨_, rfl, .inl ⟨slEq rfl tN, rfl⟩⟩, ?_⟩ | refine ⟨⟨_, rfl, .inl ⟨ivEq tX, rfl⟩⟩, ?_⟩)) (by exact ⟨ent_same rfl rfl rfl tL, ⟨ent_same rfl rfl rfl tL, ⟨ent_same rfl rfl rfl tL, trivial⟩⟩⟩) (fun _ h => by simp at h) hK1
  ·have hie : i = n := by have := of_decide_eq_false hb; omega
   subst hie
   refine Next.weak [0, 1] [2] (by rfl) (keeps0 hC _) (G' := [(2, .ptr 0 3 0 0), (3, .ptr 1 3 0 0)]) (H' := [(0, OG ⟨0, 0, []⟩), (1, OG ⟨(i : Int), 0, ringL i i⟩)]) (by repeat (first | exact trivial | refine ⟨⟨_, rfl, .inl ⟨rfl, rfl⟩⟩, ?_⟩ | refine ⟨⟨_, rfl, .inl ⟨slEq rfl tN, rfl⟩⟩, ?_⟩ | refine ⟨⟨_, rfl, .inl ⟨ivEq tX, rfl⟩⟩, ?_⟩)) (by exact ⟨ent_same rfl rfl rfl tL, ⟨⟨rfl, rfl, .flat _ _ _ rfl tW⟩, trivial⟩⟩) (fun id h => by obtain rfl : id = 2 := (by simpa using h); exact ⟨_, rfl⟩) ?_
   refine nK ?_
   refine s_reg rfl ?_
   refine rl 39 rfl (op_loadw_flat rfl (oT rfl) tH rfl) ?_
   refine Run.eff (dd := none) rfl rfl (op_store_flat rfl (oT rfl) (oT rfl) tC rfl rfl (by first | rfl | assumption) tS) ?_
   refine rn ?_
   refine nK ?_
   (first | exact s_o1 hC rfl tV | exact s_o2 hC rfl tV tV | exact s_o3 hC rfl tV tV tV | exact s_out0 hC rfl | exact s_outO hC rfl rfl rfl)
theorem tab4 : tabL (ringG 4) (disF (ringG 4).es (ringG 4).m) = [[0, 1, 2, 1], [1, 0, 1, 2], [2, 1, 0, 1], [1, 2, 1, 0]] := by decide +kernel
theorem tab5 : tabL (ringG 5) (disF (ringG 5).es (ringG 5).m) = [[0, 1, 2, 2, 1], [1, 0, 1, 2, 2], [2, 1, 0, 1, 2], [2, 2, 1, 0, 1], [1, 2, 2, 1, 0]] := by decide +kernel
theorem hops4 : (refT (ringG 4) (disF (ringG 4).es (ringG 4).m) 0).hops = [[], [1], [1, 3], [3]] := by decide +kernel
theorem next4 : nextI 0 (ringG 4).es = [1, 3] := asc_ext (nextI_spec 0 (ringG 4).es).1 (by simp [Asc]) fun x => by
 rw [(nextI_spec 0 (ringG 4).es).2]
 have : (ringG 4).es = [⟨0, 1, 1⟩, ⟨0, 3, 1⟩, ⟨1, 0, 1⟩, ⟨1, 2, 1⟩, ⟨2, 1, 1⟩, ⟨2, 3, 1⟩, ⟨3, 0, 1⟩, ⟨3, 2, 1⟩] := by decide +kernel
 rw [this]
 simp only [List.mem_cons, List.not_mem_nil, or_false]
 constructor
 ·rintro ⟨e, he, h1, h2⟩
  rcases he with rfl | rfl | rfl | rfl | rfl | rfl | rfl | rfl <;> simp at h1 h2 <;> omega
 ·rintro (rfl | rfl)
  ·exact ⟨⟨0, 1, 1⟩, by simp, rfl, rfl⟩
  ·exact ⟨⟨0, 3, 1⟩, by simp, rfl, rfl⟩
theorem chk4 : checkI (ringG 4) = 0 := by decide +kernel
theorem chk5 : checkI (ringG 5) = 0 := by decide +kernel
theorem pl_of {g : Gr} (h : checkI g = 0) (hN : g.n = 0) : plainI g = 0 := by unfold plainI; rw [if_neg (by simp [h]), if_neg (by omega)]
theorem lk4 : linkI (ringG 4) (0 : Nat) (1 : Nat) = 0 := by
 unfold linkI
 rw [if_neg (by simp [pl_of chk4 rfl])]
 decide +kernel
theorem lk5 : linkI (ringG 5) (0 : Nat) (1 : Nat) = 0 := by
 unfold linkI
 rw [if_neg (by simp [pl_of chk5 rfl])]
 decide +kernel
theorem okG4 : okG (ringG 4) := ⟨by decide, by decide, by have : okEs [⟨0, 1, 1⟩, ⟨0, 3, 1⟩, ⟨1, 0, 1⟩, ⟨1, 2, 1⟩, ⟨2, 1, 1⟩, ⟨2, 3, 1⟩, ⟨3, 0, 1⟩, ⟨3, 2, 1⟩] := (by unfold okEs okE; decide); rwa [show (ringG 4).es = [⟨0, 1, 1⟩, ⟨0, 3, 1⟩, ⟨1, 0, 1⟩, ⟨1, 2, 1⟩, ⟨2, 1, 1⟩, ⟨2, 3, 1⟩, ⟨3, 0, 1⟩, ⟨3, 2, 1⟩] by decide +kernel]⟩
theorem okG5 : okG (ringG 5) := ⟨by decide, by decide, by have : okEs [⟨0, 1, 1⟩, ⟨0, 4, 1⟩, ⟨1, 0, 1⟩, ⟨1, 2, 1⟩, ⟨2, 1, 1⟩, ⟨2, 3, 1⟩, ⟨3, 2, 1⟩, ⟨3, 4, 1⟩, ⟨4, 0, 1⟩, ⟨4, 3, 1⟩] := (by unfold okEs okE; decide); rwa [show (ringG 5).es = [⟨0, 1, 1⟩, ⟨0, 4, 1⟩, ⟨1, 0, 1⟩, ⟨1, 2, 1⟩, ⟨2, 1, 1⟩, ⟨2, 3, 1⟩, ⟨3, 2, 1⟩, ⟨3, 4, 1⟩, ⟨4, 0, 1⟩, ⟨4, 3, 1⟩] by decide +kernel]⟩
theorem awake_c : Pure Tryz.prog 9 [] (Bf true) := by
 have r4 := ring_c 4 (by omega) (by omega)
 have r5 := ring_c 5 (by omega) (by omega)
 obtain ⟨t, ht⟩ := run_exists chk4 (a := 0) (by decide)
 have h1 := lall_c (ringG 4) 0 t okG4 rfl ht
 rw [ht.refT (dst_of chk4)] at h1
 rw [show ((0 : Nat) : Int) = 0 from rfl, hops4, next4, tab4] at h1
 have e1 : allA (ringG 4) [[0, 1, 2, 1], [1, 0, 1, 2], [2, 1, 0, 1], [1, 2, 1, 0]] 0 [1, 3] [[], [1], [1, 3], [3]] (ringG 4).r.toNat = [⟨2, 1, 3, 2, true⟩, ⟨2, 3, 1, 2, true⟩] := by decide +kernel
 rw [e1] at h1
 have h2 := lps_c (ringG 5) 0 1 okG5 lk5
 rw [tab5] at h2
 have e2 : fil (psB [[0, 1, 2, 2, 1], [1, 0, 1, 2, 2], [2, 1, 0, 1, 2], [2, 2, 1, 0, 1], [1, 2, 2, 1, 0]] 0 1 (costL ((0 : Nat) : Int) ((1 : Nat) : Int) (ringG 5).es).1) (ringG 5).m = [0, 3, 4] := by decide +kernel
 rw [e2] at h2
 have h3 := lrem_c (ringG 5) 0 1 okG5 lk5
 have e3 : remG (ringG 5) 0 1 = 3 := by unfold remG; rw [tab5]; decide +kernel
 unfold remV at h3
 rw [e3] at h3
 have h4 := lrem_c (ringG 4) 0 1 okG4 lk4
 have e4 : remG (ringG 4) 0 1 = -1 := by unfold remG; rw [tab4]; decide +kernel
 unfold remV at h4
 rw [e4] at h4
 have ha := alts3_c [⟨2, 1, 3, 2, true⟩, ⟨2, 3, 1, 2, true⟩] [⟨2, 1, 3, 2, true⟩, ⟨2, 3, 1, 2, true⟩] (by decide) (by decide)
 have hi := ints3_c [0, 3, 4] [0, 3, 4] (by decide) (by decide)
 rw [decide_eq_true rfl] at ha hi
 refine Meets.intro Tryz.func9 rfl (Nat.le_of_ble_eq_true rfl) fun C hC => ?_
 simp only [List.map, argEnv, Nat.reduceAdd]
 refine nK ?_
 refine s_reg rfl ?_
 refine rp 0 rfl (op_assign rfl oC) ?_
 refine rn ?_
 refine nK ?_
 refine s_reg rfl ?_
 refine rp 13 rfl (op_call_pure (fun _ => r4) rfl (Opd.func _) (oS oC Opds.nil)) ?_
 refine rp 14 rfl (op_call_pure (fun _ => h1) rfl (Opd.func _) (oS (oT rfl) (oS oC Opds.nil))) ?_
 refine rm 12 rfl rfl rfl ?_
 refine rp 15 rfl (op_extract_fz rfl (oT rfl) rfl) ?_
 refine rp 16 rfl (op_extract_fz rfl (oT rfl) rfl) ?_
 refine ra 1 rfl rfl rfl ?_
 refine ra 2 rfl rfl rfl ?_
 refine rn ?_
 refine nK ?_
 refine s_reg rfl ?_
 refine rp 18 rfl (op_call_pure (fun _ => r5) rfl (Opd.func _) (oS oC Opds.nil)) ?_
 refine rp 19 rfl (op_call_pure (fun _ => h2) rfl (Opd.func _) (oS (oT rfl) (oS oC (oS oC Opds.nil)))) ?_
 refine rm 17 rfl rfl rfl ?_
 refine rp 20 rfl (op_extract_fz rfl (oT rfl) rfl) ?_
 refine rp 21 rfl (op_extract_fz rfl (oT rfl) rfl) ?_
 refine ra 3 rfl rfl rfl ?_
 refine ra 4 rfl rfl rfl ?_
 refine rn ?_
 refine nK ?_
 refine s_reg rfl ?_
 refine rp 23 rfl (op_call_pure (fun _ => r5) rfl (Opd.func _) (oS oC Opds.nil)) ?_
 refine rp 24 rfl (op_call_pure (fun _ => h3) rfl (Opd.func _) (oS (oT rfl) (oS oC (oS oC Opds.nil)))) ?_
 refine rm 22 rfl rfl rfl ?_
 refine rp 25 rfl (op_extract_fz rfl (oT rfl) rfl) ?_
 refine rp 26 rfl (op_extract_fz rfl (oT rfl) rfl) ?_
 refine rp 27 rfl (op_extract_fz rfl (oT rfl) rfl) ?_
 refine ra 5 rfl rfl rfl ?_
 refine ra 6 rfl rfl rfl ?_
 refine ra 7 rfl rfl rfl ?_
 refine rn ?_
 refine nK ?_
 refine s_reg rfl ?_
 refine rp 29 rfl (op_call_pure (fun _ => r4) rfl (Opd.func _) (oS oC Opds.nil)) ?_
 refine rp 30 rfl (op_call_pure (fun _ => h4) rfl (Opd.func _) (oS (oT rfl) (oS oC (oS oC Opds.nil)))) ?_
 refine rm 28 rfl rfl rfl ?_
 refine rp 31 rfl (op_extract_fz rfl (oT rfl) rfl) ?_
 refine rp 32 rfl (op_extract_fz rfl (oT rfl) rfl) ?_
 refine rp 33 rfl (op_extract_fz rfl (oT rfl) rfl) ?_
 refine ra 8 rfl rfl rfl ?_
 refine ra 9 rfl rfl rfl ?_
 refine ra 10 rfl rfl rfl ?_
 refine rn ?_
 refine nK ?_
 refine s_reg rfl ?_
 refine rp 34 rfl (op_build rfl rfl rfl (FillF.cons _ _ _ _ _ _ _ _ _ _ (by rfl) oC tC (by rfl) tR (FillF.cons _ _ _ _ _ _ _ _ _ _ (by rfl) oC tC (by rfl) tR (FillF.cons _ _ _ _ _ _ _ _ _ _ (by rfl) oC tC (by rfl) tR (FillF.cons _ _ _ _ _ _ _ _ _ _ (by rfl) oC tC (by rfl) tR (FillF.cons _ _ _ _ _ _ _ _ _ _ (by rfl) oC tC (by rfl) tR (FillF.nil _))))))) ?_
 refine rp 35 rfl (op_build rfl rfl rfl (FillF.cons _ _ _ _ _ _ _ _ _ _ (by rfl) oC tC (by rfl) tR (FillF.cons _ _ _ _ _ _ _ _ _ _ (by rfl) oC tC (by rfl) tR (FillF.cons _ _ _ _ _ _ _ _ _ _ (by rfl) oC tC (by rfl) tR (FillF.cons _ _ _ _ _ _ _ _ _ _ (by rfl) oC tC (by rfl) tR (FillF.cons _ _ _ _ _ _ _ _ _ _ (by rfl) oC tC (by rfl) tR (FillF.nil _))))))) ?_
 refine rp 36 rfl (op_buildSlice_fz rfl (RowsF.cons _ _ _ _ _ _ (oT rfl) tC (by rfl) (RowsF.cons _ _ _ _ _ _ (oT rfl) tC (by rfl) (RowsF.nil _))) rfl rfl) ?_
 refine ra 11 rfl rfl rfl ?_
 refine rn ?_
 refine nK ?_
 refine s_reg rfl ?_
 refine rm 37 rfl rfl rfl ?_
 refine rp 38 rfl (op_eql rfl (oT rfl) oC) ?_
 refine rm 39 rfl rfl rfl ?_
 refine gm 40 rfl rfl tG rfl rfl ?_
 refine rg 41 rfl rfl tG (op_eql rfl (oO rfl tO) oC) ?_
 refine rp 42 rfl (op_pick_and rfl (oT rfl) (oO rfl tO)) ?_
 refine rm 43 rfl rfl rfl ?_
 refine gm 44 rfl rfl tG rfl rfl ?_
 refine gm 45 rfl rfl tG rfl rfl ?_
 refine rg 46 rfl rfl tG (op_call_pure (fun _ => ha) rfl (Opd.func _) (oS (oO rfl tO) (oS (oO rfl tO) Opds.nil))) ?_
 refine rp 47 rfl (op_pick_and rfl (oT rfl) (oO rfl tO)) ?_
 refine rm 48 rfl rfl rfl ?_
 refine gm 49 rfl rfl tG rfl rfl ?_
 refine rg 50 rfl rfl tG (op_buildSlice_fz rfl (RowsF.cons _ _ _ _ _ _ oC tC (by rfl) (RowsF.cons _ _ _ _ _ _ oC tC (by rfl) (RowsF.cons _ _ _ _ _ _ oC tC (by rfl) (RowsF.nil _)))) rfl rfl) ?_
 refine rg 51 rfl rfl tG (op_call_pure (fun _ => hi) rfl (Opd.func _) (oS (oO rfl tO) (oS (oO rfl tO) Opds.nil))) ?_
 refine rp 52 rfl (op_pick_and rfl (oT rfl) (oO rfl tO)) ?_
 refine rm 53 rfl rfl rfl ?_
 refine gm 54 rfl rfl tG rfl rfl ?_
 refine rp 55 rfl (op_pick_and rfl (oT rfl) (oO rfl tO)) ?_
 refine rm 56 rfl rfl rfl ?_
 refine gm 57 rfl rfl tG rfl rfl ?_
 refine rg 58 rfl rfl tG (op_eql rfl (oO rfl tO) oC) ?_
 refine rp 59 rfl (op_pick_and rfl (oT rfl) (oO rfl tO)) ?_
 refine rm 60 rfl rfl rfl ?_
 refine gm 61 rfl rfl tG rfl rfl ?_
 refine rg 62 rfl rfl tG (op_not rfl (oO rfl tO)) ?_
 refine rp 63 rfl (op_pick_and rfl (oT rfl) (oO rfl tO)) ?_
 refine ra 0 rfl rfl rfl ?_
 refine rn ?_
 refine nK ?_
 (first | exact s_o1 hC rfl tV | exact s_o2 hC rfl tV tV | exact s_o3 hC rfl tV tV tV | exact s_out0 hC rfl | exact s_outO hC rfl rfl rfl)
def largeB (g : Gr) : Bool := decide (14 < g.r) || (decide (6 < g.n) || decide (80 < (g.es.length : Int)))
theorem large_c (g : Gr) : Pure Tryz.prog 8 [.agg (encG g)] (Bf (largeB g)) := by
 unfold largeB
 rw [← Bool.or_assoc]
 refine Meets.intro Tryz.func8 rfl (Nat.le_of_ble_eq_true rfl) fun C hC => ?_
 simp only [List.map, argEnv, Nat.reduceAdd]
 refine nK ?_
 refine s_reg rfl ?_
 refine Run.eff (dd := some 1) rfl rfl (op_box_flat rfl (oT rfl) tC rfl) ?_
 refine rp 2 rfl (op_assign rfl oC) ?_
 refine rn ?_
 refine nK ?_
 refine s_reg rfl ?_
 refine rp 3 rfl (op_fld_ptr (by decide) rfl (oT rfl)) ?_
 refine rl 4 rfl (op_load1_flat rfl (oT rfl) tH rfl) ?_
 refine rp 5 rfl (op_gtr rfl (oT rfl) oC) ?_
 refine rm 6 rfl rfl rfl ?_
 refine rg 7 rfl rfl tG (op_fld_ptr (by decide) rfl (oT rfl)) ?_
 refine rk 8 rfl rfl tG (op_load1_flat rfl (oO rfl tO) tH rfl) ?_
 refine rg 9 rfl rfl tG (op_gtr rfl (oO rfl tO) oC) ?_
 refine rp 10 rfl (op_pick_or rfl (oT rfl) (oO rfl tO)) ?_
 refine rm 11 rfl rfl rfl ?_
 refine rg 12 rfl rfl tG (op_fld_ptr (by decide) rfl (oT rfl)) ?_
 refine rk 13 rfl rfl tG (op_load1_flat rfl (oO rfl tO) tH rfl) ?_
 refine rg 14 rfl rfl tG (op_len_fz rfl (by first | exact Opd.topt _ _ _ rfl tO | exact Opd.nil _ _ (oO rfl tO)) (by first | exact List.length_map _ | rfl)) ?_
 refine rg 15 rfl rfl tG (op_gtr rfl (oO rfl tO) oC) ?_
 refine rp 16 rfl (op_pick_or rfl (oT rfl) (oO rfl tO)) ?_
 refine ra 2 rfl rfl rfl ?_
 refine rn ?_
 refine nK ?_
 (first | exact s_o1 hC rfl tV | exact s_o2 hC rfl tV tV | exact s_o3 hC rfl tV tV tV | exact s_out0 hC rfl | exact s_outO hC rfl rfl rfl)
theorem rindex_l (l : List Int) (x : Int) (hl : l.length ≤ 1000000000) : Meets Tryz.prog 53 [.sl 0 1 0 l.length, IV .i64 x] 1 [(0, OI l)] (IV .i64 (idxAt (fun y => decide (x = y)) 0 l)) [(0, OI l)] 1 := by
 refine Meets.intro Tryz.func53 rfl (Nat.le_of_ble_eq_true rfl) fun C hC => ?_
 simp only [List.map, argEnv, Nat.reduceAdd]
 refine nK ?_
 refine s_reg rfl ?_
 refine rp 4 rfl (op_assign rfl oC) ?_
 refine rn ?_
 refine nK ?_
 refine s_reg rfl ?_
 refine rm 7 rfl rfl rfl ?_
 refine rp 8 rfl (op_len_sl rfl (oT rfl)) ?_
 refine rp 9 rfl (op_move rfl oC) ?_
 refine rn ?_
 refine nK ?_
 refine n_loop (ι := Nat) (fun i => ([(1, IV .i64 x), (7, .sl 0 1 0 l.length), (8, IV .i64 l.length), (9, IV .i64 i)], [(0, OI l)], 1)) (fun i => i ≤ l.length ∧ idxAt (fun y => decide (x = y)) 0 l = idxAt (fun y => decide (x = y)) i (l.drop i)) (fun i => l.length - i) 0 ⟨Nat.zero_le _, rfl⟩ ?_ ?_
 ·refine Next.weak [0] [] (by rfl) (keepsN hC _ rfl) (by repeat (first | exact trivial | refine ⟨⟨_, rfl, .inl ⟨rfl, rfl⟩⟩, ?_⟩ | refine ⟨⟨_, rfl, .inl ⟨slEq rfl tN, rfl⟩⟩, ?_⟩ | refine ⟨⟨_, rfl, .inl ⟨ivEq tX, rfl⟩⟩, ?_⟩)) (by exact ⟨ent_same rfl rfl rfl tL, trivial⟩) (fun _ h => by simp at h) rel_intro
 ·intro i ⟨hi, ho⟩ K hK
  refine nK ?_
  refine s_reg rfl ?_
  refine rp 10 rfl (op_lss rfl (oT rfl) (oT rfl)) ?_
  refine rn ?_
  refine nK ?_
  refine n_cond _ rfl (fun hb => ?_) (fun hb => ?_)
  ·have hlt : i < l.length := by have := of_decide_eq_true hb; omega
   rw [List.drop_eq_getElem_cons hlt] at ho
   have hr1 := row_at' encN l i hlt
   have hK1 := fun h => hK (i + 1) ⟨by omega, h⟩ (by omega)
   have hlt2 := hlt
   generalize l[i] = y at *
   refine nK ?_
   refine s_reg rfl ?_
   refine rm 11 rfl rfl rfl ?_
   refine rp 12 rfl (op_idx_sl0 i rfl (oT rfl) (oT rfl) (by intro _; exact ⟨rfl, hlt⟩)) ?_
   refine rl 13 rfl (op_load1_flat rfl (oT rfl) (by intro _; exact ⟨rfl, hr1⟩) rfl) ?_
   refine ra 5 rfl rfl rfl ?_
   refine ra 6 rfl rfl rfl ?_
   refine rn ?_
   refine nK ?_
   refine s_reg rfl ?_
   refine rm 14 rfl rfl rfl ?_
   refine rm 15 rfl rfl rfl ?_
   refine rp 16 rfl (op_eql rfl (oT rfl) (oT rfl)) ?_
   refine rn ?_
   refine nK ?_
   refine n_cond _ rfl (fun hb => ?_) (fun hb => ?_)
   ·have e : y = x := by simpa using hb
    rw [ho, show idxAt (fun y => decide (x = y)) i (y :: l.drop (i + 1)) = (i : Int) by simp [idxAt, e]]
    refine nK ?_
    refine s_reg rfl ?_
    refine rm 17 rfl rfl rfl ?_
    refine ra 4 rfl rfl rfl ?_
    refine rn ?_
    refine nK ?_
    refine Next.weak [0] [] (by rfl) (keepsN hC _ rfl) (G' := [(4, .fz _)]) (H' := [(0, OI l)]) (by repeat (first | exact trivial | refine ⟨⟨_, rfl, .inl ⟨rfl, rfl⟩⟩, ?_⟩ | refine ⟨⟨_, rfl, .inl ⟨slEq rfl tN, rfl⟩⟩, ?_⟩ | refine ⟨⟨_, rfl, .inl ⟨ivEq tX, rfl⟩⟩, ?_⟩)) (by exact ⟨ent_same rfl rfl rfl tL, trivial⟩) (fun _ h => by simp at h) ?_
    exact n_out1 rfl (by rfl) rfl rfl
   ·have e : ¬ x = y := fun h => by simp at hb; exact hb h.symm
    rw [show idxAt (fun y => decide (x = y)) i (y :: l.drop (i + 1)) = idxAt (fun y => decide (x = y)) (i + 1) (l.drop (i + 1)) by simp [idxAt, e]] at ho
    refine nK ?_
    refine s_reg rfl ?_
    refine rp 18 rfl (op_add rfl (oT rfl) oC tI) ?_
    refine rm 9 rfl rfl rfl ?_
    refine rn ?_
    refine nK ?_
    refine Next.weak [0] [] (by rfl) (keepsN hC _ rfl) (by repeat (first | exact trivial | refine ⟨⟨_, rfl, .inl ⟨rfl, rfl⟩⟩, ?_⟩ | refine ⟨⟨_, rfl, .inl ⟨slEq rfl tN, rfl⟩⟩, ?_⟩ | refine ⟨⟨_, rfl, .inl ⟨ivEq tX, rfl⟩⟩, ?_⟩)) (by exact ⟨ent_same rfl rfl rfl tL, trivial⟩) (fun _ h => by simp at h) (hK1 ho)
  ·have hie : i = l.length := by have := of_decide_eq_false hb; omega
   rw [hie, List.drop_length] at ho
   rw [ho]
   refine nK ?_
   refine s_reg rfl ?_
   refine rp 4 rfl (op_assign rfl oC) ?_
   refine rn ?_
   refine nK ?_
   refine Next.weak [0] [] (by rfl) (keepsN hC _ rfl) (G' := [(4, .fz _)]) (H' := [(0, OI l)]) (by repeat (first | exact trivial | refine ⟨⟨_, rfl, .inl ⟨rfl, rfl⟩⟩, ?_⟩ | refine ⟨⟨_, rfl, .inl ⟨slEq rfl tN, rfl⟩⟩, ?_⟩ | refine ⟨⟨_, rfl, .inl ⟨ivEq tX, rfl⟩⟩, ?_⟩)) (by exact ⟨ent_same rfl rfl rfl tL, trivial⟩) (fun _ h => by simp at h) ?_
   exact n_out1 rfl (by rfl) rfl rfl
theorem hasint_l (l : List Int) (x : Int) (hl : l.length ≤ 1000000000) : Meets Tryz.prog 27 [.sl 0 1 0 l.length, IV .i64 x] 1 [(0, OI l)] (.fz (Bf (decide (x ∈ l)))) [(0, OI l)] 1 := by
 rw [show decide (x ∈ l) = decide (0 ≤ idxAt (fun y => decide (x = y)) 0 l) from decide_eq_decide.2 (mem_idx x l 0)]
 have hix := rindex_l l x hl
 refine Meets.intro Tryz.func27 rfl (Nat.le_of_ble_eq_true rfl) fun C hC => ?_
 simp only [List.map, argEnv, Nat.reduceAdd]
 refine nK ?_
 refine s_reg rfl ?_
 refine rp 4 rfl (op_assign rfl oC) ?_
 refine rn ?_
 refine nK ?_
 refine s_reg rfl ?_
 refine rm 5 rfl rfl rfl ?_
 refine rm 6 rfl rfl rfl ?_
 refine rl 7 rfl (op_call_read (n := 1) [0] (fun _ => hix) rfl (Opd.func _) (oS (oT rfl) (oS (oT rfl) Opds.nil)) rfl rfl (Lent.of rfl rfl (by exact ⟨⟨rfl, rfl, rfl, trivial⟩, trivial⟩) rfl) rfl) ?_
 refine rp 8 rfl (op_geq rfl (oT rfl) oC) ?_
 refine ra 4 rfl rfl rfl ?_
 refine rn ?_
 refine nK ?_
 refine Next.weak [0] [] (by rfl) (keepsN hC _ rfl) (G' := [(4, .fz _)]) (H' := [(0, OI l)]) (by repeat (first | exact trivial | refine ⟨⟨_, rfl, .inl ⟨rfl, rfl⟩⟩, ?_⟩ | refine ⟨⟨_, rfl, .inl ⟨slEq rfl tN, rfl⟩⟩, ?_⟩ | refine ⟨⟨_, rfl, .inl ⟨ivEq tX, rfl⟩⟩, ?_⟩)) (by exact ⟨ent_same rfl rfl rfl tL, trivial⟩) (fun _ h => by simp at h) ?_
 exact n_out1 rfl (by rfl) rfl rfl
theorem ways_c (g : Gr) (x z : Nat) (hok : okG g) (hp : plainI g = 0) (hx : (x : Int) < g.r) (hz : (z : Int) < g.r) : Pure Tryz.prog 26 [.agg (encG g), If .i64 x, If .i64 z] (VI (waysL (hopsF g (disF g.es g.m) z) g.m x)) := by
 obtain ⟨hg, hN⟩ := plainI_ok hp
 have d := dst_of hg
 have hm := plain_m hN
 have hr0 := d.r0
 have h128 := d.vg.n128
 have hrun := fun (y : Nat) (hy : (y : Int) < g.r) => rrun_c g y hok hg hy
 have hsp := fun (y : Nat) (hy : y < g.m) (h : Int) hh => hop_spec d hN (x := y) (z := z) hy (by omega) (h := h) hh
 have hrz : ∀ y, ((refT g (disF g.es g.m) y).hops.map encL)[z]? = some [VI (hopR g (disF g.es g.m) y z)] := fun y => by
  simp [refT, encL, (by omega : z < g.m)]
 have hhF : ∀ y : Nat, y < g.m → hopsF g (disF g.es g.m) z y = hopR g (disF g.es g.m) y z := fun y hy => by
  unfold hopsF; rw [if_pos (by omega), Int.toNat_natCast]
 have hab := hopsF_rng d hN (z := z) (by omega)
 unfold waysL
 generalize disF g.es g.m = D at *
 have hzm : z < g.m := by omega
 have hnd0 : NdL g.m [(x : Int)] := ⟨by simp, by simp; omega⟩
 generalize hW : bfsGo (hopsF g D z) (g.m + 1) 0 [(x : Int)] = W at *
 refine Meets.intro Tryz.func26 rfl (Nat.le_of_ble_eq_true rfl) fun C hC => ?_
 simp only [List.map, argEnv, Nat.reduceAdd]
 refine nK ?_
 refine s_reg rfl ?_
 refine Run.eff (dd := some 3) rfl rfl (op_box_flat rfl (oT rfl) tC rfl) ?_
 refine rp 6 rfl (op_assign rfl oC) ?_
 refine rn ?_
 refine nK ?_
 refine s_reg rfl ?_
 refine rm 13 rfl rfl rfl ?_
 refine Run.eff (dd := some 14) rfl rfl (op_buildSlice_own rfl (RowsF.cons _ _ _ _ _ _ (oT rfl) tC (by rfl) (RowsF.nil _)) rfl rfl rfl) ?_
 refine ra 7 rfl rfl rfl ?_
 refine rn ?_
 refine nK ?_
 refine s_reg rfl ?_
 refine rp 8 rfl (op_assign rfl oC) ?_
 refine rn ?_
 refine nK ?_
 refine n_loop (ι := Nat × Nat × List Int) (fun s => ([(2, IV .i64 z), (3, .ptr 0 3 0 0), (7, .sl 1 1 0 s.2.2.length), (8, IV .i64 s.1)], [(0, OG g), (1, OI s.2.2)], 2)) (fun s => bfsGo (hopsF g D z) s.2.1 s.1 s.2.2 = W ∧ g.m + 1 ≤ s.2.1 + s.1 ∧ s.1 ≤ s.2.2.length ∧ NdL g.m s.2.2) (fun s => s.2.1) (0, g.m + 1, [(x : Int)]) ⟨hW, by dsimp only; omega, by simp, hnd0⟩ ?_ ?_
 ·refine Next.weak [0, 1] [] (by rfl) (keepsN hC _ rfl) (by repeat (first | exact trivial | refine ⟨⟨_, rfl, .inl ⟨rfl, rfl⟩⟩, ?_⟩ | refine ⟨⟨_, rfl, .inl ⟨slEq rfl tN, rfl⟩⟩, ?_⟩ | refine ⟨⟨_, rfl, .inl ⟨ivEq tX, rfl⟩⟩, ?_⟩)) (by exact ⟨ent_same rfl rfl rfl tL, ⟨ent_same rfl rfl rfl tL, trivial⟩⟩) (fun _ h => by simp at h) rel_intro
 ·intro ⟨i, f, l⟩ ⟨hbf, hfi, hil, hnd⟩ K hK
  dsimp only at hbf hfi hil hnd hK ⊢
  have hlen := hnd.len
  obtain ⟨f, rfl⟩ : ∃ f', f = f' + 1 := ⟨f - 1, by omega⟩
  simp only [bfsGo] at hbf
  refine nK ?_
  refine s_reg rfl ?_
  refine rm 15 rfl rfl rfl ?_
  refine rm 16 rfl rfl rfl ?_
  refine rp 17 rfl (op_len_sl rfl (oT rfl)) ?_
  refine rp 18 rfl (op_lss rfl (oT rfl) (oT rfl)) ?_
  refine rn ?_
  refine nK ?_
  refine n_cond _ rfl (fun hb => ?_) (fun hb => ?_)
  ·have hlt : i < l.length := by have := of_decide_eq_true hb; omega
   rw [List.getElem?_eq_getElem hlt] at hbf
   dsimp only at hbf
   obtain ⟨y, hy⟩ : ∃ y : Nat, l[i] = y := ⟨l[i].toNat, by have := (hnd.2 _ (List.getElem_mem hlt)).1; omega⟩
   have hym : y < g.m := by have := (hnd.2 _ (List.getElem_mem hlt)).2; omega
   have hri := row_at' encN l i hlt
   rw [hy] at hbf hri
   rw [hhF y hym] at hbf
   have hr := hrun y (by omega)
   have hrow := hrz y
   have hsy := hsp y hym
   have habL : ∀ u ∈ hopR g D y z, 0 ≤ u ∧ u < (g.m : Int) := fun u hu => hab y u (by rw [hhF y hym]; exact hu)
   have hll : (hopR g D y z).length ≤ 128 := by
    unfold hopR
    split
    ·simp
    ·have h1 := List.length_filter_le (fun y' : Int => hopB g D y z y'.toNat) (fil (fstB g D y) g.m)
     have h2 := fil_len (fstB g D y) g.m
     omega
   have hK1 := hK (i + 1, f, (hopR g D y z).foldl Pl.push l)
   dsimp only at hK1
   clear hK hb
   generalize hopR g D y z = L at *
   refine nK ?_
   refine s_draw mixed ?_
   refine rl 22 rfl (op_loadw_flat rfl (oT rfl) tH rfl) ?_
   refine rm 23 rfl rfl rfl ?_
   refine rm 24 rfl rfl rfl ?_
   refine rp 25 rfl (op_idx_sl0 i rfl (oT rfl) (oT rfl) (by intro _; exact ⟨rfl, hlt⟩)) ?_
   refine rl 26 rfl (op_load1_flat rfl (oT rfl) (by intro _; exact ⟨rfl, hri⟩) rfl) ?_
   refine rp 27 rfl (op_call_pure (fun _ => hr) rfl (Opd.func _) (oS (oT rfl) (oS (oT rfl) Opds.nil))) ?_
   refine rm 21 rfl rfl rfl ?_
   refine rp 28 rfl (op_extract_fz rfl (oT rfl) rfl) ?_
   refine rp 29 rfl (op_extract_fz rfl (oT rfl) rfl) ?_
   refine Run.effW (dd := some 9) rfl rfl (op_alloc rfl rfl rfl rfl) tE ?_
   refine Run.effW (dd := none) rfl rfl (op_store_flat rfl (oT rfl) (oT rfl) tC rfl rfl (by first | rfl | assumption) tS) tE ?_
   refine ra 10 rfl rfl rfl ?_
   refine Run.nil (FinD.mk (by kernel_rfl) ?_)
   refine nK ?_
   refine s_reg rfl ?_
   refine rp 30 rfl (op_fld_ptr (by decide) rfl (oT rfl)) ?_
   refine rl 31 rfl (op_load1_flat rfl (oT rfl) tH rfl) ?_
   refine rm 32 rfl rfl rfl ?_
   refine rp 33 rfl (op_idx_fz z rfl (oT rfl) (oT rfl) (by intro _; exact ⟨rfl, hrow⟩)) ?_
   refine rp 34 rfl (op_load1_fz rfl (oT rfl) rfl) ?_
   refine rp 35 rfl (op_len_fz rfl (by first | exact Opd.tmp _ _ rfl | exact Opd.nil _ _ (oT rfl)) (by first | exact List.length_map _ | rfl)) ?_
   refine rp 36 rfl (op_move rfl oC) ?_
   refine rn ?_
   refine nK ?_
   refine n_loop (ι := Nat) (fun j => ([(2, IV .i64 z), (3, .ptr 0 3 0 0), (7, .sl 1 1 0 ((L.take j).foldl Pl.push l).length), (8, IV .i64 i), (34, .fz (VI L)), (35, IV .i64 L.length), (36, IV .i64 j)], [(0, OG g), (1, OI ((L.take j).foldl Pl.push l))], 2)) (fun j => j ≤ L.length) (fun j => L.length - j) 0 (Nat.zero_le _) ?_ ?_
   ·refine Next.weak [0, 1] [] (by rfl) (keepsN hC _ rfl) (by repeat (first | exact trivial | refine ⟨⟨_, rfl, .inl ⟨rfl, rfl⟩⟩, ?_⟩ | refine ⟨⟨_, rfl, .inl ⟨ivEq (by rw [List.length_map]), rfl⟩⟩, ?_⟩)) (by exact ⟨ent_same rfl rfl rfl tL, ⟨ent_same rfl rfl rfl tL, trivial⟩⟩) (fun _ h => by simp at h) rel_intro
   ·intro j hj K2 hK2
    try dsimp only at hj hK2 ⊢
    refine nK ?_
    refine s_reg rfl ?_
    refine rp 37 rfl (op_lss rfl (oT rfl) (oT rfl)) ?_
    refine rn ?_
    refine nK ?_
    refine n_cond _ rfl (fun hb => ?_) (fun hb => ?_)
    ·have hlj : j < L.length := by have := of_decide_eq_true hb; omega
     have hrj := row_at' encN L j hlj
     have hne : y ≠ z := by
      obtain ⟨_, _, _, _, _, _, h, _⟩ := hsy _ (List.getElem_mem hlj)
      exact h
     have hcn : NdL g.m ((L.take j).foldl Pl.push l) := NdL.pushs _ hnd fun u hu => habL u (List.mem_of_mem_take hu)
     have hcl := hcn.len
     obtain ⟨r, hr2⟩ := pushs_pre (L.take j) l
     have hic : i < ((L.take j).foldl Pl.push l).length := by rw [hr2, List.length_append]; omega
     have hri2 : (((L.take j).foldl Pl.push l).map encN)[i]? = some [If .i64 (y : Int)] := by
      rw [hr2, List.map_append, List.getElem?_append_left (by rw [List.length_map]; exact hlt)]
      exact hri
     have hK3 := hK2 (j + 1) (by omega) (by omega)
     rw [foldl_take_succ _ _ _ _ hlj] at hK3
     clear hK2 hb hr2 hcn
     generalize (L.take j).foldl Pl.push l = cur at *
     generalize L[j] = h at *
     unfold Pl.push at hK3
     have hhi := hasint_l cur h (by omega)
     refine nK ?_
     refine s_reg rfl ?_
     refine rp 38 rfl (op_idx_fz j rfl (oT rfl) (oT rfl) (by intro _; exact ⟨rfl, hrj⟩)) ?_
     refine rp 39 rfl (op_load1_fz rfl (oT rfl) rfl) ?_
     refine ra 12 rfl rfl rfl ?_
     refine rn ?_
     refine nK ?_
     refine s_reg rfl ?_
     refine rm 40 rfl rfl rfl ?_
     refine rm 41 rfl rfl rfl ?_
     refine rp 42 rfl (op_idx_sl0 i rfl (oT rfl) (oT rfl) (by intro _; exact ⟨rfl, hic⟩)) ?_
     refine rl 43 rfl (op_load1_flat rfl (oT rfl) (by intro _; exact ⟨rfl, hri2⟩) rfl) ?_
     refine rm 44 rfl rfl rfl ?_
     refine rp 45 rfl (op_neq rfl (oT rfl) (oT rfl)) ?_
     refine rm 46 rfl rfl rfl ?_
     refine gm 47 rfl rfl tG rfl rfl ?_
     refine gm 48 rfl rfl tG rfl rfl ?_
     refine rk 49 rfl rfl tG (op_call_read (n := 1) [1] (fun _ => hhi) rfl (Opd.func _) (oS (oO rfl tO) (oS (oO rfl tO) Opds.nil)) rfl rfl (Lent.of rfl rfl (by exact ⟨⟨rfl, rfl, rfl, trivial⟩, trivial⟩) rfl) rfl) ?_
     refine rg 50 rfl rfl tG (op_not rfl (oO rfl tO)) ?_
     refine rp 51 rfl (op_pick_and rfl (oT rfl) (oO rfl tO)) ?_
     refine rn ?_
     refine nK ?_
     refine n_cond _ rfl (fun hb => ?_) (fun hb => ?_)
     ·have hc : ¬ h ∈ cur := by simp at hb; exact hb.2
      rw [if_neg hc] at hK3
      refine nK ?_
      refine s_reg rfl ?_
      refine rm 52 rfl rfl rfl ?_
      refine rm 53 rfl rfl rfl ?_
      refine rp 54 rfl (op_buildSlice_fz rfl (RowsF.cons _ _ _ _ _ _ (oT rfl) tC (by rfl) (RowsF.nil _)) rfl rfl) ?_
      refine Run.eff (dd := some 55) rfl rfl (op_append rfl (oT rfl) (by first | exact Opd.tmp _ _ rfl | exact Opd.nil _ _ (oT rfl)) rfl (by first | rfl | simp) rfl rfl tB tB) ?_
      refine ra 7 rfl rfl rfl ?_
      refine rn ?_
      refine nK ?_
      refine s_reg rfl ?_
      refine rp 56 rfl (op_add rfl (oT rfl) oC tI) ?_
      refine rm 36 rfl rfl rfl ?_
      refine rn ?_
      refine nK ?_
      refine Next.weak [0, 2] [] (by rfl) (keepsN hC _ rfl) (by repeat (first | exact trivial | refine ⟨⟨_, rfl, .inl ⟨rfl, rfl⟩⟩, ?_⟩ | refine ⟨⟨_, rfl, .inl ⟨slEq rfl (by simp), rfl⟩⟩, ?_⟩)) (by exact ⟨ent_same rfl rfl rfl tL, ⟨ent_same rfl rfl (flEq rfl (by rw [List.map_append]; rfl)) trivial, trivial⟩⟩) (fun _ h => by simp at h) hK3
     ·have hc : h ∈ cur := by
       have hn : ((y : Int) ≠ (z : Int)) := by omega
       simp [hn] at hb
       first | exact hb | exact hb hne
      rw [if_pos hc] at hK3
      refine nK ?_
      refine s_reg rfl ?_
      refine rp 56 rfl (op_add rfl (oT rfl) oC tI) ?_
      refine rm 36 rfl rfl rfl ?_
      refine rn ?_
      refine nK ?_
      refine Next.weak [0, 1] [] (by rfl) (keepsN hC _ rfl) (by repeat (first | exact trivial | refine ⟨⟨_, rfl, .inl ⟨rfl, rfl⟩⟩, ?_⟩ | refine ⟨⟨_, rfl, .inl ⟨slEq rfl tN, rfl⟩⟩, ?_⟩ | refine ⟨⟨_, rfl, .inl ⟨ivEq tX, rfl⟩⟩, ?_⟩)) (by exact ⟨ent_same rfl rfl rfl tL, ⟨ent_same rfl rfl rfl tL, trivial⟩⟩) (fun _ h => by simp at h) hK3
    ·have hje : j = L.length := by have := of_decide_eq_false hb; omega
     subst hje
     rw [List.take_length]
     refine nK ?_
     refine s_reg rfl ?_
     refine rm 19 rfl rfl rfl ?_
     refine rp 20 rfl (op_add rfl (oT rfl) oC tI) ?_
     refine ra 8 rfl rfl rfl ?_
     refine rn ?_
     refine nK ?_
     refine Next.weak [0, 1] [] (by rfl) (keepsN hC _ rfl) (by repeat (first | exact trivial | refine ⟨⟨_, rfl, .inl ⟨rfl, rfl⟩⟩, ?_⟩ | refine ⟨⟨_, rfl, .inl ⟨slEq rfl tN, rfl⟩⟩, ?_⟩ | refine ⟨⟨_, rfl, .inl ⟨ivEq tX, rfl⟩⟩, ?_⟩)) (by exact ⟨ent_same rfl rfl rfl tL, ⟨ent_same rfl rfl rfl tL, trivial⟩⟩) (fun _ h => by simp at h) (hK1 ⟨hbf, by omega, by have := push_le L l; omega, NdL.pushs _ hnd habL⟩ (by omega))
  ·have hie : i = l.length := by have := of_decide_eq_false hb; omega
   rw [List.getElem?_eq_none (by omega)] at hbf
   dsimp only at hbf
   subst hbf
   refine nK ?_
   refine s_reg rfl ?_
   refine rm 57 rfl rfl rfl ?_
   refine ra 6 rfl rfl rfl ?_
   refine rn ?_
   refine nK ?_
   refine Next.weakS [] [6] (by rfl) (keeps0 hC _) (G' := [(6, .fz (VI l))]) (H' := []) ⟨⟨_, rfl, .inr ⟨_, rfl, .sl _ _ _ _ _ _ rfl rfl (take_all0 (List.length_map _)) (List.length_map _)⟩⟩, trivial⟩ trivial rfl ?_
   exact n_out1 rfl (by rfl) rfl rfl
end Go.Proofs.YtnkhlbljnmodbaaGreat
/- What the statements ask of an alternate. -/
namespace Go.Pl
open Go Go.RT
set_option linter.all false
variable {g : Gr} {D : Nat → Nat → Int}
theorem walkL_len (hp : Nat → List Int) (z : Nat) (a b : Int) : ∀ (f x : Nat) (out : List Int), (walkL hp z a b f x out).1.length ≤ out.length + f
  | 0, x, out => by simp [walkL]
  | f + 1, x, out => by
    simp only [walkL]
    split
    · simp
    · cases h : hp x with
      | nil => simp
      | cons u l =>
        dsimp only
        split
        · simp
        · have := walkL_len hp z a b f u.toNat (out ++ [u])
          simp at this ⊢; omega
theorem rowA_len (g : Gr) (ll : List (List Int)) (a : Int) (ns : List Int) (hops : List (List Int)) (d : Nat) : (Pl.rowA g ll a ns hops d).length ≤ (rowAt' hops d).length := by
  unfold Pl.rowA
  generalize rowAt' hops d = row
  induction row with
  | nil => simp
  | cons x l ih =>
    rw [List.flatMap_cons, List.length_append, List.length_cons]
    have : (oneA g ll a d ns x).length ≤ 1 := by unfold oneA; split <;> simp
    omega
theorem allA_len (g : Gr) (ll : List (List Int)) (a : Int) (ns : List Int) (hops : List (List Int)) (B : Nat) (hB : ∀ d, (rowAt' hops d).length ≤ B) : ∀ k, (allA g ll a ns hops k).length ≤ k * B
  | 0 => by simp [allA]
  | k + 1 => by
    rw [allA_succ, List.length_append]
    have h1 := allA_len g ll a ns hops B hB k
    have h2 := rowA_len g ll a ns hops k
    have h3 := hB k
    have : (k + 1) * B = k * B + B := Nat.succ_mul k B
    omega
theorem hopR_len (g : Gr) (D : Nat → Nat → Int) (a v : Nat) : (hopR g D a v).length ≤ g.m := by
  unfold hopR
  split
  · simp
  · have h1 := List.length_filter_le (fun y : Int => hopB g D a v y.toNat) (fil (fstB g D a) g.m)
    have h2 := fil_len (fstB g D a) g.m
    omega
theorem refT_hops {a v : Nat} (hv : v < g.m) : rowAt' (refT g D a).hops v = hopR g D a v := by
  simp [rowAt', refT, List.getD_eq_getElem?_getD, hv]
theorem refT_rowlen (a d : Nat) : (rowAt' (refT g D a).hops d).length ≤ g.m := by
  by_cases h : d < g.m
  · rw [refT_hops h]; exact hopR_len _ _ _ _
  · have : rowAt' (refT g D a).hops d = [] := by simp [rowAt', refT, List.getD_eq_getElem?_getD, h]
    rw [this]; simp
structure AltOk (g : Gr) (D : Nat → Nat → Int) (a v p z : Nat) (kd : Int) : Prop where
  noroot : (a : Int) ∉ waysL (hopsF g D z) g.m v
  dest : (z : Int) ∈ waysL (hopsF g D z) g.m v
  noprim : kd = 2 → (p : Int) ∉ waysL (hopsF g D z) g.m v
  len : (waysL (hopsF g D z) g.m v).length ≤ g.m
  path : ∃ q, walkL (fun x => hopR g D x z) z a p ((D v z).toNat + 1) v [(v : Int)] = ((v : Int) :: q, true) ∧ (a : Int) ∉ (v : Int) :: q ∧ (kd = 2 → (p : Int) ∉ (v : Int) :: q) ∧ ((v : Int) :: q).getLast? = some (z : Int)
theorem alt_ok (hg : checkI g = 0) (d : Dst g D) (hN : g.n = 0) {a v p z : Nat} {kd : Int} (hv : v < g.m) (hz : z < g.m) (h0 : 0 ≤ D v z) (ha : ¬ OnW g D v z a) (hp : kd = 2 → ¬ OnW g D v z p) : AltOk g D a v p z kd := by
  obtain ⟨w1, w2⟩ := ways_spec (hopsF_rng d hN hz) (s := (v : Int)) ⟨by omega, by omega⟩
  have hz0 := d.zero hv
  have hon : ∀ x, x ∈ waysL (hopsF g D z) g.m v → ∃ y : Nat, x = y ∧ OnW g D v z y := fun x hx => rch_on d hN hv hz h0 ((w1 x).1 hx)
  have hself : OnW g D v z v := ⟨hv, by omega, h0, by omega⟩
  obtain ⟨q, q1, q2, q3⟩ := walk_ok hg d hN hv hz (p : Int) ha ((D v z).toNat + 1) v [(v : Int)] (by omega) hself
  have hnot : ∀ x : Nat, ¬ OnW g D v z x → (x : Int) ∉ (v : Int) :: q := fun x hx hm => by
    rcases List.mem_cons.1 hm with e | hm
    · have : x = v := by omega
      exact hx (this ▸ hself)
    · obtain ⟨w, e, hw⟩ := q2 _ hm
      have : x = w := by omega
      exact hx (this ▸ hw)
  refine ⟨fun h => ?_, (w1 _).2 (rch_end hg d hN hv hz _ v (Nat.lt_succ_self _) hself .here), fun hk h => ?_, w2.len, q, by simpa using q1, hnot a ha, fun hk => hnot p (hp hk), q3⟩
  · obtain ⟨y, e, hy⟩ := hon _ h
    have : a = y := by omega
    exact ha (this ▸ hy)
  · obtain ⟨y, e, hy⟩ := hon _ h
    have : p = y := by omega
    exact hp hk (this ▸ hy)
end Go.Pl
namespace Go.Proofs.YtnkhlbljnmodbaaGreat
open Go Go.RT Go.Proofs Go.Pl
set_option linter.all false
set_option maxRecDepth 20000
set_option maxHeartbeats 4000000
theorem altlen {g : Gr} (hg : checkI g = 0) (a : Int) (n : Nat) : (allA g (tabL g (disF g.es g.m)) a (nextI a g.es) (refT g (disF g.es g.m) n).hops g.r.toNat).length ≤ 1000000 := by
 have h1 := allA_len g (tabL g (disF g.es g.m)) a (nextI a g.es) (refT g (disF g.es g.m) n).hops 128 (fun d => by
  have := refT_rowlen (g := g) (D := disF g.es g.m) n d
  have := (dst_of hg).vg.n128; omega) g.r.toNat
 have h2 := (dst_of hg).vg.n128
 have h3 := (dst_of hg).vg.le
 have : g.r.toNat * 128 ≤ 128 * 128 := Nat.mul_le_mul_right _ (by omega)
 omega
/-- what All returns -/
structure AllRes (g : Gr) (a : Int) (l : List Alt) (e : Int) : Prop where
 len : l.length ≤ 1000000
 ok : e = 0 → checkI g = 0 ∧ g.n = 0 ∧ ∃ n : Nat, a = n ∧ (n : Int) < g.r ∧ l = allA g (tabL g (disF g.es g.m)) n (nextI n g.es) (refT g (disF g.es g.m) n).hops g.r.toNat
theorem lalls_c (g : Gr) (a : Int) (hok : okG g) : ∃ l e, AllRes g a l e ∧ Pure Tryz.prog 10 [.agg (encG g), If .i64 a] (.tup [VAl l, If .i64 e]) ∧ Pure Tryz.prog 11 [.agg (encG g), If .i64 a] (.tup [VAl l, If .i64 e]) := by
 by_cases hp : plainI g = 0
 ·by_cases ha : a < 0 ∨ g.r ≤ a
  ·exact ⟨[], 5, ⟨by simp, by simp⟩, lall_out g a hok hp ha, rlall_out g a hok hp ha⟩
  ·obtain ⟨n, rfl⟩ : ∃ n : Nat, a = n := ⟨a.toNat, by omega⟩
   obtain ⟨hg, hN⟩ := plainI_ok hp
   obtain ⟨t, ht⟩ := run_exists hg (a := n) (by omega)
   have h1 := lall_c g n t hok hN ht
   have h2 := rlall_c g n t hok hN ht
   rw [ht.refT (dst_of hg)] at h1 h2
   exact ⟨_, 0, ⟨altlen hg _ _, fun _ => ⟨hg, hN, n, rfl, by omega, rfl⟩⟩, h1, h2⟩
 ·exact ⟨[], plainI g, ⟨by simp, fun h => absurd h hp⟩, lall_bad g a hok hp, rlall_bad g a hok hp⟩
theorem all_law (g : Gr) (a : Int) (hok : okG g) : Pure Tryz.prog 3 [.agg (encG g), If .i64 a] (Bf true) := by
 obtain ⟨l, e, hr, h1, h2⟩ := lalls_c g a hok
 have hs := alts3_c l l (by have := hr.len; omega) (by have := hr.len; omega)
 rw [decide_eq_true rfl] at hs
 refine Meets.intro Tryz.func3 rfl (Nat.le_of_ble_eq_true rfl) fun C hC => ?_
 simp only [List.map, argEnv, Nat.reduceAdd]
 refine nK ?_
 refine s_reg rfl ?_
 refine Run.eff (dd := some 2) rfl rfl (op_box_flat rfl (oT rfl) tC rfl) ?_
 refine rp 4 rfl (op_assign rfl oC) ?_
 refine rn ?_
 refine nK ?_
 refine s_reg rfl ?_
 refine rl 9 rfl (op_loadw_flat rfl (oT rfl) tH rfl) ?_
 refine rp 10 rfl (op_call_pure (fun _ => large_c _) rfl (Opd.func _) (oS (oT rfl) Opds.nil)) ?_
 refine rn ?_
 refine nK ?_
 refine n_cond _ rfl (fun hb => ?_) (fun hb => ?_)
 ·refine nK ?_
  refine s_reg rfl ?_
  refine rp 11 rfl (op_call_pure (fun _ => awake_c) rfl (Opd.func _) Opds.nil) ?_
  refine ra 4 rfl rfl rfl ?_
  refine rn ?_
  refine nK ?_
  (first | exact s_o1 hC rfl tV | exact s_o2 hC rfl tV tV | exact s_o3 hC rfl tV tV tV | exact s_out0 hC rfl | exact s_outO hC rfl rfl rfl)
 ·refine nK ?_
  refine s_reg rfl ?_
  refine rl 13 rfl (op_loadw_flat rfl (oT rfl) tH rfl) ?_
  refine rm 14 rfl rfl rfl ?_
  refine rp 15 rfl (op_call_pure (fun _ => h1) rfl (Opd.func _) (oS (oT rfl) (oS (oT rfl) Opds.nil))) ?_
  refine rm 12 rfl rfl rfl ?_
  refine rp 16 rfl (op_extract_fz rfl (oT rfl) rfl) ?_
  refine rp 17 rfl (op_extract_fz rfl (oT rfl) rfl) ?_
  refine ra 5 rfl rfl rfl ?_
  refine ra 6 rfl rfl rfl ?_
  refine rn ?_
  refine nK ?_
  refine s_reg rfl ?_
  refine rl 19 rfl (op_loadw_flat rfl (oT rfl) tH rfl) ?_
  refine rm 20 rfl rfl rfl ?_
  refine rp 21 rfl (op_call_pure (fun _ => h2) rfl (Opd.func _) (oS (oT rfl) (oS (oT rfl) Opds.nil))) ?_
  refine rm 18 rfl rfl rfl ?_
  refine rp 22 rfl (op_extract_fz rfl (oT rfl) rfl) ?_
  refine rp 23 rfl (op_extract_fz rfl (oT rfl) rfl) ?_
  refine ra 7 rfl rfl rfl ?_
  refine ra 8 rfl rfl rfl ?_
  refine rn ?_
  refine nK ?_
  refine s_reg rfl ?_
  refine rp 24 rfl (op_call_pure (fun _ => awake_c) rfl (Opd.func _) Opds.nil) ?_
  refine rm 25 rfl rfl rfl ?_
  refine gm 26 rfl rfl tG rfl rfl ?_
  refine gm 27 rfl rfl tG rfl rfl ?_
  refine rg 28 rfl rfl tG (op_call_pure (fun _ => hs) rfl (Opd.func _) (oS (oO rfl tO) (oS (oO rfl tO) Opds.nil))) ?_
  refine rp 29 rfl (op_pick_and rfl (oT rfl) (oO rfl tO)) ?_
  refine rm 30 rfl rfl rfl ?_
  refine gm 31 rfl rfl tG rfl rfl ?_
  refine gm 32 rfl rfl tG rfl rfl ?_
  refine rg 33 rfl rfl tG (op_eql rfl (oO rfl tO) (oO rfl tO)) ?_
  refine rp 34 rfl (op_pick_and rfl (oT rfl) (oO rfl tO)) ?_
  refine ra 4 rfl rfl rfl ?_
  refine rn ?_
  refine nK ?_
  refine s_oB hC rfl rfl ?_
  simp
theorem spaces_law (g : Gr) (s e : Int) (hok : okG g) : Pure Tryz.prog 4 [.agg (encG g), If .i64 s, If .i64 e] (Bf true) := by
 have ex : ∃ (p q : List Int) (v : Int) (b : Bool) (c : Int), p.length ≤ 128 ∧ q.length ≤ 128 ∧ Pure Tryz.prog 13 [.agg (encG g), If .i64 s, If .i64 e] (.tup [VI p, If .i64 c]) ∧ Pure Tryz.prog 14 [.agg (encG g), If .i64 s, If .i64 e] (.tup [VI q, If .i64 c]) ∧
   Pure Tryz.prog 15 [.agg (encG g), If .i64 s, If .i64 e] (.tup [If .i64 v, Bf b, If .i64 c]) ∧ Pure Tryz.prog 16 [.agg (encG g), If .i64 s, If .i64 e] (.tup [VI p, If .i64 c]) ∧ Pure Tryz.prog 17 [.agg (encG g), If .i64 s, If .i64 e] (.tup [VI q, If .i64 c]) ∧
   Pure Tryz.prog 18 [.agg (encG g), If .i64 s, If .i64 e] (.tup [If .i64 v, Bf b, If .i64 c]) := by
  by_cases hl : linkI g s e = 0
  ·obtain ⟨hp, h1, h2, h3, h4, h5⟩ := linkI_ok hl
   have h128 := (dst_of (plainI_ok hp).1).vg.n128
   obtain ⟨s, rfl⟩ : ∃ n : Nat, s = n := ⟨s.toNat, by omega⟩
   obtain ⟨e, rfl⟩ : ∃ n : Nat, e = n := ⟨e.toNat, by omega⟩
   refine ⟨_, _, _, _, 0, ?_, ?_, lps_c g s e hok hl, lqs_c g s e hok hl, lrem_c g s e hok hl, rps_c g s e hok hl, rqs_c g s e hok hl, rrem_c g s e hok hl⟩
   ·exact Nat.le_trans (fil_len _ _) h128
   ·exact Nat.le_trans (fil_len _ _) h128
  ·exact ⟨[], [], 0, false, linkI g s e, by simp, by simp, lps_bad g s e hok hl, lqs_bad g s e hok hl, lrem_bad g s e hok hl, rps_bad g s e hok hl, rqs_bad g s e hok hl, rrem_bad g s e hok hl⟩
 obtain ⟨p, q, v, b, c, hpl, hql, a1, a2, a3, b1, b2, b3⟩ := ex
 have sp := ints3_c p p (by omega) (by omega)
 have sq := ints3_c q q (by omega) (by omega)
 rw [decide_eq_true rfl] at sp sq
 refine Meets.intro Tryz.func4 rfl (Nat.le_of_ble_eq_true rfl) fun C hC => ?_
 simp only [List.map, argEnv, Nat.reduceAdd]
 refine nK ?_
 refine s_reg rfl ?_
 refine Run.eff (dd := some 3) rfl rfl (op_box_flat rfl (oT rfl) tC rfl) ?_
 refine rp 6 rfl (op_assign rfl oC) ?_
 refine rn ?_
 refine nK ?_
 refine s_reg rfl ?_
 refine rl 21 rfl (op_loadw_flat rfl (oT rfl) tH rfl) ?_
 refine rp 22 rfl (op_call_pure (fun _ => large_c _) rfl (Opd.func _) (oS (oT rfl) Opds.nil)) ?_
 refine rn ?_
 refine nK ?_
 refine n_cond _ rfl (fun hb => ?_) (fun hb => ?_)
 ·refine nK ?_
  refine s_reg rfl ?_
  refine rp 23 rfl (op_call_pure (fun _ => awake_c) rfl (Opd.func _) Opds.nil) ?_
  refine ra 6 rfl rfl rfl ?_
  refine rn ?_
  refine nK ?_
  (first | exact s_o1 hC rfl tV | exact s_o2 hC rfl tV tV | exact s_o3 hC rfl tV tV tV | exact s_out0 hC rfl | exact s_outO hC rfl rfl rfl)
 ·refine nK ?_
  refine s_reg rfl ?_
  refine rl 25 rfl (op_loadw_flat rfl (oT rfl) tH rfl) ?_
  refine rm 26 rfl rfl rfl ?_
  refine rm 27 rfl rfl rfl ?_
  refine rp 28 rfl (op_call_pure (fun _ => a1) rfl (Opd.func _) (oS (oT rfl) (oS (oT rfl) (oS (oT rfl) Opds.nil)))) ?_
  refine rm 24 rfl rfl rfl ?_
  refine rp 29 rfl (op_extract_fz rfl (oT rfl) rfl) ?_
  refine rp 30 rfl (op_extract_fz rfl (oT rfl) rfl) ?_
  refine ra 7 rfl rfl rfl ?_
  refine ra 8 rfl rfl rfl ?_
  refine rn ?_
  refine nK ?_
  refine s_reg rfl ?_
  refine rl 32 rfl (op_loadw_flat rfl (oT rfl) tH rfl) ?_
  refine rm 33 rfl rfl rfl ?_
  refine rm 34 rfl rfl rfl ?_
  refine rp 35 rfl (op_call_pure (fun _ => a2) rfl (Opd.func _) (oS (oT rfl) (oS (oT rfl) (oS (oT rfl) Opds.nil)))) ?_
  refine rm 31 rfl rfl rfl ?_
  refine rp 36 rfl (op_extract_fz rfl (oT rfl) rfl) ?_
  refine rp 37 rfl (op_extract_fz rfl (oT rfl) rfl) ?_
  refine ra 9 rfl rfl rfl ?_
  refine ra 10 rfl rfl rfl ?_
  refine rn ?_
  refine nK ?_
  refine s_reg rfl ?_
  refine rl 39 rfl (op_loadw_flat rfl (oT rfl) tH rfl) ?_
  refine rm 40 rfl rfl rfl ?_
  refine rm 41 rfl rfl rfl ?_
  refine rp 42 rfl (op_call_pure (fun _ => a3) rfl (Opd.func _) (oS (oT rfl) (oS (oT rfl) (oS (oT rfl) Opds.nil)))) ?_
  refine rm 38 rfl rfl rfl ?_
  refine rp 43 rfl (op_extract_fz rfl (oT rfl) rfl) ?_
  refine rp 44 rfl (op_extract_fz rfl (oT rfl) rfl) ?_
  refine rp 45 rfl (op_extract_fz rfl (oT rfl) rfl) ?_
  refine ra 11 rfl rfl rfl ?_
  refine ra 12 rfl rfl rfl ?_
  refine ra 13 rfl rfl rfl ?_
  refine rn ?_
  refine nK ?_
  refine s_reg rfl ?_
  refine rl 47 rfl (op_loadw_flat rfl (oT rfl) tH rfl) ?_
  refine rm 48 rfl rfl rfl ?_
  refine rm 49 rfl rfl rfl ?_
  refine rp 50 rfl (op_call_pure (fun _ => b1) rfl (Opd.func _) (oS (oT rfl) (oS (oT rfl) (oS (oT rfl) Opds.nil)))) ?_
  refine rm 46 rfl rfl rfl ?_
  refine rp 51 rfl (op_extract_fz rfl (oT rfl) rfl) ?_
  refine rp 52 rfl (op_extract_fz rfl (oT rfl) rfl) ?_
  refine ra 14 rfl rfl rfl ?_
  refine ra 15 rfl rfl rfl ?_
  refine rn ?_
  refine nK ?_
  refine s_reg rfl ?_
  refine rl 54 rfl (op_loadw_flat rfl (oT rfl) tH rfl) ?_
  refine rm 55 rfl rfl rfl ?_
  refine rm 56 rfl rfl rfl ?_
  refine rp 57 rfl (op_call_pure (fun _ => b2) rfl (Opd.func _) (oS (oT rfl) (oS (oT rfl) (oS (oT rfl) Opds.nil)))) ?_
  refine rm 53 rfl rfl rfl ?_
  refine rp 58 rfl (op_extract_fz rfl (oT rfl) rfl) ?_
  refine rp 59 rfl (op_extract_fz rfl (oT rfl) rfl) ?_
  refine ra 16 rfl rfl rfl ?_
  refine ra 17 rfl rfl rfl ?_
  refine rn ?_
  refine nK ?_
  refine s_reg rfl ?_
  refine rl 61 rfl (op_loadw_flat rfl (oT rfl) tH rfl) ?_
  refine rm 62 rfl rfl rfl ?_
  refine rm 63 rfl rfl rfl ?_
  refine rp 64 rfl (op_call_pure (fun _ => b3) rfl (Opd.func _) (oS (oT rfl) (oS (oT rfl) (oS (oT rfl) Opds.nil)))) ?_
  refine rm 60 rfl rfl rfl ?_
  refine rp 65 rfl (op_extract_fz rfl (oT rfl) rfl) ?_
  refine rp 66 rfl (op_extract_fz rfl (oT rfl) rfl) ?_
  refine rp 67 rfl (op_extract_fz rfl (oT rfl) rfl) ?_
  refine ra 18 rfl rfl rfl ?_
  refine ra 19 rfl rfl rfl ?_
  refine ra 20 rfl rfl rfl ?_
  refine rn ?_
  refine nK ?_
  refine s_reg rfl ?_
  refine rp 68 rfl (op_call_pure (fun _ => awake_c) rfl (Opd.func _) Opds.nil) ?_
  refine rm 69 rfl rfl rfl ?_
  refine gm 70 rfl rfl tG rfl rfl ?_
  refine gm 71 rfl rfl tG rfl rfl ?_
  refine rg 72 rfl rfl tG (op_call_pure (fun _ => sp) rfl (Opd.func _) (oS (oO rfl tO) (oS (oO rfl tO) Opds.nil))) ?_
  refine rp 73 rfl (op_pick_and rfl (oT rfl) (oO rfl tO)) ?_
  refine rm 74 rfl rfl rfl ?_
  refine gm 75 rfl rfl tG rfl rfl ?_
  refine gm 76 rfl rfl tG rfl rfl ?_
  refine rg 77 rfl rfl tG (op_call_pure (fun _ => sq) rfl (Opd.func _) (oS (oO rfl tO) (oS (oO rfl tO) Opds.nil))) ?_
  refine rp 78 rfl (op_pick_and rfl (oT rfl) (oO rfl tO)) ?_
  refine rm 79 rfl rfl rfl ?_
  refine gm 80 rfl rfl tG rfl rfl ?_
  refine gm 81 rfl rfl tG rfl rfl ?_
  refine rg 82 rfl rfl tG (op_eql rfl (oO rfl tO) (oO rfl tO)) ?_
  refine rp 83 rfl (op_pick_and rfl (oT rfl) (oO rfl tO)) ?_
  refine rm 84 rfl rfl rfl ?_
  refine gm 85 rfl rfl tG rfl rfl ?_
  refine gm 86 rfl rfl tG rfl rfl ?_
  refine rg 87 rfl rfl tG (op_eqlB rfl (oO rfl tO) (oO rfl tO)) ?_
  refine rp 88 rfl (op_pick_and rfl (oT rfl) (oO rfl tO)) ?_
  refine rm 89 rfl rfl rfl ?_
  refine gm 90 rfl rfl tG rfl rfl ?_
  refine gm 91 rfl rfl tG rfl rfl ?_
  refine rg 92 rfl rfl tG (op_eql rfl (oO rfl tO) (oO rfl tO)) ?_
  refine rp 93 rfl (op_pick_and rfl (oT rfl) (oO rfl tO)) ?_
  refine rm 94 rfl rfl rfl ?_
  refine gm 95 rfl rfl tG rfl rfl ?_
  refine gm 96 rfl rfl tG rfl rfl ?_
  refine rg 97 rfl rfl tG (op_eql rfl (oO rfl tO) (oO rfl tO)) ?_
  refine rp 98 rfl (op_pick_and rfl (oT rfl) (oO rfl tO)) ?_
  refine rm 99 rfl rfl rfl ?_
  refine gm 100 rfl rfl tG rfl rfl ?_
  refine gm 101 rfl rfl tG rfl rfl ?_
  refine rg 102 rfl rfl tG (op_eql rfl (oO rfl tO) (oO rfl tO)) ?_
  refine rp 103 rfl (op_pick_and rfl (oT rfl) (oO rfl tO)) ?_
  refine ra 6 rfl rfl rfl ?_
  refine rn ?_
  refine nK ?_
  refine s_oB hC rfl rfl ?_
  simp
theorem walks_law (g : Gr) (x z a b : Int) (hok : okG g) : Pure Tryz.prog 6 [.agg (encG g), If .i64 x, If .i64 z, If .i64 a, If .i64 b] (Bf true) := by
 have ex : ∃ (l : List Int) (r : Bool), l.length ≤ 100000000 ∧ Pure Tryz.prog 24 [.agg (encG g), If .i64 x, If .i64 z, If .i64 a, If .i64 b] (.tup [VI l, Bf r]) ∧ Pure Tryz.prog 25 [.agg (encG g), If .i64 x, If .i64 z, If .i64 a, If .i64 b] (.tup [VI l, Bf r]) := by
  by_cases h : plainI g = 0 ∧ 0 ≤ x ∧ x < g.r ∧ 0 ≤ z ∧ z < g.r
  ·obtain ⟨hp, h1, h2, h3, h4⟩ := h
   obtain ⟨hg, hN⟩ := plainI_ok hp
   have d := dst_of hg
   have hm := plain_m hN
   obtain ⟨x, rfl⟩ : ∃ n : Nat, x = n := ⟨x.toNat, by omega⟩
   obtain ⟨z, rfl⟩ : ∃ n : Nat, z = n := ⟨z.toNat, by omega⟩
   refine ⟨_, _, ?_, lwalk_c g x z a b hok hp h2 h4, rwalk_c g x z a b hok hp h2 h4⟩
   have h5 := walkL_len (fun x => hopR g (disF g.es g.m) x z) z a b ((disF g.es g.m x z).toNat + 1) x [(x : Int)]
   have h6 := d.bnd (i := x) (k := z) (by omega) (by omega)
   unfold walkV
   simp at h5 ⊢; omega
  ·exact ⟨[], false, by simp, lwalk_bad g x z a b hok h, rwalk_bad g x z a b hok h⟩
 obtain ⟨l, r, hl, h1, h2⟩ := ex
 have sp := ints3_c l l (by omega) (by omega)
 rw [decide_eq_true rfl] at sp
 refine Meets.intro Tryz.func6 rfl (Nat.le_of_ble_eq_true rfl) fun C hC => ?_
 simp only [List.map, argEnv, Nat.reduceAdd]
 refine nK ?_
 refine s_reg rfl ?_
 refine Run.eff (dd := some 5) rfl rfl (op_box_flat rfl (oT rfl) tC rfl) ?_
 refine rp 10 rfl (op_assign rfl oC) ?_
 refine rn ?_
 refine nK ?_
 refine s_reg rfl ?_
 refine rl 15 rfl (op_loadw_flat rfl (oT rfl) tH rfl) ?_
 refine rp 16 rfl (op_call_pure (fun _ => large_c _) rfl (Opd.func _) (oS (oT rfl) Opds.nil)) ?_
 refine rn ?_
 refine nK ?_
 refine n_cond _ rfl (fun hb => ?_) (fun hb => ?_)
 ·refine nK ?_
  refine s_reg rfl ?_
  refine rp 17 rfl (op_call_pure (fun _ => awake_c) rfl (Opd.func _) Opds.nil) ?_
  refine ra 10 rfl rfl rfl ?_
  refine rn ?_
  refine nK ?_
  (first | exact s_o1 hC rfl tV | exact s_o2 hC rfl tV tV | exact s_o3 hC rfl tV tV tV | exact s_out0 hC rfl | exact s_outO hC rfl rfl rfl)
 ·refine nK ?_
  refine s_reg rfl ?_
  refine rl 19 rfl (op_loadw_flat rfl (oT rfl) tH rfl) ?_
  refine rm 20 rfl rfl rfl ?_
  refine rm 21 rfl rfl rfl ?_
  refine rm 22 rfl rfl rfl ?_
  refine rm 23 rfl rfl rfl ?_
  refine rp 24 rfl (op_call_pure (fun _ => h1) rfl (Opd.func _) (oS (oT rfl) (oS (oT rfl) (oS (oT rfl) (oS (oT rfl) (oS (oT rfl) Opds.nil)))))) ?_
  refine rm 18 rfl rfl rfl ?_
  refine rp 25 rfl (op_extract_fz rfl (oT rfl) rfl) ?_
  refine rp 26 rfl (op_extract_fz rfl (oT rfl) rfl) ?_
  refine ra 11 rfl rfl rfl ?_
  refine ra 12 rfl rfl rfl ?_
  refine rn ?_
  refine nK ?_
  refine s_reg rfl ?_
  refine rl 28 rfl (op_loadw_flat rfl (oT rfl) tH rfl) ?_
  refine rm 29 rfl rfl rfl ?_
  refine rm 30 rfl rfl rfl ?_
  refine rm 31 rfl rfl rfl ?_
  refine rm 32 rfl rfl rfl ?_
  refine rp 33 rfl (op_call_pure (fun _ => h2) rfl (Opd.func _) (oS (oT rfl) (oS (oT rfl) (oS (oT rfl) (oS (oT rfl) (oS (oT rfl) Opds.nil)))))) ?_
  refine rm 27 rfl rfl rfl ?_
  refine rp 34 rfl (op_extract_fz rfl (oT rfl) rfl) ?_
  refine rp 35 rfl (op_extract_fz rfl (oT rfl) rfl) ?_
  refine ra 13 rfl rfl rfl ?_
  refine ra 14 rfl rfl rfl ?_
  refine rn ?_
  refine nK ?_
  refine s_reg rfl ?_
  refine rp 36 rfl (op_call_pure (fun _ => awake_c) rfl (Opd.func _) Opds.nil) ?_
  refine rm 37 rfl rfl rfl ?_
  refine gm 38 rfl rfl tG rfl rfl ?_
  refine gm 39 rfl rfl tG rfl rfl ?_
  refine rg 40 rfl rfl tG (op_call_pure (fun _ => sp) rfl (Opd.func _) (oS (oO rfl tO) (oS (oO rfl tO) Opds.nil))) ?_
  refine rp 41 rfl (op_pick_and rfl (oT rfl) (oO rfl tO)) ?_
  refine rm 42 rfl rfl rfl ?_
  refine gm 43 rfl rfl tG rfl rfl ?_
  refine gm 44 rfl rfl tG rfl rfl ?_
  refine rg 45 rfl rfl tG (op_eqlB rfl (oO rfl tO) (oO rfl tO)) ?_
  refine rp 46 rfl (op_pick_and rfl (oT rfl) (oO rfl tO)) ?_
  refine ra 10 rfl rfl rfl ?_
  refine rn ?_
  refine nK ?_
  refine s_oB hC rfl rfl ?_
  simp
theorem node_c (g : Gr) (x : Int) (hs : szOk g) : Pure Tryz.prog 22 [.agg (encG g), If .i64 x] (Bf (decide (0 ≤ x) && decide (x < g.r + g.n))) := by
 obtain ⟨h1, h2, h3⟩ := hs
 refine Meets.intro Tryz.func22 rfl (Nat.le_of_ble_eq_true rfl) fun C hC => ?_
 simp only [List.map, argEnv, Nat.reduceAdd]
 refine nK ?_
 refine s_reg rfl ?_
 refine Run.eff (dd := some 2) rfl rfl (op_box_flat rfl (oT rfl) tC rfl) ?_
 refine rp 4 rfl (op_assign rfl oC) ?_
 refine rn ?_
 refine nK ?_
 refine s_reg rfl ?_
 refine rm 5 rfl rfl rfl ?_
 refine rp 6 rfl (op_geq rfl (oT rfl) oC) ?_
 refine rm 7 rfl rfl rfl ?_
 refine gm 8 rfl rfl tG rfl rfl ?_
 refine rg 9 rfl rfl tG (op_fld_ptr (by decide) rfl (oT rfl)) ?_
 refine rk 10 rfl rfl tG (op_load1_flat rfl (oO rfl tO) tH rfl) ?_
 refine rg 11 rfl rfl tG (op_fld_ptr (by decide) rfl (oT rfl)) ?_
 refine rk 12 rfl rfl tG (op_load1_flat rfl (oO rfl tO) tH rfl) ?_
 refine rg 13 rfl rfl tG (op_add rfl (oO rfl tO) (oO rfl tO) tI) ?_
 refine rg 14 rfl rfl tG (op_lss rfl (oO rfl tO) (oO rfl tO)) ?_
 refine rp 15 rfl (op_pick_and rfl (oT rfl) (oO rfl tO)) ?_
 refine ra 4 rfl rfl rfl ?_
 refine rn ?_
 refine nK ?_
 (first | exact s_o1 hC rfl tV | exact s_o2 hC rfl tV tV | exact s_o3 hC rfl tV tV tV | exact s_out0 hC rfl | exact s_outO hC rfl rfl rfl)
theorem down_law (g : Gr) (a : Int) (hok : okG g) : Pure Tryz.prog 5 [.agg (encG g), If .i64 a] (Bf true) := by
 obtain ⟨l, e, hr, h1, _⟩ := lalls_c g a hok
 by_cases he : e = 0
 ·obtain ⟨hg, hN, n, rfl, hn, hl⟩ := hr.ok he
  have hll := hr.len
  have d := dst_of hg
  have hsz := (checkI_ok hg).1
  have hm := plain_m hN
  have hnm : n < g.m := by omega
  have hel : g.es.length ≤ 2000000 := by have := d.vg.e1024; omega
  have hga : ∀ x ∈ l, GoodA g (disF g.es g.m) n x := fun x hx => by
   rw [hl] at hx
   exact allA_good d hN hnm (fun z hz => refT_hops hz) hx
  have hac := rall_c g hok hg
  change RT.Pure _ _ _ (.tup [.vals 1 ((tabL g (disF g.es g.m)).map encL), If .i64 0]) at hac
  have htr := fun x (hx : x < g.m) => tab_rows (D := disF g.es g.m) hN hx
  have hasc := d.vg.asc
  generalize disF g.es g.m = D at *
  have hra := htr n hnm
  clear hl
  refine Meets.intro Tryz.func5 rfl (Nat.le_of_ble_eq_true rfl) fun C hC => ?_
  simp only [List.map, argEnv, Nat.reduceAdd]
  refine nK ?_
  refine s_reg rfl ?_
  refine Run.eff (dd := some 2) rfl rfl (op_box_flat rfl (oT rfl) tC rfl) ?_
  refine rp 4 rfl (op_assign rfl oC) ?_
  refine rn ?_
  refine nK ?_
  refine s_reg rfl ?_
  refine rl 13 rfl (op_loadw_flat rfl (oT rfl) tH rfl) ?_
  refine rp 14 rfl (op_call_pure (fun _ => large_c _) rfl (Opd.func _) (oS (oT rfl) Opds.nil)) ?_
  refine rn ?_
  refine nK ?_
  refine n_cond _ rfl (fun hb => ?_) (fun hb => ?_)
  ·refine nK ?_
   refine s_reg rfl ?_
   refine rp 15 rfl (op_call_pure (fun _ => awake_c) rfl (Opd.func _) Opds.nil) ?_
   refine ra 4 rfl rfl rfl ?_
   refine rn ?_
   refine nK ?_
   (first | exact s_o1 hC rfl tV | exact s_o2 hC rfl tV tV | exact s_o3 hC rfl tV tV tV | exact s_out0 hC rfl | exact s_outO hC rfl rfl rfl)
  ·refine nK ?_
   refine s_reg rfl ?_
   refine rl 17 rfl (op_loadw_flat rfl (oT rfl) tH rfl) ?_
   refine rm 18 rfl rfl rfl ?_
   refine rp 19 rfl (op_call_pure (fun _ => h1) rfl (Opd.func _) (oS (oT rfl) (oS (oT rfl) Opds.nil))) ?_
   refine rm 16 rfl rfl rfl ?_
   refine rp 20 rfl (op_extract_fz rfl (oT rfl) rfl) ?_
   refine rp 21 rfl (op_extract_fz rfl (oT rfl) rfl) ?_
   refine ra 5 rfl rfl rfl ?_
   refine ra 6 rfl rfl rfl ?_
   refine rn ?_
   refine nK ?_
   refine s_reg rfl ?_
   refine rm 22 rfl rfl rfl ?_
   refine rp 23 rfl (op_neq rfl (oT rfl) oC) ?_
   refine rn ?_
   refine nK ?_
   refine n_cond _ rfl (fun hb => ?_) (fun hb => ?_)
   ·exfalso; simp at hb; omega
   ·clear hb
    refine nK ?_
    refine s_reg rfl ?_
    refine rl 25 rfl (op_loadw_flat rfl (oT rfl) tH rfl) ?_
    refine rp 26 rfl (op_call_pure (fun _ => rcheck_c _ (by assumption)) rfl (Opd.func _) (oS (oT rfl) Opds.nil)) ?_
    refine rp 27 rfl (op_neq rfl (oT rfl) oC) ?_
    refine rn ?_
    refine nK ?_
    refine n_cond _ rfl (fun hb => ?_) (fun hb => ?_)
    ·exfalso; simp at hb; omega
    ·clear hb
     refine nK ?_
     refine s_reg rfl ?_
     refine rl 29 rfl (op_loadw_flat rfl (oT rfl) tH rfl) ?_
     refine rp 30 rfl (op_call_pure (fun _ => hac) rfl (Opd.func _) (oS (oT rfl) Opds.nil)) ?_
     refine rm 28 rfl rfl rfl ?_
     refine rp 31 rfl (op_extract_fz rfl (oT rfl) rfl) ?_
     refine rp 32 rfl (op_extract_fz rfl (oT rfl) rfl) ?_
     refine ra 7 rfl rfl rfl ?_
     refine ra 8 rfl rfl rfl ?_
     refine rn ?_
     refine nK ?_
     refine s_reg rfl ?_
     refine rm 33 rfl rfl rfl ?_
     refine rp 34 rfl (op_len_fz rfl (by first | exact Opd.tmp _ _ rfl | exact Opd.nil _ _ (oT rfl)) (by first | exact List.length_map _ | rfl)) ?_
     refine rp 35 rfl (op_move rfl oC) ?_
     refine rn ?_
     refine nK ?_
     refine n_loop (ι := Nat) (fun i => ([(1, IV .i64 n), (2, .ptr 0 3 0 0), (7, .fz (VLL (tabL g D))), (33, .fz (VAl l)), (34, IV .i64 l.length), (35, IV .i64 i)], [(0, OG g)], 1)) (fun i => i ≤ l.length) (fun i => l.length - i) 0 (Nat.zero_le _) ?_ ?_
     ·refine Next.weak [0] [] (by rfl) (keepsN hC _ rfl) (by repeat (first | exact trivial | refine ⟨⟨_, rfl, .inl ⟨rfl, rfl⟩⟩, ?_⟩ | refine ⟨⟨_, rfl, .inl ⟨ivEq (by rw [List.length_map]), rfl⟩⟩, ?_⟩)) (by exact ⟨ent_same rfl rfl rfl tL, trivial⟩) (fun _ h => by simp at h) rel_intro
     ·intro i hi K hK
      try dsimp only at hi hK ⊢
      refine nK ?_
      refine s_reg rfl ?_
      refine rp 36 rfl (op_lss rfl (oT rfl) (oT rfl)) ?_
      refine rn ?_
      refine nK ?_
      refine n_cond _ rfl (fun hb => ?_) (fun hb => ?_)
      ·have hlt : i < l.length := by have := of_decide_eq_true hb; omega
       have hri := row_at' encAl l i hlt
       obtain ⟨z, p, v, e1, e2, e3, hz, hpm, hv, hp, hvp, ⟨y, hy, y1, y2⟩, h0, hW, _, hdn, hd0⟩ := (hga _ (List.getElem_mem hlt)).ex
       have hK1 := hK (i + 1) (by omega) (by omega)
       clear hK hb
       generalize l[i] = x at *
       obtain ⟨xd, xp, xv, xk, xn⟩ := x
       dsimp only at e1 e2 e3 hdn
       subst e1; subst e2; subst e3
       have hco := rcost_c g (n : Int) (v : Int) hel
       have hcy := cost_of hasc hy
       rw [y1, y2] at hcy
       rw [hcy] at hco
       have hrv := htr v hv
       have hvz := row_row g.m (D v) hz
       have haz := row_row g.m (D n) hz
       have n1 := node_c g (v : Int) hsz
       have n2 := node_c g (z : Int) hsz
       have n3 := node_c g (n : Int) hsz
       rw [show (decide (0 ≤ (v : Int)) && decide ((v : Int) < g.r + g.n)) = true by simp; omega] at n1
       rw [show (decide (0 ≤ (z : Int)) && decide ((z : Int) < g.r + g.n)) = true by simp; omega] at n2
       rw [show (decide (0 ≤ (n : Int)) && decide ((n : Int) < g.r + g.n)) = true by simp; omega] at n3
       refine nK ?_
       refine s_reg rfl ?_
       refine rp 37 rfl (op_idx_fz i rfl (oT rfl) (oT rfl) (by intro _; exact ⟨rfl, hri⟩)) ?_
       refine rp 38 rfl (op_loadw_fz rfl (oT rfl) rfl) ?_
       refine Run.eff (dd := some 10) rfl rfl (op_alloc rfl rfl rfl rfl) ?_
       refine Run.eff (dd := none) rfl rfl (op_store_flat rfl (oT rfl) (oT rfl) tC rfl rfl (by first | rfl | assumption) tS) ?_
       refine rn ?_
       refine nK ?_
       refine s_reg rfl ?_
       refine rl 39 rfl (op_loadw_flat rfl (oT rfl) tH rfl) ?_
       refine rp 40 rfl (op_fld_ptr (by decide) rfl (oT rfl)) ?_
       refine rl 41 rfl (op_load1_flat rfl (oT rfl) tH rfl) ?_
       refine rp 42 rfl (op_call_pure (fun _ => n1) rfl (Opd.func _) (oS (oT rfl) (oS (oT rfl) Opds.nil))) ?_
       refine rp 43 rfl (op_not rfl (oT rfl)) ?_
       refine rm 44 rfl rfl rfl ?_
       refine rk 45 rfl rfl tG (op_loadw_flat rfl (oT rfl) tH rfl) ?_
       refine rg 46 rfl rfl tG (op_fld_ptr (by decide) rfl (oT rfl)) ?_
       refine rk 47 rfl rfl tG (op_load1_flat rfl (oO rfl tO) tH rfl) ?_
       refine rg 48 rfl rfl tG (op_call_pure (fun _ => n2) rfl (Opd.func _) (oS (oO rfl tO) (oS (oO rfl tO) Opds.nil))) ?_
       refine rg 49 rfl rfl tG (op_not rfl (oO rfl tO)) ?_
       refine rp 50 rfl (op_pick_or rfl (oT rfl) (oO rfl tO)) ?_
       refine rm 51 rfl rfl rfl ?_
       refine rk 52 rfl rfl tG (op_loadw_flat rfl (oT rfl) tH rfl) ?_
       refine gm 53 rfl rfl tG rfl rfl ?_
       refine rg 54 rfl rfl tG (op_call_pure (fun _ => n3) rfl (Opd.func _) (oS (oO rfl tO) (oS (oO rfl tO) Opds.nil))) ?_
       refine rg 55 rfl rfl tG (op_not rfl (oO rfl tO)) ?_
       refine rp 56 rfl (op_pick_or rfl (oT rfl) (oO rfl tO)) ?_
       refine rn ?_
       refine nK ?_
       refine n_cond _ rfl (fun hb => ?_) (fun hb => ?_)
       ·exact absurd hb (by simp)
       ·clear hb
        refine nK ?_
        refine s_reg rfl ?_
        refine rl 58 rfl (op_loadw_flat rfl (oT rfl) tH rfl) ?_
        refine rm 59 rfl rfl rfl ?_
        refine rp 60 rfl (op_fld_ptr (by decide) rfl (oT rfl)) ?_
        refine rl 61 rfl (op_load1_flat rfl (oT rfl) tH rfl) ?_
        refine rp 62 rfl (op_call_pure (fun _ => hco) rfl (Opd.func _) (oS (oT rfl) (oS (oT rfl) (oS (oT rfl) Opds.nil)))) ?_
        refine rm 57 rfl rfl rfl ?_
        refine rp 63 rfl (op_extract_fz rfl (oT rfl) rfl) ?_
        refine rp 64 rfl (op_extract_fz rfl (oT rfl) rfl) ?_
        refine ra 11 rfl rfl rfl ?_
        refine ra 12 rfl rfl rfl ?_
        refine rn ?_
        refine nK ?_
        refine s_draw mixed ?_
        refine rm 65 rfl rfl rfl ?_
        refine rp 66 rfl (op_not rfl (oT rfl)) ?_
        refine rm 67 rfl rfl rfl ?_
        refine rg 68 rfl rfl tG (op_fld_ptr (by decide) rfl (oT rfl)) ?_
        refine rk 69 rfl rfl tG (op_load1_flat rfl (oO rfl tO) tH rfl) ?_
        refine rg 70 rfl rfl tG (op_fld_ptr (by decide) rfl (oT rfl)) ?_
        refine rk 71 rfl rfl tG (op_load1_flat rfl (oO rfl tO) tH rfl) ?_
        refine rg 72 rfl rfl tG (op_eql rfl (oO rfl tO) (oO rfl tO)) ?_
        refine rp 73 rfl (op_pick_or rfl (oT rfl) (oO rfl tO)) ?_
        refine rm 74 rfl rfl rfl ?_
        refine rg 75 rfl rfl tG (op_fld_ptr (by decide) rfl (oT rfl)) ?_
        refine rk 76 rfl rfl tG (op_load1_flat rfl (oO rfl tO) tH rfl) ?_
        refine gm 77 rfl rfl tG rfl rfl ?_
        refine rg 78 rfl rfl tG (op_fld_ptr (by decide) rfl (oT rfl)) ?_
        refine rk 79 rfl rfl tG (op_load1_flat rfl (oO rfl tO) tH rfl) ?_
        refine rg 80 rfl rfl tG (op_idx_fz v rfl (oO rfl tO) (oO rfl tO) (by intro _; exact ⟨rfl, hrv⟩)) ?_
        refine rg 81 rfl rfl tG (op_load1_fz rfl (oO rfl tO) rfl) ?_
        refine rg 82 rfl rfl tG (op_fld_ptr (by decide) rfl (oT rfl)) ?_
        refine rk 83 rfl rfl tG (op_load1_flat rfl (oO rfl tO) tH rfl) ?_
        refine rg 84 rfl rfl tG (op_idx_fz z rfl (oO rfl tO) (oO rfl tO) (by intro _; exact ⟨rfl, hvz⟩)) ?_
        refine rg 85 rfl rfl tG (op_load1_fz rfl (oO rfl tO) rfl) ?_
        refine gm 86 rfl rfl tG rfl rfl ?_
        refine gm 87 rfl rfl tG rfl rfl ?_
        refine rg 88 rfl rfl tG (op_idx_fz n rfl (oO rfl tO) (oO rfl tO) (by intro _; exact ⟨rfl, hra⟩)) ?_
        refine rg 89 rfl rfl tG (op_load1_fz rfl (oO rfl tO) rfl) ?_
        refine rg 90 rfl rfl tG (op_fld_ptr (by decide) rfl (oT rfl)) ?_
        refine rk 91 rfl rfl tG (op_load1_flat rfl (oO rfl tO) tH rfl) ?_
        refine rg 92 rfl rfl tG (op_idx_fz z rfl (oO rfl tO) (oO rfl tO) (by intro _; exact ⟨rfl, haz⟩)) ?_
        refine rg 93 rfl rfl tG (op_load1_fz rfl (oO rfl tO) rfl) ?_
        refine rg 94 rfl rfl tG (op_lss rfl (oO rfl tO) (oO rfl tO)) ?_
        refine rg 95 rfl rfl tG (op_neqB rfl (oO rfl tO) (oO rfl tO)) ?_
        refine rp 96 rfl (op_pick_or rfl (oT rfl) (oO rfl tO)) ?_
        refine Run.nil (FinD.mk (by kernel_rfl) ?_)
        refine nK ?_
        refine n_cond _ rfl (fun hb => ?_) (fun hb => ?_)
        ·exfalso
         rw [hdn] at hb
         have : ¬ (v : Int) = (p : Int) := by omega
         simp [this] at hb
         try omega
        ·refine nK ?_
         refine s_reg rfl ?_
         refine rp 97 rfl (op_add rfl (oT rfl) oC tI) ?_
         refine rm 35 rfl rfl rfl ?_
         refine rn ?_
         refine nK ?_
         refine Next.weak [0] [] (by rfl) (keepsN hC _ rfl) (by repeat (first | exact trivial | refine ⟨⟨_, rfl, .inl ⟨rfl, rfl⟩⟩, ?_⟩ | refine ⟨⟨_, rfl, .inl ⟨slEq rfl tN, rfl⟩⟩, ?_⟩ | refine ⟨⟨_, rfl, .inl ⟨ivEq tX, rfl⟩⟩, ?_⟩)) (by exact ⟨ent_same rfl rfl rfl tL, trivial⟩) (fun _ h => by simp at h) hK1
      ·refine nK ?_
       refine s_reg rfl ?_
       refine rp 98 rfl (op_call_pure (fun _ => awake_c) rfl (Opd.func _) Opds.nil) ?_
       refine ra 4 rfl rfl rfl ?_
       refine rn ?_
       refine nK ?_
       (first | exact s_o1 hC rfl tV | exact s_o2 hC rfl tV tV | exact s_o3 hC rfl tV tV tV | exact s_out0 hC rfl | exact s_outO hC rfl rfl rfl)
 ·skip
  refine Meets.intro Tryz.func5 rfl (Nat.le_of_ble_eq_true rfl) fun C hC => ?_
  simp only [List.map, argEnv, Nat.reduceAdd]
  refine nK ?_
  refine s_reg rfl ?_
  refine Run.eff (dd := some 2) rfl rfl (op_box_flat rfl (oT rfl) tC rfl) ?_
  refine rp 4 rfl (op_assign rfl oC) ?_
  refine rn ?_
  refine nK ?_
  refine s_reg rfl ?_
  refine rl 13 rfl (op_loadw_flat rfl (oT rfl) tH rfl) ?_
  refine rp 14 rfl (op_call_pure (fun _ => large_c _) rfl (Opd.func _) (oS (oT rfl) Opds.nil)) ?_
  refine rn ?_
  refine nK ?_
  refine n_cond _ rfl (fun hb => ?_) (fun hb => ?_)
  ·refine nK ?_
   refine s_reg rfl ?_
   refine rp 15 rfl (op_call_pure (fun _ => awake_c) rfl (Opd.func _) Opds.nil) ?_
   refine ra 4 rfl rfl rfl ?_
   refine rn ?_
   refine nK ?_
   (first | exact s_o1 hC rfl tV | exact s_o2 hC rfl tV tV | exact s_o3 hC rfl tV tV tV | exact s_out0 hC rfl | exact s_outO hC rfl rfl rfl)
  ·refine nK ?_
   refine s_reg rfl ?_
   refine rl 17 rfl (op_loadw_flat rfl (oT rfl) tH rfl) ?_
   refine rm 18 rfl rfl rfl ?_
   refine rp 19 rfl (op_call_pure (fun _ => h1) rfl (Opd.func _) (oS (oT rfl) (oS (oT rfl) Opds.nil))) ?_
   refine rm 16 rfl rfl rfl ?_
   refine rp 20 rfl (op_extract_fz rfl (oT rfl) rfl) ?_
   refine rp 21 rfl (op_extract_fz rfl (oT rfl) rfl) ?_
   refine ra 5 rfl rfl rfl ?_
   refine ra 6 rfl rfl rfl ?_
   refine rn ?_
   refine nK ?_
   refine s_reg rfl ?_
   refine rm 22 rfl rfl rfl ?_
   refine rp 23 rfl (op_neq rfl (oT rfl) oC) ?_
   refine rn ?_
   refine nK ?_
   refine n_cond _ rfl (fun hb => ?_) (fun hb => ?_)
   ·refine nK ?_
    refine s_reg rfl ?_
    refine rp 24 rfl (op_call_pure (fun _ => awake_c) rfl (Opd.func _) Opds.nil) ?_
    refine ra 4 rfl rfl rfl ?_
    refine rn ?_
    refine nK ?_
    (first | exact s_o1 hC rfl tV | exact s_o2 hC rfl tV tV | exact s_o3 hC rfl tV tV tV | exact s_out0 hC rfl | exact s_outO hC rfl rfl rfl)
   ·exfalso; simp at hb; omega
theorem walk_law (g : Gr) (a : Int) (hok : okG g) : Pure Tryz.prog 7 [.agg (encG g), If .i64 a] (Bf true) := by
 obtain ⟨l, e, hr, h1, _⟩ := lalls_c g a hok
 by_cases he : e = 0
 ·obtain ⟨hg, hN, n, rfl, hn, hl⟩ := hr.ok he
  have hll := hr.len
  have d := dst_of hg
  have hp0 := pl_of hg hN
  have hsz := (checkI_ok hg).1
  have hm := plain_m hN
  have h128 := d.vg.n128
  have hnm : n < g.m := by omega
  have hga : ∀ x ∈ l, GoodA g (disF g.es g.m) n x := fun x hx => by
   rw [hl] at hx
   exact allA_good d hN hnm (fun z hz => refT_hops hz) hx
  clear hl
  refine Meets.intro Tryz.func7 rfl (Nat.le_of_ble_eq_true rfl) fun C hC => ?_
  simp only [List.map, argEnv, Nat.reduceAdd]
  refine nK ?_
  refine s_reg rfl ?_
  refine Run.eff (dd := some 2) rfl rfl (op_box_flat rfl (oT rfl) tC rfl) ?_
  refine rp 4 rfl (op_assign rfl oC) ?_
  refine rn ?_
  refine nK ?_
  refine s_reg rfl ?_
  refine rl 12 rfl (op_loadw_flat rfl (oT rfl) tH rfl) ?_
  refine rp 13 rfl (op_call_pure (fun _ => large_c _) rfl (Opd.func _) (oS (oT rfl) Opds.nil)) ?_
  refine rn ?_
  refine nK ?_
  refine n_cond _ rfl (fun hb => ?_) (fun hb => ?_)
  ·refine nK ?_
   refine s_reg rfl ?_
   refine rp 14 rfl (op_call_pure (fun _ => awake_c) rfl (Opd.func _) Opds.nil) ?_
   refine ra 4 rfl rfl rfl ?_
   refine rn ?_
   refine nK ?_
   (first | exact s_o1 hC rfl tV | exact s_o2 hC rfl tV tV | exact s_o3 hC rfl tV tV tV | exact s_out0 hC rfl | exact s_outO hC rfl rfl rfl)
  ·refine nK ?_
   refine s_reg rfl ?_
   refine rl 16 rfl (op_loadw_flat rfl (oT rfl) tH rfl) ?_
   refine rm 17 rfl rfl rfl ?_
   refine rp 18 rfl (op_call_pure (fun _ => h1) rfl (Opd.func _) (oS (oT rfl) (oS (oT rfl) Opds.nil))) ?_
   refine rm 15 rfl rfl rfl ?_
   refine rp 19 rfl (op_extract_fz rfl (oT rfl) rfl) ?_
   refine rp 20 rfl (op_extract_fz rfl (oT rfl) rfl) ?_
   refine ra 5 rfl rfl rfl ?_
   refine ra 6 rfl rfl rfl ?_
   refine rn ?_
   refine nK ?_
   refine s_reg rfl ?_
   refine rm 21 rfl rfl rfl ?_
   refine rp 22 rfl (op_neq rfl (oT rfl) oC) ?_
   refine rn ?_
   refine nK ?_
   refine n_cond _ rfl (fun hb => ?_) (fun hb => ?_)
   ·exfalso; simp at hb; omega
   ·clear hb
    refine nK ?_
    refine s_reg rfl ?_
    refine rl 24 rfl (op_loadw_flat rfl (oT rfl) tH rfl) ?_
    refine rp 25 rfl (op_call_pure (fun _ => rcheck_c _ (by assumption)) rfl (Opd.func _) (oS (oT rfl) Opds.nil)) ?_
    refine rp 26 rfl (op_neq rfl (oT rfl) oC) ?_
    refine rn ?_
    refine nK ?_
    refine n_cond _ rfl (fun hb => ?_) (fun hb => ?_)
    ·exfalso; simp at hb; omega
    ·clear hb
     refine nK ?_
     refine s_reg rfl ?_
     refine rm 27 rfl rfl rfl ?_
     refine rp 28 rfl (op_len_fz rfl (by first | exact Opd.tmp _ _ rfl | exact Opd.nil _ _ (oT rfl)) (by first | exact List.length_map _ | rfl)) ?_
     refine rp 29 rfl (op_move rfl oC) ?_
     refine rn ?_
     refine nK ?_
     refine n_loop (ι := Nat) (fun i => ([(1, IV .i64 n), (2, .ptr 0 3 0 0), (27, .fz (VAl l)), (28, IV .i64 l.length), (29, IV .i64 i)], [(0, OG g)], 1)) (fun i => i ≤ l.length) (fun i => l.length - i) 0 (Nat.zero_le _) ?_ ?_
     ·refine Next.weak [0] [] (by rfl) (keepsN hC _ rfl) (by repeat (first | exact trivial | refine ⟨⟨_, rfl, .inl ⟨rfl, rfl⟩⟩, ?_⟩ | refine ⟨⟨_, rfl, .inl ⟨ivEq (by rw [List.length_map]), rfl⟩⟩, ?_⟩)) (by exact ⟨ent_same rfl rfl rfl tL, trivial⟩) (fun _ h => by simp at h) rel_intro
     ·intro i hi K hK
      try dsimp only at hi hK ⊢
      refine nK ?_
      refine s_reg rfl ?_
      refine rp 30 rfl (op_lss rfl (oT rfl) (oT rfl)) ?_
      refine rn ?_
      refine nK ?_
      refine n_cond _ rfl (fun hb => ?_) (fun hb => ?_)
      ·have hlt : i < l.length := by have := of_decide_eq_true hb; omega
       have hri := row_at' encAl l i hlt
       obtain ⟨z, p, v, e1, e2, e3, hz, hpm, hv, hp, hvp, _, h0, hW, hWp, _, hd0⟩ := (hga _ (List.getElem_mem hlt)).ex
       have hK1 := hK (i + 1) (by omega) (by omega)
       clear hK hb
       generalize l[i] = x at *
       obtain ⟨xd, xp, xv, xk, xn⟩ := x
       dsimp only at e1 e2 e3 hWp
       subst e1; subst e2; subst e3
       have hal := alt_ok hg d hN hv hz h0 hW (kd := xk) hWp
       have hwy := ways_c g v z hok hp0 (by omega) (by omega)
       have hwk := lwalk_c g v z (n : Int) (p : Int) hok hp0 (by omega) (by omega)
       obtain ⟨q, q1, q2, q3, _⟩ := hal.path
       unfold walkV at hwk
       rw [q1] at hwk
       dsimp only at hwk
       have hql := walkL_len (fun x => hopR g (disF g.es g.m) x z) z (n : Int) (p : Int) ((disF g.es g.m v z).toNat + 1) v [(v : Int)]
       rw [q1] at hql
       have hbz := d.bnd (i := v) (k := z) hv hz
       have c1 := hal.noroot
       have c2 := hal.dest
       have c3 := hal.noprim
       have c4 := hal.len
       clear hal q1
       generalize waysL (hopsF g (disF g.es g.m) z) g.m v = W at *
       have hqb : ((v : Int) :: q).length ≤ 1000000000 := by dsimp only at hql; simp at hql ⊢; omega
       generalize (v : Int) :: q = pt at *
       have k1 := hasint_c W (n : Int) (by omega)
       have k2 := hasint_c pt (n : Int) hqb
       have k3 := hasint_c W (z : Int) (by omega)
       have k4 := hasint_c W (p : Int) (by omega)
       rw [decide_eq_false c1] at k1
       rw [decide_eq_false q2] at k2
       rw [decide_eq_true c2] at k3
       have n1 := node_c g (v : Int) hsz
       have n2 := node_c g (z : Int) hsz
       have n3 := node_c g (p : Int) hsz
       have n4 := node_c g (n : Int) hsz
       rw [show (decide (0 ≤ (v : Int)) && decide ((v : Int) < g.r + g.n)) = true by simp; omega] at n1
       rw [show (decide (0 ≤ (z : Int)) && decide ((z : Int) < g.r + g.n)) = true by simp; omega] at n2
       rw [show (decide (0 ≤ (p : Int)) && decide ((p : Int) < g.r + g.n)) = true by simp; omega] at n3
       rw [show (decide (0 ≤ (n : Int)) && decide ((n : Int) < g.r + g.n)) = true by simp; omega] at n4
       refine nK ?_
       refine s_reg rfl ?_
       refine rp 31 rfl (op_idx_fz i rfl (oT rfl) (oT rfl) (by intro _; exact ⟨rfl, hri⟩)) ?_
       refine rp 32 rfl (op_loadw_fz rfl (oT rfl) rfl) ?_
       refine Run.eff (dd := some 8) rfl rfl (op_alloc rfl rfl rfl rfl) ?_
       refine Run.eff (dd := none) rfl rfl (op_store_flat rfl (oT rfl) (oT rfl) tC rfl rfl (by first | rfl | assumption) tS) ?_
       refine rn ?_
       refine nK ?_
       refine s_reg rfl ?_
       refine rl 33 rfl (op_loadw_flat rfl (oT rfl) tH rfl) ?_
       refine rp 34 rfl (op_fld_ptr (by decide) rfl (oT rfl)) ?_
       refine rl 35 rfl (op_load1_flat rfl (oT rfl) tH rfl) ?_
       refine rp 36 rfl (op_call_pure (fun _ => n1) rfl (Opd.func _) (oS (oT rfl) (oS (oT rfl) Opds.nil))) ?_
       refine rp 37 rfl (op_not rfl (oT rfl)) ?_
       refine rm 38 rfl rfl rfl ?_
       refine rk 39 rfl rfl tG (op_loadw_flat rfl (oT rfl) tH rfl) ?_
       refine rg 40 rfl rfl tG (op_fld_ptr (by decide) rfl (oT rfl)) ?_
       refine rk 41 rfl rfl tG (op_load1_flat rfl (oO rfl tO) tH rfl) ?_
       refine rg 42 rfl rfl tG (op_call_pure (fun _ => n2) rfl (Opd.func _) (oS (oO rfl tO) (oS (oO rfl tO) Opds.nil))) ?_
       refine rg 43 rfl rfl tG (op_not rfl (oO rfl tO)) ?_
       refine rp 44 rfl (op_pick_or rfl (oT rfl) (oO rfl tO)) ?_
       refine rm 45 rfl rfl rfl ?_
       refine rk 46 rfl rfl tG (op_loadw_flat rfl (oT rfl) tH rfl) ?_
       refine rg 47 rfl rfl tG (op_fld_ptr (by decide) rfl (oT rfl)) ?_
       refine rk 48 rfl rfl tG (op_load1_flat rfl (oO rfl tO) tH rfl) ?_
       refine rg 49 rfl rfl tG (op_call_pure (fun _ => n3) rfl (Opd.func _) (oS (oO rfl tO) (oS (oO rfl tO) Opds.nil))) ?_
       refine rg 50 rfl rfl tG (op_not rfl (oO rfl tO)) ?_
       refine rp 51 rfl (op_pick_or rfl (oT rfl) (oO rfl tO)) ?_
       refine rm 52 rfl rfl rfl ?_
       refine rk 53 rfl rfl tG (op_loadw_flat rfl (oT rfl) tH rfl) ?_
       refine gm 54 rfl rfl tG rfl rfl ?_
       refine rg 55 rfl rfl tG (op_call_pure (fun _ => n4) rfl (Opd.func _) (oS (oO rfl tO) (oS (oO rfl tO) Opds.nil))) ?_
       refine rg 56 rfl rfl tG (op_not rfl (oO rfl tO)) ?_
       refine rp 57 rfl (op_pick_or rfl (oT rfl) (oO rfl tO)) ?_
       refine rn ?_
       refine nK ?_
       refine n_cond _ rfl (fun hb => ?_) (fun hb => ?_)
       ·exact absurd hb (by simp)
       ·clear hb
        refine nK ?_
        refine s_reg rfl ?_
        refine rl 58 rfl (op_loadw_flat rfl (oT rfl) tH rfl) ?_
        refine rp 59 rfl (op_fld_ptr (by decide) rfl (oT rfl)) ?_
        refine rl 60 rfl (op_load1_flat rfl (oT rfl) tH rfl) ?_
        refine rp 61 rfl (op_fld_ptr (by decide) rfl (oT rfl)) ?_
        refine rl 62 rfl (op_load1_flat rfl (oT rfl) tH rfl) ?_
        refine rp 63 rfl (op_call_pure (fun _ => hwy) rfl (Opd.func _) (oS (oT rfl) (oS (oT rfl) (oS (oT rfl) Opds.nil)))) ?_
        refine ra 9 rfl rfl rfl ?_
        refine rn ?_
        refine nK ?_
        refine s_reg rfl ?_
        refine rl 65 rfl (op_loadw_flat rfl (oT rfl) tH rfl) ?_
        refine rp 66 rfl (op_fld_ptr (by decide) rfl (oT rfl)) ?_
        refine rl 67 rfl (op_load1_flat rfl (oT rfl) tH rfl) ?_
        refine rp 68 rfl (op_fld_ptr (by decide) rfl (oT rfl)) ?_
        refine rl 69 rfl (op_load1_flat rfl (oT rfl) tH rfl) ?_
        refine rm 70 rfl rfl rfl ?_
        refine rp 71 rfl (op_fld_ptr (by decide) rfl (oT rfl)) ?_
        refine rl 72 rfl (op_load1_flat rfl (oT rfl) tH rfl) ?_
        refine rp 73 rfl (op_call_pure (fun _ => hwk) rfl (Opd.func _) (oS (oT rfl) (oS (oT rfl) (oS (oT rfl) (oS (oT rfl) (oS (oT rfl) Opds.nil)))))) ?_
        refine rm 64 rfl rfl rfl ?_
        refine rp 74 rfl (op_extract_fz rfl (oT rfl) rfl) ?_
        refine rp 75 rfl (op_extract_fz rfl (oT rfl) rfl) ?_
        refine ra 10 rfl rfl rfl ?_
        refine ra 11 rfl rfl rfl ?_
        refine rn ?_
        refine nK ?_
        refine s_reg rfl ?_
        refine rm 76 rfl rfl rfl ?_
        refine rp 77 rfl (op_not rfl (oT rfl)) ?_
        refine rm 78 rfl rfl rfl ?_
        refine gm 79 rfl rfl tG rfl rfl ?_
        refine gm 80 rfl rfl tG rfl rfl ?_
        refine rg 81 rfl rfl tG (op_call_pure (fun _ => k1) rfl (Opd.func _) (oS (oO rfl tO) (oS (oO rfl tO) Opds.nil))) ?_
        refine rp 82 rfl (op_pick_or rfl (oT rfl) (oO rfl tO)) ?_
        refine rm 83 rfl rfl rfl ?_
        refine gm 84 rfl rfl tG rfl rfl ?_
        refine gm 85 rfl rfl tG rfl rfl ?_
        refine rg 86 rfl rfl tG (op_call_pure (fun _ => k2) rfl (Opd.func _) (oS (oO rfl tO) (oS (oO rfl tO) Opds.nil))) ?_
        refine rp 87 rfl (op_pick_or rfl (oT rfl) (oO rfl tO)) ?_
        refine rm 88 rfl rfl rfl ?_
        refine gm 89 rfl rfl tG rfl rfl ?_
        refine rg 90 rfl rfl tG (op_fld_ptr (by decide) rfl (oT rfl)) ?_
        refine rk 91 rfl rfl tG (op_load1_flat rfl (oO rfl tO) tH rfl) ?_
        refine rg 92 rfl rfl tG (op_call_pure (fun _ => k3) rfl (Opd.func _) (oS (oO rfl tO) (oS (oO rfl tO) Opds.nil))) ?_
        refine rg 93 rfl rfl tG (op_not rfl (oO rfl tO)) ?_
        refine rp 94 rfl (op_pick_or rfl (oT rfl) (oO rfl tO)) ?_
        refine rn ?_
        refine nK ?_
        refine n_cond _ rfl (fun hb => ?_) (fun hb => ?_)
        ·exact absurd hb (by simp)
        ·clear hb
         refine nK ?_
         refine s_reg rfl ?_
         refine rp 95 rfl (op_fld_ptr (by decide) rfl (oT rfl)) ?_
         refine rl 96 rfl (op_load1_flat rfl (oT rfl) tH rfl) ?_
         refine rp 97 rfl (op_eql rfl (oT rfl) oC) ?_
         refine rm 98 rfl rfl rfl ?_
         refine gm 99 rfl rfl tG rfl rfl ?_
         refine rg 100 rfl rfl tG (op_fld_ptr (by decide) rfl (oT rfl)) ?_
         refine rk 101 rfl rfl tG (op_load1_flat rfl (oO rfl tO) tH rfl) ?_
         refine rg 102 rfl rfl tG (op_call_pure (fun _ => k4) rfl (Opd.func _) (oS (oO rfl tO) (oS (oO rfl tO) Opds.nil))) ?_
         refine rp 103 rfl (op_pick_and rfl (oT rfl) (oO rfl tO)) ?_
         refine rn ?_
         refine nK ?_
         refine n_cond _ rfl (fun hb => ?_) (fun hb => ?_)
         ·exfalso
          simp only [Bool.and_eq_true, decide_eq_true_eq] at hb
          exact c3 hb.1 hb.2
         ·refine nK ?_
          refine s_reg rfl ?_
          refine rp 104 rfl (op_add rfl (oT rfl) oC tI) ?_
          refine rm 29 rfl rfl rfl ?_
          refine rn ?_
          refine nK ?_
          refine Next.weak [0] [] (by rfl) (keepsN hC _ rfl) (by repeat (first | exact trivial | refine ⟨⟨_, rfl, .inl ⟨rfl, rfl⟩⟩, ?_⟩ | refine ⟨⟨_, rfl, .inl ⟨slEq rfl tN, rfl⟩⟩, ?_⟩ | refine ⟨⟨_, rfl, .inl ⟨ivEq tX, rfl⟩⟩, ?_⟩)) (by exact ⟨ent_same rfl rfl rfl tL, trivial⟩) (fun _ h => by simp at h) hK1
      ·refine nK ?_
       refine s_reg rfl ?_
       refine rp 105 rfl (op_call_pure (fun _ => awake_c) rfl (Opd.func _) Opds.nil) ?_
       refine ra 4 rfl rfl rfl ?_
       refine rn ?_
       refine nK ?_
       (first | exact s_o1 hC rfl tV | exact s_o2 hC rfl tV tV | exact s_o3 hC rfl tV tV tV | exact s_out0 hC rfl | exact s_outO hC rfl rfl rfl)
 ·skip
  refine Meets.intro Tryz.func7 rfl (Nat.le_of_ble_eq_true rfl) fun C hC => ?_
  simp only [List.map, argEnv, Nat.reduceAdd]
  refine nK ?_
  refine s_reg rfl ?_
  refine Run.eff (dd := some 2) rfl rfl (op_box_flat rfl (oT rfl) tC rfl) ?_
  refine rp 4 rfl (op_assign rfl oC) ?_
  refine rn ?_
  refine nK ?_
  refine s_reg rfl ?_
  refine rl 12 rfl (op_loadw_flat rfl (oT rfl) tH rfl) ?_
  refine rp 13 rfl (op_call_pure (fun _ => large_c _) rfl (Opd.func _) (oS (oT rfl) Opds.nil)) ?_
  refine rn ?_
  refine nK ?_
  refine n_cond _ rfl (fun hb => ?_) (fun hb => ?_)
  ·refine nK ?_
   refine s_reg rfl ?_
   refine rp 14 rfl (op_call_pure (fun _ => awake_c) rfl (Opd.func _) Opds.nil) ?_
   refine ra 4 rfl rfl rfl ?_
   refine rn ?_
   refine nK ?_
   (first | exact s_o1 hC rfl tV | exact s_o2 hC rfl tV tV | exact s_o3 hC rfl tV tV tV | exact s_out0 hC rfl | exact s_outO hC rfl rfl rfl)
  ·refine nK ?_
   refine s_reg rfl ?_
   refine rl 16 rfl (op_loadw_flat rfl (oT rfl) tH rfl) ?_
   refine rm 17 rfl rfl rfl ?_
   refine rp 18 rfl (op_call_pure (fun _ => h1) rfl (Opd.func _) (oS (oT rfl) (oS (oT rfl) Opds.nil))) ?_
   refine rm 15 rfl rfl rfl ?_
   refine rp 19 rfl (op_extract_fz rfl (oT rfl) rfl) ?_
   refine rp 20 rfl (op_extract_fz rfl (oT rfl) rfl) ?_
   refine ra 5 rfl rfl rfl ?_
   refine ra 6 rfl rfl rfl ?_
   refine rn ?_
   refine nK ?_
   refine s_reg rfl ?_
   refine rm 21 rfl rfl rfl ?_
   refine rp 22 rfl (op_neq rfl (oT rfl) oC) ?_
   refine rn ?_
   refine nK ?_
   refine n_cond _ rfl (fun hb => ?_) (fun hb => ?_)
   ·refine nK ?_
    refine s_reg rfl ?_
    refine rp 23 rfl (op_call_pure (fun _ => awake_c) rfl (Opd.func _) Opds.nil) ?_
    refine ra 4 rfl rfl rfl ?_
    refine rn ?_
    refine nK ?_
    (first | exact s_o1 hC rfl tV | exact s_o2 hC rfl tV tV | exact s_o3 hC rfl tV tV tV | exact s_out0 hC rfl | exact s_outO hC rfl rfl rfl)
   ·exfalso; simp at hb; omega
end Go.Proofs.YtnkhlbljnmodbaaGreat
/- How the arguments of the rows read. -/
namespace Go.Proofs.YtnkhlbljnmodbaaGreat
open Go Go.RT Go.Proofs Go.Pl
set_option linter.all false
variable {H : Type} {enc : TypeId × Value → H} {W : World} {ok : DataW H → Prop} {B : Nat}
theorem rdc_n : RdC ok enc Tryz.prog W 3 (fun fs => ∃ n, inr .i64 n ∧ fs = [If .i64 n]) := rdc_int (P := Tryz.prog) (t := 3) inferInstance
theorem rdc_edge (dn : DnOk H ok B) : RdC ok enc Tryz.prog W 68 (fun fs => ∃ e : Edg, okE e ∧ fs = encE e) :=
  (rdc_struct (P := Tryz.prog) (t := 68) dn Tryz.underlying68 (by kernel_rfl) (.cons _ _ _ _ rdc_n (.cons _ _ _ _ rdc_n (.cons _ _ _ _ rdc_n .nil)))).imp fun fs h => by
    obtain ⟨_, _, rfl, ⟨a, ha, rfl⟩, _, _, rfl, ⟨b, hb, rfl⟩, _, _, rfl, ⟨c, hc, rfl⟩, rfl⟩ := h
    exact ⟨⟨a, b, c⟩, ⟨ha, hb, hc⟩, rfl⟩
theorem rdc_edges (dn : DnOk H ok B) : RdC ok enc Tryz.prog W 22 (fun fs => ∃ l : List Edg, okEs l ∧ l.length ≤ B ∧ fs = [VE l]) :=
  (rdc_slice (P := Tryz.prog) (t := 22) (e := 68) dn inferInstance inferInstance (by decide) (rdc_edge dn)).imp fun fs h => by
    obtain ⟨rows, hr, hl, rfl⟩ := h
    obtain ⟨l, rfl, ho⟩ := rows_of (fun fs h => h) hr
    exact ⟨l, ho, by simpa using hl, rfl⟩
theorem rdc_graph (dn : DnOk H ok B) : RdC ok enc Tryz.prog W 24 (fun fs => ∃ g : Gr, okG g ∧ g.es.length ≤ B ∧ fs = encG g) :=
  (rdc_struct (P := Tryz.prog) (t := 24) dn Tryz.underlying24 (by kernel_rfl) (.cons _ _ _ _ rdc_n (.cons _ _ _ _ rdc_n (.cons _ _ _ _ (rdc_edges dn) .nil)))).imp fun fs h => by
    obtain ⟨_, _, rfl, ⟨a, ha, rfl⟩, _, _, rfl, ⟨b, hb, rfl⟩, _, _, rfl, ⟨l, hl, hB, rfl⟩, rfl⟩ := h
    exact ⟨⟨a, b, l⟩, ⟨ha, hb, hl⟩, hB, rfl⟩
end Go.Proofs.YtnkhlbljnmodbaaGreat
