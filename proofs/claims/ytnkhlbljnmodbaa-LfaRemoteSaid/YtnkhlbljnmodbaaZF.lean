/- A part of the proof: U42, U43, U44, U45, U46, LF4, U48, LU. -/
import Derived.Test.YtnkhlbljnmodbaaZE
set_option linter.all false
namespace Go.Proofs.Ytnkhlbljnmodbaa
open Go Go.RT Go.Proofs Go.Pl
set_option linter.all false
set_option maxRecDepth 20000
set_option maxHeartbeats 4000000
def plainI (g : Gr) : Int := if checkI g ≠ 0 then checkI g else if 0 < g.n then 15 else 0
theorem plainI_ok {g : Gr} (h : plainI g = 0) : checkI g = 0 ∧ g.n = 0 := by
 unfold plainI at h
 split at h
 ·rename_i h1; exact absurd h h1
 ·rename_i h1
  have h2 : checkI g = 0 := by omega
  have := (checkI_sz h2).2.2
  split at h
  ·cases h
  ·exact ⟨h2, by omega⟩
abbrev OAl (l : List Alt) : Option Ob := some (.flat 5 (l.map encAl))
theorem okT_tab {g : Gr} {D : Nat → Nat → Int} (d : Dst g D) : okT (tabL g D) := fun l hl x hx => by
 have hle := d.vg.le
 obtain ⟨i, hi, rfl⟩ := List.mem_map.1 hl
 have hi' := List.mem_range.1 hi
 have h1 := List.mem_of_mem_take hx
 obtain ⟨k, hk, rfl⟩ := List.mem_map.1 h1
 have := d.bnd (i := i) (k := k) (by omega) (List.mem_range.1 hk)
 simp only [inr]; omega
theorem tab_rows {g : Gr} {D : Nat → Nat → Int} (hN : g.n = 0) {x : Nat} (hx : x < g.m) : ((tabL g D).map encL)[x]? = some [VI (rowF g.m (D x))] := by
 have h1 := row_of encL (tabL g D) x [] (by rw [tab_len, ← plain_m hN]; exact hx)
 rw [show (tabL g D).getD x [] = rowF g.m (D x) from tab_row hN hx] at h1
 exact h1
theorem lplain_c (g : Gr) (hok : okG g) : Pure Try.prog 34 [.agg (encG g)] (If .i64 (plainI g)) := by
 unfold plainI
 refine Meets.intro Try.func34 rfl (Nat.le_of_ble_eq_true rfl) fun C hC => ?_
 simp only [List.map, argEnv, Nat.reduceAdd]
 refine nK ?_
 refine s_reg rfl ?_
 refine Run.eff (dd := some 1) rfl rfl (op_box_flat rfl (oT rfl) tC rfl) ?_
 refine rp 2 rfl (op_assign rfl oC) ?_
 refine rn ?_
 refine nK ?_
 refine s_reg rfl ?_
 refine rl 4 rfl (op_loadw_flat rfl (oT rfl) tH rfl) ?_
 refine rp 5 rfl (op_call_pure (fun _ => check_c _ (by assumption)) rfl (Opd.func _) (oS (oT rfl) Opds.nil)) ?_
 refine ra 3 rfl rfl rfl ?_
 refine rn ?_
 refine nK ?_
 refine s_reg rfl ?_
 refine rm 6 rfl rfl rfl ?_
 refine rp 7 rfl (op_neq rfl (oT rfl) oC) ?_
 refine rn ?_
 refine nK ?_
 refine n_cond _ rfl (fun hb => ?_) (fun hb => ?_)
 ·rw [if_pos (by simpa using hb)]
  refine nK ?_
  refine s_reg rfl ?_
  refine rm 8 rfl rfl rfl ?_
  refine ra 2 rfl rfl rfl ?_
  refine rn ?_
  refine nK ?_
  (first | exact s_o1 hC rfl tV | exact s_o2 hC rfl tV tV | exact s_o3 hC rfl tV tV tV | exact s_out0 hC rfl | exact s_outO hC rfl rfl rfl)
 ·rw [if_neg (by simpa using hb)]
  refine nK ?_
  refine s_reg rfl ?_
  refine rp 9 rfl (op_fld_ptr (by decide) rfl (oT rfl)) ?_
  refine rl 10 rfl (op_load1_flat rfl (oT rfl) tH rfl) ?_
  refine rp 11 rfl (op_gtr rfl (oT rfl) oC) ?_
  refine rn ?_
  refine nK ?_
  refine n_cond _ rfl (fun hb => ?_) (fun hb => ?_)
  ·rw [if_pos (by simpa using hb)]
   refine nK ?_
   refine s_reg rfl ?_
   refine rp 2 rfl (op_assign rfl oC) ?_
   refine rn ?_
   refine nK ?_
   (first | exact s_o1 hC rfl tV | exact s_o2 hC rfl tV tV | exact s_o3 hC rfl tV tV tV | exact s_out0 hC rfl | exact s_outO hC rfl rfl rfl)
  ·rw [if_neg (by simp at hb; omega)]
   refine nK ?_
   refine s_reg rfl ?_
   refine rp 2 rfl (op_assign rfl oC) ?_
   refine rn ?_
   refine nK ?_
   (first | exact s_o1 hC rfl tV | exact s_o2 hC rfl tV tV | exact s_o3 hC rfl tV tV tV | exact s_out0 hC rfl | exact s_outO hC rfl rfl rfl)
theorem better_c (x : Alt) (c : Int) (s : BSt) : Meets Try.prog 38 [.fz (.agg (encAl x)), IV .i64 c, .ptr 0 1 0 0, .ptr 1 5 0 0, .ptr 2 1 0 0] 3 [(0, some (.flat 1 [[Bf s.found]])), (1, some (.flat 5 [encAl s.best])), (2, some (.flat 1 [[If .i64 s.least]]))] (.fz (Bf (betA x c s))) [(0, some (.flat 1 [[Bf s.found]])), (1, some (.flat 5 [encAl s.best])), (2, some (.flat 1 [[If .i64 s.least]]))] 3 := by
 have hbe : betA x c s = ((!s.found || decide (s.best.kind < x.kind)) || (decide (x.kind = s.best.kind) && decide (c < s.least))) := by unfold betA; rw [Bool.or_assoc]
 rw [hbe]
 refine Meets.intro Try.func38 rfl (Nat.le_of_ble_eq_true rfl) fun C hC => ?_
 simp only [List.map, argEnv, Nat.reduceAdd]
 refine nK ?_
 refine s_reg rfl ?_
 refine Run.eff (dd := some 5) rfl rfl (op_box_flat rfl (oT rfl) tC rfl) ?_
 refine rp 7 rfl (op_assign rfl oC) ?_
 refine rn ?_
 refine nK ?_
 refine s_reg rfl ?_
 refine rl 8 rfl (op_load1_flat rfl (oT rfl) tH rfl) ?_
 refine rp 9 rfl (op_not rfl (oT rfl)) ?_
 refine rm 10 rfl rfl rfl ?_
 refine rg 11 rfl rfl tG (op_fld_ptr (by decide) rfl (oT rfl)) ?_
 refine rk 12 rfl rfl tG (op_load1_flat rfl (oO rfl tO) tH rfl) ?_
 refine rg 13 rfl rfl tG (op_fld_ptr (by decide) rfl (oT rfl)) ?_
 refine rk 14 rfl rfl tG (op_load1_flat rfl (oO rfl tO) tH rfl) ?_
 refine rg 15 rfl rfl tG (op_gtr rfl (oO rfl tO) (oO rfl tO)) ?_
 refine rp 16 rfl (op_pick_or rfl (oT rfl) (oO rfl tO)) ?_
 refine rm 17 rfl rfl rfl ?_
 refine rg 18 rfl rfl tG (op_fld_ptr (by decide) rfl (oT rfl)) ?_
 refine rk 19 rfl rfl tG (op_load1_flat rfl (oO rfl tO) tH rfl) ?_
 refine rg 20 rfl rfl tG (op_fld_ptr (by decide) rfl (oT rfl)) ?_
 refine rk 21 rfl rfl tG (op_load1_flat rfl (oO rfl tO) tH rfl) ?_
 refine rg 22 rfl rfl tG (op_eql rfl (oO rfl tO) (oO rfl tO)) ?_
 refine rg 23 rfl rfl tG (op_move rfl (oO rfl tO)) ?_
 refine gm 24 rfl rfl tG rfl rfl ?_
 refine rk 25 rfl rfl tG (op_load1_flat rfl (oT rfl) tH rfl) ?_
 refine rg 26 rfl rfl tG (op_lss rfl (oO rfl tO) (oO rfl tO)) ?_
 refine rg 27 rfl rfl tG (op_pick_and rfl (oO rfl tO) (oO rfl tO)) ?_
 refine rp 28 rfl (op_pick_or rfl (oT rfl) (oO rfl tO)) ?_
 refine ra 7 rfl rfl rfl ?_
 refine rn ?_
 refine nK ?_
 refine Next.weak [0, 1, 2] [] (by rfl) (keepsN hC _ rfl) (G' := [(7, .fz (Bf ((!s.found || decide (s.best.kind < x.kind)) || (decide (x.kind = s.best.kind) && decide (c < s.least)))))]) (H' := [(0, some (.flat 1 [[Bf s.found]])), (1, some (.flat 5 [encAl s.best])), (2, some (.flat 1 [[If .i64 s.least]]))]) (by repeat (first | exact trivial | refine ⟨⟨_, rfl, .inl ⟨rfl, rfl⟩⟩, ?_⟩ | refine ⟨⟨_, rfl, .inl ⟨slEq rfl tN, rfl⟩⟩, ?_⟩ | refine ⟨⟨_, rfl, .inl ⟨ivEq tX, rfl⟩⟩, ?_⟩)) (by exact ⟨ent_same rfl rfl rfl tL, ⟨ent_same rfl rfl rfl tL, ⟨ent_same rfl rfl rfl tL, trivial⟩⟩⟩) (fun _ h => by simp at h) ?_
 exact n_out1 rfl (by rfl) rfl rfl
theorem lall_c (g : Gr) (a : Nat) (t : Tr) (hok : okG g) (hN : g.n = 0) (h : RunOk g a t) : Pure Try.prog 18 [.agg (encG g), If .i64 a] (.tup [VAl (allA g (tabL g (disF g.es g.m)) a (nextI a g.es) t.hops g.r.toNat), If .i64 0]) := by
 have hg := h.ok
 have d := dst_of hg
 have hac := all_c g _ hok hg (allOk_of d)
 have hrc := run_c g a t hok h
 have h128 := d.vg.n128
 have hel := d.vg.e1024
 have hnc := next_c g a (by omega)
 have hns := (nextI_spec (a : Int) g.es)
 have hnl := nextI_len (a : Int) g.es
 have hll := okT_tab d
 have hm := plain_m hN
 have hr : g.r = (g.r.toNat : Int) := by have := d.r0; omega
 have hpl : plainI g = 0 := by unfold plainI; rw [if_neg (by simp [hg]), if_neg (by omega)]
 have hhl := h.hopInv.ok.len
 have hhr := fun v (hv : v < g.m) => (h.hopInv.ok.row v hv)
 have hcb := fun f t => cost_bnd d.vg f t
 have hdb := fun i k (hi : i < g.m) (hk : k < g.m) => d.bnd hi hk
 have htr := fun x (hx : x < g.m) => tab_rows (D := disF g.es g.m) hN hx
 have htg := fun x y (hx : x < g.m) (hy : y < g.m) => tab_get (D := disF g.es g.m) hN hx hy
 have hnn : ∀ n ∈ nextI (a : Int) g.es, 0 ≤ n ∧ n < (g.m : Int) := fun n hn => by
  obtain ⟨e, he, h1, h2⟩ := (hns.2 n).1 hn
  have := d.vg.t e he; omega
 generalize disF g.es g.m = D at *
 clear hns
 generalize nextI (a : Int) g.es = ns at *
 change RT.Pure _ _ _ (.tup [.vals 1 ((tabL g D).map encL), If .i64 0]) at hac
 refine Meets.intro Try.func18 rfl (Nat.le_of_ble_eq_true rfl) fun C hC => ?_
 simp only [List.map, argEnv, Nat.reduceAdd]
 refine nK ?_
 refine s_reg rfl ?_
 refine Run.eff (dd := some 2) rfl rfl (op_box_flat rfl (oT rfl) tC rfl) ?_
 refine rp 4 rfl (op_assign rfl oC) ?_
 refine rp 5 rfl (op_assign rfl oC) ?_
 refine rn ?_
 refine nK ?_
 refine s_reg rfl ?_
 refine rl 25 rfl (op_loadw_flat rfl (oT rfl) tH rfl) ?_
 refine rp 26 rfl (op_call_pure (fun _ => lplain_c _ (by assumption)) rfl (Opd.func _) (oS (oT rfl) Opds.nil)) ?_
 refine ra 6 rfl rfl rfl ?_
 refine rn ?_
 refine nK ?_
 refine s_reg rfl ?_
 refine rm 27 rfl rfl rfl ?_
 refine rp 28 rfl (op_neq rfl (oT rfl) oC) ?_
 refine rn ?_
 refine nK ?_
 refine n_cond _ rfl (fun hb => ?_) (fun hb => ?_)
 ·exfalso; simp at hb; exact hb hpl
 ·clear hb
  refine nK ?_
  refine s_reg rfl ?_
  refine rl 31 rfl (op_loadw_flat rfl (oT rfl) tH rfl) ?_
  refine rm 32 rfl rfl rfl ?_
  refine rp 33 rfl (op_call_pure (fun _ => hrc) rfl (Opd.func _) (oS (oT rfl) (oS (oT rfl) Opds.nil))) ?_
  refine rm 30 rfl rfl rfl ?_
  refine rp 34 rfl (op_extract_fz rfl (oT rfl) rfl) ?_
  refine rp 35 rfl (op_extract_fz rfl (oT rfl) rfl) ?_
  refine Run.eff (dd := some 7) rfl rfl (op_alloc rfl rfl rfl rfl) ?_
  refine Run.eff (dd := none) rfl rfl (op_store_flat rfl (oT rfl) (oT rfl) tC rfl rfl (by first | rfl | assumption) tS) ?_
  refine ra 8 rfl rfl rfl ?_
  refine rn ?_
  refine nK ?_
  refine s_reg rfl ?_
  refine rm 36 rfl rfl rfl ?_
  refine rp 37 rfl (op_neq rfl (oT rfl) oC) ?_
  refine rn ?_
  refine nK ?_
  refine n_cond _ rfl (fun hb => ?_) (fun hb => ?_)
  ·exfalso; simp at hb
  ·clear hb
   refine nK ?_
   refine s_reg rfl ?_
   refine rl 40 rfl (op_loadw_flat rfl (oT rfl) tH rfl) ?_
   refine rp 41 rfl (op_call_pure (fun _ => hac) rfl (Opd.func _) (oS (oT rfl) Opds.nil)) ?_
   refine rm 39 rfl rfl rfl ?_
   refine rp 42 rfl (op_extract_fz rfl (oT rfl) rfl) ?_
   refine rp 43 rfl (op_extract_fz rfl (oT rfl) rfl) ?_
   refine ra 9 rfl rfl rfl ?_
   refine ra 10 rfl rfl rfl ?_
   refine rn ?_
   refine nK ?_
   refine s_reg rfl ?_
   refine rl 44 rfl (op_loadw_flat rfl (oT rfl) tH rfl) ?_
   refine rm 45 rfl rfl rfl ?_
   refine rp 46 rfl (op_call_pure (fun _ => hnc) rfl (Opd.func _) (oS (oT rfl) (oS (oT rfl) Opds.nil))) ?_
   refine ra 11 rfl rfl rfl ?_
   refine rn ?_
   refine nK ?_
   refine s_reg rfl ?_
   refine rp 12 rfl (op_assign rfl oC) ?_
   refine rn ?_
   refine nK ?_
   refine Next.adopt 12 5 rfl ?_
   refine Next.weak [0, 1, 2] [] (by rfl) (keepsN hC _ rfl) (G' := [(1, IV .i64 a), (2, .ptr 0 3 0 0), (7, .ptr 1 4 0 0), (9, .fz (VLL (tabL g D))), (11, .fz (VI ns)), (12, .sl 2 5 0 0)]) (H' := [(0, OG g), (1, OTr t), (2, OAl [])]) (by repeat (first | exact trivial | refine ⟨⟨_, rfl, .inl ⟨rfl, rfl⟩⟩, ?_⟩ | refine ⟨⟨_, rfl, .inl ⟨slEq rfl tN, rfl⟩⟩, ?_⟩ | refine ⟨⟨_, rfl, .inl ⟨ivEq tX, rfl⟩⟩, ?_⟩)) (by exact ⟨ent_same rfl rfl rfl tL, ⟨ent_same rfl rfl rfl tL, ⟨ent_same rfl rfl rfl tL, trivial⟩⟩⟩) (fun _ h => by simp at h) ?_
   refine nK ?_
   refine s_reg rfl ?_
   refine rp 47 rfl (op_fld_ptr (by decide) rfl (oT rfl)) ?_
   refine rl 48 rfl (op_load1_flat rfl (oT rfl) tH rfl) ?_
   refine rp 49 rfl (op_move rfl oC) ?_
   refine rn ?_
   refine nK ?_
   refine n_loop (ι := Nat) (fun k => ([(1, IV .i64 a), (2, .ptr 0 3 0 0), (7, .ptr 1 4 0 0), (9, .fz (VLL (tabL g D))), (11, .fz (VI ns)), (12, .sl 2 5 0 (allA g (tabL g D) a ns t.hops k).length), (48, IV .i64 g.r.toNat), (49, IV .i64 k)], [(0, OG g), (1, OTr t), (2, OAl (allA g (tabL g D) a ns t.hops k))], 3)) (fun k => k ≤ g.r.toNat ∧ (allA g (tabL g D) a ns t.hops k).length ≤ k * 128) (fun k => g.r.toNat - k) 0 ⟨Nat.zero_le _, Nat.le_refl _⟩ ?_ ?_
   ·refine Next.weak [0, 1, 2] [] (by rfl) (keepsN hC _ rfl) (by repeat (first | exact trivial | refine ⟨⟨_, rfl, .inl ⟨rfl, rfl⟩⟩, ?_⟩ | refine ⟨⟨_, rfl, .inl ⟨slEq rfl tN, rfl⟩⟩, ?_⟩ | refine ⟨⟨_, rfl, .inl ⟨ivEq tX, rfl⟩⟩, ?_⟩)) (by exact ⟨ent_same rfl rfl rfl tL, ⟨ent_same rfl rfl rfl tL, ⟨ent_same rfl rfl rfl tL, trivial⟩⟩⟩) (fun _ h => by simp at h) rel_intro
   ·intro k ⟨hk, hkl⟩ K hK
    try dsimp only at hk hkl hK ⊢
    refine nK ?_
    refine s_reg rfl ?_
    refine rp 50 rfl (op_lss rfl (oT rfl) (oT rfl)) ?_
    refine rn ?_
    refine nK ?_
    refine n_cond _ rfl (fun hb => ?_) (fun hb => ?_)
    ·have hlt : k < g.r.toNat := by have := of_decide_eq_true hb; omega
     have hkm : k < g.m := by omega
     have hrk := row_of encL t.hops k [] (by omega)
     change (t.hops.map encL)[k]? = some [VI (rowAt' t.hops k)] at hrk
     have hrok := hhr k hkm
     have hrl := hrok.len
     have hK1 := hK (k + 1)
     rw [allA_succ] at hK1
     unfold Pl.rowA at hK1
     clear hK hb
     generalize allA g (tabL g D) a ns t.hops k = out0 at *
     generalize rowAt' t.hops k = row at *
     refine nK ?_
     refine s_reg rfl ?_
     refine rm 51 rfl rfl rfl ?_
     refine ra 13 rfl rfl rfl ?_
     refine rn ?_
     refine nK ?_
     refine s_reg rfl ?_
     refine rp 52 rfl (op_fld_ptr (by decide) rfl (oT rfl)) ?_
     refine rl 53 rfl (op_load1_flat rfl (oT rfl) tH rfl) ?_
     refine rm 54 rfl rfl rfl ?_
     refine rp 55 rfl (op_idx_fz k rfl (oT rfl) (oT rfl) (by intro _; exact ⟨rfl, hrk⟩)) ?_
     refine rp 56 rfl (op_load1_fz rfl (oT rfl) rfl) ?_
     refine rp 57 rfl (op_len_fz rfl (by first | exact Opd.tmp _ _ rfl | exact Opd.nil _ _ (oT rfl)) (by first | exact List.length_map _ | rfl)) ?_
     refine rp 58 rfl (op_move rfl oC) ?_
     refine rn ?_
     refine nK ?_
     refine n_loop (ι := Nat) (fun j => ([(1, IV .i64 a), (2, .ptr 0 3 0 0), (7, .ptr 1 4 0 0), (9, .fz (VLL (tabL g D))), (11, .fz (VI ns)), (12, .sl 2 5 0 (out0 ++ (row.take j).flatMap (oneA g (tabL g D) a k ns)).length), (13, IV .i64 k), (48, IV .i64 g.r.toNat), (49, IV .i64 k), (56, .fz (VI row)), (57, IV .i64 row.length), (58, IV .i64 j)], [(0, OG g), (1, OTr t), (2, OAl (out0 ++ (row.take j).flatMap (oneA g (tabL g D) a k ns)))], 3)) (fun j => j ≤ row.length ∧ (out0 ++ (row.take j).flatMap (oneA g (tabL g D) a k ns)).length ≤ k * 128 + j) (fun j => row.length - j) 0 ⟨Nat.zero_le _, by simpa using hkl⟩ ?_ ?_
     ·refine Next.weak [0, 1, 2] [] (by rfl) (keepsN hC _ rfl) (by repeat (first | exact trivial | refine ⟨⟨_, rfl, .inl ⟨rfl, rfl⟩⟩, ?_⟩ | refine ⟨⟨_, rfl, .inl ⟨slEq rfl (by simp), rfl⟩⟩, ?_⟩ | refine ⟨⟨_, rfl, .inl ⟨ivEq tX, rfl⟩⟩, ?_⟩ | refine ⟨⟨_, rfl, .inl ⟨ivEq (by rw [List.length_map]), rfl⟩⟩, ?_⟩)) (by exact ⟨ent_same rfl rfl rfl tL, ⟨ent_same rfl rfl rfl tL, ⟨ent_same rfl rfl (flEq rfl (by simp)) trivial, trivial⟩⟩⟩) (fun _ h => by simp at h) rel_intro
     ·intro j ⟨hj, hjl⟩ K2 hK2
      try dsimp only at hj hjl hK2 ⊢
      refine nK ?_
      refine s_reg rfl ?_
      refine rp 59 rfl (op_lss rfl (oT rfl) (oT rfl)) ?_
      refine rn ?_
      refine nK ?_
      refine n_cond _ rfl (fun hb => ?_) (fun hb => ?_)
      ·have hlj : j < row.length := by have := of_decide_eq_true hb; omega
       have hrj := row_at' encN row j hlj
       have hpn : 0 ≤ row[j] ∧ row[j] < (g.m : Int) := hrok.2 _ (List.getElem_mem hlj)
       have hK3 := hK2 (j + 1)
       rw [flat_succ _ _ _ hlj, ← List.append_assoc] at hK3
       clear hK2 hb
       generalize out0 ++ (row.take j).flatMap (oneA g (tabL g D) a k ns) = out at *
       generalize row[j] = p at *
       refine nK ?_
       refine s_reg rfl ?_
       refine rp 60 rfl (op_idx_fz j rfl (oT rfl) (oT rfl) (by intro _; exact ⟨rfl, hrj⟩)) ?_
       refine rp 61 rfl (op_load1_fz rfl (oT rfl) rfl) ?_
       refine ra 15 rfl rfl rfl ?_
       refine rn ?_
       refine nK ?_
       refine s_reg rfl ?_
       refine Run.eff (dd := some 16) rfl rfl (op_alloc rfl rfl rfl rfl) ?_
       refine rn ?_
       refine nK ?_
       refine s_reg rfl ?_
       refine Run.eff (dd := some 17) rfl rfl (op_alloc rfl rfl rfl rfl) ?_
       refine Run.eff (dd := some 18) rfl rfl (op_alloc rfl rfl rfl rfl) ?_
       refine Run.eff (dd := none) rfl rfl (op_store_flat rfl (oT rfl) oC tC rfl rfl (by first | rfl | assumption) tS) ?_
       refine Run.eff (dd := none) rfl rfl (op_store_flat rfl (oT rfl) oC tC rfl rfl (by first | rfl | assumption) tS) ?_
       refine rn ?_
       refine nK ?_
       refine s_reg rfl ?_
       refine rp 62 rfl (op_makeFunc rfl Opds.nil (oS (oT rfl) (oS (oT rfl) (oS (oT rfl) Opds.nil)))) ?_
       refine ra 19 rfl rfl rfl ?_
       refine rn ?_
       refine nK ?_
       refine nK ?_
       refine s_reg rfl ?_
       refine rm 63 rfl rfl rfl ?_
       refine rp 64 rfl (op_len_fz rfl (by first | exact Opd.tmp _ _ rfl | exact Opd.nil _ _ (oT rfl)) (by first | exact List.length_map _ | rfl)) ?_
       refine rp 65 rfl (op_move rfl oC) ?_
       refine rn ?_
       refine nK ?_
       refine n_loop (ι := Nat) (fun i => ([(1, IV .i64 a), (2, .ptr 0 3 0 0), (7, .ptr 1 4 0 0), (9, .fz (VLL (tabL g D))), (11, .fz (VI ns)), (12, .sl 2 5 0 out.length), (13, IV .i64 k), (15, IV .i64 p), (16, .ptr 3 5 0 0), (17, .ptr 4 1 0 0), (18, .ptr 5 1 0 0), (19, .clo 38 [] [.ptr 5 1 0 0, .ptr 3 5 0 0, .ptr 4 1 0 0]), (48, IV .i64 g.r.toNat), (49, IV .i64 k), (56, .fz (VI row)), (57, IV .i64 row.length), (58, IV .i64 j), (63, .fz (VI ns)), (64, IV .i64 ns.length), (65, IV .i64 i)], [(0, OG g), (1, OTr t), (2, OAl out), (3, some (.flat 5 [encAl (foldA g (tabL g D) a k p (ns.take i)).best])), (4, some (.flat 1 [[If .i64 (foldA g (tabL g D) a k p (ns.take i)).least]])), (5, some (.flat 1 [[Bf (foldA g (tabL g D) a k p (ns.take i)).found]]))], 6)) (fun i => i ≤ ns.length) (fun i => ns.length - i) 0 (Nat.zero_le _) ?_ ?_
       ·refine Next.weak [0, 1, 2, 3, 4, 5] [] (by rfl) (keepsN hC _ rfl) (by repeat (first | exact trivial | refine ⟨⟨_, rfl, .inl ⟨rfl, rfl⟩⟩, ?_⟩ | refine ⟨⟨_, rfl, .inl ⟨ivEq (by rw [List.length_map]), rfl⟩⟩, ?_⟩)) (by exact ⟨ent_same rfl rfl rfl tL, ⟨ent_same rfl rfl rfl tL, ⟨ent_same rfl rfl rfl tL, ⟨ent_same rfl rfl rfl tL, ⟨ent_same rfl rfl rfl tL, ⟨ent_same rfl rfl rfl tL, trivial⟩⟩⟩⟩⟩⟩) (fun _ h => by simp at h) rel_intro
       ·intro i hi K4 hK4
        try dsimp only at hi hK4 ⊢
        refine nK ?_
        refine s_reg rfl ?_
        refine rp 66 rfl (op_lss rfl (oT rfl) (oT rfl)) ?_
        refine rn ?_
        refine nK ?_
        refine n_cond _ rfl (fun hb => ?_) (fun hb => ?_)
        ·have hli : i < ns.length := by have := of_decide_eq_true hb; omega
         have hri := row_at' encN ns i hli
         have hn := hnn _ (List.getElem_mem hli)
         have hK5 := hK4 (i + 1) (by omega) (by omega)
         rw [foldA_succ _ _ _ _ _ _ _ hli] at hK5
         clear hK4 hb
         generalize foldA g (tabL g D) a k p (ns.take i) = s at *
         generalize ns[i] = n at *
         unfold stepA at hK5
         have hlf := lloop_c (tabL g D) a n k hll
         have hdn := ldown_c (tabL g D) a n k
         have hpr := lprot_c (tabL g D) n p k hll
         refine nK ?_
         refine s_reg rfl ?_
         refine rp 67 rfl (op_idx_fz i rfl (oT rfl) (oT rfl) (by intro _; exact ⟨rfl, hri⟩)) ?_
         refine rp 68 rfl (op_load1_fz rfl (oT rfl) rfl) ?_
         refine ra 21 rfl rfl rfl ?_
         refine rn ?_
         refine nK ?_
         refine s_reg rfl ?_
         refine rm 69 rfl rfl rfl ?_
         refine rm 70 rfl rfl rfl ?_
         refine rp 71 rfl (op_eql rfl (oT rfl) (oT rfl)) ?_
         refine rm 72 rfl rfl rfl ?_
         refine gm 73 rfl rfl tG rfl rfl ?_
         refine gm 74 rfl rfl tG rfl rfl ?_
         refine gm 75 rfl rfl tG rfl rfl ?_
         refine gm 76 rfl rfl tG rfl rfl ?_
         refine rg 77 rfl rfl tG (op_call_pure (fun _ => hlf) rfl (Opd.func _) (oS (oO rfl tO) (oS (oO rfl tO) (oS (oO rfl tO) (oS (oO rfl tO) Opds.nil))))) ?_
         refine rg 78 rfl rfl tG (op_not rfl (oO rfl tO)) ?_
         refine rp 79 rfl (op_pick_or rfl (oT rfl) (oO rfl tO)) ?_
         refine rn ?_
         refine nK ?_
         refine n_cond _ rfl (fun hb => ?_) (fun hb => ?_)
         ·have hsk : skipA (tabL g D) a k p n = true := hb
          rw [if_pos hsk] at hK5
          refine nK ?_
          refine s_reg rfl ?_
          refine rp 122 rfl (op_add rfl (oT rfl) oC tI) ?_
          refine rm 65 rfl rfl rfl ?_
          refine rn ?_
          refine nK ?_
          refine Next.weak [0, 1, 2, 3, 4, 5] [] (by rfl) (keepsN hC _ rfl) (by repeat (first | exact trivial | refine ⟨⟨_, rfl, .inl ⟨rfl, rfl⟩⟩, ?_⟩ | refine ⟨⟨_, rfl, .inl ⟨slEq rfl tN, rfl⟩⟩, ?_⟩ | refine ⟨⟨_, rfl, .inl ⟨ivEq tX, rfl⟩⟩, ?_⟩)) (by exact ⟨ent_same rfl rfl rfl tL, ⟨ent_same rfl rfl rfl tL, ⟨ent_same rfl rfl rfl tL, ⟨ent_same rfl rfl rfl tL, ⟨ent_same rfl rfl rfl tL, ⟨ent_same rfl rfl rfl tL, trivial⟩⟩⟩⟩⟩⟩) (fun _ h => by simp at h) hK5
         ·have hsk : ¬ skipA (tabL g D) a k p n = true := by
           rw [Bool.not_eq_true]; exact hb
          rw [if_neg hsk] at hK5
          clear hb hsk
          have hco := cost_c g a n (by omega)
          have hcb1 := hcb a n
          have hdb1 := hdb n.toNat k (by omega) hkm
          have hrn := htr n.toNat (by omega)
          have hrk2 := row_row g.m (D n.toNat) hkm
          have hgt := htg n.toNat k (by omega) hkm
          have hcst : cstA g (tabL g D) a k n = (costL a n g.es).1 + D n.toNat k := by unfold cstA; rw [Int.toNat_natCast, hgt]
          have hbet := better_c (newA (tabL g D) a k p n) (cstA g (tabL g D) a k n) s
          rw [hcst] at hbet hK5
          refine nK ?_
          refine s_reg rfl ?_
          refine rm 80 rfl rfl rfl ?_
          refine rm 81 rfl rfl rfl ?_
          refine rm 82 rfl rfl rfl ?_
          refine rm 83 rfl rfl rfl ?_
          refine rm 84 rfl rfl rfl ?_
          refine rm 85 rfl rfl rfl ?_
          refine rm 86 rfl rfl rfl ?_
          refine rp 87 rfl (op_call_pure (fun _ => hdn) rfl (Opd.func _) (oS (oT rfl) (oS (oT rfl) (oS (oT rfl) (oS (oT rfl) Opds.nil))))) ?_
          refine rp 88 rfl (op_build rfl rfl rfl (FillF.cons _ _ _ _ _ _ _ _ _ _ (by rfl) (oT rfl) tC (by rfl) tR (FillF.cons _ _ _ _ _ _ _ _ _ _ (by rfl) (oT rfl) tC (by rfl) tR (FillF.cons _ _ _ _ _ _ _ _ _ _ (by rfl) (oT rfl) tC (by rfl) tR (FillF.cons _ _ _ _ _ _ _ _ _ _ (by rfl) oC tC (by rfl) tR (FillF.cons _ _ _ _ _ _ _ _ _ _ (by rfl) (oT rfl) tC (by rfl) tR (FillF.nil _))))))) ?_
          refine Run.eff (dd := some 22) rfl rfl (op_alloc rfl rfl rfl rfl) ?_
          refine Run.eff (dd := none) rfl rfl (op_store_flat rfl (oT rfl) (oT rfl) tC rfl rfl (by first | rfl | assumption) tS) ?_
          refine rn ?_
          refine nK ?_
          refine s_reg rfl ?_
          refine rm 89 rfl rfl rfl ?_
          refine rm 90 rfl rfl rfl ?_
          refine rp 91 rfl (op_neq rfl (oT rfl) (oT rfl)) ?_
          refine rm 92 rfl rfl rfl ?_
          refine gm 93 rfl rfl tG rfl rfl ?_
          refine gm 94 rfl rfl tG rfl rfl ?_
          refine gm 95 rfl rfl tG rfl rfl ?_
          refine gm 96 rfl rfl tG rfl rfl ?_
          refine rg 97 rfl rfl tG (op_call_pure (fun _ => hpr) rfl (Opd.func _) (oS (oO rfl tO) (oS (oO rfl tO) (oS (oO rfl tO) (oS (oO rfl tO) Opds.nil))))) ?_
          refine rp 98 rfl (op_pick_and rfl (oT rfl) (oO rfl tO)) ?_
          refine rn ?_
          refine nK ?_
          refine n_cond _ rfl (fun hb => ?_) (fun hb => ?_)
          ·have hkd : newA (tabL g D) a k p n = ⟨k, p, n, 2, dwnL (tabL g D) a n k⟩ := by
            unfold newA
            first | rw [if_pos hb] | rw [if_neg (by rw [Bool.not_eq_true]; exact hb)]
           rw [hkd] at hbet hK5
           clear hb hkd
           refine nK ?_
           refine s_reg rfl ?_
           refine rp 99 rfl (op_fld_ptr (by decide) rfl (oT rfl)) ?_
           refine Run.eff (dd := none) rfl rfl (op_store_flat rfl (oT rfl) oC tC rfl rfl (by first | rfl | assumption) tS) ?_
           refine rn ?_
           refine nK ?_
           refine s_reg rfl ?_
           refine rl 101 rfl (op_loadw_flat rfl (oT rfl) tH rfl) ?_
           refine rm 102 rfl rfl rfl ?_
           refine rm 103 rfl rfl rfl ?_
           refine rp 104 rfl (op_call_pure (fun _ => hco) rfl (Opd.func _) (oS (oT rfl) (oS (oT rfl) (oS (oT rfl) Opds.nil)))) ?_
           refine rm 100 rfl rfl rfl ?_
           refine rp 105 rfl (op_extract_fz rfl (oT rfl) rfl) ?_
           refine rp 106 rfl (op_extract_fz rfl (oT rfl) rfl) ?_
           refine ra 23 rfl rfl rfl ?_
           refine ra 24 rfl rfl rfl ?_
           refine rn ?_
           refine nK ?_
           refine s_reg rfl ?_
           refine rm 107 rfl rfl rfl ?_
           refine rm 108 rfl rfl rfl ?_
           refine rm 109 rfl rfl rfl ?_
           refine rp 110 rfl (op_idx_fz n.toNat rfl (oT rfl) (oT rfl) (by intro _; exact ⟨by omega, hrn⟩)) ?_
           refine rp 111 rfl (op_load1_fz rfl (oT rfl) rfl) ?_
           refine rm 112 rfl rfl rfl ?_
           refine rp 113 rfl (op_idx_fz k rfl (oT rfl) (oT rfl) (by intro _; exact ⟨rfl, hrk2⟩)) ?_
           refine rp 114 rfl (op_load1_fz rfl (oT rfl) rfl) ?_
           refine rp 115 rfl (op_add rfl (oT rfl) (oT rfl) tI) ?_
           refine ra 23 rfl rfl rfl ?_
           refine rn ?_
           refine nK ?_
           refine s_reg rfl ?_
           refine rm 116 rfl rfl rfl ?_
           refine rl 117 rfl (op_loadw_flat rfl (oT rfl) tH rfl) ?_
           refine rm 118 rfl rfl rfl ?_
           refine rl 119 rfl (op_call_read (n := 3) [5, 3, 4] (fun _ => hbet) rfl (oT rfl) (oS (oT rfl) (oS (oT rfl) Opds.nil)) rfl rfl (Lent.of rfl rfl (by exact ⟨⟨rfl, rfl, rfl, trivial⟩, ⟨rfl, rfl, rfl, trivial⟩, ⟨rfl, rfl, rfl, trivial⟩, trivial⟩) rfl) rfl) ?_
           refine rn ?_
           refine nK ?_
           refine n_cond _ rfl (fun hb => ?_) (fun hb => ?_)
           ·rw [if_pos hb] at hK5
            refine nK ?_
            refine s_reg rfl ?_
            refine rl 120 rfl (op_loadw_flat rfl (oT rfl) tH rfl) ?_
            refine rm 121 rfl rfl rfl ?_
            refine Run.eff (dd := none) rfl rfl (op_store_flat rfl (oT rfl) (oT rfl) tC rfl rfl (by first | rfl | assumption) tS) ?_
            refine Run.eff (dd := none) rfl rfl (op_store_flat rfl (oT rfl) (oT rfl) tC rfl rfl (by first | rfl | assumption) tS) ?_
            refine Run.eff (dd := none) rfl rfl (op_store_flat rfl (oT rfl) oC tC rfl rfl (by first | rfl | assumption) tS) ?_
            refine rn ?_
            refine nK ?_
            refine s_reg rfl ?_
            refine rp 122 rfl (op_add rfl (oT rfl) oC tI) ?_
            refine rm 65 rfl rfl rfl ?_
            refine rn ?_
            refine nK ?_
            refine Next.weak [0, 1, 2, 3, 4, 5] [] (by rfl) (keepsN hC _ rfl) (by repeat (first | exact trivial | refine ⟨⟨_, rfl, .inl ⟨rfl, rfl⟩⟩, ?_⟩ | refine ⟨⟨_, rfl, .inl ⟨slEq rfl tN, rfl⟩⟩, ?_⟩ | refine ⟨⟨_, rfl, .inl ⟨ivEq tX, rfl⟩⟩, ?_⟩)) (by exact ⟨ent_same rfl rfl rfl tL, ⟨ent_same rfl rfl rfl tL, ⟨ent_same rfl rfl rfl tL, ⟨ent_same rfl rfl rfl tL, ⟨ent_same rfl rfl rfl tL, ⟨ent_same rfl rfl rfl tL, trivial⟩⟩⟩⟩⟩⟩) (fun _ h => by simp at h) hK5
           ·rw [if_neg (by rw [hb]; simp)] at hK5
            refine nK ?_
            refine s_reg rfl ?_
            refine rp 122 rfl (op_add rfl (oT rfl) oC tI) ?_
            refine rm 65 rfl rfl rfl ?_
            refine rn ?_
            refine nK ?_
            refine Next.weak [0, 1, 2, 3, 4, 5] [] (by rfl) (keepsN hC _ rfl) (by repeat (first | exact trivial | refine ⟨⟨_, rfl, .inl ⟨rfl, rfl⟩⟩, ?_⟩ | refine ⟨⟨_, rfl, .inl ⟨slEq rfl tN, rfl⟩⟩, ?_⟩ | refine ⟨⟨_, rfl, .inl ⟨ivEq tX, rfl⟩⟩, ?_⟩)) (by exact ⟨ent_same rfl rfl rfl tL, ⟨ent_same rfl rfl rfl tL, ⟨ent_same rfl rfl rfl tL, ⟨ent_same rfl rfl rfl tL, ⟨ent_same rfl rfl rfl tL, ⟨ent_same rfl rfl rfl tL, trivial⟩⟩⟩⟩⟩⟩) (fun _ h => by simp at h) hK5
          ·have hkd : newA (tabL g D) a k p n = ⟨k, p, n, 1, dwnL (tabL g D) a n k⟩ := by
            unfold newA
            first | rw [if_pos hb] | rw [if_neg (by rw [Bool.not_eq_true]; exact hb)]
           rw [hkd] at hbet hK5
           clear hb hkd
           refine nK ?_
           refine s_reg rfl ?_
           refine rl 101 rfl (op_loadw_flat rfl (oT rfl) tH rfl) ?_
           refine rm 102 rfl rfl rfl ?_
           refine rm 103 rfl rfl rfl ?_
           refine rp 104 rfl (op_call_pure (fun _ => hco) rfl (Opd.func _) (oS (oT rfl) (oS (oT rfl) (oS (oT rfl) Opds.nil)))) ?_
           refine rm 100 rfl rfl rfl ?_
           refine rp 105 rfl (op_extract_fz rfl (oT rfl) rfl) ?_
           refine rp 106 rfl (op_extract_fz rfl (oT rfl) rfl) ?_
           refine ra 23 rfl rfl rfl ?_
           refine ra 24 rfl rfl rfl ?_
           refine rn ?_
           refine nK ?_
           refine s_reg rfl ?_
           refine rm 107 rfl rfl rfl ?_
           refine rm 108 rfl rfl rfl ?_
           refine rm 109 rfl rfl rfl ?_
           refine rp 110 rfl (op_idx_fz n.toNat rfl (oT rfl) (oT rfl) (by intro _; exact ⟨by omega, hrn⟩)) ?_
           refine rp 111 rfl (op_load1_fz rfl (oT rfl) rfl) ?_
           refine rm 112 rfl rfl rfl ?_
           refine rp 113 rfl (op_idx_fz k rfl (oT rfl) (oT rfl) (by intro _; exact ⟨rfl, hrk2⟩)) ?_
           refine rp 114 rfl (op_load1_fz rfl (oT rfl) rfl) ?_
           refine rp 115 rfl (op_add rfl (oT rfl) (oT rfl) tI) ?_
           refine ra 23 rfl rfl rfl ?_
           refine rn ?_
           refine nK ?_
           refine s_reg rfl ?_
           refine rm 116 rfl rfl rfl ?_
           refine rl 117 rfl (op_loadw_flat rfl (oT rfl) tH rfl) ?_
           refine rm 118 rfl rfl rfl ?_
           refine rl 119 rfl (op_call_read (n := 3) [5, 3, 4] (fun _ => hbet) rfl (oT rfl) (oS (oT rfl) (oS (oT rfl) Opds.nil)) rfl rfl (Lent.of rfl rfl (by exact ⟨⟨rfl, rfl, rfl, trivial⟩, ⟨rfl, rfl, rfl, trivial⟩, ⟨rfl, rfl, rfl, trivial⟩, trivial⟩) rfl) rfl) ?_
           refine rn ?_
           refine nK ?_
           refine n_cond _ rfl (fun hb => ?_) (fun hb => ?_)
           ·rw [if_pos hb] at hK5
            refine nK ?_
            refine s_reg rfl ?_
            refine rl 120 rfl (op_loadw_flat rfl (oT rfl) tH rfl) ?_
            refine rm 121 rfl rfl rfl ?_
            refine Run.eff (dd := none) rfl rfl (op_store_flat rfl (oT rfl) (oT rfl) tC rfl rfl (by first | rfl | assumption) tS) ?_
            refine Run.eff (dd := none) rfl rfl (op_store_flat rfl (oT rfl) (oT rfl) tC rfl rfl (by first | rfl | assumption) tS) ?_
            refine Run.eff (dd := none) rfl rfl (op_store_flat rfl (oT rfl) oC tC rfl rfl (by first | rfl | assumption) tS) ?_
            refine rn ?_
            refine nK ?_
            refine s_reg rfl ?_
            refine rp 122 rfl (op_add rfl (oT rfl) oC tI) ?_
            refine rm 65 rfl rfl rfl ?_
            refine rn ?_
            refine nK ?_
            refine Next.weak [0, 1, 2, 3, 4, 5] [] (by rfl) (keepsN hC _ rfl) (by repeat (first | exact trivial | refine ⟨⟨_, rfl, .inl ⟨rfl, rfl⟩⟩, ?_⟩ | refine ⟨⟨_, rfl, .inl ⟨slEq rfl tN, rfl⟩⟩, ?_⟩ | refine ⟨⟨_, rfl, .inl ⟨ivEq tX, rfl⟩⟩, ?_⟩)) (by exact ⟨ent_same rfl rfl rfl tL, ⟨ent_same rfl rfl rfl tL, ⟨ent_same rfl rfl rfl tL, ⟨ent_same rfl rfl rfl tL, ⟨ent_same rfl rfl rfl tL, ⟨ent_same rfl rfl rfl tL, trivial⟩⟩⟩⟩⟩⟩) (fun _ h => by simp at h) hK5
           ·rw [if_neg (by rw [hb]; simp)] at hK5
            refine nK ?_
            refine s_reg rfl ?_
            refine rp 122 rfl (op_add rfl (oT rfl) oC tI) ?_
            refine rm 65 rfl rfl rfl ?_
            refine rn ?_
            refine nK ?_
            refine Next.weak [0, 1, 2, 3, 4, 5] [] (by rfl) (keepsN hC _ rfl) (by repeat (first | exact trivial | refine ⟨⟨_, rfl, .inl ⟨rfl, rfl⟩⟩, ?_⟩ | refine ⟨⟨_, rfl, .inl ⟨slEq rfl tN, rfl⟩⟩, ?_⟩ | refine ⟨⟨_, rfl, .inl ⟨ivEq tX, rfl⟩⟩, ?_⟩)) (by exact ⟨ent_same rfl rfl rfl tL, ⟨ent_same rfl rfl rfl tL, ⟨ent_same rfl rfl rfl tL, ⟨ent_same rfl rfl rfl tL, ⟨ent_same rfl rfl rfl tL, ⟨ent_same rfl rfl rfl tL, trivial⟩⟩⟩⟩⟩⟩) (fun _ h => by simp at h) hK5
        ·have hie : i = ns.length := by have := of_decide_eq_false hb; omega
         subst hie
         rw [List.take_length]
         have hone : oneA g (tabL g D) a k ns p = if (foldA g (tabL g D) a k p ns).found = true then [(foldA g (tabL g D) a k p ns).best] else [] := rfl
         clear hb hK4
         generalize foldA g (tabL g D) a k p ns = s at *
         refine nK ?_
         refine s_reg rfl ?_
         refine rl 123 rfl (op_load1_flat rfl (oT rfl) tH rfl) ?_
         refine rn ?_
         refine nK ?_
         refine n_cond _ rfl (fun hb => ?_) (fun hb => ?_)
         ·rw [hone, if_pos hb] at hK3
          refine nK ?_
          refine s_reg rfl ?_
          refine rm 124 rfl rfl rfl ?_
          refine rl 125 rfl (op_loadw_flat rfl (oT rfl) tH rfl) ?_
          refine rp 126 rfl (op_buildSlice_fz rfl (RowsF.cons _ _ _ _ _ _ (oT rfl) tC (by rfl) (RowsF.nil _)) rfl rfl) ?_
          refine Run.eff (dd := some 127) rfl rfl (op_append rfl (oT rfl) (by first | exact Opd.tmp _ _ rfl | exact Opd.nil _ _ (oT rfl)) rfl (by first | rfl | simp) rfl rfl tB tB) ?_
          refine ra 12 rfl rfl rfl ?_
          refine rn ?_
          refine nK ?_
          refine s_reg rfl ?_
          refine rp 128 rfl (op_add rfl (oT rfl) oC tI) ?_
          refine rm 58 rfl rfl rfl ?_
          refine rn ?_
          refine nK ?_
          refine Next.weak [0, 1, 6] [] (by rfl) (keepsN hC _ rfl) (by repeat (first | exact trivial | refine ⟨⟨_, rfl, .inl ⟨rfl, rfl⟩⟩, ?_⟩ | refine ⟨⟨_, rfl, .inl ⟨slEq rfl (by simp), rfl⟩⟩, ?_⟩)) (by exact ⟨ent_same rfl rfl rfl tL, ⟨ent_same rfl rfl rfl tL, ⟨ent_same rfl rfl (flEq rfl (by rw [List.map_append]; rfl)) trivial, trivial⟩⟩⟩) (fun _ h => by simp at h) (hK3 ⟨by omega, by simp; omega⟩ (by omega))
         ·rw [hone, if_neg (by rw [hb]; simp), List.append_nil] at hK3
          refine nK ?_
          refine s_reg rfl ?_
          refine rp 128 rfl (op_add rfl (oT rfl) oC tI) ?_
          refine rm 58 rfl rfl rfl ?_
          refine rn ?_
          refine nK ?_
          refine Next.weak [0, 1, 2] [] (by rfl) (keepsN hC _ rfl) (by repeat (first | exact trivial | refine ⟨⟨_, rfl, .inl ⟨rfl, rfl⟩⟩, ?_⟩ | refine ⟨⟨_, rfl, .inl ⟨slEq rfl tN, rfl⟩⟩, ?_⟩ | refine ⟨⟨_, rfl, .inl ⟨ivEq tX, rfl⟩⟩, ?_⟩)) (by exact ⟨ent_same rfl rfl rfl tL, ⟨ent_same rfl rfl rfl tL, ⟨ent_same rfl rfl rfl tL, trivial⟩⟩⟩) (fun _ h => by simp at h) (hK3 ⟨by omega, by omega⟩ (by omega))
      ·have hje : j = row.length := by have := of_decide_eq_false hb; omega
       subst hje
       rw [List.take_length] at *
       refine nK ?_
       refine s_reg rfl ?_
       refine rp 129 rfl (op_add rfl (oT rfl) oC tI) ?_
       refine rm 49 rfl rfl rfl ?_
       refine rn ?_
       refine nK ?_
       refine Next.weak [0, 1, 2] [] (by rfl) (keepsN hC _ rfl) (by repeat (first | exact trivial | refine ⟨⟨_, rfl, .inl ⟨rfl, rfl⟩⟩, ?_⟩ | refine ⟨⟨_, rfl, .inl ⟨slEq rfl tN, rfl⟩⟩, ?_⟩ | refine ⟨⟨_, rfl, .inl ⟨ivEq tX, rfl⟩⟩, ?_⟩)) (by exact ⟨ent_same rfl rfl rfl tL, ⟨ent_same rfl rfl rfl tL, ⟨ent_same rfl rfl rfl tL, trivial⟩⟩⟩) (fun _ h => by simp at h) (hK1 ⟨by omega, by omega⟩ (by omega))
    ·have hke : k = g.r.toNat := by have := of_decide_eq_false hb; omega
     subst hke
     refine nK ?_
     refine s_reg rfl ?_
     refine rm 130 rfl rfl rfl ?_
     refine ra 4 rfl rfl rfl ?_
     refine rp 5 rfl (op_assign rfl oC) ?_
     refine rn ?_
     refine nK ?_
     refine Next.weakS [] [4] (by rfl) (keeps0 hC _) (G' := [(4, .fz (VAl (allA g (tabL g D) a ns t.hops g.r.toNat))), (5, IV .i64 0)]) (H' := []) ⟨⟨_, rfl, .inr ⟨_, rfl, .sl _ _ _ _ _ _ rfl rfl (take_all0 (List.length_map _)) (List.length_map _)⟩⟩, ⟨_, rfl, .inl ⟨rfl, rfl⟩⟩, trivial⟩ trivial rfl ?_
     (first | exact s_o1 hC rfl tV | exact s_o2 hC rfl tV tV | exact s_o3 hC rfl tV tV tV | exact s_out0 hC rfl | exact s_outO hC rfl rfl rfl)
end Go.Proofs.Ytnkhlbljnmodbaa
namespace Go.Proofs.Ytnkhlbljnmodbaa
open Go Go.RT Go.Proofs Go.Pl
set_option linter.all false
set_option maxRecDepth 20000
set_option maxHeartbeats 4000000
end Go.Proofs.Ytnkhlbljnmodbaa
namespace Go.Proofs.Ytnkhlbljnmodbaa
open Go Go.RT Go.Proofs Go.Pl
set_option linter.all false
set_option maxRecDepth 20000
set_option maxHeartbeats 4000000
def linkI (g : Gr) (s e : Int) : Int := if plainI g ≠ 0 then plainI g else if s < 0 ∨ g.r ≤ s ∨ e < 0 ∨ g.r ≤ e then 5 else if (costL s e g.es).2 = false then 6 else 0
theorem linkI_ok {g : Gr} {s e : Int} (h : linkI g s e = 0) : plainI g = 0 ∧ 0 ≤ s ∧ s < g.r ∧ 0 ≤ e ∧ e < g.r ∧ (costL s e g.es).2 = true := by
 unfold linkI at h
 split at h
 ·rename_i h1; exact absurd h h1
 ·split at h
  ·cases h
  ·split at h
   ·cases h
   ·rename_i h1 h2 h3
    refine ⟨by omega, by omega, by omega, by omega, by omega, by simpa using h3⟩
theorem es_len {g : Gr} (h : plainI g = 0) : g.es.length ≤ 2000000 := by
 have := (checkI_vg (plainI_ok h).1).1.e1024; omega
theorem llink_bad (g : Gr) (s e : Int) (hok : okG g) (h : linkI g s e ≠ 0) : Pure Try.prog 27 [.agg (encG g), If .i64 s, If .i64 e] (.tup [VLL [], If .i64 0, If .i64 (linkI g s e)]) := by
 have hco := fun (h : plainI g = 0) => cost_c g s e (es_len h)
 unfold linkI at *
 refine Meets.intro Try.func27 rfl (Nat.le_of_ble_eq_true rfl) fun C hC => ?_
 simp only [List.map, argEnv, Nat.reduceAdd]
 refine nK ?_
 refine s_reg rfl ?_
 refine Run.eff (dd := some 3) rfl rfl (op_box_flat rfl (oT rfl) tC rfl) ?_
 refine rp 6 rfl (op_assign rfl oC) ?_
 refine rp 7 rfl (op_assign rfl oC) ?_
 refine rp 8 rfl (op_assign rfl oC) ?_
 refine rn ?_
 refine nK ?_
 refine s_reg rfl ?_
 refine rl 14 rfl (op_loadw_flat rfl (oT rfl) tH rfl) ?_
 refine rp 15 rfl (op_call_pure (fun _ => lplain_c _ (by assumption)) rfl (Opd.func _) (oS (oT rfl) Opds.nil)) ?_
 refine ra 9 rfl rfl rfl ?_
 refine rn ?_
 refine nK ?_
 refine s_reg rfl ?_
 refine rm 16 rfl rfl rfl ?_
 refine rp 17 rfl (op_neq rfl (oT rfl) oC) ?_
 refine rn ?_
 refine nK ?_
 refine n_cond _ rfl (fun hb => ?_) (fun hb => ?_)
 ·have hp : plainI g ≠ 0 := by simpa using hb
  rw [if_pos hp]
  refine nK ?_
  refine s_reg rfl ?_
  refine rm 18 rfl rfl rfl ?_
  refine rp 6 rfl (op_assign rfl oC) ?_
  refine rp 7 rfl (op_assign rfl oC) ?_
  refine ra 8 rfl rfl rfl ?_
  refine rn ?_
  refine nK ?_
  refine Next.weakS [] [] (by rfl) (keeps0 hC _) (G' := [(6, .fz (VLL [])), (7, IV .i64 0), (8, .fz _)]) (H' := []) (by repeat (first | exact trivial | refine ⟨⟨_, rfl, .inl ⟨rfl, rfl⟩⟩, ?_⟩ | refine ⟨⟨_, rfl, .inl ⟨slEq rfl tN, rfl⟩⟩, ?_⟩ | refine ⟨⟨_, rfl, .inl ⟨ivEq tX, rfl⟩⟩, ?_⟩ | refine ⟨⟨_, rfl, .inr ⟨_, rfl, tW⟩⟩, ?_⟩)) trivial rfl ?_
  (first | exact s_o1 hC rfl tV | exact s_o2 hC rfl tV tV | exact s_o3 hC rfl tV tV tV | exact s_out0 hC rfl | exact s_outO hC rfl rfl rfl)
 ·have hp : plainI g = 0 := by simpa using hb
  rw [if_neg (by omega)] at h ⊢
  have hco := hco hp
  refine nK ?_
  refine s_reg rfl ?_
  refine rm 19 rfl rfl rfl ?_
  refine rp 20 rfl (op_lss rfl (oT rfl) oC) ?_
  refine rm 21 rfl rfl rfl ?_
  refine gm 22 rfl rfl tG rfl rfl ?_
  refine rg 23 rfl rfl tG (op_fld_ptr (by decide) rfl (oT rfl)) ?_
  refine rk 24 rfl rfl tG (op_load1_flat rfl (oO rfl tO) tH rfl) ?_
  refine rg 25 rfl rfl tG (op_geq rfl (oO rfl tO) (oO rfl tO)) ?_
  refine rp 26 rfl (op_pick_or rfl (oT rfl) (oO rfl tO)) ?_
  refine rm 27 rfl rfl rfl ?_
  refine gm 28 rfl rfl tG rfl rfl ?_
  refine rg 29 rfl rfl tG (op_lss rfl (oO rfl tO) oC) ?_
  refine rp 30 rfl (op_pick_or rfl (oT rfl) (oO rfl tO)) ?_
  refine rm 31 rfl rfl rfl ?_
  refine gm 32 rfl rfl tG rfl rfl ?_
  refine rg 33 rfl rfl tG (op_fld_ptr (by decide) rfl (oT rfl)) ?_
  refine rk 34 rfl rfl tG (op_load1_flat rfl (oO rfl tO) tH rfl) ?_
  refine rg 35 rfl rfl tG (op_geq rfl (oO rfl tO) (oO rfl tO)) ?_
  refine rp 36 rfl (op_pick_or rfl (oT rfl) (oO rfl tO)) ?_
  refine rn ?_
  refine nK ?_
  refine n_cond _ rfl (fun hb => ?_) (fun hb => ?_)
  ·have hc : s < 0 ∨ g.r ≤ s ∨ e < 0 ∨ g.r ≤ e := by simp only [Bool.or_eq_true, decide_eq_true_eq] at hb; omega
   rw [if_pos hc]
   refine nK ?_
   refine s_reg rfl ?_
   refine rp 6 rfl (op_assign rfl oC) ?_
   refine rp 7 rfl (op_assign rfl oC) ?_
   refine rp 8 rfl (op_assign rfl oC) ?_
   refine rn ?_
   refine nK ?_
   refine Next.weakS [] [] (by rfl) (keeps0 hC _) (G' := [(6, .fz (VLL [])), (7, IV .i64 0), (8, .fz _)]) (H' := []) (by repeat (first | exact trivial | refine ⟨⟨_, rfl, .inl ⟨rfl, rfl⟩⟩, ?_⟩ | refine ⟨⟨_, rfl, .inl ⟨slEq rfl tN, rfl⟩⟩, ?_⟩ | refine ⟨⟨_, rfl, .inl ⟨ivEq tX, rfl⟩⟩, ?_⟩ | refine ⟨⟨_, rfl, .inr ⟨_, rfl, tW⟩⟩, ?_⟩)) trivial rfl ?_
   (first | exact s_o1 hC rfl tV | exact s_o2 hC rfl tV tV | exact s_o3 hC rfl tV tV tV | exact s_out0 hC rfl | exact s_outO hC rfl rfl rfl)
  ·have hc : ¬ (s < 0 ∨ g.r ≤ s ∨ e < 0 ∨ g.r ≤ e) := by simp only [Bool.or_eq_false_iff, decide_eq_false_iff_not] at hb; omega
   rw [if_neg hc] at h ⊢
   refine nK ?_
   refine s_reg rfl ?_
   refine rl 38 rfl (op_loadw_flat rfl (oT rfl) tH rfl) ?_
   refine rm 39 rfl rfl rfl ?_
   refine rm 40 rfl rfl rfl ?_
   refine rp 41 rfl (op_call_pure (fun _ => hco) rfl (Opd.func _) (oS (oT rfl) (oS (oT rfl) (oS (oT rfl) Opds.nil)))) ?_
   refine rm 37 rfl rfl rfl ?_
   refine rp 42 rfl (op_extract_fz rfl (oT rfl) rfl) ?_
   refine rp 43 rfl (op_extract_fz rfl (oT rfl) rfl) ?_
   refine ra 10 rfl rfl rfl ?_
   refine ra 11 rfl rfl rfl ?_
   refine rn ?_
   refine nK ?_
   refine s_reg rfl ?_
   refine rm 44 rfl rfl rfl ?_
   refine rp 45 rfl (op_not rfl (oT rfl)) ?_
   refine rn ?_
   refine nK ?_
   refine n_cond _ rfl (fun hb => ?_) (fun hb => ?_)
   ·have hc2 : (costL s e g.es).2 = false := by simpa using hb
    rw [if_pos hc2]
    refine nK ?_
    refine s_reg rfl ?_
    refine rp 6 rfl (op_assign rfl oC) ?_
    refine rp 7 rfl (op_assign rfl oC) ?_
    refine rp 8 rfl (op_assign rfl oC) ?_
    refine rn ?_
    refine nK ?_
    refine Next.weakS [] [] (by rfl) (keeps0 hC _) (G' := [(6, .fz (VLL [])), (7, IV .i64 0), (8, .fz _)]) (H' := []) (by repeat (first | exact trivial | refine ⟨⟨_, rfl, .inl ⟨rfl, rfl⟩⟩, ?_⟩ | refine ⟨⟨_, rfl, .inl ⟨slEq rfl tN, rfl⟩⟩, ?_⟩ | refine ⟨⟨_, rfl, .inl ⟨ivEq tX, rfl⟩⟩, ?_⟩ | refine ⟨⟨_, rfl, .inr ⟨_, rfl, tW⟩⟩, ?_⟩)) trivial rfl ?_
    (first | exact s_o1 hC rfl tV | exact s_o2 hC rfl tV tV | exact s_o3 hC rfl tV tV tV | exact s_out0 hC rfl | exact s_outO hC rfl rfl rfl)
   ·have hc2 : (costL s e g.es).2 = true := by simpa using hb
    rw [if_neg (by rw [hc2]; simp)] at h
    exact absurd rfl h
theorem llink_c (g : Gr) (s e : Int) (hok : okG g) (h : linkI g s e = 0) : Pure Try.prog 27 [.agg (encG g), If .i64 s, If .i64 e] (.tup [VLL (tabL g (disF g.es g.m)), If .i64 (costL s e g.es).1, If .i64 0]) := by
 obtain ⟨hp, h1, h2, h3, h4, h5⟩ := linkI_ok h
 have hco := cost_c g s e (es_len hp)
 obtain ⟨hg, hN⟩ := plainI_ok hp
 have d := dst_of hg
 have hac := all_c g _ hok hg (allOk_of d)
 change RT.Pure _ _ _ (.tup [.vals 1 ((tabL g (disF g.es g.m)).map encL), If .i64 0]) at hac
 refine Meets.intro Try.func27 rfl (Nat.le_of_ble_eq_true rfl) fun C hC => ?_
 simp only [List.map, argEnv, Nat.reduceAdd]
 refine nK ?_
 refine s_reg rfl ?_
 refine Run.eff (dd := some 3) rfl rfl (op_box_flat rfl (oT rfl) tC rfl) ?_
 refine rp 6 rfl (op_assign rfl oC) ?_
 refine rp 7 rfl (op_assign rfl oC) ?_
 refine rp 8 rfl (op_assign rfl oC) ?_
 refine rn ?_
 refine nK ?_
 refine s_reg rfl ?_
 refine rl 14 rfl (op_loadw_flat rfl (oT rfl) tH rfl) ?_
 refine rp 15 rfl (op_call_pure (fun _ => lplain_c _ (by assumption)) rfl (Opd.func _) (oS (oT rfl) Opds.nil)) ?_
 refine ra 9 rfl rfl rfl ?_
 refine rn ?_
 refine nK ?_
 refine s_reg rfl ?_
 refine rm 16 rfl rfl rfl ?_
 refine rp 17 rfl (op_neq rfl (oT rfl) oC) ?_
 refine rn ?_
 refine nK ?_
 refine n_cond _ rfl (fun hb => ?_) (fun hb => ?_)
 ·exfalso; simp at hb; exact hb hp
 ·clear hb
  refine nK ?_
  refine s_reg rfl ?_
  refine rm 19 rfl rfl rfl ?_
  refine rp 20 rfl (op_lss rfl (oT rfl) oC) ?_
  refine rm 21 rfl rfl rfl ?_
  refine gm 22 rfl rfl tG rfl rfl ?_
  refine rg 23 rfl rfl tG (op_fld_ptr (by decide) rfl (oT rfl)) ?_
  refine rk 24 rfl rfl tG (op_load1_flat rfl (oO rfl tO) tH rfl) ?_
  refine rg 25 rfl rfl tG (op_geq rfl (oO rfl tO) (oO rfl tO)) ?_
  refine rp 26 rfl (op_pick_or rfl (oT rfl) (oO rfl tO)) ?_
  refine rm 27 rfl rfl rfl ?_
  refine gm 28 rfl rfl tG rfl rfl ?_
  refine rg 29 rfl rfl tG (op_lss rfl (oO rfl tO) oC) ?_
  refine rp 30 rfl (op_pick_or rfl (oT rfl) (oO rfl tO)) ?_
  refine rm 31 rfl rfl rfl ?_
  refine gm 32 rfl rfl tG rfl rfl ?_
  refine rg 33 rfl rfl tG (op_fld_ptr (by decide) rfl (oT rfl)) ?_
  refine rk 34 rfl rfl tG (op_load1_flat rfl (oO rfl tO) tH rfl) ?_
  refine rg 35 rfl rfl tG (op_geq rfl (oO rfl tO) (oO rfl tO)) ?_
  refine rp 36 rfl (op_pick_or rfl (oT rfl) (oO rfl tO)) ?_
  refine rn ?_
  refine nK ?_
  refine n_cond _ rfl (fun hb => ?_) (fun hb => ?_)
  ·exfalso; simp only [Bool.or_eq_true, decide_eq_true_eq] at hb; omega
  ·clear hb
   refine nK ?_
   refine s_reg rfl ?_
   refine rl 38 rfl (op_loadw_flat rfl (oT rfl) tH rfl) ?_
   refine rm 39 rfl rfl rfl ?_
   refine rm 40 rfl rfl rfl ?_
   refine rp 41 rfl (op_call_pure (fun _ => hco) rfl (Opd.func _) (oS (oT rfl) (oS (oT rfl) (oS (oT rfl) Opds.nil)))) ?_
   refine rm 37 rfl rfl rfl ?_
   refine rp 42 rfl (op_extract_fz rfl (oT rfl) rfl) ?_
   refine rp 43 rfl (op_extract_fz rfl (oT rfl) rfl) ?_
   refine ra 10 rfl rfl rfl ?_
   refine ra 11 rfl rfl rfl ?_
   refine rn ?_
   refine nK ?_
   refine s_reg rfl ?_
   refine rm 44 rfl rfl rfl ?_
   refine rp 45 rfl (op_not rfl (oT rfl)) ?_
   refine rn ?_
   refine nK ?_
   refine n_cond _ rfl (fun hb => ?_) (fun hb => ?_)
   ·exfalso; rw [h5] at hb; simp at hb
   ·refine nK ?_
    refine s_reg rfl ?_
    refine rl 47 rfl (op_loadw_flat rfl (oT rfl) tH rfl) ?_
    refine rp 48 rfl (op_call_pure (fun _ => hac) rfl (Opd.func _) (oS (oT rfl) Opds.nil)) ?_
    refine rm 46 rfl rfl rfl ?_
    refine rp 49 rfl (op_extract_fz rfl (oT rfl) rfl) ?_
    refine rp 50 rfl (op_extract_fz rfl (oT rfl) rfl) ?_
    refine ra 12 rfl rfl rfl ?_
    refine ra 13 rfl rfl rfl ?_
    refine rn ?_
    refine nK ?_
    refine s_reg rfl ?_
    refine rm 51 rfl rfl rfl ?_
    refine rm 52 rfl rfl rfl ?_
    refine ra 6 rfl rfl rfl ?_
    refine ra 7 rfl rfl rfl ?_
    refine rp 8 rfl (op_assign rfl oC) ?_
    refine rn ?_
    refine nK ?_
    (first | exact s_o1 hC rfl tV | exact s_o2 hC rfl tV tV | exact s_o3 hC rfl tV tV tV | exact s_out0 hC rfl | exact s_outO hC rfl rfl rfl)
theorem lps_c (g : Gr) (s e : Nat) (hok : okG g) (h : linkI g s e = 0) : Pure Try.prog 20 [.agg (encG g), If .i64 s, If .i64 e] (.tup [VI (fil (psB (tabL g (disF g.es g.m)) s e (costL s e g.es).1) g.m), If .i64 0]) := by
 have hl := llink_c g s e hok h
 obtain ⟨hp, h1, h2, h3, h4, h5⟩ := linkI_ok h
 obtain ⟨hg, hN⟩ := plainI_ok hp
 have d := dst_of hg
 have hm := plain_m hN
 have h128 := d.vg.n128
 have hcb := cost_bnd d.vg (s : Int) (e : Int)
 have hdb := fun i k (hi : i < g.m) (hk : k < g.m) => d.bnd hi hk
 have htr := fun x (hx : x < g.m) => tab_rows (D := disF g.es g.m) hN hx
 have htg := fun x y (hx : x < g.m) (hy : y < g.m) => tab_get (D := disF g.es g.m) hN hx hy
 have htl := tab_len g (disF g.es g.m)
 rw [← hm] at htl
 generalize disF g.es g.m = D at *
 generalize (costL s e g.es).1 = c at *
 have hsm : s < g.m := by omega
 have hem : e < g.m := by omega
 have hrs := htr s hsm
 have hre := htr e hem
 refine Meets.intro Try.func20 rfl (Nat.le_of_ble_eq_true rfl) fun C hC => ?_
 simp only [List.map, argEnv, Nat.reduceAdd]
 refine nK ?_
 refine s_reg rfl ?_
 refine Run.eff (dd := some 3) rfl rfl (op_box_flat rfl (oT rfl) tC rfl) ?_
 refine rp 6 rfl (op_assign rfl oC) ?_
 refine rp 7 rfl (op_assign rfl oC) ?_
 refine rn ?_
 refine nK ?_
 refine s_reg rfl ?_
 refine rl 14 rfl (op_loadw_flat rfl (oT rfl) tH rfl) ?_
 refine rm 15 rfl rfl rfl ?_
 refine rm 16 rfl rfl rfl ?_
 refine rp 17 rfl (op_call_pure (fun _ => hl) rfl (Opd.func _) (oS (oT rfl) (oS (oT rfl) (oS (oT rfl) Opds.nil)))) ?_
 refine rm 13 rfl rfl rfl ?_
 refine rp 18 rfl (op_extract_fz rfl (oT rfl) rfl) ?_
 refine rp 19 rfl (op_extract_fz rfl (oT rfl) rfl) ?_
 refine rp 20 rfl (op_extract_fz rfl (oT rfl) rfl) ?_
 refine ra 8 rfl rfl rfl ?_
 refine ra 9 rfl rfl rfl ?_
 refine ra 10 rfl rfl rfl ?_
 refine rn ?_
 refine nK ?_
 refine s_reg rfl ?_
 refine rp 11 rfl (op_assign rfl oC) ?_
 refine rn ?_
 refine nK ?_
 refine Next.adopt 11 1 rfl ?_
 refine Next.weak [1] [] (by rfl) (keepsN hC _ rfl) (G' := [(1, IV .i64 s), (2, IV .i64 e), (8, .fz (VLL (tabL g D))), (9, IV .i64 c), (10, IV .i64 0), (11, .sl 0 1 0 0)]) (H' := [(0, OI [])]) (by repeat (first | exact trivial | refine ⟨⟨_, rfl, .inl ⟨rfl, rfl⟩⟩, ?_⟩ | refine ⟨⟨_, rfl, .inl ⟨slEq rfl tN, rfl⟩⟩, ?_⟩ | refine ⟨⟨_, rfl, .inl ⟨ivEq tX, rfl⟩⟩, ?_⟩)) (by exact ⟨ent_same rfl rfl rfl tL, trivial⟩) (fun _ h => by simp at h) ?_
 refine nK ?_
 refine s_reg rfl ?_
 refine rm 21 rfl rfl rfl ?_
 refine rp 22 rfl (op_len_fz rfl (by first | exact Opd.tmp _ _ rfl | exact Opd.nil _ _ (oT rfl)) (by first | exact List.length_map _ | rfl)) ?_
 refine rp 23 rfl (op_move rfl oC) ?_
 refine rn ?_
 refine nK ?_
 refine n_loop (ι := Nat) (fun y => ([(1, IV .i64 s), (2, IV .i64 e), (8, .fz (VLL (tabL g D))), (9, IV .i64 c), (10, IV .i64 0), (11, .sl 0 1 0 (fil (psB (tabL g D) s e c) y).length), (22, IV .i64 g.m), (23, IV .i64 y)], [(0, OI (fil (psB (tabL g D) s e c) y))], 1)) (fun y => y ≤ g.m) (fun y => g.m - y) 0 (Nat.zero_le _) ?_ ?_
 ·refine Next.weak [0] [] (by rfl) (keepsN hC _ rfl) (by repeat (first | exact trivial | refine ⟨⟨_, rfl, .inl ⟨rfl, rfl⟩⟩, ?_⟩ | refine ⟨⟨_, rfl, .inl ⟨ivEq (by rw [htl]), rfl⟩⟩, ?_⟩)) (by exact ⟨ent_same rfl rfl rfl tL, trivial⟩) (fun _ h => by simp at h) rel_intro
 ·intro y hy K hK
  try dsimp only at hy hK ⊢
  have hfl := fil_len (psB (tabL g D) s e c) y
  refine nK ?_
  refine s_reg rfl ?_
  refine rp 24 rfl (op_lss rfl (oT rfl) (oT rfl)) ?_
  refine rn ?_
  refine nK ?_
  refine n_cond _ rfl (fun hb => ?_) (fun hb => ?_)
  ·have hlt : y < g.m := by have := of_decide_eq_true hb; omega
   have hK1 := hK (y + 1) (by omega) (by omega)
   rw [fil_succ] at hK1
   have hPB : psB (tabL g D) s e c y = (decide (0 ≤ D s y) && (decide (D e y < 0) || decide (D s y < c + D e y))) := by
    unfold psB
    rw [htg s y hsm hlt, htg e y hem hlt]
   have hry := htr y hlt
   have hsy := row_row g.m (D s) hlt
   have hey := row_row g.m (D e) hlt
   have hys := row_row g.m (D y) hsm
   have hye := row_row g.m (D y) hem
   have hb1 := hdb s y hsm hlt
   have hb2 := hdb e y hem hlt
   have hb3 := hdb y s hlt hsm
   have hb4 := hdb y e hlt hem
   clear hK hb
   generalize psB (tabL g D) s e c y = pb at *
   generalize fil (psB (tabL g D) s e c) y = F at *
   refine nK ?_
   refine s_reg rfl ?_
   refine rm 25 rfl rfl rfl ?_
   refine ra 12 rfl rfl rfl ?_
   refine rn ?_
   refine nK ?_
   refine s_draw mixed ?_
   refine rm 26 rfl rfl rfl ?_
   refine rm 27 rfl rfl rfl ?_
   refine rp 28 rfl (op_idx_fz s rfl (oT rfl) (oT rfl) (by intro _; exact ⟨rfl, hrs⟩)) ?_
   refine rp 29 rfl (op_load1_fz rfl (oT rfl) rfl) ?_
   refine rm 30 rfl rfl rfl ?_
   refine rp 31 rfl (op_idx_fz y rfl (oT rfl) (oT rfl) (by intro _; exact ⟨rfl, hsy⟩)) ?_
   refine rp 32 rfl (op_load1_fz rfl (oT rfl) rfl) ?_
   refine rp 33 rfl (op_geq rfl (oT rfl) oC) ?_
   refine rm 34 rfl rfl rfl ?_
   refine gm 35 rfl rfl tG rfl rfl ?_
   refine gm 36 rfl rfl tG rfl rfl ?_
   refine rg 37 rfl rfl tG (op_idx_fz e rfl (oO rfl tO) (oO rfl tO) (by intro _; exact ⟨rfl, hre⟩)) ?_
   refine rg 38 rfl rfl tG (op_load1_fz rfl (oO rfl tO) rfl) ?_
   refine gm 39 rfl rfl tG rfl rfl ?_
   refine rg 40 rfl rfl tG (op_idx_fz y rfl (oO rfl tO) (oO rfl tO) (by intro _; exact ⟨rfl, hey⟩)) ?_
   refine rg 41 rfl rfl tG (op_load1_fz rfl (oO rfl tO) rfl) ?_
   refine rg 42 rfl rfl tG (op_lss rfl (oO rfl tO) oC) ?_
   refine rg 43 rfl rfl tG (op_move rfl (oO rfl tO)) ?_
   refine gm 44 rfl rfl tG rfl rfl ?_
   refine gm 45 rfl rfl tG rfl rfl ?_
   refine rg 46 rfl rfl tG (op_idx_fz s rfl (oO rfl tO) (oO rfl tO) (by intro _; exact ⟨rfl, hrs⟩)) ?_
   refine rg 47 rfl rfl tG (op_load1_fz rfl (oO rfl tO) rfl) ?_
   refine gm 48 rfl rfl tG rfl rfl ?_
   refine rg 49 rfl rfl tG (op_idx_fz y rfl (oO rfl tO) (oO rfl tO) (by intro _; exact ⟨rfl, hsy⟩)) ?_
   refine rg 50 rfl rfl tG (op_load1_fz rfl (oO rfl tO) rfl) ?_
   refine gm 51 rfl rfl tG rfl rfl ?_
   refine gm 52 rfl rfl tG rfl rfl ?_
   refine gm 53 rfl rfl tG rfl rfl ?_
   refine rg 54 rfl rfl tG (op_idx_fz e rfl (oO rfl tO) (oO rfl tO) (by intro _; exact ⟨rfl, hre⟩)) ?_
   refine rg 55 rfl rfl tG (op_load1_fz rfl (oO rfl tO) rfl) ?_
   refine gm 56 rfl rfl tG rfl rfl ?_
   refine rg 57 rfl rfl tG (op_idx_fz y rfl (oO rfl tO) (oO rfl tO) (by intro _; exact ⟨rfl, hey⟩)) ?_
   refine rg 58 rfl rfl tG (op_load1_fz rfl (oO rfl tO) rfl) ?_
   refine rg 59 rfl rfl tG (op_add rfl (oO rfl tO) (oO rfl tO) tI) ?_
   refine rg 60 rfl rfl tG (op_lss rfl (oO rfl tO) (oO rfl tO)) ?_
   refine rg 61 rfl rfl tG (op_pick_or rfl (oO rfl tO) (oO rfl tO)) ?_
   refine rp 62 rfl (op_pick_and rfl (oT rfl) (oO rfl tO)) ?_
   refine Run.nil (FinD.mk (by kernel_rfl) ?_)
   refine nK ?_
   refine n_cond _ rfl (fun hb => ?_) (fun hb => ?_)
   ·rw [hPB.trans hb, if_pos rfl] at hK1
    refine nK ?_
    refine s_reg rfl ?_
    refine rm 63 rfl rfl rfl ?_
    refine rm 64 rfl rfl rfl ?_
    refine rp 65 rfl (op_buildSlice_fz rfl (RowsF.cons _ _ _ _ _ _ (oT rfl) tC (by rfl) (RowsF.nil _)) rfl rfl) ?_
    refine Run.eff (dd := some 66) rfl rfl (op_append rfl (oT rfl) (by first | exact Opd.tmp _ _ rfl | exact Opd.nil _ _ (oT rfl)) rfl (by first | rfl | simp) rfl rfl tB tB) ?_
    refine ra 11 rfl rfl rfl ?_
    refine rn ?_
    refine nK ?_
    refine s_reg rfl ?_
    refine rp 67 rfl (op_add rfl (oT rfl) oC tI) ?_
    refine rm 23 rfl rfl rfl ?_
    refine rn ?_
    refine nK ?_
    refine Next.weak [1] [] (by rfl) (keepsN hC _ rfl) (by repeat (first | exact trivial | refine ⟨⟨_, rfl, .inl ⟨rfl, rfl⟩⟩, ?_⟩ | refine ⟨⟨_, rfl, .inl ⟨slEq rfl tN, rfl⟩⟩, ?_⟩ | refine ⟨⟨_, rfl, .inl ⟨ivEq tX, rfl⟩⟩, ?_⟩)) (by exact ⟨ent_same rfl rfl (flEq rfl (by rw [List.map_append]; rfl)) trivial, trivial⟩) (fun _ h => by simp at h) hK1
   ·rw [hPB.trans hb, if_neg (by simp), List.append_nil] at hK1
    refine nK ?_
    refine s_reg rfl ?_
    refine rp 67 rfl (op_add rfl (oT rfl) oC tI) ?_
    refine rm 23 rfl rfl rfl ?_
    refine rn ?_
    refine nK ?_
    refine Next.weak [0] [] (by rfl) (keepsN hC _ rfl) (by repeat (first | exact trivial | refine ⟨⟨_, rfl, .inl ⟨rfl, rfl⟩⟩, ?_⟩ | refine ⟨⟨_, rfl, .inl ⟨slEq rfl tN, rfl⟩⟩, ?_⟩ | refine ⟨⟨_, rfl, .inl ⟨ivEq tX, rfl⟩⟩, ?_⟩)) (by exact ⟨ent_same rfl rfl rfl tL, trivial⟩) (fun _ h => by simp at h) hK1
  ·have hye : y = g.m := by have := of_decide_eq_false hb; omega
   rw [hye]
   refine nK ?_
   refine s_reg rfl ?_
   refine rm 68 rfl rfl rfl ?_
   refine rm 69 rfl rfl rfl ?_
   refine ra 6 rfl rfl rfl ?_
   refine ra 7 rfl rfl rfl ?_
   refine rn ?_
   refine nK ?_
   refine Next.weakS [] [6] (by rfl) (keeps0 hC _) (G' := [(6, .fz (VI (fil (psB (tabL g D) s e c) g.m))), (7, IV .i64 0)]) (H' := []) ⟨⟨_, rfl, .inr ⟨_, rfl, .sl _ _ _ _ _ _ rfl rfl (take_all0 (List.length_map _)) (List.length_map _)⟩⟩, ⟨_, rfl, .inl ⟨rfl, rfl⟩⟩, trivial⟩ trivial rfl ?_
   (first | exact s_o1 hC rfl tV | exact s_o2 hC rfl tV tV | exact s_o3 hC rfl tV tV tV | exact s_out0 hC rfl | exact s_outO hC rfl rfl rfl)
theorem lqs_c (g : Gr) (s e : Nat) (hok : okG g) (h : linkI g s e = 0) : Pure Try.prog 28 [.agg (encG g), If .i64 s, If .i64 e] (.tup [VI (fil (qsB (tabL g (disF g.es g.m)) s e (costL s e g.es).1) g.m), If .i64 0]) := by
 have hl := llink_c g s e hok h
 obtain ⟨hp, h1, h2, h3, h4, h5⟩ := linkI_ok h
 obtain ⟨hg, hN⟩ := plainI_ok hp
 have d := dst_of hg
 have hm := plain_m hN
 have h128 := d.vg.n128
 have hcb := cost_bnd d.vg (s : Int) (e : Int)
 have hdb := fun i k (hi : i < g.m) (hk : k < g.m) => d.bnd hi hk
 have htr := fun x (hx : x < g.m) => tab_rows (D := disF g.es g.m) hN hx
 have htg := fun x y (hx : x < g.m) (hy : y < g.m) => tab_get (D := disF g.es g.m) hN hx hy
 have htl := tab_len g (disF g.es g.m)
 rw [← hm] at htl
 generalize disF g.es g.m = D at *
 generalize (costL s e g.es).1 = c at *
 have hsm : s < g.m := by omega
 have hem : e < g.m := by omega
 have hrs := htr s hsm
 have hre := htr e hem
 refine Meets.intro Try.func28 rfl (Nat.le_of_ble_eq_true rfl) fun C hC => ?_
 simp only [List.map, argEnv, Nat.reduceAdd]
 refine nK ?_
 refine s_reg rfl ?_
 refine Run.eff (dd := some 3) rfl rfl (op_box_flat rfl (oT rfl) tC rfl) ?_
 refine rp 6 rfl (op_assign rfl oC) ?_
 refine rp 7 rfl (op_assign rfl oC) ?_
 refine rn ?_
 refine nK ?_
 refine s_reg rfl ?_
 refine rl 14 rfl (op_loadw_flat rfl (oT rfl) tH rfl) ?_
 refine rm 15 rfl rfl rfl ?_
 refine rm 16 rfl rfl rfl ?_
 refine rp 17 rfl (op_call_pure (fun _ => hl) rfl (Opd.func _) (oS (oT rfl) (oS (oT rfl) (oS (oT rfl) Opds.nil)))) ?_
 refine rm 13 rfl rfl rfl ?_
 refine rp 18 rfl (op_extract_fz rfl (oT rfl) rfl) ?_
 refine rp 19 rfl (op_extract_fz rfl (oT rfl) rfl) ?_
 refine rp 20 rfl (op_extract_fz rfl (oT rfl) rfl) ?_
 refine ra 8 rfl rfl rfl ?_
 refine ra 9 rfl rfl rfl ?_
 refine ra 10 rfl rfl rfl ?_
 refine rn ?_
 refine nK ?_
 refine s_reg rfl ?_
 refine rp 11 rfl (op_assign rfl oC) ?_
 refine rn ?_
 refine nK ?_
 refine Next.adopt 11 1 rfl ?_
 refine Next.weak [1] [] (by rfl) (keepsN hC _ rfl) (G' := [(1, IV .i64 s), (2, IV .i64 e), (8, .fz (VLL (tabL g D))), (9, IV .i64 c), (10, IV .i64 0), (11, .sl 0 1 0 0)]) (H' := [(0, OI [])]) (by repeat (first | exact trivial | refine ⟨⟨_, rfl, .inl ⟨rfl, rfl⟩⟩, ?_⟩ | refine ⟨⟨_, rfl, .inl ⟨slEq rfl tN, rfl⟩⟩, ?_⟩ | refine ⟨⟨_, rfl, .inl ⟨ivEq tX, rfl⟩⟩, ?_⟩)) (by exact ⟨ent_same rfl rfl rfl tL, trivial⟩) (fun _ h => by simp at h) ?_
 refine nK ?_
 refine s_reg rfl ?_
 refine rm 21 rfl rfl rfl ?_
 refine rp 22 rfl (op_len_fz rfl (by first | exact Opd.tmp _ _ rfl | exact Opd.nil _ _ (oT rfl)) (by first | exact List.length_map _ | rfl)) ?_
 refine rp 23 rfl (op_move rfl oC) ?_
 refine rn ?_
 refine nK ?_
 refine n_loop (ι := Nat) (fun y => ([(1, IV .i64 s), (2, IV .i64 e), (8, .fz (VLL (tabL g D))), (9, IV .i64 c), (10, IV .i64 0), (11, .sl 0 1 0 (fil (qsB (tabL g D) s e c) y).length), (22, IV .i64 g.m), (23, IV .i64 y)], [(0, OI (fil (qsB (tabL g D) s e c) y))], 1)) (fun y => y ≤ g.m) (fun y => g.m - y) 0 (Nat.zero_le _) ?_ ?_
 ·refine Next.weak [0] [] (by rfl) (keepsN hC _ rfl) (by repeat (first | exact trivial | refine ⟨⟨_, rfl, .inl ⟨rfl, rfl⟩⟩, ?_⟩ | refine ⟨⟨_, rfl, .inl ⟨ivEq (by rw [htl]), rfl⟩⟩, ?_⟩)) (by exact ⟨ent_same rfl rfl rfl tL, trivial⟩) (fun _ h => by simp at h) rel_intro
 ·intro y hy K hK
  try dsimp only at hy hK ⊢
  have hfl := fil_len (qsB (tabL g D) s e c) y
  refine nK ?_
  refine s_reg rfl ?_
  refine rp 24 rfl (op_lss rfl (oT rfl) (oT rfl)) ?_
  refine rn ?_
  refine nK ?_
  refine n_cond _ rfl (fun hb => ?_) (fun hb => ?_)
  ·have hlt : y < g.m := by have := of_decide_eq_true hb; omega
   have hK1 := hK (y + 1) (by omega) (by omega)
   rw [fil_succ] at hK1
   have hPB : qsB (tabL g D) s e c y = (decide (0 ≤ D y e) && (decide (D y s < 0) || decide (D y e < D y s + c))) := by
    unfold qsB
    rw [htg y e hlt hem, htg y s hlt hsm]
   have hry := htr y hlt
   have hsy := row_row g.m (D s) hlt
   have hey := row_row g.m (D e) hlt
   have hys := row_row g.m (D y) hsm
   have hye := row_row g.m (D y) hem
   have hb1 := hdb s y hsm hlt
   have hb2 := hdb e y hem hlt
   have hb3 := hdb y s hlt hsm
   have hb4 := hdb y e hlt hem
   clear hK hb
   generalize qsB (tabL g D) s e c y = pb at *
   generalize fil (qsB (tabL g D) s e c) y = F at *
   refine nK ?_
   refine s_reg rfl ?_
   refine rm 25 rfl rfl rfl ?_
   refine ra 12 rfl rfl rfl ?_
   refine rn ?_
   refine nK ?_
   refine s_draw mixed ?_
   refine rm 26 rfl rfl rfl ?_
   refine rm 27 rfl rfl rfl ?_
   refine rp 28 rfl (op_idx_fz y rfl (oT rfl) (oT rfl) (by intro _; exact ⟨rfl, hry⟩)) ?_
   refine rp 29 rfl (op_load1_fz rfl (oT rfl) rfl) ?_
   refine rm 30 rfl rfl rfl ?_
   refine rp 31 rfl (op_idx_fz e rfl (oT rfl) (oT rfl) (by intro _; exact ⟨rfl, hye⟩)) ?_
   refine rp 32 rfl (op_load1_fz rfl (oT rfl) rfl) ?_
   refine rp 33 rfl (op_geq rfl (oT rfl) oC) ?_
   refine rm 34 rfl rfl rfl ?_
   refine gm 35 rfl rfl tG rfl rfl ?_
   refine gm 36 rfl rfl tG rfl rfl ?_
   refine rg 37 rfl rfl tG (op_idx_fz y rfl (oO rfl tO) (oO rfl tO) (by intro _; exact ⟨rfl, hry⟩)) ?_
   refine rg 38 rfl rfl tG (op_load1_fz rfl (oO rfl tO) rfl) ?_
   refine gm 39 rfl rfl tG rfl rfl ?_
   refine rg 40 rfl rfl tG (op_idx_fz s rfl (oO rfl tO) (oO rfl tO) (by intro _; exact ⟨rfl, hys⟩)) ?_
   refine rg 41 rfl rfl tG (op_load1_fz rfl (oO rfl tO) rfl) ?_
   refine rg 42 rfl rfl tG (op_lss rfl (oO rfl tO) oC) ?_
   refine rg 43 rfl rfl tG (op_move rfl (oO rfl tO)) ?_
   refine gm 44 rfl rfl tG rfl rfl ?_
   refine gm 45 rfl rfl tG rfl rfl ?_
   refine rg 46 rfl rfl tG (op_idx_fz y rfl (oO rfl tO) (oO rfl tO) (by intro _; exact ⟨rfl, hry⟩)) ?_
   refine rg 47 rfl rfl tG (op_load1_fz rfl (oO rfl tO) rfl) ?_
   refine gm 48 rfl rfl tG rfl rfl ?_
   refine rg 49 rfl rfl tG (op_idx_fz e rfl (oO rfl tO) (oO rfl tO) (by intro _; exact ⟨rfl, hye⟩)) ?_
   refine rg 50 rfl rfl tG (op_load1_fz rfl (oO rfl tO) rfl) ?_
   refine gm 51 rfl rfl tG rfl rfl ?_
   refine gm 52 rfl rfl tG rfl rfl ?_
   refine rg 53 rfl rfl tG (op_idx_fz y rfl (oO rfl tO) (oO rfl tO) (by intro _; exact ⟨rfl, hry⟩)) ?_
   refine rg 54 rfl rfl tG (op_load1_fz rfl (oO rfl tO) rfl) ?_
   refine gm 55 rfl rfl tG rfl rfl ?_
   refine rg 56 rfl rfl tG (op_idx_fz s rfl (oO rfl tO) (oO rfl tO) (by intro _; exact ⟨rfl, hys⟩)) ?_
   refine rg 57 rfl rfl tG (op_load1_fz rfl (oO rfl tO) rfl) ?_
   refine gm 58 rfl rfl tG rfl rfl ?_
   refine rg 59 rfl rfl tG (op_add rfl (oO rfl tO) (oO rfl tO) tI) ?_
   refine rg 60 rfl rfl tG (op_lss rfl (oO rfl tO) (oO rfl tO)) ?_
   refine rg 61 rfl rfl tG (op_pick_or rfl (oO rfl tO) (oO rfl tO)) ?_
   refine rp 62 rfl (op_pick_and rfl (oT rfl) (oO rfl tO)) ?_
   refine Run.nil (FinD.mk (by kernel_rfl) ?_)
   refine nK ?_
   refine n_cond _ rfl (fun hb => ?_) (fun hb => ?_)
   ·rw [hPB.trans hb, if_pos rfl] at hK1
    refine nK ?_
    refine s_reg rfl ?_
    refine rm 63 rfl rfl rfl ?_
    refine rm 64 rfl rfl rfl ?_
    refine rp 65 rfl (op_buildSlice_fz rfl (RowsF.cons _ _ _ _ _ _ (oT rfl) tC (by rfl) (RowsF.nil _)) rfl rfl) ?_
    refine Run.eff (dd := some 66) rfl rfl (op_append rfl (oT rfl) (by first | exact Opd.tmp _ _ rfl | exact Opd.nil _ _ (oT rfl)) rfl (by first | rfl | simp) rfl rfl tB tB) ?_
    refine ra 11 rfl rfl rfl ?_
    refine rn ?_
    refine nK ?_
    refine s_reg rfl ?_
    refine rp 67 rfl (op_add rfl (oT rfl) oC tI) ?_
    refine rm 23 rfl rfl rfl ?_
    refine rn ?_
    refine nK ?_
    refine Next.weak [1] [] (by rfl) (keepsN hC _ rfl) (by repeat (first | exact trivial | refine ⟨⟨_, rfl, .inl ⟨rfl, rfl⟩⟩, ?_⟩ | refine ⟨⟨_, rfl, .inl ⟨slEq rfl tN, rfl⟩⟩, ?_⟩ | refine ⟨⟨_, rfl, .inl ⟨ivEq tX, rfl⟩⟩, ?_⟩)) (by exact ⟨ent_same rfl rfl (flEq rfl (by rw [List.map_append]; rfl)) trivial, trivial⟩) (fun _ h => by simp at h) hK1
   ·rw [hPB.trans hb, if_neg (by simp), List.append_nil] at hK1
    refine nK ?_
    refine s_reg rfl ?_
    refine rp 67 rfl (op_add rfl (oT rfl) oC tI) ?_
    refine rm 23 rfl rfl rfl ?_
    refine rn ?_
    refine nK ?_
    refine Next.weak [0] [] (by rfl) (keepsN hC _ rfl) (by repeat (first | exact trivial | refine ⟨⟨_, rfl, .inl ⟨rfl, rfl⟩⟩, ?_⟩ | refine ⟨⟨_, rfl, .inl ⟨slEq rfl tN, rfl⟩⟩, ?_⟩ | refine ⟨⟨_, rfl, .inl ⟨ivEq tX, rfl⟩⟩, ?_⟩)) (by exact ⟨ent_same rfl rfl rfl tL, trivial⟩) (fun _ h => by simp at h) hK1
  ·have hye : y = g.m := by have := of_decide_eq_false hb; omega
   rw [hye]
   refine nK ?_
   refine s_reg rfl ?_
   refine rm 68 rfl rfl rfl ?_
   refine rm 69 rfl rfl rfl ?_
   refine ra 6 rfl rfl rfl ?_
   refine ra 7 rfl rfl rfl ?_
   refine rn ?_
   refine nK ?_
   refine Next.weakS [] [6] (by rfl) (keeps0 hC _) (G' := [(6, .fz (VI (fil (qsB (tabL g D) s e c) g.m))), (7, IV .i64 0)]) (H' := []) ⟨⟨_, rfl, .inr ⟨_, rfl, .sl _ _ _ _ _ _ rfl rfl (take_all0 (List.length_map _)) (List.length_map _)⟩⟩, ⟨_, rfl, .inl ⟨rfl, rfl⟩⟩, trivial⟩ trivial rfl ?_
   (first | exact s_o1 hC rfl tV | exact s_o2 hC rfl tV tV | exact s_o3 hC rfl tV tV tV | exact s_out0 hC rfl | exact s_outO hC rfl rfl rfl)
end Go.Proofs.Ytnkhlbljnmodbaa
namespace Go.Proofs.Ytnkhlbljnmodbaa
open Go Go.RT Go.Proofs Go.Pl
set_option linter.all false
set_option maxRecDepth 20000
set_option maxHeartbeats 4000000
theorem ints3_c (a b : List Int) (ha : a.length ≤ 1000000000) (hb0 : b.length ≤ 1000000000) : Pure Try.prog 22 [VI a, VI b] (Bf (decide (a = b))) := by
 refine Meets.intro Try.func22 rfl (Nat.le_of_ble_eq_true rfl) fun C hC => ?_
 simp only [List.map, argEnv, Nat.reduceAdd]
 refine nK ?_
 refine s_reg rfl ?_
 refine rp 4 rfl (op_assign rfl oC) ?_
 refine rn ?_
 refine nK ?_
 refine s_reg rfl ?_
 refine rm 7 rfl rfl rfl ?_
 refine rp 8 rfl (op_len_fz rfl (by first | exact Opd.tmp _ _ rfl | exact Opd.nil _ _ (oT rfl)) (by first | exact List.length_map _ | rfl)) ?_
 refine rm 9 rfl rfl rfl ?_
 refine rp 10 rfl (op_len_fz rfl (by first | exact Opd.tmp _ _ rfl | exact Opd.nil _ _ (oT rfl)) (by first | exact List.length_map _ | rfl)) ?_
 refine rp 11 rfl (op_neq rfl (oT rfl) (oT rfl)) ?_
 refine rn ?_
 refine nK ?_
 refine n_cond _ rfl (fun hb => ?_) (fun hb => ?_)
 ·have e : decide (a = b) = false := by
   rw [decide_eq_false_iff_not]; rintro rfl; simp at hb
  rw [e]
  refine nK ?_
  refine s_reg rfl ?_
  refine rp 4 rfl (op_assign rfl oC) ?_
  refine rn ?_
  refine nK ?_
  (first | exact s_o1 hC rfl tV | exact s_o2 hC rfl tV tV | exact s_o3 hC rfl tV tV tV | exact s_out0 hC rfl | exact s_outO hC rfl rfl rfl)
 ·have hl : a.length = b.length := by simp at hb; omega
  refine nK ?_
  refine s_reg rfl ?_
  refine rm 12 rfl rfl rfl ?_
  refine rp 13 rfl (op_len_fz rfl (by first | exact Opd.tmp _ _ rfl | exact Opd.nil _ _ (oT rfl)) (by first | exact List.length_map _ | rfl)) ?_
  refine rp 14 rfl (op_move rfl oC) ?_
  refine rn ?_
  refine nK ?_
  refine n_loop (ι := Nat) (fun i => ([(1, .fz (VI b)), (12, .fz (VI a)), (13, IV .i64 a.length), (14, IV .i64 i)], [], 0)) (fun i => i ≤ a.length ∧ (a = b ↔ a.drop i = b.drop i)) (fun i => a.length - i) 0 ⟨Nat.zero_le _, Iff.rfl⟩ ?_ ?_
  ·refine Next.weak [] [] (by rfl) (keeps0 hC _) (by repeat (first | exact trivial | refine ⟨⟨_, rfl, .inl ⟨rfl, rfl⟩⟩, ?_⟩)) (by repeat (first | exact trivial | refine ⟨ent_same rfl rfl rfl tL, ?_⟩ | refine ⟨ent_same rfl rfl (rfEq rfl tU) tL, ?_⟩ | refine ⟨ent_same rfl rfl (flEq rfl (by first | (simp; done) | (simp; omega) | (simp [encE, encN, encB, encT, encL, encTr, encAl]; done) | simp [maxC, minC])) trivial, ?_⟩)) (fun _ h => by simp at h) rel_intro
  ·intro i ⟨hi, ho⟩ K hK
   refine nK ?_
   refine s_reg rfl ?_
   refine rp 15 rfl (op_lss rfl (oT rfl) (oT rfl)) ?_
   refine rn ?_
   refine nK ?_
   refine n_cond _ rfl (fun hb => ?_) (fun hb => ?_)
   ·have hlt : i < a.length := by simp at hb; omega
    have hlt2 : i < b.length := by omega
    rw [same_step hlt hlt2] at ho
    have hr1 := row_at' encN a i hlt
    have hr2 := row_at' encN b i hlt2
    have hK1 := fun h => hK (i + 1) ⟨by omega, h⟩ (by omega)
    generalize a[i] = x at *
    generalize b[i] = y at *
    refine nK ?_
    refine s_reg rfl ?_
    refine rm 16 rfl rfl rfl ?_
    refine rp 17 rfl (op_idx_fz _ rfl (oT rfl) (oT rfl) tF) ?_
    refine rp 18 rfl (op_load1_fz rfl (oT rfl) rfl) ?_
    refine ra 5 rfl rfl rfl ?_
    refine ra 6 rfl rfl rfl ?_
    refine rn ?_
    refine nK ?_
    refine s_reg rfl ?_
    refine rm 19 rfl rfl rfl ?_
    refine rm 20 rfl rfl rfl ?_
    refine rm 21 rfl rfl rfl ?_
    refine rp 22 rfl (op_idx_fz _ rfl (oT rfl) (oT rfl) tF) ?_
    refine rp 23 rfl (op_load1_fz rfl (oT rfl) rfl) ?_
    refine rp 24 rfl (op_neq rfl (oT rfl) (oT rfl)) ?_
    refine rn ?_
    refine nK ?_
    refine n_cond _ rfl (fun hb => ?_) (fun hb => ?_)
    ·have e : decide (a = b) = false := by
      rw [decide_eq_false_iff_not, ho]
      rintro ⟨rfl, _⟩
      simp at hb
     rw [e]
     refine nK ?_
     refine s_reg rfl ?_
     refine rp 4 rfl (op_assign rfl oC) ?_
     refine rn ?_
     refine nK ?_
     (first | exact s_o1 hC rfl tV | exact s_o2 hC rfl tV tV | exact s_o3 hC rfl tV tV tV | exact s_out0 hC rfl | exact s_outO hC rfl rfl rfl)
    ·have e : x = y := by simpa using hb
     refine nK ?_
     refine s_reg rfl ?_
     refine rp 25 rfl (op_add rfl (oT rfl) oC tI) ?_
     refine rm 14 rfl rfl rfl ?_
     refine rn ?_
     refine nK ?_
     refine Next.weak [] [] (by rfl) (keeps0 hC _) (by repeat (first | exact trivial | refine ⟨⟨_, rfl, .inl ⟨rfl, rfl⟩⟩, ?_⟩)) (by repeat (first | exact trivial | refine ⟨ent_same rfl rfl rfl tL, ?_⟩ | refine ⟨ent_same rfl rfl (rfEq rfl tU) tL, ?_⟩ | refine ⟨ent_same rfl rfl (flEq rfl (by first | (simp; done) | (simp; omega) | (simp [encE, encN, encB, encT, encL, encTr, encAl]; done) | simp [maxC, minC])) trivial, ?_⟩)) (fun _ h => by simp at h) (hK1 (by rw [ho]; exact ⟨fun h => h.2, fun h => ⟨e, h⟩⟩))
   ·have hie : i = a.length := by simp at hb; omega
    have e : decide (a = b) = true := by
     rw [decide_eq_true_iff, ho, hie, List.drop_length, hl, List.drop_length]
    rw [e]
    refine nK ?_
    refine s_reg rfl ?_
    refine rp 4 rfl (op_assign rfl oC) ?_
    refine rn ?_
    refine nK ?_
    (first | exact s_o1 hC rfl tV | exact s_o2 hC rfl tV tV | exact s_o3 hC rfl tV tV tV | exact s_out0 hC rfl | exact s_outO hC rfl rfl rfl)
theorem alts3_c (a b : List Alt) (ha : a.length ≤ 1000000000) (hb0 : b.length ≤ 1000000000) : Pure Try.prog 21 [VAl a, VAl b] (Bf (decide (a = b))) := by
 refine Meets.intro Try.func21 rfl (Nat.le_of_ble_eq_true rfl) fun C hC => ?_
 simp only [List.map, argEnv, Nat.reduceAdd]
 refine nK ?_
 refine s_reg rfl ?_
 refine rp 4 rfl (op_assign rfl oC) ?_
 refine rn ?_
 refine nK ?_
 refine s_reg rfl ?_
 refine rm 7 rfl rfl rfl ?_
 refine rp 8 rfl (op_len_fz rfl (by first | exact Opd.tmp _ _ rfl | exact Opd.nil _ _ (oT rfl)) (by first | exact List.length_map _ | rfl)) ?_
 refine rm 9 rfl rfl rfl ?_
 refine rp 10 rfl (op_len_fz rfl (by first | exact Opd.tmp _ _ rfl | exact Opd.nil _ _ (oT rfl)) (by first | exact List.length_map _ | rfl)) ?_
 refine rp 11 rfl (op_neq rfl (oT rfl) (oT rfl)) ?_
 refine rn ?_
 refine nK ?_
 refine n_cond _ rfl (fun hb => ?_) (fun hb => ?_)
 ·have e : decide (a = b) = false := by
   rw [decide_eq_false_iff_not]; rintro rfl; simp at hb
  rw [e]
  refine nK ?_
  refine s_reg rfl ?_
  refine rp 4 rfl (op_assign rfl oC) ?_
  refine rn ?_
  refine nK ?_
  (first | exact s_o1 hC rfl tV | exact s_o2 hC rfl tV tV | exact s_o3 hC rfl tV tV tV | exact s_out0 hC rfl | exact s_outO hC rfl rfl rfl)
 ·have hl : a.length = b.length := by simp at hb; omega
  refine nK ?_
  refine s_reg rfl ?_
  refine rm 12 rfl rfl rfl ?_
  refine rp 13 rfl (op_len_fz rfl (by first | exact Opd.tmp _ _ rfl | exact Opd.nil _ _ (oT rfl)) (by first | exact List.length_map _ | rfl)) ?_
  refine rp 14 rfl (op_move rfl oC) ?_
  refine rn ?_
  refine nK ?_
  refine n_loop (ι := Nat) (fun i => ([(1, .fz (VAl b)), (12, .fz (VAl a)), (13, IV .i64 a.length), (14, IV .i64 i)], [], 0)) (fun i => i ≤ a.length ∧ (a = b ↔ a.drop i = b.drop i)) (fun i => a.length - i) 0 ⟨Nat.zero_le _, Iff.rfl⟩ ?_ ?_
  ·refine Next.weak [] [] (by rfl) (keeps0 hC _) (by repeat (first | exact trivial | refine ⟨⟨_, rfl, .inl ⟨rfl, rfl⟩⟩, ?_⟩)) (by repeat (first | exact trivial | refine ⟨ent_same rfl rfl rfl tL, ?_⟩ | refine ⟨ent_same rfl rfl (rfEq rfl tU) tL, ?_⟩ | refine ⟨ent_same rfl rfl (flEq rfl (by first | (simp; done) | (simp; omega) | (simp [encE, encN, encB, encT, encL, encTr, encAl]; done) | simp [maxC, minC])) trivial, ?_⟩)) (fun _ h => by simp at h) rel_intro
  ·intro i ⟨hi, ho⟩ K hK
   refine nK ?_
   refine s_reg rfl ?_
   refine rp 15 rfl (op_lss rfl (oT rfl) (oT rfl)) ?_
   refine rn ?_
   refine nK ?_
   refine n_cond _ rfl (fun hb => ?_) (fun hb => ?_)
   ·have hlt : i < a.length := by simp at hb; omega
    have hlt2 : i < b.length := by omega
    rw [same_step hlt hlt2] at ho
    have hr1 := row_at' encAl a i hlt
    have hr2 := row_at' encAl b i hlt2
    have hK1 := fun h => hK (i + 1) ⟨by omega, h⟩ (by omega)
    generalize a[i] = x at *
    generalize b[i] = y at *
    refine nK ?_
    refine s_reg rfl ?_
    refine rm 16 rfl rfl rfl ?_
    refine rp 17 rfl (op_idx_fz _ rfl (oT rfl) (oT rfl) tF) ?_
    refine rp 18 rfl (op_loadw_fz rfl (oT rfl) rfl) ?_
    refine Run.eff (dd := some 6) rfl rfl (op_alloc rfl rfl rfl rfl) ?_
    refine ra 5 rfl rfl rfl ?_
    refine Run.eff (dd := none) rfl rfl (op_store_flat rfl (oT rfl) (oT rfl) tC rfl rfl (by first | rfl | assumption) tS) ?_
    refine rn ?_
    refine nK ?_
    refine s_draw mixed ?_
    refine rl 19 rfl (op_loadw_flat rfl (oT rfl) tH rfl) ?_
    refine rm 20 rfl rfl rfl ?_
    refine rm 21 rfl rfl rfl ?_
    refine rp 22 rfl (op_idx_fz _ rfl (oT rfl) (oT rfl) tF) ?_
    refine rp 23 rfl (op_loadw_fz rfl (oT rfl) rfl) ?_
    refine rp 24 rfl (op_neS rfl (oT rfl) (oT rfl) (by kernel_rfl)) ?_
    refine Run.nil (FinD.mk (by kernel_rfl) ?_)
    refine nK ?_
    refine n_cond _ rfl (fun hb => ?_) (fun hb => ?_)
    ·have e : decide (a = b) = false := by
      rw [decide_eq_false_iff_not, ho]
      rintro ⟨rfl, _⟩
      simp [eqFs_encAl] at hb
     rw [e]
     refine nK ?_
     refine s_reg rfl ?_
     refine rp 4 rfl (op_assign rfl oC) ?_
     refine rn ?_
     refine nK ?_
     (first | exact s_o1 hC rfl tV | exact s_o2 hC rfl tV tV | exact s_o3 hC rfl tV tV tV | exact s_out0 hC rfl | exact s_outO hC rfl rfl rfl)
    ·have e : x = y := by simpa [eqFs_encAl] using hb
     refine nK ?_
     refine s_reg rfl ?_
     refine rp 25 rfl (op_add rfl (oT rfl) oC tI) ?_
     refine rm 14 rfl rfl rfl ?_
     refine rn ?_
     refine nK ?_
     refine Next.weak [] [] (by rfl) (keeps0 hC _) (by repeat (first | exact trivial | refine ⟨⟨_, rfl, .inl ⟨rfl, rfl⟩⟩, ?_⟩)) (by repeat (first | exact trivial | refine ⟨ent_same rfl rfl rfl tL, ?_⟩ | refine ⟨ent_same rfl rfl (rfEq rfl tU) tL, ?_⟩ | refine ⟨ent_same rfl rfl (flEq rfl (by first | (simp; done) | (simp; omega) | (simp [encE, encN, encB, encT, encL, encTr, encAl]; done) | simp [maxC, minC])) trivial, ?_⟩)) (fun _ h => by simp at h) (hK1 (by rw [ho]; exact ⟨fun h => h.2, fun h => ⟨e, h⟩⟩))
   ·have hie : i = a.length := by simp at hb; omega
    have e : decide (a = b) = true := by
     rw [decide_eq_true_iff, ho, hie, List.drop_length, hl, List.drop_length]
    rw [e]
    refine nK ?_
    refine s_reg rfl ?_
    refine rp 4 rfl (op_assign rfl oC) ?_
    refine rn ?_
    refine nK ?_
    (first | exact s_o1 hC rfl tV | exact s_o2 hC rfl tV tV | exact s_o3 hC rfl tV tV tV | exact s_out0 hC rfl | exact s_outO hC rfl rfl rfl)
def remG (g : Gr) (s e : Nat) : Int := remL (tabL g (disF g.es g.m)) s (fil (psB (tabL g (disF g.es g.m)) s e (costL s e g.es).1) g.m) (fil (qsB (tabL g (disF g.es g.m)) s e (costL s e g.es).1) g.m)
def remV (g : Gr) (s e : Nat) : Int := if remG g s e < 0 then 0 else remG g s e
theorem lrem_bad (g : Gr) (s e : Int) (hok : okG g) (h : linkI g s e ≠ 0) : Pure Try.prog 13 [.agg (encG g), If .i64 s, If .i64 e] (.tup [If .i64 0, Bf false, If .i64 (linkI g s e)]) := by
 have hl := llink_bad g s e hok h
 refine Meets.intro Try.func13 rfl (Nat.le_of_ble_eq_true rfl) fun C hC => ?_
 simp only [List.map, argEnv, Nat.reduceAdd]
 refine nK ?_
 refine s_reg rfl ?_
 refine Run.eff (dd := some 3) rfl rfl (op_box_flat rfl (oT rfl) tC rfl) ?_
 refine rp 6 rfl (op_assign rfl oC) ?_
 refine rp 7 rfl (op_assign rfl oC) ?_
 refine rp 8 rfl (op_assign rfl oC) ?_
 refine rn ?_
 refine nK ?_
 refine s_reg rfl ?_
 refine rl 20 rfl (op_loadw_flat rfl (oT rfl) tH rfl) ?_
 refine rm 21 rfl rfl rfl ?_
 refine rm 22 rfl rfl rfl ?_
 refine rp 23 rfl (op_call_pure (fun _ => hl) rfl (Opd.func _) (oS (oT rfl) (oS (oT rfl) (oS (oT rfl) Opds.nil)))) ?_
 refine rm 19 rfl rfl rfl ?_
 refine rp 24 rfl (op_extract_fz rfl (oT rfl) rfl) ?_
 refine rp 25 rfl (op_extract_fz rfl (oT rfl) rfl) ?_
 refine rp 26 rfl (op_extract_fz rfl (oT rfl) rfl) ?_
 refine ra 9 rfl rfl rfl ?_
 refine ra 10 rfl rfl rfl ?_
 refine ra 11 rfl rfl rfl ?_
 refine rn ?_
 refine nK ?_
 refine s_reg rfl ?_
 refine rm 27 rfl rfl rfl ?_
 refine rp 28 rfl (op_neq rfl (oT rfl) oC) ?_
 refine rn ?_
 refine nK ?_
 refine n_cond _ rfl (fun hb => ?_) (fun hb => ?_)
 ·refine nK ?_
  refine s_reg rfl ?_
  refine rm 29 rfl rfl rfl ?_
  refine rp 6 rfl (op_assign rfl oC) ?_
  refine rp 7 rfl (op_assign rfl oC) ?_
  refine ra 8 rfl rfl rfl ?_
  refine rn ?_
  refine nK ?_
  (first | exact s_o1 hC rfl tV | exact s_o2 hC rfl tV tV | exact s_o3 hC rfl tV tV tV | exact s_out0 hC rfl | exact s_outO hC rfl rfl rfl)
 ·exfalso; simp at hb; exact h hb
theorem lrem_c (g : Gr) (s e : Nat) (hok : okG g) (h : linkI g s e = 0) : Pure Try.prog 13 [.agg (encG g), If .i64 s, If .i64 e] (.tup [If .i64 (remV g s e), Bf (decide (0 ≤ remG g s e)), If .i64 0]) := by
 have hl := llink_c g s e hok h
 have hps := lps_c g s e hok h
 have hqs := lqs_c g s e hok h
 obtain ⟨hp, h1, h2, h3, h4, h5⟩ := linkI_ok h
 obtain ⟨hg, hN⟩ := plainI_ok hp
 have hm := plain_m hN
 have h128 := (dst_of hg).vg.n128
 have htr := fun x (hx : x < g.m) => tab_rows (D := disF g.es g.m) hN hx
 have htg := fun x y (hx : x < g.m) (hy : y < g.m) => tab_get (D := disF g.es g.m) hN hx hy
 have hpm : ∀ y ∈ fil (psB (tabL g (disF g.es g.m)) s e (costL s e g.es).1) g.m, ∃ w : Nat, y = w ∧ w < g.m := fun y hy => by
  obtain ⟨w, h1, h2, _⟩ := fil_mem.1 hy
  exact ⟨w, h1, h2⟩
 have hpl := fil_len (psB (tabL g (disF g.es g.m)) s e (costL s e g.es).1) g.m
 have hql := fil_len (qsB (tabL g (disF g.es g.m)) s e (costL s e g.es).1) g.m
 unfold remV remG
 unfold remL
 generalize fil (psB (tabL g (disF g.es g.m)) s e (costL s e g.es).1) g.m = p at *
 generalize fil (qsB (tabL g (disF g.es g.m)) s e (costL s e g.es).1) g.m = q at *
 generalize disF g.es g.m = D at *
 have hsm : s < g.m := by omega
 have hrs := htr s hsm
 refine Meets.intro Try.func13 rfl (Nat.le_of_ble_eq_true rfl) fun C hC => ?_
 simp only [List.map, argEnv, Nat.reduceAdd]
 refine nK ?_
 refine s_reg rfl ?_
 refine Run.eff (dd := some 3) rfl rfl (op_box_flat rfl (oT rfl) tC rfl) ?_
 refine rp 6 rfl (op_assign rfl oC) ?_
 refine rp 7 rfl (op_assign rfl oC) ?_
 refine rp 8 rfl (op_assign rfl oC) ?_
 refine rn ?_
 refine nK ?_
 refine s_reg rfl ?_
 refine rl 20 rfl (op_loadw_flat rfl (oT rfl) tH rfl) ?_
 refine rm 21 rfl rfl rfl ?_
 refine rm 22 rfl rfl rfl ?_
 refine rp 23 rfl (op_call_pure (fun _ => hl) rfl (Opd.func _) (oS (oT rfl) (oS (oT rfl) (oS (oT rfl) Opds.nil)))) ?_
 refine rm 19 rfl rfl rfl ?_
 refine rp 24 rfl (op_extract_fz rfl (oT rfl) rfl) ?_
 refine rp 25 rfl (op_extract_fz rfl (oT rfl) rfl) ?_
 refine rp 26 rfl (op_extract_fz rfl (oT rfl) rfl) ?_
 refine ra 9 rfl rfl rfl ?_
 refine ra 10 rfl rfl rfl ?_
 refine ra 11 rfl rfl rfl ?_
 refine rn ?_
 refine nK ?_
 refine s_reg rfl ?_
 refine rm 27 rfl rfl rfl ?_
 refine rp 28 rfl (op_neq rfl (oT rfl) oC) ?_
 refine rn ?_
 refine nK ?_
 refine n_cond _ rfl (fun hb => ?_) (fun hb => ?_)
 ·exfalso; simp at hb
 ·clear hb
  refine nK ?_
  refine s_reg rfl ?_
  refine rl 31 rfl (op_loadw_flat rfl (oT rfl) tH rfl) ?_
  refine rm 32 rfl rfl rfl ?_
  refine rm 33 rfl rfl rfl ?_
  refine rp 34 rfl (op_call_pure (fun _ => hps) rfl (Opd.func _) (oS (oT rfl) (oS (oT rfl) (oS (oT rfl) Opds.nil)))) ?_
  refine rm 30 rfl rfl rfl ?_
  refine rp 35 rfl (op_extract_fz rfl (oT rfl) rfl) ?_
  refine rp 36 rfl (op_extract_fz rfl (oT rfl) rfl) ?_
  refine ra 12 rfl rfl rfl ?_
  refine ra 13 rfl rfl rfl ?_
  refine rn ?_
  refine nK ?_
  refine s_reg rfl ?_
  refine rl 38 rfl (op_loadw_flat rfl (oT rfl) tH rfl) ?_
  refine rm 39 rfl rfl rfl ?_
  refine rm 40 rfl rfl rfl ?_
  refine rp 41 rfl (op_call_pure (fun _ => hqs) rfl (Opd.func _) (oS (oT rfl) (oS (oT rfl) (oS (oT rfl) Opds.nil)))) ?_
  refine rm 37 rfl rfl rfl ?_
  refine rp 42 rfl (op_extract_fz rfl (oT rfl) rfl) ?_
  refine rp 43 rfl (op_extract_fz rfl (oT rfl) rfl) ?_
  refine ra 14 rfl rfl rfl ?_
  refine ra 15 rfl rfl rfl ?_
  refine rn ?_
  refine nK ?_
  refine s_reg rfl ?_
  refine rp 16 rfl (op_assign rfl oC) ?_
  refine rn ?_
  refine nK ?_
  refine s_reg rfl ?_
  refine rm 44 rfl rfl rfl ?_
  refine rp 45 rfl (op_len_fz rfl (by first | exact Opd.tmp _ _ rfl | exact Opd.nil _ _ (oT rfl)) (by first | exact List.length_map _ | rfl)) ?_
  refine rp 46 rfl (op_move rfl oC) ?_
  refine rn ?_
  refine nK ?_
  refine n_loop (ι := Nat × Int) (fun i => ([(1, IV .i64 s), (9, .fz (VLL (tabL g D))), (14, .fz (VI q)), (16, IV .i64 i.2), (44, .fz (VI p)), (45, IV .i64 p.length), (46, IV .i64 i.1)], [], 0)) (fun i => i.1 ≤ p.length ∧ i.2 = (p.take i.1).foldl (remS (tabL g D) s q) (-1) ∧ (i.2 = -1 ∨ ∃ w : Nat, i.2 = w ∧ w < g.m)) (fun i => p.length - i.1) (0, -1) ⟨Nat.zero_le _, rfl, .inl rfl⟩ ?_ ?_
  ·refine Next.weak [] [] (by rfl) (keepsN hC _ rfl) (H' := []) (by repeat (first | exact trivial | refine ⟨⟨_, rfl, .inl ⟨rfl, rfl⟩⟩, ?_⟩ | refine ⟨⟨_, rfl, .inl ⟨ivEq (by rw [List.length_map]), rfl⟩⟩, ?_⟩)) trivial (fun _ h => by simp at h) rel_intro
  ·intro ⟨i, b⟩ ⟨hi, hb0, hbw⟩ K hK
   dsimp only at hi hb0 hbw hK ⊢
   refine nK ?_
   refine s_reg rfl ?_
   refine rp 47 rfl (op_lss rfl (oT rfl) (oT rfl)) ?_
   refine rn ?_
   refine nK ?_
   refine n_cond _ rfl (fun hb => ?_) (fun hb => ?_)
   ·have hlt : i < p.length := by have := of_decide_eq_true hb; omega
    have hri := row_at' encN p i hlt
    obtain ⟨w, hw, hwm⟩ := hpm _ (List.getElem_mem hlt)
    have hK1 := fun b' h1 h2 => hK (i + 1, b') ⟨by dsimp only; omega, h1, h2⟩ (by dsimp only; omega)
    dsimp only at hK1
    rw [foldl_take_succ _ _ _ _ hlt, ← hb0] at hK1
    clear hK hb
    rw [hw] at hri hK1
    have hgw := htg s w hsm hwm
    have hrw := row_row g.m (D s) hwm
    have hbrow : ¬ b < 0 → b = ((b.toNat : Nat) : Int) ∧ b.toNat < g.m := fun hb => by
     rcases hbw with h | ⟨w', h, h'⟩
     ·omega
     ·omega
    have hct := containsi_c q w (by omega)
    have hst : remS (tabL g D) s q b w = if (decide ((w : Int) ≠ (s : Int)) && decide ((w : Int) ∈ q) && (decide (b < 0) || decide (D s w < gt0 (rowAt' (tabL g D) s) b.toNat))) = true then (w : Int) else b := by
     unfold remS
     rw [Int.toNat_natCast, hgw]
    have hgb := fun (h : ¬ b < 0) => htg s b.toNat hsm (hbrow h).2
    have hrb := fun (h : ¬ b < 0) => row_row g.m (D s) (hbrow h).2
    have hst2 : remS (tabL g D) s q b w = if (decide ((w : Int) ≠ (s : Int)) && decide ((w : Int) ∈ q) && (decide (b < 0) || decide (D s w < D s b.toNat))) = true then (w : Int) else b := by
     rw [hst]
     by_cases h : b < 0
     ·simp [h]
     ·rw [hgb h]
    rw [hst2] at hK1
    clear hst hst2
    refine nK ?_
    refine s_reg rfl ?_
    refine rp 48 rfl (op_idx_fz i rfl (oT rfl) (oT rfl) (by intro _; exact ⟨rfl, hri⟩)) ?_
    refine rp 49 rfl (op_load1_fz rfl (oT rfl) rfl) ?_
    refine ra 18 rfl rfl rfl ?_
    refine rn ?_
    refine nK ?_
    refine s_draw mixed ?_
    refine rm 50 rfl rfl rfl ?_
    refine rm 51 rfl rfl rfl ?_
    refine rp 52 rfl (op_neq rfl (oT rfl) (oT rfl)) ?_
    refine rm 53 rfl rfl rfl ?_
    refine gm 54 rfl rfl tG rfl rfl ?_
    refine gm 55 rfl rfl tG rfl rfl ?_
    refine rg 56 rfl rfl tG (op_call_pure (fun _ => hct) rfl (Opd.func _) (oS (oO rfl tO) (oS (oO rfl tO) Opds.nil))) ?_
    refine rp 57 rfl (op_pick_and rfl (oT rfl) (oO rfl tO)) ?_
    refine rm 58 rfl rfl rfl ?_
    refine gm 59 rfl rfl tG rfl rfl ?_
    refine rg 60 rfl rfl tG (op_lss rfl (oO rfl tO) oC) ?_
    refine rg 61 rfl rfl tG (op_move rfl (oO rfl tO)) ?_
    refine gm 62 rfl rfl tG rfl rfl ?_
    refine gm 63 rfl rfl tG rfl rfl ?_
    refine rg 64 rfl rfl tG (op_idx_fz s rfl (oO rfl tO) (oO rfl tO) (by intro _; exact ⟨rfl, hrs⟩)) ?_
    refine rg 65 rfl rfl tG (op_load1_fz rfl (oO rfl tO) rfl) ?_
    refine gm 66 rfl rfl tG rfl rfl ?_
    refine rg 67 rfl rfl tG (op_idx_fz w rfl (oO rfl tO) (oO rfl tO) (by intro _; exact ⟨rfl, hrw⟩)) ?_
    refine rg 68 rfl rfl tG (op_load1_fz rfl (oO rfl tO) rfl) ?_
    refine gm 69 rfl rfl tG rfl rfl ?_
    refine gm 70 rfl rfl tG rfl rfl ?_
    refine rg 71 rfl rfl tG (op_idx_fz s rfl (oO rfl tO) (oO rfl tO) (by intro _; exact ⟨rfl, hrs⟩)) ?_
    refine rg 72 rfl rfl tG (op_load1_fz rfl (oO rfl tO) rfl) ?_
    refine gm 73 rfl rfl tG rfl rfl ?_
    refine rg 74 rfl rfl tG (op_idx_fz b.toNat rfl (oO rfl tO) (oO rfl tO) (by intro hgd; have h6 : ¬ b < 0 := (by simp at hgd; omega); exact ⟨(hbrow h6).1, hrb h6⟩)) ?_
    refine rg 75 rfl rfl tG (op_load1_fz rfl (oO rfl tO) rfl) ?_
    refine rg 76 rfl rfl tG (op_lss rfl (oO rfl tO) (oO rfl tO)) ?_
    refine rg 77 rfl rfl tG (op_pick_or rfl (oO rfl tO) (oO rfl tO)) ?_
    refine rp 78 rfl (op_pick_and rfl (oT rfl) (oO rfl tO)) ?_
    refine Run.nil (FinD.mk (by kernel_rfl) ?_)
    refine nK ?_
    refine n_cond _ rfl (fun hb => ?_) (fun hb => ?_)
    ·rw [if_pos (hb)] at hK1
     have hK2 := hK1 w rfl (.inr ⟨w, rfl, hwm⟩)
     refine nK ?_
     refine s_reg rfl ?_
     refine rm 79 rfl rfl rfl ?_
     refine ra 16 rfl rfl rfl ?_
     refine rn ?_
     refine nK ?_
     refine s_reg rfl ?_
     refine rp 80 rfl (op_add rfl (oT rfl) oC tI) ?_
     refine rm 46 rfl rfl rfl ?_
     refine rn ?_
     refine nK ?_
     refine Next.weak [] [] (by rfl) (keepsN hC _ rfl) (H' := []) (by repeat (first | exact trivial | refine ⟨⟨_, rfl, .inl ⟨rfl, rfl⟩⟩, ?_⟩ | refine ⟨⟨_, rfl, .inl ⟨slEq rfl tN, rfl⟩⟩, ?_⟩ | refine ⟨⟨_, rfl, .inl ⟨ivEq tX, rfl⟩⟩, ?_⟩)) trivial (fun _ h => by simp at h) hK2
    ·rw [if_neg (by rw [hb]; simp)] at hK1
     refine nK ?_
     refine s_reg rfl ?_
     refine rp 80 rfl (op_add rfl (oT rfl) oC tI) ?_
     refine rm 46 rfl rfl rfl ?_
     refine rn ?_
     refine nK ?_
     refine Next.weak [] [] (by rfl) (keepsN hC _ rfl) (H' := []) (by repeat (first | exact trivial | refine ⟨⟨_, rfl, .inl ⟨rfl, rfl⟩⟩, ?_⟩ | refine ⟨⟨_, rfl, .inl ⟨slEq rfl tN, rfl⟩⟩, ?_⟩ | refine ⟨⟨_, rfl, .inl ⟨ivEq tX, rfl⟩⟩, ?_⟩)) trivial (fun _ h => by simp at h) (hK1 b rfl hbw)
   ·have hie : i = p.length := by have := of_decide_eq_false hb; omega
    subst hie
    rw [List.take_length] at hb0
    rw [← hb0]
    clear hb
    refine nK ?_
    refine s_reg rfl ?_
    refine rm 81 rfl rfl rfl ?_
    refine rp 82 rfl (op_lss rfl (oT rfl) oC) ?_
    refine rn ?_
    refine nK ?_
    refine n_cond _ rfl (fun hb => ?_) (fun hb => ?_)
    ·have h : b < 0 := by simpa using hb
     rw [if_pos h, show decide (0 ≤ b) = false from decide_eq_false (by omega)]
     refine nK ?_
     refine s_reg rfl ?_
     refine rp 6 rfl (op_assign rfl oC) ?_
     refine rp 7 rfl (op_assign rfl oC) ?_
     refine rp 8 rfl (op_assign rfl oC) ?_
     refine rn ?_
     refine nK ?_
     (first | exact s_o1 hC rfl tV | exact s_o2 hC rfl tV tV | exact s_o3 hC rfl tV tV tV | exact s_out0 hC rfl | exact s_outO hC rfl rfl rfl)
    ·have h : ¬ b < 0 := by simpa using hb
     rw [if_neg h, show decide (0 ≤ b) = true from decide_eq_true (by omega)]
     refine nK ?_
     refine s_reg rfl ?_
     refine rm 83 rfl rfl rfl ?_
     refine ra 6 rfl rfl rfl ?_
     refine rp 7 rfl (op_assign rfl oC) ?_
     refine rp 8 rfl (op_assign rfl oC) ?_
     refine rn ?_
     refine nK ?_
     (first | exact s_o1 hC rfl tV | exact s_o2 hC rfl tV tV | exact s_o3 hC rfl tV tV tV | exact s_out0 hC rfl | exact s_outO hC rfl rfl rfl)
end Go.Proofs.Ytnkhlbljnmodbaa
namespace Go.Proofs.Ytnkhlbljnmodbaa
open Go Go.RT Go.Proofs Go.Pl
set_option linter.all false
set_option maxRecDepth 20000
set_option maxHeartbeats 4000000
def ringE (n i : Nat) : List Edg := [⟨i, min (((i : Int) + n - 1) % n) (((i : Int) + 1) % n), 1⟩, ⟨i, max (((i : Int) + n - 1) % n) (((i : Int) + 1) % n), 1⟩]
def ringL (n k : Nat) : List Edg := (List.range k).flatMap (ringE n)
def ringG (n : Nat) : Gr := ⟨n, 0, ringL n n⟩
theorem ringL_succ (n k : Nat) : ringL n (k + 1) = ringL n k ++ ringE n k := by unfold ringL; rw [List.range_succ, List.flatMap_append]; simp
theorem ringL_len (n k : Nat) : (ringL n k).length = 2 * k := by
 induction k with
 | zero => rfl
 | succ k ih => rw [ringL_succ, List.length_append, ih]; simp [ringE]; omega
theorem ring_c (n : Nat) (h1 : 1 ≤ n) (h2 : n ≤ 100) : Pure Try.prog 19 [If .i64 n] (.agg (encG (ringG n))) := by
 refine Meets.intro Try.func19 rfl (Nat.le_of_ble_eq_true rfl) fun C hC => ?_
 simp only [List.map, argEnv, Nat.reduceAdd]
 refine nK ?_
 refine s_reg rfl ?_
 refine Run.eff (dd := some 2) rfl rfl (op_alloc rfl rfl rfl rfl) ?_
 refine rn ?_
 refine nK ?_
 refine s_reg rfl ?_
 refine rm 7 rfl rfl rfl ?_
 refine rp 8 rfl (op_build rfl rfl rfl (FillF.cons _ _ _ _ _ _ _ _ _ _ (by rfl) (oT rfl) tC (by rfl) tR (FillF.nil _))) ?_
 refine Run.eff (dd := some 3) rfl rfl (op_alloc rfl rfl rfl rfl) ?_
 refine Run.eff (dd := none) rfl rfl (op_store_flat rfl (oT rfl) (oT rfl) tC rfl rfl (by first | rfl | assumption) tS) ?_
 refine rn ?_
 refine nK ?_
 refine Next.toRefs 1 rfl rfl ?_
 refine Next.adoptCell 1 0 2 3 rfl rfl rfl rfl ?_
 refine Next.weak [0, 1, 2] [] (by rfl) (keeps0 hC _) (G' := [(0, IV .i64 n), (2, .ptr 0 3 0 0), (3, .ptr 1 3 0 0)]) (H' := [(0, OG ⟨0, 0, []⟩), (1, some (.refs 3 [[IV .i64 n, IV .i64 0, .sl 2 3 0 0]])), (2, OE [])]) (by repeat (first | exact trivial | refine ⟨⟨_, rfl, .inl ⟨rfl, rfl⟩⟩, ?_⟩ | refine ⟨⟨_, rfl, .inl ⟨slEq rfl tN, rfl⟩⟩, ?_⟩ | refine ⟨⟨_, rfl, .inl ⟨ivEq tX, rfl⟩⟩, ?_⟩)) (by exact ⟨⟨rfl, rfl, .fflat _ _ _ rfl tW⟩, ⟨ent_same rfl rfl rfl tL, ⟨ent_same rfl rfl rfl tL, trivial⟩⟩⟩) (fun _ h => by simp at h) ?_
 refine nK ?_
 refine s_reg rfl ?_
 refine rp 4 rfl (op_assign rfl oC) ?_
 refine rn ?_
 refine nK ?_
 refine n_loop (ι := Nat) (fun i => ([(0, IV .i64 n), (2, .ptr 0 3 0 0), (3, .ptr 1 3 0 0), (4, IV .i64 i)], [(0, OG ⟨0, 0, []⟩), (1, some (.refs 3 [[IV .i64 n, IV .i64 0, .sl 2 3 0 (ringL n i).length]])), (2, OE (ringL n i))], 3)) (fun i => i ≤ n) (fun i => n - i) 0 (Nat.zero_le _) ?_ ?_
 ·refine Next.weak [0, 1, 2] [] (by rfl) (keeps0 hC _) (by repeat (first | exact trivial | refine ⟨⟨_, rfl, .inl ⟨rfl, rfl⟩⟩, ?_⟩ | refine ⟨⟨_, rfl, .inl ⟨slEq rfl tN, rfl⟩⟩, ?_⟩ | refine ⟨⟨_, rfl, .inl ⟨ivEq tX, rfl⟩⟩, ?_⟩)) (by exact ⟨ent_same rfl rfl rfl tL, ⟨ent_same rfl rfl rfl tL, ⟨ent_same rfl rfl rfl tL, trivial⟩⟩⟩) (fun _ h => by simp at h) rel_intro
 ·intro i hi K hK
  try dsimp only at hi hK ⊢
  have hrl := ringL_len n i
  refine nK ?_
  refine s_reg rfl ?_
  refine rm 9 rfl rfl rfl ?_
  refine rm 10 rfl rfl rfl ?_
  refine rp 11 rfl (op_lss rfl (oT rfl) (oT rfl)) ?_
  refine rn ?_
  refine nK ?_
  refine n_cond _ rfl (fun hb => ?_) (fun hb => ?_)
  ·have hlt : i < n := by have := of_decide_eq_true hb; omega
   have hK1 := hK (i + 1) (by omega) (by omega)
   rw [ringL_succ] at hK1
   generalize ringL n i = acc at *
   have e4 : (acc ++ ringE n i).length = acc.length + 2 := by simp [ringE]
   rw [e4, show OE (acc ++ ringE n i) = some (.flat 3 (acc.map encE ++ (ringE n i).map encE)) by simp] at hK1
   refine nK ?_
   refine s_draw mixed ?_
   refine rm 14 rfl rfl rfl ?_
   refine rm 15 rfl rfl rfl ?_
   refine rp 16 rfl (op_add rfl (oT rfl) (oT rfl) tI) ?_
   refine rp 17 rfl (op_sub rfl (oT rfl) oC tI) ?_
   refine rm 18 rfl rfl rfl ?_
   refine rp 19 rfl (op_rem rfl (oT rfl) (oT rfl) tM) ?_
   refine rm 20 rfl rfl rfl ?_
   refine rp 21 rfl (op_add rfl (oT rfl) oC tI) ?_
   refine rm 22 rfl rfl rfl ?_
   refine rp 23 rfl (op_rem rfl (oT rfl) (oT rfl) tM) ?_
   refine ra 5 rfl rfl rfl ?_
   refine ra 6 rfl rfl rfl ?_
   refine Run.nil (FinD.mk (by kernel_rfl) ?_)
   refine nK ?_
   refine s_reg rfl ?_
   refine rp 24 rfl (op_fld_ptr (by decide) rfl (oT rfl)) ?_
   refine rl 25 rfl (op_load1_refs rfl (oT rfl) tH rfl) ?_
   refine rm 26 rfl rfl rfl ?_
   refine rm 27 rfl rfl rfl ?_
   refine rm 28 rfl rfl rfl ?_
   refine rp 29 rfl (op_min rfl (oT rfl) (oT rfl)) ?_
   refine rp 30 rfl (op_build rfl rfl rfl (FillF.cons _ _ _ _ _ _ _ _ _ _ (by rfl) (oT rfl) tC (by rfl) tR (FillF.cons _ _ _ _ _ _ _ _ _ _ (by rfl) (oT rfl) tC (by rfl) tR (FillF.cons _ _ _ _ _ _ _ _ _ _ (by rfl) oC tC (by rfl) tR (FillF.nil _))))) ?_
   refine rm 31 rfl rfl rfl ?_
   refine rm 32 rfl rfl rfl ?_
   refine rm 33 rfl rfl rfl ?_
   refine rp 34 rfl (op_max rfl (oT rfl) (oT rfl)) ?_
   refine rp 35 rfl (op_build rfl rfl rfl (FillF.cons _ _ _ _ _ _ _ _ _ _ (by rfl) (oT rfl) tC (by rfl) tR (FillF.cons _ _ _ _ _ _ _ _ _ _ (by rfl) (oT rfl) tC (by rfl) tR (FillF.cons _ _ _ _ _ _ _ _ _ _ (by rfl) oC tC (by rfl) tR (FillF.nil _))))) ?_
   refine rp 36 rfl (op_buildSlice_fz rfl (RowsF.cons _ _ _ _ _ _ (oT rfl) tC (by rfl) (RowsF.cons _ _ _ _ _ _ (oT rfl) tC (by rfl) (RowsF.nil _))) rfl rfl) ?_
   refine Run.eff (dd := some 37) rfl rfl (op_append rfl (oT rfl) (by first | exact Opd.tmp _ _ rfl | exact Opd.nil _ _ (oT rfl)) rfl (by first | rfl | simp) rfl rfl tB tB) ?_
   refine rp 38 rfl (op_fld_ptr (by decide) rfl (oT rfl)) ?_
   refine Run.eff (dd := none) rfl rfl (op_store_refs rfl (oT rfl) (oT rfl) tP rfl rfl rfl tS) ?_
   refine rn ?_
   refine nK ?_
   refine s_reg rfl ?_
   refine rm 12 rfl rfl rfl ?_
   refine rp 13 rfl (op_add rfl (oT rfl) oC tI) ?_
   refine ra 4 rfl rfl rfl ?_
   refine rn ?_
   refine nK ?_
   refine Next.weak [0, 1, 3] [] (by rfl) (keeps0 hC _) (by repeat (first | exact trivial | refine ⟨⟨_, rfl, .inl ⟨rfl, rfl⟩⟩, ?_⟩ | refine ⟨⟨_, rfl, .inl ⟨slEq rfl tN, rfl⟩⟩, ?_⟩ | refine ⟨⟨_, rfl, .inl ⟨ivEq tX, rfl⟩⟩, ?_⟩)) (by exact ⟨ent_same rfl rfl rfl tL, ⟨ent_same rfl rfl rfl tL, ⟨ent_same rfl rfl rfl tL, trivial⟩⟩⟩) (fun _ h => by simp at h) hK1
  ·have hie : i = n := by have := of_decide_eq_false hb; omega
   subst hie
   refine Next.weak [0, 1] [2] (by rfl) (keeps0 hC _) (G' := [(2, .ptr 0 3 0 0), (3, .ptr 1 3 0 0)]) (H' := [(0, OG ⟨0, 0, []⟩), (1, OG ⟨(i : Int), 0, ringL i i⟩)]) (by repeat (first | exact trivial | refine ⟨⟨_, rfl, .inl ⟨rfl, rfl⟩⟩, ?_⟩ | refine ⟨⟨_, rfl, .inl ⟨slEq rfl tN, rfl⟩⟩, ?_⟩ | refine ⟨⟨_, rfl, .inl ⟨ivEq tX, rfl⟩⟩, ?_⟩)) (by exact ⟨ent_same rfl rfl rfl tL, ⟨⟨rfl, rfl, .flat _ _ _ rfl tW⟩, trivial⟩⟩) (fun id h => by obtain rfl : id = 2 := (by simpa using h); exact ⟨_, rfl⟩) ?_
   refine nK ?_
   refine s_reg rfl ?_
   refine rl 39 rfl (op_loadw_flat rfl (oT rfl) tH rfl) ?_
   refine Run.eff (dd := none) rfl rfl (op_store_flat rfl (oT rfl) (oT rfl) tC rfl rfl (by first | rfl | assumption) tS) ?_
   refine rn ?_
   refine nK ?_
   (first | exact s_o1 hC rfl tV | exact s_o2 hC rfl tV tV | exact s_o3 hC rfl tV tV tV | exact s_out0 hC rfl | exact s_outO hC rfl rfl rfl)
theorem tab4 : tabL (ringG 4) (disF (ringG 4).es (ringG 4).m) = [[0, 1, 2, 1], [1, 0, 1, 2], [2, 1, 0, 1], [1, 2, 1, 0]] := by decide +kernel
theorem tab5 : tabL (ringG 5) (disF (ringG 5).es (ringG 5).m) = [[0, 1, 2, 2, 1], [1, 0, 1, 2, 2], [2, 1, 0, 1, 2], [2, 2, 1, 0, 1], [1, 2, 2, 1, 0]] := by decide +kernel
theorem hops4 : (refT (ringG 4) (disF (ringG 4).es (ringG 4).m) 0).hops = [[], [1], [1, 3], [3]] := by decide +kernel
theorem next4 : nextI 0 (ringG 4).es = [1, 3] := asc_ext (nextI_spec 0 (ringG 4).es).1 (by simp [Asc]) fun x => by
 rw [(nextI_spec 0 (ringG 4).es).2]
 have : (ringG 4).es = [⟨0, 1, 1⟩, ⟨0, 3, 1⟩, ⟨1, 0, 1⟩, ⟨1, 2, 1⟩, ⟨2, 1, 1⟩, ⟨2, 3, 1⟩, ⟨3, 0, 1⟩, ⟨3, 2, 1⟩] := by decide +kernel
 rw [this]
 simp only [List.mem_cons, List.not_mem_nil, or_false]
 constructor
 ·rintro ⟨e, he, h1, h2⟩
  rcases he with rfl | rfl | rfl | rfl | rfl | rfl | rfl | rfl <;> simp at h1 h2 <;> omega
 ·rintro (rfl | rfl)
  ·exact ⟨⟨0, 1, 1⟩, by simp, rfl, rfl⟩
  ·exact ⟨⟨0, 3, 1⟩, by simp, rfl, rfl⟩
theorem chk4 : checkI (ringG 4) = 0 := by decide +kernel
theorem chk5 : checkI (ringG 5) = 0 := by decide +kernel
theorem pl_of {g : Gr} (h : checkI g = 0) (hN : g.n = 0) : plainI g = 0 := by unfold plainI; rw [if_neg (by simp [h]), if_neg (by omega)]
theorem lk4 : linkI (ringG 4) (0 : Nat) (1 : Nat) = 0 := by
 unfold linkI
 rw [if_neg (by simp [pl_of chk4 rfl])]
 decide +kernel
theorem lk5 : linkI (ringG 5) (0 : Nat) (1 : Nat) = 0 := by
 unfold linkI
 rw [if_neg (by simp [pl_of chk5 rfl])]
 decide +kernel
theorem okG4 : okG (ringG 4) := ⟨by decide, by decide, by have : okEs [⟨0, 1, 1⟩, ⟨0, 3, 1⟩, ⟨1, 0, 1⟩, ⟨1, 2, 1⟩, ⟨2, 1, 1⟩, ⟨2, 3, 1⟩, ⟨3, 0, 1⟩, ⟨3, 2, 1⟩] := (by unfold okEs okE; decide); rwa [show (ringG 4).es = [⟨0, 1, 1⟩, ⟨0, 3, 1⟩, ⟨1, 0, 1⟩, ⟨1, 2, 1⟩, ⟨2, 1, 1⟩, ⟨2, 3, 1⟩, ⟨3, 0, 1⟩, ⟨3, 2, 1⟩] by decide +kernel]⟩
theorem okG5 : okG (ringG 5) := ⟨by decide, by decide, by have : okEs [⟨0, 1, 1⟩, ⟨0, 4, 1⟩, ⟨1, 0, 1⟩, ⟨1, 2, 1⟩, ⟨2, 1, 1⟩, ⟨2, 3, 1⟩, ⟨3, 2, 1⟩, ⟨3, 4, 1⟩, ⟨4, 0, 1⟩, ⟨4, 3, 1⟩] := (by unfold okEs okE; decide); rwa [show (ringG 5).es = [⟨0, 1, 1⟩, ⟨0, 4, 1⟩, ⟨1, 0, 1⟩, ⟨1, 2, 1⟩, ⟨2, 1, 1⟩, ⟨2, 3, 1⟩, ⟨3, 2, 1⟩, ⟨3, 4, 1⟩, ⟨4, 0, 1⟩, ⟨4, 3, 1⟩] by decide +kernel]⟩
theorem awake_c : Pure Try.prog 5 [] (Bf true) := by
 have r4 := ring_c 4 (by omega) (by omega)
 have r5 := ring_c 5 (by omega) (by omega)
 obtain ⟨t, ht⟩ := run_exists chk4 (a := 0) (by decide)
 have h1 := lall_c (ringG 4) 0 t okG4 rfl ht
 rw [ht.refT (dst_of chk4)] at h1
 rw [show ((0 : Nat) : Int) = 0 from rfl, hops4, next4, tab4] at h1
 have e1 : allA (ringG 4) [[0, 1, 2, 1], [1, 0, 1, 2], [2, 1, 0, 1], [1, 2, 1, 0]] 0 [1, 3] [[], [1], [1, 3], [3]] (ringG 4).r.toNat = [⟨2, 1, 3, 2, true⟩, ⟨2, 3, 1, 2, true⟩] := by decide +kernel
 rw [e1] at h1
 have h2 := lps_c (ringG 5) 0 1 okG5 lk5
 rw [tab5] at h2
 have e2 : fil (psB [[0, 1, 2, 2, 1], [1, 0, 1, 2, 2], [2, 1, 0, 1, 2], [2, 2, 1, 0, 1], [1, 2, 2, 1, 0]] 0 1 (costL ((0 : Nat) : Int) ((1 : Nat) : Int) (ringG 5).es).1) (ringG 5).m = [0, 3, 4] := by decide +kernel
 rw [e2] at h2
 have h3 := lrem_c (ringG 5) 0 1 okG5 lk5
 have e3 : remG (ringG 5) 0 1 = 3 := by unfold remG; rw [tab5]; decide +kernel
 unfold remV at h3
 rw [e3] at h3
 have h4 := lrem_c (ringG 4) 0 1 okG4 lk4
 have e4 : remG (ringG 4) 0 1 = -1 := by unfold remG; rw [tab4]; decide +kernel
 unfold remV at h4
 rw [e4] at h4
 have ha := alts3_c [⟨2, 1, 3, 2, true⟩, ⟨2, 3, 1, 2, true⟩] [⟨2, 1, 3, 2, true⟩, ⟨2, 3, 1, 2, true⟩] (by decide) (by decide)
 have hi := ints3_c [0, 3, 4] [0, 3, 4] (by decide) (by decide)
 rw [decide_eq_true rfl] at ha hi
 refine Meets.intro Try.func5 rfl (Nat.le_of_ble_eq_true rfl) fun C hC => ?_
 simp only [List.map, argEnv, Nat.reduceAdd]
 refine nK ?_
 refine s_reg rfl ?_
 refine rp 0 rfl (op_assign rfl oC) ?_
 refine rn ?_
 refine nK ?_
 refine s_reg rfl ?_
 refine rp 13 rfl (op_call_pure (fun _ => r4) rfl (Opd.func _) (oS oC Opds.nil)) ?_
 refine rp 14 rfl (op_call_pure (fun _ => h1) rfl (Opd.func _) (oS (oT rfl) (oS oC Opds.nil))) ?_
 refine rm 12 rfl rfl rfl ?_
 refine rp 15 rfl (op_extract_fz rfl (oT rfl) rfl) ?_
 refine rp 16 rfl (op_extract_fz rfl (oT rfl) rfl) ?_
 refine ra 1 rfl rfl rfl ?_
 refine ra 2 rfl rfl rfl ?_
 refine rn ?_
 refine nK ?_
 refine s_reg rfl ?_
 refine rp 18 rfl (op_call_pure (fun _ => r5) rfl (Opd.func _) (oS oC Opds.nil)) ?_
 refine rp 19 rfl (op_call_pure (fun _ => h2) rfl (Opd.func _) (oS (oT rfl) (oS oC (oS oC Opds.nil)))) ?_
 refine rm 17 rfl rfl rfl ?_
 refine rp 20 rfl (op_extract_fz rfl (oT rfl) rfl) ?_
 refine rp 21 rfl (op_extract_fz rfl (oT rfl) rfl) ?_
 refine ra 3 rfl rfl rfl ?_
 refine ra 4 rfl rfl rfl ?_
 refine rn ?_
 refine nK ?_
 refine s_reg rfl ?_
 refine rp 23 rfl (op_call_pure (fun _ => r5) rfl (Opd.func _) (oS oC Opds.nil)) ?_
 refine rp 24 rfl (op_call_pure (fun _ => h3) rfl (Opd.func _) (oS (oT rfl) (oS oC (oS oC Opds.nil)))) ?_
 refine rm 22 rfl rfl rfl ?_
 refine rp 25 rfl (op_extract_fz rfl (oT rfl) rfl) ?_
 refine rp 26 rfl (op_extract_fz rfl (oT rfl) rfl) ?_
 refine rp 27 rfl (op_extract_fz rfl (oT rfl) rfl) ?_
 refine ra 5 rfl rfl rfl ?_
 refine ra 6 rfl rfl rfl ?_
 refine ra 7 rfl rfl rfl ?_
 refine rn ?_
 refine nK ?_
 refine s_reg rfl ?_
 refine rp 29 rfl (op_call_pure (fun _ => r4) rfl (Opd.func _) (oS oC Opds.nil)) ?_
 refine rp 30 rfl (op_call_pure (fun _ => h4) rfl (Opd.func _) (oS (oT rfl) (oS oC (oS oC Opds.nil)))) ?_
 refine rm 28 rfl rfl rfl ?_
 refine rp 31 rfl (op_extract_fz rfl (oT rfl) rfl) ?_
 refine rp 32 rfl (op_extract_fz rfl (oT rfl) rfl) ?_
 refine rp 33 rfl (op_extract_fz rfl (oT rfl) rfl) ?_
 refine ra 8 rfl rfl rfl ?_
 refine ra 9 rfl rfl rfl ?_
 refine ra 10 rfl rfl rfl ?_
 refine rn ?_
 refine nK ?_
 refine s_reg rfl ?_
 refine rp 34 rfl (op_build rfl rfl rfl (FillF.cons _ _ _ _ _ _ _ _ _ _ (by rfl) oC tC (by rfl) tR (FillF.cons _ _ _ _ _ _ _ _ _ _ (by rfl) oC tC (by rfl) tR (FillF.cons _ _ _ _ _ _ _ _ _ _ (by rfl) oC tC (by rfl) tR (FillF.cons _ _ _ _ _ _ _ _ _ _ (by rfl) oC tC (by rfl) tR (FillF.cons _ _ _ _ _ _ _ _ _ _ (by rfl) oC tC (by rfl) tR (FillF.nil _))))))) ?_
 refine rp 35 rfl (op_build rfl rfl rfl (FillF.cons _ _ _ _ _ _ _ _ _ _ (by rfl) oC tC (by rfl) tR (FillF.cons _ _ _ _ _ _ _ _ _ _ (by rfl) oC tC (by rfl) tR (FillF.cons _ _ _ _ _ _ _ _ _ _ (by rfl) oC tC (by rfl) tR (FillF.cons _ _ _ _ _ _ _ _ _ _ (by rfl) oC tC (by rfl) tR (FillF.cons _ _ _ _ _ _ _ _ _ _ (by rfl) oC tC (by rfl) tR (FillF.nil _))))))) ?_
 refine rp 36 rfl (op_buildSlice_fz rfl (RowsF.cons _ _ _ _ _ _ (oT rfl) tC (by rfl) (RowsF.cons _ _ _ _ _ _ (oT rfl) tC (by rfl) (RowsF.nil _))) rfl rfl) ?_
 refine ra 11 rfl rfl rfl ?_
 refine rn ?_
 refine nK ?_
 refine s_reg rfl ?_
 refine rm 37 rfl rfl rfl ?_
 refine rp 38 rfl (op_eql rfl (oT rfl) oC) ?_
 refine rm 39 rfl rfl rfl ?_
 refine gm 40 rfl rfl tG rfl rfl ?_
 refine rg 41 rfl rfl tG (op_eql rfl (oO rfl tO) oC) ?_
 refine rp 42 rfl (op_pick_and rfl (oT rfl) (oO rfl tO)) ?_
 refine rm 43 rfl rfl rfl ?_
 refine gm 44 rfl rfl tG rfl rfl ?_
 refine gm 45 rfl rfl tG rfl rfl ?_
 refine rg 46 rfl rfl tG (op_call_pure (fun _ => ha) rfl (Opd.func _) (oS (oO rfl tO) (oS (oO rfl tO) Opds.nil))) ?_
 refine rp 47 rfl (op_pick_and rfl (oT rfl) (oO rfl tO)) ?_
 refine rm 48 rfl rfl rfl ?_
 refine gm 49 rfl rfl tG rfl rfl ?_
 refine rg 50 rfl rfl tG (op_buildSlice_fz rfl (RowsF.cons _ _ _ _ _ _ oC tC (by rfl) (RowsF.cons _ _ _ _ _ _ oC tC (by rfl) (RowsF.cons _ _ _ _ _ _ oC tC (by rfl) (RowsF.nil _)))) rfl rfl) ?_
 refine rg 51 rfl rfl tG (op_call_pure (fun _ => hi) rfl (Opd.func _) (oS (oO rfl tO) (oS (oO rfl tO) Opds.nil))) ?_
 refine rp 52 rfl (op_pick_and rfl (oT rfl) (oO rfl tO)) ?_
 refine rm 53 rfl rfl rfl ?_
 refine gm 54 rfl rfl tG rfl rfl ?_
 refine rp 55 rfl (op_pick_and rfl (oT rfl) (oO rfl tO)) ?_
 refine rm 56 rfl rfl rfl ?_
 refine gm 57 rfl rfl tG rfl rfl ?_
 refine rg 58 rfl rfl tG (op_eql rfl (oO rfl tO) oC) ?_
 refine rp 59 rfl (op_pick_and rfl (oT rfl) (oO rfl tO)) ?_
 refine rm 60 rfl rfl rfl ?_
 refine gm 61 rfl rfl tG rfl rfl ?_
 refine rg 62 rfl rfl tG (op_not rfl (oO rfl tO)) ?_
 refine rp 63 rfl (op_pick_and rfl (oT rfl) (oO rfl tO)) ?_
 refine ra 0 rfl rfl rfl ?_
 refine rn ?_
 refine nK ?_
 (first | exact s_o1 hC rfl tV | exact s_o2 hC rfl tV tV | exact s_o3 hC rfl tV tV tV | exact s_out0 hC rfl | exact s_outO hC rfl rfl rfl)
def largeB (g : Gr) : Bool := decide (14 < g.r) || (decide (6 < g.n) || decide (80 < (g.es.length : Int)))
theorem large_c (g : Gr) : Pure Try.prog 12 [.agg (encG g)] (Bf (largeB g)) := by
 unfold largeB
 rw [← Bool.or_assoc]
 refine Meets.intro Try.func12 rfl (Nat.le_of_ble_eq_true rfl) fun C hC => ?_
 simp only [List.map, argEnv, Nat.reduceAdd]
 refine nK ?_
 refine s_reg rfl ?_
 refine Run.eff (dd := some 1) rfl rfl (op_box_flat rfl (oT rfl) tC rfl) ?_
 refine rp 2 rfl (op_assign rfl oC) ?_
 refine rn ?_
 refine nK ?_
 refine s_reg rfl ?_
 refine rp 3 rfl (op_fld_ptr (by decide) rfl (oT rfl)) ?_
 refine rl 4 rfl (op_load1_flat rfl (oT rfl) tH rfl) ?_
 refine rp 5 rfl (op_gtr rfl (oT rfl) oC) ?_
 refine rm 6 rfl rfl rfl ?_
 refine rg 7 rfl rfl tG (op_fld_ptr (by decide) rfl (oT rfl)) ?_
 refine rk 8 rfl rfl tG (op_load1_flat rfl (oO rfl tO) tH rfl) ?_
 refine rg 9 rfl rfl tG (op_gtr rfl (oO rfl tO) oC) ?_
 refine rp 10 rfl (op_pick_or rfl (oT rfl) (oO rfl tO)) ?_
 refine rm 11 rfl rfl rfl ?_
 refine rg 12 rfl rfl tG (op_fld_ptr (by decide) rfl (oT rfl)) ?_
 refine rk 13 rfl rfl tG (op_load1_flat rfl (oO rfl tO) tH rfl) ?_
 refine rg 14 rfl rfl tG (op_len_fz rfl (by first | exact Opd.topt _ _ _ rfl tO | exact Opd.nil _ _ (oO rfl tO)) (by first | exact List.length_map _ | rfl)) ?_
 refine rg 15 rfl rfl tG (op_gtr rfl (oO rfl tO) oC) ?_
 refine rp 16 rfl (op_pick_or rfl (oT rfl) (oO rfl tO)) ?_
 refine ra 2 rfl rfl rfl ?_
 refine rn ?_
 refine nK ?_
 (first | exact s_o1 hC rfl tV | exact s_o2 hC rfl tV tV | exact s_o3 hC rfl tV tV tV | exact s_out0 hC rfl | exact s_outO hC rfl rfl rfl)
end Go.Proofs.Ytnkhlbljnmodbaa
/- What the statements ask of an alternate. -/
namespace Go.Pl
open Go Go.RT
set_option linter.all false
variable {g : Gr} {D : Nat → Nat → Int}
structure AltOk (g : Gr) (D : Nat → Nat → Int) (a v p z : Nat) (kd : Int) : Prop where
  noroot : (a : Int) ∉ waysL (hopsF g D z) g.m v
  dest : (z : Int) ∈ waysL (hopsF g D z) g.m v
  noprim : kd = 2 → (p : Int) ∉ waysL (hopsF g D z) g.m v
  len : (waysL (hopsF g D z) g.m v).length ≤ g.m
  path : ∃ q, walkL (fun x => hopR g D x z) z a p ((D v z).toNat + 1) v [(v : Int)] = ((v : Int) :: q, true) ∧ (a : Int) ∉ (v : Int) :: q ∧ (kd = 2 → (p : Int) ∉ (v : Int) :: q) ∧ ((v : Int) :: q).getLast? = some (z : Int)
end Go.Pl
namespace Go.Proofs.Ytnkhlbljnmodbaa
open Go Go.RT Go.Proofs Go.Pl
set_option linter.all false
set_option maxRecDepth 20000
set_option maxHeartbeats 4000000
abbrev pC (a b : Int) (e : Edg) : Bool := (decide (e.f = a) && decide (e.t = b)) || (decide (e.f = b) && decide (e.t = a))
abbrev zeroG : Gr := ⟨0, 0, []⟩
theorem rcut_c (g : Gr) (a b : Int) (hn : g.es.length ≤ 2000000) : Pure Try.prog 17 [.agg (encG g), If .i64 a, If .i64 b] (.agg (encG ⟨g.r, g.n, keepL (pC a b) g.es⟩)) := by
 refine Meets.intro Try.func17 rfl (Nat.le_of_ble_eq_true rfl) fun C hC => ?_
 simp only [List.map, argEnv, Nat.reduceAdd]
 refine nK ?_
 refine s_reg rfl ?_
 refine Run.eff (dd := some 3) rfl rfl (op_box_flat rfl (oT rfl) tC rfl) ?_
 refine Run.eff (dd := some 6) rfl rfl (op_alloc rfl rfl rfl rfl) ?_
 refine rn ?_
 refine nK ?_
 refine s_reg rfl ?_
 refine rp 10 rfl (op_fld_ptr (by decide) rfl (oT rfl)) ?_
 refine rl 11 rfl (op_load1_flat rfl (oT rfl) tH rfl) ?_
 refine rp 12 rfl (op_fld_ptr (by decide) rfl (oT rfl)) ?_
 refine rl 13 rfl (op_load1_flat rfl (oT rfl) tH rfl) ?_
 refine rp 14 rfl (op_build rfl rfl rfl (FillF.cons _ _ _ _ _ _ _ _ _ _ (by rfl) (oT rfl) tC (by rfl) tR (FillF.cons _ _ _ _ _ _ _ _ _ _ (by rfl) (oT rfl) tC (by rfl) tR (FillF.nil _)))) ?_
 refine Run.eff (dd := some 7) rfl rfl (op_alloc rfl rfl rfl rfl) ?_
 refine Run.eff (dd := none) rfl rfl (op_store_flat rfl (oT rfl) (oT rfl) tC rfl rfl (by first | rfl | assumption) tS) ?_
 refine rn ?_
 refine nK ?_
 refine s_reg rfl ?_
 refine rp 8 rfl (op_assign rfl oC) ?_
 refine rn ?_
 refine nK ?_
 refine Next.toRefs 2 rfl rfl ?_
 refine Next.adoptCell 2 0 2 3 rfl rfl rfl rfl ?_
 refine n_loop (ι := Nat) (fun i => ([(1, IV .i64 a), (2, IV .i64 b), (3, .ptr 0 3 0 0), (6, .ptr 1 3 0 0), (7, .ptr 2 3 0 0), (8, IV .i64 i)], [(0, OG g), (1, OG zeroG), (2, some (.refs 3 [[IV .i64 g.r, IV .i64 g.n, .sl 3 3 0 (keepL (pC a b) (g.es.take i)).length]])), (3, OE (keepL (pC a b) (g.es.take i)))], 4)) (fun i => i ≤ g.es.length) (fun i => g.es.length - i) 0 (Nat.zero_le _) ?_ ?_
 ·refine Next.weak [0, 1, 2, 3] [] (by rfl) (keeps0 hC _) (by repeat (first | exact trivial | refine ⟨⟨_, rfl, .inl ⟨rfl, rfl⟩⟩, ?_⟩ | refine ⟨⟨_, rfl, .inl ⟨slEq rfl tN, rfl⟩⟩, ?_⟩ | refine ⟨⟨_, rfl, .inl ⟨ivEq tX, rfl⟩⟩, ?_⟩)) (by exact ⟨ent_same rfl rfl rfl tL, ⟨⟨rfl, rfl, .fflat _ _ _ rfl tW⟩, ⟨ent_same rfl rfl rfl tL, ⟨ent_same rfl rfl rfl tL, trivial⟩⟩⟩⟩) (fun _ h => by simp at h) rel_intro
 ·intro i hi K hK
  have hkl := keep_len (pC a b) (g.es.take i)
  have htl : (g.es.take i).length ≤ g.es.length := List.length_take_le' _ _
  refine nK ?_
  refine s_reg rfl ?_
  refine rm 15 rfl rfl rfl ?_
  refine rp 16 rfl (op_fld_ptr (by decide) rfl (oT rfl)) ?_
  refine rl 17 rfl (op_load1_flat rfl (oT rfl) tH rfl) ?_
  refine rp 18 rfl (op_len_fz rfl (by first | exact Opd.tmp _ _ rfl | exact Opd.nil _ _ (oT rfl)) (by first | exact List.length_map _ | rfl)) ?_
  refine rp 19 rfl (op_lss rfl (oT rfl) (oT rfl)) ?_
  refine rn ?_
  refine nK ?_
  refine n_cond _ rfl (fun hb => ?_) (fun hb => ?_)
  ·have hlt : i < g.es.length := by simp at hb; omega
   have hr1 := row_at' encE g.es i hlt
   have hst := keep_take (pC a b) g.es i hlt
   have hK1 := hK (i + 1) (by omega) (by omega)
   rw [hst] at hK1
   generalize keepL (pC a b) (g.es.take i) = acc at *
   generalize g.es[i] = e at *
   refine nK ?_
   refine s_reg rfl ?_
   refine rp 22 rfl (op_fld_ptr (by decide) rfl (oT rfl)) ?_
   refine rl 23 rfl (op_load1_flat rfl (oT rfl) tH rfl) ?_
   refine rm 24 rfl rfl rfl ?_
   refine rp 25 rfl (op_idx_fz _ rfl (oT rfl) (oT rfl) tF) ?_
   refine rp 26 rfl (op_loadw_fz rfl (oT rfl) rfl) ?_
   refine Run.eff (dd := some 9) rfl rfl (op_alloc rfl rfl rfl rfl) ?_
   refine Run.eff (dd := none) rfl rfl (op_store_flat rfl (oT rfl) (oT rfl) tC rfl rfl (by first | rfl | assumption) tS) ?_
   refine rn ?_
   refine nK ?_
   refine s_reg rfl ?_
   refine rp 27 rfl (op_fld_ptr (by decide) rfl (oT rfl)) ?_
   refine rl 28 rfl (op_load1_flat rfl (oT rfl) tH rfl) ?_
   refine rm 29 rfl rfl rfl ?_
   refine rp 30 rfl (op_eql rfl (oT rfl) (oT rfl)) ?_
   refine rm 31 rfl rfl rfl ?_
   refine rg 32 rfl rfl tG (op_fld_ptr (by decide) rfl (oT rfl)) ?_
   refine rk 33 rfl rfl tG (op_load1_flat rfl (oO rfl tO) tH rfl) ?_
   refine gm 34 rfl rfl tG rfl rfl ?_
   refine rg 35 rfl rfl tG (op_eql rfl (oO rfl tO) (oO rfl tO)) ?_
   refine rp 36 rfl (op_pick_and rfl (oT rfl) (oO rfl tO)) ?_
   refine rm 37 rfl rfl rfl ?_
   refine rg 38 rfl rfl tG (op_fld_ptr (by decide) rfl (oT rfl)) ?_
   refine rk 39 rfl rfl tG (op_load1_flat rfl (oO rfl tO) tH rfl) ?_
   refine gm 40 rfl rfl tG rfl rfl ?_
   refine rg 41 rfl rfl tG (op_eql rfl (oO rfl tO) (oO rfl tO)) ?_
   refine rg 42 rfl rfl tG (op_move rfl (oO rfl tO)) ?_
   refine rg 43 rfl rfl tG (op_fld_ptr (by decide) rfl (oT rfl)) ?_
   refine rk 44 rfl rfl tG (op_load1_flat rfl (oO rfl tO) tH rfl) ?_
   refine gm 45 rfl rfl tG rfl rfl ?_
   refine rg 46 rfl rfl tG (op_eql rfl (oO rfl tO) (oO rfl tO)) ?_
   refine rg 47 rfl rfl tG (op_pick_and rfl (oO rfl tO) (oO rfl tO)) ?_
   refine rp 48 rfl (op_pick_or rfl (oT rfl) (oO rfl tO)) ?_
   refine rp 49 rfl (op_not rfl (oT rfl)) ?_
   refine rn ?_
   refine nK ?_
   refine n_cond _ rfl (fun hb => ?_) (fun hb => ?_)
   ·have hne : pC a b e = false := by simpa only [Bool.not_eq_true'] using hb
    rw [hne, cond_false] at hK1
    have e4 : (acc ++ [e]).length = acc.length + 1 := by simp
    rw [e4] at hK1
    rw [show OE (acc ++ [e]) = some (.flat 3 (acc.map encE ++ [encE e])) by simp] at hK1
    refine nK ?_
    refine s_reg rfl ?_
    refine rp 50 rfl (op_fld_ptr (by decide) rfl (oT rfl)) ?_
    refine rl 51 rfl (op_load1_refs rfl (oT rfl) tH rfl) ?_
    refine rl 52 rfl (op_loadw_flat rfl (oT rfl) tH rfl) ?_
    refine rp 53 rfl (op_buildSlice_fz rfl (RowsF.cons _ _ _ _ _ _ (oT rfl) tC (by rfl) (RowsF.nil _)) rfl rfl) ?_
    refine Run.eff (dd := some 54) rfl rfl (op_append rfl (oT rfl) (by first | exact Opd.tmp _ _ rfl | exact Opd.nil _ _ (oT rfl)) rfl (by first | rfl | simp) rfl rfl tB tB) ?_
    refine rp 55 rfl (op_fld_ptr (by decide) rfl (oT rfl)) ?_
    refine Run.eff (dd := none) rfl rfl (op_store_refs rfl (oT rfl) (oT rfl) tP rfl rfl rfl tS) ?_
    refine rn ?_
    refine nK ?_
    refine s_reg rfl ?_
    refine rm 20 rfl rfl rfl ?_
    refine rp 21 rfl (op_add rfl (oT rfl) oC tI) ?_
    refine ra 8 rfl rfl rfl ?_
    refine rn ?_
    refine nK ?_
    refine Next.weak [0, 1, 2, 5] [] (by rfl) (keeps0 hC _) (by repeat (first | exact trivial | refine ⟨⟨_, rfl, .inl ⟨rfl, rfl⟩⟩, ?_⟩ | refine ⟨⟨_, rfl, .inl ⟨slEq rfl tN, rfl⟩⟩, ?_⟩ | refine ⟨⟨_, rfl, .inl ⟨ivEq tX, rfl⟩⟩, ?_⟩)) (by exact ⟨ent_same rfl rfl rfl tL, ⟨ent_same rfl rfl rfl tL, ⟨ent_same rfl rfl rfl tL, ⟨ent_same rfl rfl rfl tL, trivial⟩⟩⟩⟩) (fun _ h => by simp at h) hK1
   ·have hne : pC a b e = true := by simpa only [Bool.not_eq_false'] using hb
    rw [hne, cond_true, List.append_nil] at hK1
    refine nK ?_
    refine s_reg rfl ?_
    refine rm 20 rfl rfl rfl ?_
    refine rp 21 rfl (op_add rfl (oT rfl) oC tI) ?_
    refine ra 8 rfl rfl rfl ?_
    refine rn ?_
    refine nK ?_
    refine Next.weak [0, 1, 2, 3] [] (by rfl) (keeps0 hC _) (by repeat (first | exact trivial | refine ⟨⟨_, rfl, .inl ⟨rfl, rfl⟩⟩, ?_⟩ | refine ⟨⟨_, rfl, .inl ⟨slEq rfl tN, rfl⟩⟩, ?_⟩ | refine ⟨⟨_, rfl, .inl ⟨ivEq tX, rfl⟩⟩, ?_⟩)) (by exact ⟨ent_same rfl rfl rfl tL, ⟨ent_same rfl rfl rfl tL, ⟨ent_same rfl rfl rfl tL, ⟨ent_same rfl rfl rfl tL, trivial⟩⟩⟩⟩) (fun _ h => by simp at h) hK1
  ·have hie : i = g.es.length := by simp at hb; omega
   rw [take_len_eq' hie]
   refine Next.weak [1, 2] [3] (by rfl) (keeps0 hC _) (G' := [(6, .ptr 0 3 0 0), (7, .ptr 1 3 0 0)]) (H' := [(0, OG zeroG), (1, OG ⟨g.r, g.n, keepL (pC a b) g.es⟩)]) (by repeat (first | exact trivial | refine ⟨⟨_, rfl, .inl ⟨rfl, rfl⟩⟩, ?_⟩ | refine ⟨⟨_, rfl, .inl ⟨slEq rfl tN, rfl⟩⟩, ?_⟩ | refine ⟨⟨_, rfl, .inl ⟨ivEq tX, rfl⟩⟩, ?_⟩)) (by exact ⟨ent_same rfl rfl rfl tL, ⟨⟨rfl, rfl, .flat _ _ _ rfl tW⟩, trivial⟩⟩) (fun id h => by obtain rfl : id = 3 := (by simpa using h); exact ⟨_, rfl⟩) ?_
   refine nK ?_
   refine s_reg rfl ?_
   refine rl 56 rfl (op_loadw_flat rfl (oT rfl) tH rfl) ?_
   refine Run.eff (dd := none) rfl rfl (op_store_flat rfl (oT rfl) (oT rfl) tC rfl rfl (by first | rfl | assumption) tS) ?_
   refine rn ?_
   refine nK ?_
   (first | exact s_o1 hC rfl tV | exact s_o2 hC rfl tV tV | exact s_o3 hC rfl tV tV tV | exact s_out0 hC rfl | exact s_outO hC rfl rfl rfl)
theorem tests_law (ll : List (List Int)) (s n d : Int) (hok : okT ll) : Pure Try.prog 3 [VLL ll, If .i64 s, If .i64 n, If .i64 d] (Bf true) := by
 have a1 := lloop_c ll s n d hok
 have a2 := ldown_c ll s n d
 have a3 := lprot_c ll n s d hok
 have b1 := rloop_c ll s n d hok
 have b2 := rdown_c ll s n d
 have b3 := rprot_c ll n s d hok
 refine Meets.intro Try.func3 rfl (Nat.le_of_ble_eq_true rfl) fun C hC => ?_
 simp only [List.map, argEnv, Nat.reduceAdd]
 refine nK ?_
 refine s_reg rfl ?_
 refine rp 8 rfl (op_assign rfl oC) ?_
 refine rn ?_
 refine nK ?_
 refine s_reg rfl ?_
 refine rp 9 rfl (op_call_pure (fun _ => awake_c) rfl (Opd.func _) Opds.nil) ?_
 refine rm 10 rfl rfl rfl ?_
 refine gm 11 rfl rfl tG rfl rfl ?_
 refine gm 12 rfl rfl tG rfl rfl ?_
 refine gm 13 rfl rfl tG rfl rfl ?_
 refine gm 14 rfl rfl tG rfl rfl ?_
 refine rg 15 rfl rfl tG (op_call_pure (fun _ => a1) rfl (Opd.func _) (oS (oO rfl tO) (oS (oO rfl tO) (oS (oO rfl tO) (oS (oO rfl tO) Opds.nil))))) ?_
 refine gm 16 rfl rfl tG rfl rfl ?_
 refine gm 17 rfl rfl tG rfl rfl ?_
 refine gm 18 rfl rfl tG rfl rfl ?_
 refine gm 19 rfl rfl tG rfl rfl ?_
 refine rg 20 rfl rfl tG (op_call_pure (fun _ => b1) rfl (Opd.func _) (oS (oO rfl tO) (oS (oO rfl tO) (oS (oO rfl tO) (oS (oO rfl tO) Opds.nil))))) ?_
 refine rg 21 rfl rfl tG (op_eqlB rfl (oO rfl tO) (oO rfl tO)) ?_
 refine rp 22 rfl (op_pick_and rfl (oT rfl) (oO rfl tO)) ?_
 refine rm 23 rfl rfl rfl ?_
 refine gm 24 rfl rfl tG rfl rfl ?_
 refine gm 25 rfl rfl tG rfl rfl ?_
 refine gm 26 rfl rfl tG rfl rfl ?_
 refine gm 27 rfl rfl tG rfl rfl ?_
 refine rg 28 rfl rfl tG (op_call_pure (fun _ => a2) rfl (Opd.func _) (oS (oO rfl tO) (oS (oO rfl tO) (oS (oO rfl tO) (oS (oO rfl tO) Opds.nil))))) ?_
 refine gm 29 rfl rfl tG rfl rfl ?_
 refine gm 30 rfl rfl tG rfl rfl ?_
 refine gm 31 rfl rfl tG rfl rfl ?_
 refine gm 32 rfl rfl tG rfl rfl ?_
 refine rg 33 rfl rfl tG (op_call_pure (fun _ => b2) rfl (Opd.func _) (oS (oO rfl tO) (oS (oO rfl tO) (oS (oO rfl tO) (oS (oO rfl tO) Opds.nil))))) ?_
 refine rg 34 rfl rfl tG (op_eqlB rfl (oO rfl tO) (oO rfl tO)) ?_
 refine rp 35 rfl (op_pick_and rfl (oT rfl) (oO rfl tO)) ?_
 refine rm 36 rfl rfl rfl ?_
 refine gm 37 rfl rfl tG rfl rfl ?_
 refine gm 38 rfl rfl tG rfl rfl ?_
 refine gm 39 rfl rfl tG rfl rfl ?_
 refine gm 40 rfl rfl tG rfl rfl ?_
 refine rg 41 rfl rfl tG (op_call_pure (fun _ => a3) rfl (Opd.func _) (oS (oO rfl tO) (oS (oO rfl tO) (oS (oO rfl tO) (oS (oO rfl tO) Opds.nil))))) ?_
 refine gm 42 rfl rfl tG rfl rfl ?_
 refine gm 43 rfl rfl tG rfl rfl ?_
 refine gm 44 rfl rfl tG rfl rfl ?_
 refine gm 45 rfl rfl tG rfl rfl ?_
 refine rg 46 rfl rfl tG (op_call_pure (fun _ => b3) rfl (Opd.func _) (oS (oO rfl tO) (oS (oO rfl tO) (oS (oO rfl tO) (oS (oO rfl tO) Opds.nil))))) ?_
 refine rg 47 rfl rfl tG (op_eqlB rfl (oO rfl tO) (oO rfl tO)) ?_
 refine rp 48 rfl (op_pick_and rfl (oT rfl) (oO rfl tO)) ?_
 refine ra 8 rfl rfl rfl ?_
 refine rn ?_
 refine nK ?_
 refine s_oB hC rfl rfl ?_
 simp
theorem node_c (g : Gr) (x : Int) (hs : szOk g) : Pure Try.prog 15 [.agg (encG g), If .i64 x] (Bf (decide (0 ≤ x) && decide (x < g.r + g.n))) := by
 obtain ⟨h1, h2, h3⟩ := hs
 refine Meets.intro Try.func15 rfl (Nat.le_of_ble_eq_true rfl) fun C hC => ?_
 simp only [List.map, argEnv, Nat.reduceAdd]
 refine nK ?_
 refine s_reg rfl ?_
 refine Run.eff (dd := some 2) rfl rfl (op_box_flat rfl (oT rfl) tC rfl) ?_
 refine rp 4 rfl (op_assign rfl oC) ?_
 refine rn ?_
 refine nK ?_
 refine s_reg rfl ?_
 refine rm 5 rfl rfl rfl ?_
 refine rp 6 rfl (op_geq rfl (oT rfl) oC) ?_
 refine rm 7 rfl rfl rfl ?_
 refine gm 8 rfl rfl tG rfl rfl ?_
 refine rg 9 rfl rfl tG (op_fld_ptr (by decide) rfl (oT rfl)) ?_
 refine rk 10 rfl rfl tG (op_load1_flat rfl (oO rfl tO) tH rfl) ?_
 refine rg 11 rfl rfl tG (op_fld_ptr (by decide) rfl (oT rfl)) ?_
 refine rk 12 rfl rfl tG (op_load1_flat rfl (oO rfl tO) tH rfl) ?_
 refine rg 13 rfl rfl tG (op_add rfl (oO rfl tO) (oO rfl tO) tI) ?_
 refine rg 14 rfl rfl tG (op_lss rfl (oO rfl tO) (oO rfl tO)) ?_
 refine rp 15 rfl (op_pick_and rfl (oT rfl) (oO rfl tO)) ?_
 refine ra 4 rfl rfl rfl ?_
 refine rn ?_
 refine nK ?_
 (first | exact s_o1 hC rfl tV | exact s_o2 hC rfl tV tV | exact s_o3 hC rfl tV tV tV | exact s_out0 hC rfl | exact s_outO hC rfl rfl rfl)
theorem remote_law (g : Gr) (s e : Int) (hok : okG g) : Pure Try.prog 4 [.agg (encG g), If .i64 s, If .i64 e] (Bf true) := by
 by_cases hl : linkI g s e = 0
 ·obtain ⟨hp, h1, h2, h3, h4, h5⟩ := linkI_ok hl
  obtain ⟨hg, hN⟩ := plainI_ok hp
  obtain ⟨s, rfl⟩ : ∃ n : Nat, s = n := ⟨s.toNat, by omega⟩
  obtain ⟨e, rfl⟩ : ∃ n : Nat, e = n := ⟨e.toNat, by omega⟩
  have d := dst_of hg
  have hm := plain_m hN
  have hel := d.vg.e1024
  have hr := lrem_c g s e hok hl
  by_cases hb0 : 0 ≤ remG g s e
  ·have hv : remV g s e = remG g s e := by unfold remV; rw [if_neg (by omega)]
   rw [hv, decide_eq_true hb0] at hr
   have hsp := remL_spec (tabL g (disF g.es g.m)) s (fil (qsB (tabL g (disF g.es g.m)) s e (costL s e g.es).1) g.m) (fil (psB (tabL g (disF g.es g.m)) s e (costL s e g.es).1) g.m) (-1) (fun y hy => by obtain ⟨w, h, _⟩ := fil_mem.1 hy; omega) (.inl rfl)
   change remG g s e = -1 ∨ (remG g s e = -1 ∨ remG g s e ∈ _) ∧ (remG g s e ≠ (s : Int) ∧ remG g s e ∈ _ ∧ 0 ≤ remG g s e) at hsp
   generalize remG g s e = v at *
   clear hv
   obtain ⟨hv1, hv2, hv3, _⟩ := hsp.resolve_left (by omega)
   obtain ⟨w, hw, hwm, hps⟩ := fil_mem.1 (hv1.resolve_left (by omega))
   obtain ⟨w', hw', _, hqs⟩ := fil_mem.1 hv3
   have e1 : w' = w := by omega
   subst e1
   subst hw
   have hsm : s < g.m := by omega
   have hem : e < g.m := by omega
   have tg := fun x y (hx : x < g.m) (hy : y < g.m) => tab_get (D := disF g.es g.m) hN hx hy
   unfold psB at hps
   rw [tg s w' hsm hwm, tg e w' hem hwm] at hps
   unfold qsB at hqs
   rw [tg w' e hwm hem, tg w' s hwm hsm] at hqs
   simp only [Bool.and_eq_true, Bool.or_eq_true, decide_eq_true_eq] at hps hqs
   have hgc := cutG_check (a := (s : Int)) (b := (e : Int)) hg
   have d' := dst_of hgc
   have hokc : okG (cutG g s e) := ⟨hok.1, hok.2.1, fun x hx => hok.2.2 x (cutG_mem.1 hx).1⟩
   have hsame := cut_same d d' hN hsm hem hwm ((cost_yes d.vg.asc).1 h5) hps.1 hps.2 hqs.1 hqs.2
   have ha := rall_c g hok hg
   have ha' := rall_c (cutG g s e) hokc hgc
   have hcu := rcut_c g (s : Int) (e : Int) (by omega)
   change RT.Pure _ _ _ (.tup [.vals 1 ((tabL g (disF g.es g.m)).map encL), If .i64 0]) at ha
   change RT.Pure _ _ _ (.tup [.vals 1 ((tabL (cutG g s e) (disF (cutG g s e).es (cutG g s e).m)).map encL), If .i64 0]) at ha'
   change RT.Pure _ _ _ (.agg (encG (cutG g s e))) at hcu
   have r1 := tab_rows (D := disF g.es g.m) hN hsm
   have r2 := tab_rows (D := disF g.es g.m) hN hwm
   have r3 := tab_rows (g := cutG g s e) (D := disF (cutG g s e).es (cutG g s e).m) hN hsm
   have r4 := tab_rows (g := cutG g s e) (D := disF (cutG g s e).es (cutG g s e).m) hN hwm
   have hmc : (cutG g s e).m = g.m := rfl
   have q1 := row_row g.m (disF g.es g.m s) hwm
   have q2 := row_row g.m (disF g.es g.m w') hem
   have q3 := row_row (cutG g s e).m (disF (cutG g s e).es (cutG g s e).m s) (k := w') hwm
   have q4 := row_row (cutG g s e).m (disF (cutG g s e).es (cutG g s e).m w') (k := e) hem
   generalize disF g.es g.m = D at *
   generalize disF (cutG g s e).es (cutG g s e).m = D' at *
   have hsz := (checkI_ok hg).1
   have n1 := node_c g (w' : Int) hsz
   have n2 := node_c g (s : Int) hsz
   have n3 := node_c g (e : Int) hsz
   rw [show (decide (0 ≤ (w' : Int)) && decide ((w' : Int) < g.r + g.n)) = true by simp; omega] at n1
   rw [show (decide (0 ≤ (s : Int)) && decide ((s : Int) < g.r + g.n)) = true by simp; omega] at n2
   rw [show (decide (0 ≤ (e : Int)) && decide ((e : Int) < g.r + g.n)) = true by simp; omega] at n3
   refine Meets.intro Try.func4 rfl (Nat.le_of_ble_eq_true rfl) fun C hC => ?_
   simp only [List.map, argEnv, Nat.reduceAdd]
   refine nK ?_
   refine s_reg rfl ?_
   refine Run.eff (dd := some 3) rfl rfl (op_box_flat rfl (oT rfl) tC rfl) ?_
   refine rp 6 rfl (op_assign rfl oC) ?_
   refine rn ?_
   refine nK ?_
   refine s_reg rfl ?_
   refine rl 14 rfl (op_loadw_flat rfl (oT rfl) tH rfl) ?_
   refine rp 15 rfl (op_call_pure (fun _ => large_c _) rfl (Opd.func _) (oS (oT rfl) Opds.nil)) ?_
   refine rn ?_
   refine nK ?_
   refine n_cond _ rfl (fun hb => ?_) (fun hb => ?_)
   ·refine nK ?_
    refine s_reg rfl ?_
    refine rp 16 rfl (op_call_pure (fun _ => awake_c) rfl (Opd.func _) Opds.nil) ?_
    refine ra 6 rfl rfl rfl ?_
    refine rn ?_
    refine nK ?_
    (first | exact s_o1 hC rfl tV | exact s_o2 hC rfl tV tV | exact s_o3 hC rfl tV tV tV | exact s_out0 hC rfl | exact s_outO hC rfl rfl rfl)
   ·refine nK ?_
    refine s_reg rfl ?_
    refine rl 18 rfl (op_loadw_flat rfl (oT rfl) tH rfl) ?_
    refine rm 19 rfl rfl rfl ?_
    refine rm 20 rfl rfl rfl ?_
    refine rp 21 rfl (op_call_pure (fun _ => hr) rfl (Opd.func _) (oS (oT rfl) (oS (oT rfl) (oS (oT rfl) Opds.nil)))) ?_
    refine rm 17 rfl rfl rfl ?_
    refine rp 22 rfl (op_extract_fz rfl (oT rfl) rfl) ?_
    refine rp 23 rfl (op_extract_fz rfl (oT rfl) rfl) ?_
    refine rp 24 rfl (op_extract_fz rfl (oT rfl) rfl) ?_
    refine ra 7 rfl rfl rfl ?_
    refine ra 8 rfl rfl rfl ?_
    refine ra 9 rfl rfl rfl ?_
    refine rn ?_
    refine nK ?_
    refine s_reg rfl ?_
    refine rm 25 rfl rfl rfl ?_
    refine rp 26 rfl (op_neq rfl (oT rfl) oC) ?_
    refine rm 27 rfl rfl rfl ?_
    refine gm 28 rfl rfl tG rfl rfl ?_
    refine rg 29 rfl rfl tG (op_not rfl (oO rfl tO)) ?_
    refine rp 30 rfl (op_pick_or rfl (oT rfl) (oO rfl tO)) ?_
    refine rn ?_
    refine nK ?_
    refine n_cond _ rfl (fun hb => ?_) (fun hb => ?_)
    ·exact absurd hb (by simp)
    ·clear hb
     refine nK ?_
     refine s_reg rfl ?_
     refine rl 32 rfl (op_loadw_flat rfl (oT rfl) tH rfl) ?_
     refine rp 33 rfl (op_call_pure (fun _ => rcheck_c _ (by assumption)) rfl (Opd.func _) (oS (oT rfl) Opds.nil)) ?_
     refine rp 34 rfl (op_neq rfl (oT rfl) oC) ?_
     refine rm 35 rfl rfl rfl ?_
     refine rk 36 rfl rfl tG (op_loadw_flat rfl (oT rfl) tH rfl) ?_
     refine gm 37 rfl rfl tG rfl rfl ?_
     refine rg 38 rfl rfl tG (op_call_pure (fun _ => n1) rfl (Opd.func _) (oS (oO rfl tO) (oS (oO rfl tO) Opds.nil))) ?_
     refine rg 39 rfl rfl tG (op_not rfl (oO rfl tO)) ?_
     refine rp 40 rfl (op_pick_or rfl (oT rfl) (oO rfl tO)) ?_
     refine rm 41 rfl rfl rfl ?_
     refine rk 42 rfl rfl tG (op_loadw_flat rfl (oT rfl) tH rfl) ?_
     refine gm 43 rfl rfl tG rfl rfl ?_
     refine rg 44 rfl rfl tG (op_call_pure (fun _ => n2) rfl (Opd.func _) (oS (oO rfl tO) (oS (oO rfl tO) Opds.nil))) ?_
     refine rg 45 rfl rfl tG (op_not rfl (oO rfl tO)) ?_
     refine rp 46 rfl (op_pick_or rfl (oT rfl) (oO rfl tO)) ?_
     refine rm 47 rfl rfl rfl ?_
     refine rk 48 rfl rfl tG (op_loadw_flat rfl (oT rfl) tH rfl) ?_
     refine gm 49 rfl rfl tG rfl rfl ?_
     refine rg 50 rfl rfl tG (op_call_pure (fun _ => n3) rfl (Opd.func _) (oS (oO rfl tO) (oS (oO rfl tO) Opds.nil))) ?_
     refine rg 51 rfl rfl tG (op_not rfl (oO rfl tO)) ?_
     refine rp 52 rfl (op_pick_or rfl (oT rfl) (oO rfl tO)) ?_
     refine rn ?_
     refine nK ?_
     refine n_cond _ rfl (fun hb => ?_) (fun hb => ?_)
     ·exfalso; rw [hg] at hb; simp at hb
     ·clear hb
      refine nK ?_
      refine s_reg rfl ?_
      refine rl 54 rfl (op_loadw_flat rfl (oT rfl) tH rfl) ?_
      refine rp 55 rfl (op_call_pure (fun _ => ha) rfl (Opd.func _) (oS (oT rfl) Opds.nil)) ?_
      refine rm 53 rfl rfl rfl ?_
      refine rp 56 rfl (op_extract_fz rfl (oT rfl) rfl) ?_
      refine rp 57 rfl (op_extract_fz rfl (oT rfl) rfl) ?_
      refine ra 10 rfl rfl rfl ?_
      refine ra 11 rfl rfl rfl ?_
      refine rn ?_
      refine nK ?_
      refine s_reg rfl ?_
      refine rl 59 rfl (op_loadw_flat rfl (oT rfl) tH rfl) ?_
      refine rm 60 rfl rfl rfl ?_
      refine rm 61 rfl rfl rfl ?_
      refine rp 62 rfl (op_call_pure (fun _ => hcu) rfl (Opd.func _) (oS (oT rfl) (oS (oT rfl) (oS (oT rfl) Opds.nil)))) ?_
      refine rp 63 rfl (op_call_pure (fun _ => ha') rfl (Opd.func _) (oS (oT rfl) Opds.nil)) ?_
      refine rm 58 rfl rfl rfl ?_
      refine rp 64 rfl (op_extract_fz rfl (oT rfl) rfl) ?_
      refine rp 65 rfl (op_extract_fz rfl (oT rfl) rfl) ?_
      refine ra 12 rfl rfl rfl ?_
      refine ra 13 rfl rfl rfl ?_
      refine rn ?_
      refine nK ?_
      refine s_draw mixed ?_
      refine rp 66 rfl (op_call_pure (fun _ => awake_c) rfl (Opd.func _) Opds.nil) ?_
      refine rm 67 rfl rfl rfl ?_
      refine gm 68 rfl rfl tG rfl rfl ?_
      refine gm 69 rfl rfl tG rfl rfl ?_
      refine rg 70 rfl rfl tG (op_neq rfl (oO rfl tO) (oO rfl tO)) ?_
      refine rp 71 rfl (op_pick_and rfl (oT rfl) (oO rfl tO)) ?_
      refine rm 72 rfl rfl rfl ?_
      refine gm 73 rfl rfl tG rfl rfl ?_
      refine gm 74 rfl rfl tG rfl rfl ?_
      refine rg 75 rfl rfl tG (op_idx_fz s rfl (oO rfl tO) (oO rfl tO) (by intro _; exact ⟨rfl, r3⟩)) ?_
      refine rg 76 rfl rfl tG (op_load1_fz rfl (oO rfl tO) rfl) ?_
      refine gm 77 rfl rfl tG rfl rfl ?_
      refine rg 78 rfl rfl tG (op_idx_fz w' rfl (oO rfl tO) (oO rfl tO) (by intro _; exact ⟨rfl, q3⟩)) ?_
      refine rg 79 rfl rfl tG (op_load1_fz rfl (oO rfl tO) rfl) ?_
      refine rg 80 rfl rfl tG (op_geq rfl (oO rfl tO) oC) ?_
      refine rp 81 rfl (op_pick_and rfl (oT rfl) (oO rfl tO)) ?_
      refine rm 82 rfl rfl rfl ?_
      refine gm 83 rfl rfl tG rfl rfl ?_
      refine gm 84 rfl rfl tG rfl rfl ?_
      refine rg 85 rfl rfl tG (op_idx_fz s rfl (oO rfl tO) (oO rfl tO) (by intro _; exact ⟨rfl, r3⟩)) ?_
      refine rg 86 rfl rfl tG (op_load1_fz rfl (oO rfl tO) rfl) ?_
      refine gm 87 rfl rfl tG rfl rfl ?_
      refine rg 88 rfl rfl tG (op_idx_fz w' rfl (oO rfl tO) (oO rfl tO) (by intro _; exact ⟨rfl, q3⟩)) ?_
      refine rg 89 rfl rfl tG (op_load1_fz rfl (oO rfl tO) rfl) ?_
      refine gm 90 rfl rfl tG rfl rfl ?_
      refine gm 91 rfl rfl tG rfl rfl ?_
      refine rg 92 rfl rfl tG (op_idx_fz s rfl (oO rfl tO) (oO rfl tO) (by intro _; exact ⟨rfl, r1⟩)) ?_
      refine rg 93 rfl rfl tG (op_load1_fz rfl (oO rfl tO) rfl) ?_
      refine gm 94 rfl rfl tG rfl rfl ?_
      refine rg 95 rfl rfl tG (op_idx_fz w' rfl (oO rfl tO) (oO rfl tO) (by intro _; exact ⟨rfl, q1⟩)) ?_
      refine rg 96 rfl rfl tG (op_load1_fz rfl (oO rfl tO) rfl) ?_
      refine rg 97 rfl rfl tG (op_eql rfl (oO rfl tO) (oO rfl tO)) ?_
      refine rp 98 rfl (op_pick_and rfl (oT rfl) (oO rfl tO)) ?_
      refine rm 99 rfl rfl rfl ?_
      refine gm 100 rfl rfl tG rfl rfl ?_
      refine gm 101 rfl rfl tG rfl rfl ?_
      refine rg 102 rfl rfl tG (op_idx_fz w' rfl (oO rfl tO) (oO rfl tO) (by intro _; exact ⟨rfl, r4⟩)) ?_
      refine rg 103 rfl rfl tG (op_load1_fz rfl (oO rfl tO) rfl) ?_
      refine gm 104 rfl rfl tG rfl rfl ?_
      refine rg 105 rfl rfl tG (op_idx_fz e rfl (oO rfl tO) (oO rfl tO) (by intro _; exact ⟨rfl, q4⟩)) ?_
      refine rg 106 rfl rfl tG (op_load1_fz rfl (oO rfl tO) rfl) ?_
      refine rg 107 rfl rfl tG (op_geq rfl (oO rfl tO) oC) ?_
      refine rp 108 rfl (op_pick_and rfl (oT rfl) (oO rfl tO)) ?_
      refine rm 109 rfl rfl rfl ?_
      refine gm 110 rfl rfl tG rfl rfl ?_
      refine gm 111 rfl rfl tG rfl rfl ?_
      refine rg 112 rfl rfl tG (op_idx_fz w' rfl (oO rfl tO) (oO rfl tO) (by intro _; exact ⟨rfl, r4⟩)) ?_
      refine rg 113 rfl rfl tG (op_load1_fz rfl (oO rfl tO) rfl) ?_
      refine gm 114 rfl rfl tG rfl rfl ?_
      refine rg 115 rfl rfl tG (op_idx_fz e rfl (oO rfl tO) (oO rfl tO) (by intro _; exact ⟨rfl, q4⟩)) ?_
      refine rg 116 rfl rfl tG (op_load1_fz rfl (oO rfl tO) rfl) ?_
      refine gm 117 rfl rfl tG rfl rfl ?_
      refine gm 118 rfl rfl tG rfl rfl ?_
      refine rg 119 rfl rfl tG (op_idx_fz w' rfl (oO rfl tO) (oO rfl tO) (by intro _; exact ⟨rfl, r2⟩)) ?_
      refine rg 120 rfl rfl tG (op_load1_fz rfl (oO rfl tO) rfl) ?_
      refine gm 121 rfl rfl tG rfl rfl ?_
      refine rg 122 rfl rfl tG (op_idx_fz e rfl (oO rfl tO) (oO rfl tO) (by intro _; exact ⟨rfl, q2⟩)) ?_
      refine rg 123 rfl rfl tG (op_load1_fz rfl (oO rfl tO) rfl) ?_
      refine rg 124 rfl rfl tG (op_eql rfl (oO rfl tO) (oO rfl tO)) ?_
      refine rp 125 rfl (op_pick_and rfl (oT rfl) (oO rfl tO)) ?_
      refine ra 6 rfl rfl rfl ?_
      refine Run.nil (FinD.mk (by kernel_rfl) ?_)
      refine nK ?_
      refine s_oB hC rfl rfl ?_
      simp only [Bool.and_eq_true, decide_eq_true_eq]
      simp
      try omega
  ·have hv : remV g s e = 0 := by unfold remV; rw [if_pos (by omega)]
   rw [hv, decide_eq_false hb0] at hr
   refine Meets.intro Try.func4 rfl (Nat.le_of_ble_eq_true rfl) fun C hC => ?_
   simp only [List.map, argEnv, Nat.reduceAdd]
   refine nK ?_
   refine s_reg rfl ?_
   refine Run.eff (dd := some 3) rfl rfl (op_box_flat rfl (oT rfl) tC rfl) ?_
   refine rp 6 rfl (op_assign rfl oC) ?_
   refine rn ?_
   refine nK ?_
   refine s_reg rfl ?_
   refine rl 14 rfl (op_loadw_flat rfl (oT rfl) tH rfl) ?_
   refine rp 15 rfl (op_call_pure (fun _ => large_c _) rfl (Opd.func _) (oS (oT rfl) Opds.nil)) ?_
   refine rn ?_
   refine nK ?_
   refine n_cond _ rfl (fun hb => ?_) (fun hb => ?_)
   ·refine nK ?_
    refine s_reg rfl ?_
    refine rp 16 rfl (op_call_pure (fun _ => awake_c) rfl (Opd.func _) Opds.nil) ?_
    refine ra 6 rfl rfl rfl ?_
    refine rn ?_
    refine nK ?_
    (first | exact s_o1 hC rfl tV | exact s_o2 hC rfl tV tV | exact s_o3 hC rfl tV tV tV | exact s_out0 hC rfl | exact s_outO hC rfl rfl rfl)
   ·refine nK ?_
    refine s_reg rfl ?_
    refine rl 18 rfl (op_loadw_flat rfl (oT rfl) tH rfl) ?_
    refine rm 19 rfl rfl rfl ?_
    refine rm 20 rfl rfl rfl ?_
    refine rp 21 rfl (op_call_pure (fun _ => hr) rfl (Opd.func _) (oS (oT rfl) (oS (oT rfl) (oS (oT rfl) Opds.nil)))) ?_
    refine rm 17 rfl rfl rfl ?_
    refine rp 22 rfl (op_extract_fz rfl (oT rfl) rfl) ?_
    refine rp 23 rfl (op_extract_fz rfl (oT rfl) rfl) ?_
    refine rp 24 rfl (op_extract_fz rfl (oT rfl) rfl) ?_
    refine ra 7 rfl rfl rfl ?_
    refine ra 8 rfl rfl rfl ?_
    refine ra 9 rfl rfl rfl ?_
    refine rn ?_
    refine nK ?_
    refine s_reg rfl ?_
    refine rm 25 rfl rfl rfl ?_
    refine rp 26 rfl (op_neq rfl (oT rfl) oC) ?_
    refine rm 27 rfl rfl rfl ?_
    refine gm 28 rfl rfl tG rfl rfl ?_
    refine rg 29 rfl rfl tG (op_not rfl (oO rfl tO)) ?_
    refine rp 30 rfl (op_pick_or rfl (oT rfl) (oO rfl tO)) ?_
    refine rn ?_
    refine nK ?_
    refine n_cond _ rfl (fun hb => ?_) (fun hb => ?_)
    ·refine nK ?_
     refine s_reg rfl ?_
     refine rp 31 rfl (op_call_pure (fun _ => awake_c) rfl (Opd.func _) Opds.nil) ?_
     refine ra 6 rfl rfl rfl ?_
     refine rn ?_
     refine nK ?_
     (first | exact s_o1 hC rfl tV | exact s_o2 hC rfl tV tV | exact s_o3 hC rfl tV tV tV | exact s_out0 hC rfl | exact s_outO hC rfl rfl rfl)
    ·exact absurd hb (by simp)
 ·have hr := lrem_bad g s e hok hl
  refine Meets.intro Try.func4 rfl (Nat.le_of_ble_eq_true rfl) fun C hC => ?_
  simp only [List.map, argEnv, Nat.reduceAdd]
  refine nK ?_
  refine s_reg rfl ?_
  refine Run.eff (dd := some 3) rfl rfl (op_box_flat rfl (oT rfl) tC rfl) ?_
  refine rp 6 rfl (op_assign rfl oC) ?_
  refine rn ?_
  refine nK ?_
  refine s_reg rfl ?_
  refine rl 14 rfl (op_loadw_flat rfl (oT rfl) tH rfl) ?_
  refine rp 15 rfl (op_call_pure (fun _ => large_c _) rfl (Opd.func _) (oS (oT rfl) Opds.nil)) ?_
  refine rn ?_
  refine nK ?_
  refine n_cond _ rfl (fun hb => ?_) (fun hb => ?_)
  ·refine nK ?_
   refine s_reg rfl ?_
   refine rp 16 rfl (op_call_pure (fun _ => awake_c) rfl (Opd.func _) Opds.nil) ?_
   refine ra 6 rfl rfl rfl ?_
   refine rn ?_
   refine nK ?_
   (first | exact s_o1 hC rfl tV | exact s_o2 hC rfl tV tV | exact s_o3 hC rfl tV tV tV | exact s_out0 hC rfl | exact s_outO hC rfl rfl rfl)
  ·refine nK ?_
   refine s_reg rfl ?_
   refine rl 18 rfl (op_loadw_flat rfl (oT rfl) tH rfl) ?_
   refine rm 19 rfl rfl rfl ?_
   refine rm 20 rfl rfl rfl ?_
   refine rp 21 rfl (op_call_pure (fun _ => hr) rfl (Opd.func _) (oS (oT rfl) (oS (oT rfl) (oS (oT rfl) Opds.nil)))) ?_
   refine rm 17 rfl rfl rfl ?_
   refine rp 22 rfl (op_extract_fz rfl (oT rfl) rfl) ?_
   refine rp 23 rfl (op_extract_fz rfl (oT rfl) rfl) ?_
   refine rp 24 rfl (op_extract_fz rfl (oT rfl) rfl) ?_
   refine ra 7 rfl rfl rfl ?_
   refine ra 8 rfl rfl rfl ?_
   refine ra 9 rfl rfl rfl ?_
   refine rn ?_
   refine nK ?_
   refine s_reg rfl ?_
   refine rm 25 rfl rfl rfl ?_
   refine rp 26 rfl (op_neq rfl (oT rfl) oC) ?_
   refine rm 27 rfl rfl rfl ?_
   refine gm 28 rfl rfl tG rfl rfl ?_
   refine rg 29 rfl rfl tG (op_not rfl (oO rfl tO)) ?_
   refine rp 30 rfl (op_pick_or rfl (oT rfl) (oO rfl tO)) ?_
   refine rn ?_
   refine nK ?_
   refine n_cond _ rfl (fun hb => ?_) (fun hb => ?_)
   ·refine nK ?_
    refine s_reg rfl ?_
    refine rp 31 rfl (op_call_pure (fun _ => awake_c) rfl (Opd.func _) Opds.nil) ?_
    refine ra 6 rfl rfl rfl ?_
    refine rn ?_
    refine nK ?_
    (first | exact s_o1 hC rfl tV | exact s_o2 hC rfl tV tV | exact s_o3 hC rfl tV tV tV | exact s_out0 hC rfl | exact s_outO hC rfl rfl rfl)
   ·exact absurd hb (by simp [hl])
end Go.Proofs.Ytnkhlbljnmodbaa
/- How the arguments of the rows read. -/
namespace Go.Proofs.Ytnkhlbljnmodbaa
open Go Go.RT Go.Proofs Go.Pl
set_option linter.all false
variable {H : Type} {enc : TypeId × Value → H} {W : World} {ok : DataW H → Prop} {B : Nat}
theorem rdc_n : RdC ok enc Try.prog W 3 (fun fs => ∃ n, inr .i64 n ∧ fs = [If .i64 n]) := rdc_int (P := Try.prog) (t := 3) inferInstance
theorem rdc_edge (dn : DnOk H ok B) : RdC ok enc Try.prog W 56 (fun fs => ∃ e : Edg, okE e ∧ fs = encE e) :=
  (rdc_struct (P := Try.prog) (t := 56) dn Try.underlying56 (by kernel_rfl) (.cons _ _ _ _ rdc_n (.cons _ _ _ _ rdc_n (.cons _ _ _ _ rdc_n .nil)))).imp fun fs h => by
    obtain ⟨_, _, rfl, ⟨a, ha, rfl⟩, _, _, rfl, ⟨b, hb, rfl⟩, _, _, rfl, ⟨c, hc, rfl⟩, rfl⟩ := h
    exact ⟨⟨a, b, c⟩, ⟨ha, hb, hc⟩, rfl⟩
theorem rdc_edges (dn : DnOk H ok B) : RdC ok enc Try.prog W 25 (fun fs => ∃ l : List Edg, okEs l ∧ l.length ≤ B ∧ fs = [VE l]) :=
  (rdc_slice (P := Try.prog) (t := 25) (e := 56) dn inferInstance inferInstance (by decide) (rdc_edge dn)).imp fun fs h => by
    obtain ⟨rows, hr, hl, rfl⟩ := h
    obtain ⟨l, rfl, ho⟩ := rows_of (fun fs h => h) hr
    exact ⟨l, ho, by simpa using hl, rfl⟩
theorem rdc_graph (dn : DnOk H ok B) : RdC ok enc Try.prog W 27 (fun fs => ∃ g : Gr, okG g ∧ g.es.length ≤ B ∧ fs = encG g) :=
  (rdc_struct (P := Try.prog) (t := 27) dn Try.underlying27 (by kernel_rfl) (.cons _ _ _ _ rdc_n (.cons _ _ _ _ rdc_n (.cons _ _ _ _ (rdc_edges dn) .nil)))).imp fun fs h => by
    obtain ⟨_, _, rfl, ⟨a, ha, rfl⟩, _, _, rfl, ⟨b, hb, rfl⟩, _, _, rfl, ⟨l, hl, hB, rfl⟩, rfl⟩ := h
    exact ⟨⟨a, b, l⟩, ⟨ha, hb, hl⟩, hB, rfl⟩
theorem rdc_ints (dn : DnOk H ok B) : RdC ok enc Try.prog W 37 (fun fs => ∃ l : List Int, (∀ x ∈ l, inr .i64 x) ∧ l.length ≤ B ∧ fs = [VI l]) :=
  (rdc_slice (P := Try.prog) (t := 37) (e := 3) dn inferInstance inferInstance (by decide) rdc_n).imp fun fs h => by
    obtain ⟨rows, hr, hl, rfl⟩ := h
    obtain ⟨l, rfl, ho⟩ := rows_of (enc := encN) (fun fs h => h) hr
    exact ⟨l, ho, by simpa using hl, rfl⟩
theorem rdc_lists (dn : DnOk H ok B) : RdC ok enc Try.prog W 22 (fun fs => ∃ ll : List (List Int), (∀ l ∈ ll, (∀ x ∈ l, inr .i64 x) ∧ l.length ≤ B) ∧ ll.length ≤ B ∧ fs = [VLL ll]) :=
  (rdc_slice (P := Try.prog) (t := 22) (e := 37) dn inferInstance inferInstance (by decide) (rdc_ints dn)).imp fun fs h => by
    obtain ⟨rows, hr, hl, rfl⟩ := h
    obtain ⟨l, rfl, ho⟩ := rows_of (enc := encL) (ok := fun l => (∀ x ∈ l, inr .i64 x) ∧ l.length ≤ B) (fun fs h => by obtain ⟨l, h1, h2, h3⟩ := h; exact ⟨l, ⟨h1, h2⟩, h3⟩) hr
    exact ⟨l, ho, by simpa using hl, rfl⟩
end Go.Proofs.Ytnkhlbljnmodbaa
