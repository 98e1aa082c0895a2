/- A part of the proof: X118, X119, X11, X12, SRT1, X13, X14, X15, X16, X17, X18, X19, X20, X30, X31, X32, IP1, IP2, IP3, IP4, ST1, ST2, ST5, ST6, IP5, IP6, X200, X201, X202. -/
import Derived.Test.YtcillieggklaaaaGreatZD
import Derived.Shelf.SlSortCmp.Whole1
set_option linter.all false
namespace Go.Proofs.YtcillieggklaaaaGreat
open Go Go.RT Go.Proofs Go.Pl
set_option linter.all false
set_option maxRecDepth 20000
set_option maxHeartbeats 4000000
theorem wHX118a {α : Prop} (h : α := by repeat (first | exact trivial | refine ⟨wS, ?_⟩ | refine ⟨ent_same rfl rfl (rfEq rfl tU) tL, ?_⟩ | refine ⟨ent_same rfl rfl (flEq rfl (by first | (simp; done) | (simp; omega) | (simp [encE, encN, encB]; done) | simp [maxC, minC])) trivial, ?_⟩)) : α := h
theorem ordbs (x : Edg) (l : List Edg) (hn : l.length ≤ 2000000) : Pure Tryz.prog 75 [VE l, .agg (encE x), .clo 51 []] (.tup [If .i64 (bsAt l x : Nat), Bf (bsHit l x)]) := bsearch_c l x hn 51 [] ordE (fun a b => order_c a b)
theorem change_c (g : Gr) (c : Edg) (hs : szOk g) (hn : g.es.length ≤ 1999999) : Meets Tryz.prog 55 [.ptr 0 3 0 0, .fz (.agg (encE c))] 2 [(0, some (.refs 3 [[IV .i64 g.r, IV .i64 g.n, .sl 1 3 0 g.es.length]])), (1, OE g.es)] (IV .i64 (chgF g c).2) [(0, some (.refs 3 [[IV .i64 g.r, IV .i64 g.n, .sl 2 3 0 (chgF g c).1.es.length]])), (2, OE (chgF g c).1.es)] 3 := by
 have hbs := ordbs c g.es (by omega)
 have hin := fun x => isnode_c g x hs
 have hal := allowed_c g c hs
 have hhit : bsHit g.es c = true → ∃ h : bsAt g.es c < g.es.length, g.es[bsAt g.es c].f = c.f ∧ g.es[bsAt g.es c].t = c.t := fun h => by
  obtain ⟨h1, h2⟩ := hitAt_lt h
  exact ⟨h1, by simpa [ordE_zero] using h2⟩
 have hble := (bsGo_le (fun e => decide (ordE e c < 0)) g.es (g.es.length) 0 g.es.length (by omega) (Nat.zero_le _) (Nat.le_refl _)).2
 unfold chgF
 have hble : bsAt g.es c ≤ g.es.length := hble
 generalize bsAt g.es c = k at *
 generalize bsHit g.es c = hit at *
 refine Meets.intro Tryz.func55 rfl (Nat.le_of_ble_eq_true rfl) fun C hC => ?_
 simp only [List.map, argEnv, Nat.reduceAdd]
 refine nK ?_
 refine zb ?_
 refine zq ?_
 refine ze ?_
 refine zc ?_
 refine nK ?_
 refine zb ?_
 refine zg ?_
 refine zh ?_
 refine zg ?_
 refine zh ?_
 refine zg ?_
 refine zh ?_
 refine zdb ?_
 refine zu ?_
 refine zr ?_
 refine zc ?_
 refine nK ?_
 refine s_draw mixed ?_
 refine za ?_
 refine zba ?_
 refine rlZ 18 rfl (op_loadn_refs rfl (oT rfl) tH tR tR) ?_
 refine zg ?_
 refine zh ?_
 refine rlZ 21 rfl (op_call_lend (args := [.agg (encG g), If .i64 c.f]) [1] (fun _ => hin c.f) rfl (Opd.func _) (oS (oT rfl) (oS (oT rfl) Opds.nil)) (by exact .cons _ _ _ _ tW (.cons _ _ _ _ tW .nil)) rfl rfl) ?_
 refine zbj ?_
 refine za ?_
 refine zf ?_
 refine zcm ?_
 refine rkZ 26 rfl rfl tG (op_loadn_refs rfl (oO rfl tO) tH tR tR) ?_
 refine zn ?_
 refine zm ?_
 refine rkZ 29 rfl rfl tG (op_call_lend (args := [.agg (encG g), If .i64 c.t]) [1] (fun _ => hin c.t) rfl (Opd.func _) (oS (oO rfl tO) (oS (oO rfl tO) Opds.nil)) (by exact .cons _ _ _ _ tW (.cons _ _ _ _ tW .nil)) rfl rfl) ?_
 refine zbl ?_
 refine zv ?_
 refine zs ?_
 refine nK ?_
 refine n_cond _ rfl (fun hb => ?_) (fun hb => ?_)
 ·have hz : nodeB g c.f = false ∨ nodeB g c.t = false := by simpa using hb
  rw [if_pos hz]
  refine nK ?_
  refine zb ?_
  refine ze ?_
  refine zc ?_
  refine nK ?_
  (refine Next.weak [0, 1] [] (by rfl) (keepsN hC _ rfl) (G' := [(4, .fz _)]) (H' := [(0, some (.refs 3 [[IV .i64 g.r, IV .i64 g.n, .sl 1 3 0 g.es.length]])), (1, OE g.es)]) wG wHX118a wN ?_; refine Next.retagCell 0 0 2 rfl rfl rfl rfl rfl ?_; refine Next.weak [0, 1, 2] [] (by rfl) (keepsN hC _ rfl) (G' := [(4, .fz _)]) (H' := [(0, some (.refs 3 [[IV .i64 g.r, IV .i64 g.n, .sl 2 3 0 g.es.length]])), (2, OE g.es)]) wG wHX118a wN ?_; exact n_out1 rfl (by rfl) rfl rfl)
 have hz : ¬ (nodeB g c.f = false ∨ nodeB g c.t = false) := by simpa using hb
 rw [if_neg hz]
 refine nK ?_
 refine s_draw mixed ?_
 refine za ?_
 refine zba ?_
 refine zg ?_
 refine zy ?_
 refine zk ?_
 refine rlZ 38 rfl (op_call_lend [1] (fun _ => hbs) rfl (Opd.func _) (.cons _ _ _ _ (oT rfl) (.cons _ _ _ _ (oT rfl) (.cons _ _ _ _ (Opd.funcF _) .nil))) (by exact .cons _ _ _ _ tW (.cons _ _ _ _ tW (.cons _ _ _ _ tW .nil))) rfl rfl) ?_
 refine za ?_
 refine zi ?_
 refine zi ?_
 refine zd ?_
 refine zd ?_
 refine zs ?_
 refine nK ?_
 refine zb ?_
 refine zg ?_
 refine zh ?_
 refine zbn ?_
 refine zc ?_
 refine nK ?_
 refine n_cond _ rfl (fun hb => ?_) (fun hb => ?_)
 ·rw [if_pos (by simpa using hb)]
  refine nK ?_
  refine zb ?_
  refine za ?_
  refine zbj ?_
  refine zc ?_
  refine nK ?_
  refine n_cond _ rfl (fun hb => ?_) (fun hb => ?_)
  ·have hz2 : hit = false := by simpa using hb
   rw [if_pos hz2]
   refine nK ?_
   refine zb ?_
   refine ze ?_
   refine zc ?_
   refine nK ?_
   (refine Next.weak [0, 1] [] (by rfl) (keepsN hC _ rfl) (G' := [(4, .fz _)]) (H' := [(0, some (.refs 3 [[IV .i64 g.r, IV .i64 g.n, .sl 1 3 0 g.es.length]])), (1, OE g.es)]) wG wHX118a wN ?_; refine Next.retagCell 0 0 2 rfl rfl rfl rfl rfl ?_; refine Next.weak [0, 1, 2] [] (by rfl) (keepsN hC _ rfl) (G' := [(4, .fz _)]) (H' := [(0, some (.refs 3 [[IV .i64 g.r, IV .i64 g.n, .sl 2 3 0 g.es.length]])), (2, OE g.es)]) wG wHX118a wN ?_; exact n_out1 rfl (by rfl) rfl rfl)
  have hz2 : hit = true := by simpa using hb
  subst hz2
  obtain ⟨hk, _⟩ := hhit rfl
  have hdl := delete_c g.es 0 k (k + 1) (by omega) (by omega) (by omega)
  have hdn := delL_len g.es k (k + 1) (by omega) (by omega)
  have e1 : k + 1 - k = 1 := by omega
  rw [e1] at hdn
  simp only [List.replicate_zero, List.append_nil, e1, Nat.zero_add] at hdl
  rw [if_neg (by simp)]
  have hrl : (List.map encE (delL g.es k (k + 1)) ++ List.replicate 1 (encE zE)).take (g.es.length - 1) = (delL g.es k (k + 1)).map encE := by
   rw [List.take_append_of_le_length (by simp; omega), List.take_of_length_le (by simp; omega)]
  refine nK ?_
  refine zb ?_
  refine za ?_
  refine za ?_
  refine zba ?_
  refine zg ?_
  refine zy ?_
  refine za ?_
  refine za ?_
  refine zl ?_
  refine Run.eff (dd := some 54) rfl rfl (op_call (n := 1) (n' := 1) [1] (fun _ => hdl) rfl (Opd.func _) (oS (oT rfl) (oS (oT rfl) (oS (oT rfl) Opds.nil))) rfl rfl (Lent.of rfl rfl (by exact ⟨⟨rfl, rfl, rfl, trivial⟩, trivial⟩) rfl) rfl rfl rfl rfl rfl) ?_
  refine zba ?_
  refine zg ?_
  refine zcp ?_
  refine zc ?_
  refine nK ?_
  refine zb ?_
  refine ze ?_
  refine zc ?_
  refine nK ?_
  refine Next.trim 1 (g.es.length - 1) rfl ?_
  refine Next.weak [0, 1] [] (by rfl) (keepsN hC _ rfl) (G' := [(4, IV .i64 0)]) (H' := [(0, some (.refs 3 [[IV .i64 g.r, IV .i64 g.n, .sl 1 3 0 (delL g.es k (k + 1)).length]])), (1, OE (delL g.es k (k + 1)))]) wG (by exact ⟨ent_same rfl rfl (by rw [hdn]; rfl) tL, ent_same rfl rfl (flEq rfl (by rw [List.map_append]; exact hrl)) trivial, trivial⟩) wN ?_
  refine Next.retagCell 0 0 2 rfl rfl rfl rfl rfl ?_
  refine Next.weak [0, 1, 2] [] (by rfl) (keepsN hC _ rfl) (G' := [(4, .fz _)]) (H' := [(0, some (.refs 3 [[IV .i64 g.r, IV .i64 g.n, .sl 2 3 0 (delL g.es k (k + 1)).length]])), (2, OE (delL g.es k (k + 1)))]) wG wHX118a wN ?_
  exact n_out1 rfl (by rfl) rfl rfl
 rw [if_neg (by simpa using hb)]
 refine nK ?_
 refine s_draw mixed ?_
 refine za ?_
 refine zba ?_
 refine rlZ 59 rfl (op_loadn_refs rfl (oT rfl) tH tR tR) ?_
 refine zk ?_
 refine rlZ 61 rfl (op_call_lend (args := [.agg (encG g), .agg (encE c)]) [1] (fun _ => hal) rfl (Opd.func _) (oS (oT rfl) (oS (oT rfl) Opds.nil)) (by exact .cons _ _ _ _ tW (.cons _ _ _ _ tW .nil)) rfl rfl) ?_
 refine zd ?_
 refine zs ?_
 refine nK ?_
 refine zb ?_
 refine za ?_
 refine zbd ?_
 refine zc ?_
 refine nK ?_
 refine n_cond _ rfl (fun hb => ?_) (fun hb => ?_)
 ·have hz2 : alwI g c ≠ 0 := by simpa using hb
  rw [if_pos hz2]
  refine nK ?_
  refine zb ?_
  refine za ?_
  refine zd ?_
  refine zc ?_
  refine nK ?_
  (refine Next.weak [0, 1] [] (by rfl) (keepsN hC _ rfl) (G' := [(4, .fz _)]) (H' := [(0, some (.refs 3 [[IV .i64 g.r, IV .i64 g.n, .sl 1 3 0 g.es.length]])), (1, OE g.es)]) wG wHX118a wN ?_; refine Next.retagCell 0 0 2 rfl rfl rfl rfl rfl ?_; refine Next.weak [0, 1, 2] [] (by rfl) (keepsN hC _ rfl) (G' := [(4, .fz _)]) (H' := [(0, some (.refs 3 [[IV .i64 g.r, IV .i64 g.n, .sl 2 3 0 g.es.length]])), (2, OE g.es)]) wG wHX118a wN ?_; exact n_out1 rfl (by rfl) rfl rfl)
 have hz2 : ¬ (alwI g c ≠ 0) := by simpa using hb
 rw [if_neg hz2]
 have hq : ∃ q : Edg, (hit = true → g.es[k]? = some q ∧ q.f = c.f ∧ q.t = c.t) := by
  cases hit with
  | false => exact ⟨c, fun h => by cases h⟩
  | true => obtain ⟨h1, h2⟩ := hhit rfl; exact ⟨g.es[k], fun _ => ⟨List.getElem?_eq_getElem h1, h2⟩⟩
 obtain ⟨q, hq⟩ := hq
 have hrow : hit = true → (g.es.map encE)[k]? = some (encE q) := fun h => by rw [List.getElem?_map, (hq h).1]; rfl
 have hkl : hit = true → k < g.es.length := fun h => (List.getElem?_eq_some_iff.1 (hq h).1).1
 refine nK ?_
 refine s_draw mixed ?_
 refine za ?_
 refine za ?_
 refine zf ?_
 refine zcm ?_
 refine zcq ?_
 refine zcr ?_
 refine zf ?_
 refine rgZ 73 rfl rfl tG (op_idx_sl0 k rfl (oO rfl tO) (oO rfl tO) (by intro h; simp at h; exact ⟨rfl, hkl h⟩)) ?_
 refine rkZ 74 rfl rfl tG (op_loadw_flat rfl (oO rfl tO) (by intro h; simp at h; exact ⟨rfl, hrow h⟩) rfl) ?_
 refine zbe ?_
 refine rgZ 76 rfl rfl tG (op_neS rfl (oO rfl tO) (oO rfl tO) (by kernel_rfl)) ?_
 refine zt ?_
 refine zd ?_
 refine zs ?_
 refine nK ?_
 refine n_cond _ rfl (fun hb => ?_) (fun hb => ?_)
 ·have hb2 : hit = true ∧ q ≠ c := by have e : eqFs (encE q) [If .i64 c.f, If .i64 c.t, If .i64 c.c] = decide (q = c) := eqFs_encE q c; simpa [e] using hb
  obtain ⟨hh, hqc⟩ := hb2
  have hr := hrow hh
  have hlt := hkl hh
  subst hh
  rw [if_pos rfl]
  refine nK ?_
  refine s_draw mixed ?_
  refine za ?_
  refine zba ?_
  refine zg ?_
  refine zy ?_
  refine za ?_
  refine zk ?_
  refine rpZ 84 rfl (op_idx_sl0 k rfl (oT rfl) (oT rfl) (by intro _; exact ⟨rfl, hlt⟩)) ?_
  refine Run.effW (dd := none) rfl rfl (op_store_flat rfl (oT rfl) (oT rfl) tC rfl rfl hr tS) (by first | exact ext_call | exact tE) ?_
  refine zs ?_
  refine nK ?_
  refine zb ?_
  refine ze ?_
  refine zc ?_
  refine nK ?_
  refine Next.weak [0, 1] [] (by rfl) (keepsN hC _ rfl) (G' := [(4, IV .i64 0)]) (H' := [(0, some (.refs 3 [[IV .i64 g.r, IV .i64 g.n, .sl 1 3 0 (g.es.set k c).length]])), (1, OE (g.es.set k c))]) wG (by exact ⟨ent_same rfl rfl (by rw [List.length_set]; rfl) tL, ent_same rfl rfl (flEq rfl (by rw [List.map_set]; rfl)) trivial, trivial⟩) wN ?_
  refine Next.retagCell 0 0 2 rfl rfl rfl rfl rfl ?_
  refine Next.weak [0, 1, 2] [] (by rfl) (keepsN hC _ rfl) (G' := [(4, .fz _)]) (H' := [(0, some (.refs 3 [[IV .i64 g.r, IV .i64 g.n, .sl 2 3 0 (g.es.set k c).length]])), (2, OE (g.es.set k c))]) wG wHX118a wN ?_
  exact n_out1 rfl (by rfl) rfl rfl
 have hb2 : hit = true → q = c := by have e : eqFs (encE q) [If .i64 c.f, If .i64 c.t, If .i64 c.c] = decide (q = c) := eqFs_encE q c; simpa [e] using hb
 refine nK ?_
 refine zb ?_
 refine za ?_
 refine zbj ?_
 refine za ?_
 refine zf ?_
 refine zcm ?_
 refine zcq ?_
 refine zcr ?_
 refine rgZ 93 rfl rfl tG (op_len_sl rfl (oO rfl tO)) ?_
 refine zce ?_
 refine zt ?_
 refine zd ?_
 refine zc ?_
 refine nK ?_
 refine n_cond _ rfl (fun hb => ?_) (fun hb => ?_)
 ·have hb3 : hit = false ∧ g.es.length = 1024 := by simp at hb; exact ⟨hb.1, by omega⟩
  rw [if_neg (by rw [hb3.1]; simp), if_pos hb3.2]
  refine nK ?_
  refine zb ?_
  refine ze ?_
  refine zc ?_
  refine nK ?_
  (refine Next.weak [0, 1] [] (by rfl) (keepsN hC _ rfl) (G' := [(4, .fz _)]) (H' := [(0, some (.refs 3 [[IV .i64 g.r, IV .i64 g.n, .sl 1 3 0 g.es.length]])), (1, OE g.es)]) wG wHX118a wN ?_; refine Next.retagCell 0 0 2 rfl rfl rfl rfl rfl ?_; refine Next.weak [0, 1, 2] [] (by rfl) (keepsN hC _ rfl) (G' := [(4, .fz _)]) (H' := [(0, some (.refs 3 [[IV .i64 g.r, IV .i64 g.n, .sl 2 3 0 g.es.length]])), (2, OE g.es)]) wG wHX118a wN ?_; exact n_out1 rfl (by rfl) rfl rfl)
 have hb3 : hit = false → g.es.length ≠ 1024 := by simp at hb; intro h; have := hb h; omega
 refine nK ?_
 refine zb ?_
 refine za ?_
 refine zbj ?_
 refine zd ?_
 refine zc ?_
 refine nK ?_
 refine n_cond _ rfl (fun hb => ?_) (fun hb => ?_)
 ·have hh : hit = false := by simpa using hb
  subst hh
  have hins := insert_c g.es c k (by omega) hble
  have hil := insL_len g.es k c hble
  rw [if_neg (by simp), if_neg (hb3 rfl)]
  refine nK ?_
  refine s_draw mixed ?_
  refine za ?_
  refine za ?_
  refine zba ?_
  refine zg ?_
  refine zy ?_
  refine za ?_
  refine zk ?_
  refine zde ?_
  refine Run.effW (dd := some 107) rfl rfl (op_call (n := 2) (n' := 3) [1, 4] (fun _ => hins) rfl (Opd.func _) (oS (oT rfl) (oS (oT rfl) (oS (oT rfl) Opds.nil))) rfl rfl (Lent.of rfl rfl (by exact ⟨⟨rfl, rfl, rfl, trivial⟩, ⟨rfl, rfl, rfl, trivial⟩, trivial⟩) rfl) rfl rfl rfl rfl rfl) (by first | exact ext_call | exact tE) ?_
  refine zba ?_
  refine zg ?_
  refine Run.effW (dd := none) rfl rfl (op_store_refs rfl (oT rfl) (oT rfl) tP rfl rfl rfl tS) (by first | exact ext_call | exact tE) ?_
  refine zs ?_
  refine nK ?_
  refine zb ?_
  refine ze ?_
  refine zc ?_
  refine nK ?_
  refine Next.weak [0, 1, 5] [] (by rfl) (keepsN hC _ rfl) (G' := [(4, IV .i64 0)]) (H' := [(0, some (.refs 3 [[IV .i64 g.r, IV .i64 g.n, .sl 2 3 0 (insL g.es k c).length]])), (2, OE (insL g.es k c))]) wG (by exact ⟨ent_same rfl rfl (by rw [hil]; rfl) tL, ent_same rfl rfl rfl trivial, trivial⟩) wN ?_
  exact n_out1 rfl (by rfl) rfl rfl
 have hh : hit = true := by simpa using hb
 subst hh
 obtain ⟨h1, _, _⟩ := hq rfl
 have hset : g.es.set k c = g.es := by
  rw [hb2 rfl] at h1
  exact List.ext_getElem? fun j => by
   rw [List.getElem?_set]
   by_cases hj : k = j
   ·subst hj; rw [if_pos rfl, if_pos (hkl rfl)]; exact h1.symm
   rw [if_neg hj]
 rw [if_pos rfl, hset]
 refine nK ?_
 refine zb ?_
 refine ze ?_
 refine zc ?_
 refine nK ?_
 (refine Next.weak [0, 1] [] (by rfl) (keepsN hC _ rfl) (G' := [(4, .fz _)]) (H' := [(0, some (.refs 3 [[IV .i64 g.r, IV .i64 g.n, .sl 1 3 0 g.es.length]])), (1, OE g.es)]) wG wHX118a wN ?_; refine Next.retagCell 0 0 2 rfl rfl rfl rfl rfl ?_; refine Next.weak [0, 1, 2] [] (by rfl) (keepsN hC _ rfl) (G' := [(4, .fz _)]) (H' := [(0, some (.refs 3 [[IV .i64 g.r, IV .i64 g.n, .sl 2 3 0 g.es.length]])), (2, OE g.es)]) wG wHX118a wN ?_; exact n_out1 rfl (by rfl) rfl rfl)
open Go Go.RT Go.Proofs Go.Pl
set_option maxRecDepth 20000
set_option maxHeartbeats 4000000
theorem apply_c (g : Gr) (cs : List Edg) (hg : okG g) (hl : cs.length ≤ 9223372036854775807) : Pure Tryz.prog 26 [.agg (encG g), VE cs] (.tup [.agg (encG (applyF g cs).1), If .i64 (applyF g cs).2]) := by
 unfold applyF
 refine Meets.intro Tryz.func26 rfl (Nat.le_of_ble_eq_true rfl) fun C hC => ?_
 simp only [List.map, argEnv, Nat.reduceAdd]
 refine nK ?_
 refine zb ?_
 refine zq ?_
 refine zu ?_
 refine ze ?_
 refine zc ?_
 refine nK ?_
 refine zb ?_
 refine zk ?_
 refine rpZ 11 rfl (op_call_pure (fun _ => check_c _ (by assumption)) rfl (Opd.func _) (oS (oT rfl) Opds.nil)) ?_
 refine zd ?_
 refine zc ?_
 refine nK ?_
 refine zb ?_
 refine za ?_
 refine zbd ?_
 refine zc ?_
 refine nK ?_
 refine n_cond _ rfl (fun hb => ?_) (fun hb => ?_)
 ·rw [if_pos (by simpa using hb)]
  refine nK ?_
  refine zb ?_
  refine zbm ?_
  refine za ?_
  refine zr ?_
  refine zd ?_
  refine zc ?_
  refine nK ?_
  refine Next.weakS [4] [] (by rfl) (keeps0 hC _) (G' := [(4, .ptr 0 3 0 0), (5, IV .i64 (checkI g))]) (H' := [(0, OG zeroG)]) wG (by exact ⟨⟨rfl, rfl, .fflat _ _ _ rfl tW⟩, trivial⟩) rfl ?_
  exact wO hC
 have hz : checkI g = 0 := by simpa using hb
 obtain ⟨hs, hlen, _⟩ := checkI_ok hz
 have hasc := check_asc hz
 have hcl := clone_c g.es (by omega)
 rw [if_neg (by simp [hz])]
 refine nK ?_
 refine Next.toRefs 0 rfl rfl ?_
 refine nK ?_
 refine zb ?_
 refine zg ?_
 refine zy ?_
 refine Run.eff (dd := some 18) rfl rfl (op_call_fresh (fun _ => hcl) rfl (Opd.func _) (oS (oT rfl) Opds.nil)) ?_
 refine zg ?_
 refine zcp ?_
 refine zc ?_
 refine nK ?_
 refine zb ?_
 refine za ?_
 refine zo ?_
 refine zbb ?_
 refine zc ?_
 refine nK ?_
 refine n_loop (ι := Nat × List Edg) (fun s => ([(2, .ptr 0 3 0 0), (4, .ptr 1 3 0 0), (20, .fz (VE cs)), (21, IV .i64 cs.length), (22, IV .i64 s.1)], [(0, some (.refs 3 [[IV .i64 g.r, IV .i64 g.n, .sl 2 3 0 s.2.length]])), (1, OG zeroG), (2, OE s.2)], 3)) (fun s => s.1 ≤ cs.length ∧ s.2.length ≤ 1024 ∧ AscK s.2 ∧ appL ⟨g.r, g.n, s.2⟩ (cs.drop s.1) = appL g cs) (fun s => cs.length - s.1) (0, g.es) ⟨Nat.zero_le _, hlen, hasc, rfl⟩ ?_ ?_
 ·refine Next.weak [0, 1, 2] [] (by rfl) (keeps0 hC _) wG (by exact ⟨wS, ⟨⟨rfl, rfl, .fflat _ _ _ rfl tW⟩, ⟨wS, trivial⟩⟩⟩) wN rel_intro
 intro ⟨i, es⟩ ⟨hi, hel, hea, hap⟩ K hK
 dsimp only at hi hel hea hap ⊢
 refine nK ?_
 refine zb ?_
 refine zp ?_
 refine zc ?_
 refine nK ?_
 refine n_cond _ rfl (fun hb => ?_) (fun hb => ?_)
 ·have hlt : i < cs.length := by simp at hb; omega
  have hr1 := row_at' encE cs i hlt
  have hKn := fun es' a b h => hK (i + 1, es') ⟨by dsimp only; omega, a, b, h⟩ (by dsimp only; omega)
  rw [List.drop_eq_getElem_cons hlt] at hap
  simp only [appL] at hap
  generalize cs[i] = c at *
  have hch := change_c ⟨g.r, g.n, es⟩ c hs (by dsimp only; omega)
  have hceq := (chg_eq (g := ⟨g.r, g.n, es⟩) (c := c) hea hel).2
  have hrn : (chgF ⟨g.r, g.n, es⟩ c).2 = 0 → (chgF ⟨g.r, g.n, es⟩ c).1 = ⟨g.r, g.n, (chgF ⟨g.r, g.n, es⟩ c).1.es⟩ := fun h => by
   obtain ⟨_, _, _, h4, h5⟩ := hceq h
   generalize (chgF ⟨g.r, g.n, es⟩ c).1 = z at *
   cases z; simp_all
  generalize chgF ⟨g.r, g.n, es⟩ c = r at *
  refine nK ?_
  refine zb ?_
  refine zz ?_
  refine zbf ?_
  refine zu ?_
  refine zr ?_
  refine zc ?_
  refine nK ?_
  refine zb ?_
  refine zk ?_
  refine Run.eff (dd := some 27) rfl rfl (op_call (n := 2) (n' := 3) [0, 2] (fun _ => hch) rfl (Opd.func _) (oS (oT rfl) (oS (oT rfl) Opds.nil)) rfl rfl (Lent.of rfl rfl (by exact ⟨⟨rfl, rfl, rfl, tL⟩, ⟨rfl, rfl, rfl, trivial⟩, trivial⟩) rfl) rfl rfl rfl rfl rfl) ?_
  refine zd ?_
  refine zc ?_
  refine nK ?_
  refine zb ?_
  refine za ?_
  refine zbd ?_
  refine zc ?_
  refine nK ?_
  refine n_cond _ rfl (fun hb => ?_) (fun hb => ?_)
  ·have hz2 : r.2 ≠ 0 := by simpa using hb
   rw [if_pos hz2] at hap
   rw [← hap]
   refine nK ?_
   refine zb ?_
   refine zbm ?_
   refine za ?_
   refine zr ?_
   refine zd ?_
   refine zc ?_
   refine nK ?_
   refine Next.weakS [4] [] (by rfl) (keeps0 hC _) (G' := [(4, .ptr 0 3 0 0), (5, IV .i64 r.2)]) (H' := [(0, OG zeroG)]) wG (by exact ⟨⟨rfl, rfl, .fflat _ _ _ rfl tW⟩, trivial⟩) rfl ?_
   exact wO hC
  have hz2 : r.2 = 0 := by simpa using hb
  obtain ⟨_, h2, h3, _, _⟩ := hceq hz2
  rw [if_neg (by simp [hz2]), hrn hz2] at hap
  refine nK ?_
  refine zb ?_
  refine zl ?_
  refine za ?_
  refine zc ?_
  refine nK ?_
  refine Next.weak [0, 1, 4] [] (by rfl) (keeps0 hC _) wG wR wN (hKn r.1.es h3 h2 hap)
 have hie : i = cs.length := by simp at hb; omega
 rw [hie, List.drop_length] at hap
 rw [← hap]
 refine Next.weak [0, 1] [2] (by rfl) (keeps0 hC _) (G' := [(2, .ptr 0 3 0 0), (4, .ptr 1 3 0 0)]) (H' := [(0, OG ⟨g.r, g.n, es⟩), (1, OG zeroG)]) wG (by exact ⟨⟨rfl, rfl, .flat _ _ _ rfl tW⟩, ⟨wS, trivial⟩⟩) (fun id h => by obtain rfl : id = 2 := (by simpa using h); exact ⟨_, rfl⟩) ?_
 refine nK ?_
 refine zb ?_
 refine zk ?_
 refine zr ?_
 refine ze ?_
 refine zc ?_
 refine nK ?_
 exact wO hC
open Go Go.RT Go.Proofs Go.Pl
set_option maxRecDepth 20000
set_option maxHeartbeats 2000000
abbrev HD (h : Hq) : Hp := [(1, some (.refs 3 [[.sl 2 1 0 h.it.length, .sl 3 1 0 h.pl.length, .sl 4 1 0 h.ky.length]])), (2, OT h.it), (3, OI h.pl), (4, OI h.ky)]
abbrev HDS (d : List Int) (h : Hq) : Hp := (0, OI d) :: HD h
theorem set_i (h : Hq) (o : HI h) (b : Int) (v : Nat) (k : Int) (e : b = v) (hv : v < h.pl.length) (hm : h.it.length ≤ 1999999) : Meets Tryz.prog 57 [.ptr 0 3 0 0, IV .i64 b, IV .i64 k] 4 (HH h) (BV true) (HX (setH h v k)) 5 := by subst e; exact set_c h o v k hv hm
theorem key_i (h : Hq) (o : h.Ok) (b : Int) (v : Nat) (e : b = v) (hv : v < h.pl.length) : Meets Tryz.prog 60 [.ptr 0 3 0 0, IV .i64 b] 4 (HH h) (.fz (.tup [If .i64 (if 0 ≤ h.place v then h.key v else 0), Bf (decide (0 ≤ h.place v))])) (HH h) 4 := by subst e; exact key_c h o v hv
theorem dist_c (g : Gr) (a : Nat) (d : List Int) (hg : checkI g = 0) (hok : okG g) (ha : a < (g.r + g.n).toNat) (hd : d.length = (g.r + g.n).toNat) (hD : ∀ v, v < (g.r + g.n).toNat → IsD g.es a v (gt0 d v)) : Pure Tryz.prog 70 [.agg (encG g), If .i64 a] (VI d) := by
 obtain ⟨vg, hr0, hn0⟩ := checkI_vg hg
 have hn := vg.n128
 have hel := vg.e1024
 have hrn : g.r + g.n = ((g.r + g.n).toNat : Int) := by omega
 generalize hN : (g.r + g.n).toNat = n at *
 refine Meets.intro Tryz.func70 rfl (Nat.le_of_ble_eq_true rfl) fun C hC => ?_
 simp only [List.map, argEnv, Nat.reduceAdd]
 refine nK2 ?_
 refine zb ?_
 refine zq ?_
 refine ze ?_
 refine zc ?_
 refine nK2 ?_
 refine zb ?_
 refine zg ?_
 refine zh ?_
 refine zg ?_
 refine zh ?_
 refine zbc ?_
 refine Run.eff (dd := some 23) rfl rfl (op_make (l := n) (c := n) rfl (oT rfl) (oT rfl) rfl rfl rfl rfl (by intro _; refine ⟨hrn, hrn, ?_⟩; omega)) ?_
 refine zd ?_
 refine zc ?_
 refine nK2 ?_
 refine Next.weak [0, 1] [] (by rfl) (keepsN hC _ rfl) (G' := [(1, IV .i64 a), (2, .ptr 0 3 0 0), (5, .sl 1 1 0 n)]) (H' := [(0, OG g), (1, OI (fillN n 0))]) wG (by exact ⟨wS, ⟨ent_same rfl rfl (flEq rfl (by rw [fillN_0, List.map_replicate]; rfl)) trivial, trivial⟩⟩) wN ?_
 refine nK2 ?_
 refine zb ?_
 refine za ?_
 refine zbi ?_
 refine zbb ?_
 refine zc ?_
 refine nK2 ?_
 refine n_loop (ι := Nat) (fun k => ([(1, IV .i64 a), (2, .ptr 0 3 0 0), (5, .sl 1 1 0 n), (25, IV .i64 n), (26, IV .i64 k)], [(0, OG g), (1, OI (fillN n k))], 2)) (fun k => k ≤ n) (fun k => n - k) 0 (Nat.zero_le _) ?_ ?_
 ·refine Next.weak [0, 1] [] (by rfl) (keepsN hC _ rfl) wG wR wN rel_intro
 intro k hk K hK
 try dsimp only at hk ⊢
 refine nK2 ?_
 refine zb ?_
 refine zp ?_
 refine zc ?_
 refine nK2 ?_
 refine n_cond _ rfl (fun hb => ?_) (fun hb => ?_)
 ·have hlt : k < n := by simpa using hb
  have hrow := row_of encN (fillN n k) k 0 (by rw [fillN_len _ _ hk]; exact hlt)
  refine nK2 ?_
  refine zb ?_
  refine za ?_
  refine zd ?_
  refine zc ?_
  refine nK2 ?_
  refine zb ?_
  refine za ?_
  refine za ?_
  refine rpZ 31 rfl (op_idx_sl0 k rfl (oT rfl) (oT rfl) (by intro _; exact ⟨rfl, hlt⟩)) ?_
  refine Run.eff (dd := none) rfl rfl (op_store_flat rfl (oT rfl) oC tC rfl rfl hrow tS) ?_
  refine zc ?_
  refine nK2 ?_
  refine zb ?_
  refine zl ?_
  refine za ?_
  refine zc ?_
  refine nK2 ?_
  refine Next.weak [0, 1] [] (by rfl) (keepsN hC _ rfl) wG (by exact ⟨wS, ⟨ent_same rfl rfl (flEq rfl (by rw [← fillN_set n k hlt, List.map_set]; rfl)) trivial, trivial⟩⟩) wN (hK (k + 1) hlt (by omega))
 have hge : k = n := by simp at hb; omega
 subst hge
 rw [fillN_n]
 refine nK2 ?_
 refine zb ?_
 refine za ?_
 refine zbi ?_
 refine Run.eff (dd := some 35) rfl rfl (op_make (l := k) (c := k) rfl (oT rfl) (oT rfl) rfl rfl rfl rfl (by intro _; refine ⟨rfl, rfl, ?_⟩; omega)) ?_
 refine zd ?_
 refine zc ?_
 refine nK2 ?_
 refine Next.toOwn 2 3 k rfl ?_
 refine Next.weak [0, 1, 2] [] (by rfl) (keepsN hC _ rfl) (G' := [(1, IV .i64 a), (2, .ptr 0 3 0 0), (5, .sl 1 1 0 k), (7, .sl 2 1 0 k)]) (H' := [(0, OG g), (1, OI (List.replicate k (-1))), (2, some (.refs 1 (ownL 3 (rowsE [] k))))]) wG (by exact ⟨wS, ⟨wS, ⟨ent_own rfl rfl (by rw [rowsE_nil, ← ownL_rep]; rfl), trivial⟩⟩⟩) wN ?_
 refine nK2 ?_
 refine zb ?_
 refine zg ?_
 refine zh ?_
 refine zo ?_
 refine zbb ?_
 refine zc ?_
 refine nK2 ?_
 refine n_loop (ι := Nat) (fun i => ([(1, IV .i64 a), (5, .sl 1 1 0 k), (7, .sl 2 1 0 k), (37, .fz (VE g.es)), (38, IV .i64 g.es.length), (39, IV .i64 i)], [(0, OG g), (1, OI (List.replicate k (-1))), (2, some (.refs 1 (ownL 3 (rowsE (g.es.take i) k))))], 3)) (fun i => i ≤ g.es.length) (fun i => g.es.length - i) 0 (Nat.zero_le _) ?_ ?_
 ·refine Next.weak [0, 1, 2] [] (by rfl) (keepsN hC _ rfl) wG (by exact ⟨wS, ⟨wS, ⟨ent_own rfl rfl rfl, trivial⟩⟩⟩) wN rel_intro
 intro i hi K hK
 try dsimp only at hi ⊢
 refine nK2 ?_
 refine zb ?_
 refine zp ?_
 refine zc ?_
 refine nK2 ?_
 refine n_cond _ rfl (fun hb => ?_) (fun hb => ?_)
 ·have hlt : i < g.es.length := by simp at hb; omega
  have hr1 := row_at' encE g.es i hlt
  have hef := vg.f _ (List.getElem_mem hlt)
  have hst := rowsE_succ (n := k) hlt hef.1
  have hrg := rowsE_get (g.es.take i) (n := k) (v := g.es[i].f.toNat) (by omega)
  have hlen : (outE (g.es.take i) g.es[i].f.toNat).length ≤ 1024 := by
   have h1 : (outE (g.es.take i) g.es[i].f.toNat).length ≤ (g.es.take i).length := List.length_filter_le _ _
   have h2 : (g.es.take i).length ≤ g.es.length := List.length_take_le' _ _
   omega
  have hK1 := hK (i + 1) (by omega) (by omega)
  rw [← hst] at hK1
  have hrl := rowsE_len (g.es.take i) k
  generalize rowsE (g.es.take i) k = irs at *
  generalize outE (g.es.take i) g.es[i].f.toNat = row at *
  generalize g.es[i] = e at *
  refine nK2 ?_
  refine zb ?_
  refine zz ?_
  refine zbf ?_
  refine zu ?_
  refine zr ?_
  refine zc ?_
  refine nK2 ?_
  refine Next.take 2 e.f.toNat 0 rfl (ownL_get hrg) rfl rfl ?_
  have hs1 := set_get (ownL 3 irs) e.f.toNat [.sl 4 3 0 (row.map encE).length] (by rw [ownL_len, hrl]; omega)
  refine nK2 ?_
  refine s_draw mixed ?_
  refine za ?_
  refine zg ?_
  refine zh ?_
  refine za ?_
  refine zg ?_
  refine zh ?_
  refine rpZ 49 rfl (op_idx_sl0 e.f.toNat rfl (oT rfl) (oT rfl) (by intro _; omega)) ?_
  refine rlZ 50 rfl (op_load1_refs rfl (oT rfl) (by intro _; exact ⟨rfl, hs1⟩) rfl) ?_
  refine zk ?_
  refine zbh ?_
  refine zco ?_
  refine rpZ 54 rfl (op_idx_sl0 e.f.toNat rfl (oT rfl) (oT rfl) (by intro _; omega)) ?_
  refine Run.effW (dd := none) rfl rfl (op_store_refs rfl (oT rfl) (oT rfl) tP rfl rfl hs1 tS) (by first | exact ext_call | exact tE) ?_
  refine zs ?_
  refine nK2 ?_
  refine zb ?_
  refine zl ?_
  refine za ?_
  refine zc ?_
  refine nK2 ?_
  refine Next.untake 2 e.f.toNat 0 rfl (set_get _ _ _ (by rw [List.length_set, ownL_len, hrl]; omega)) rfl rfl (by simp) rfl ?_
  refine Next.weak [0, 1, 2] [] (by rfl) (keepsN hC _ rfl) wG (by exact ⟨wS, ⟨wS, ⟨ent_own rfl rfl (congrArg (fun r => some (Ob.refs 1 r)) own_back), trivial⟩⟩⟩) wN hK1
 have hge : i = g.es.length := by simp at hb; omega
 subst hge
 rw [List.take_length]
 refine Next.freezeOwn 2 rfl rfl ?_
 have hFl : (fzL 3 (rowsE g.es k)).length = k := by rw [fzL_len, rowsE_len]
 refine Next.weakS [5] [7] (by rfl) (keepsN hC _ rfl) (G' := [(1, IV .i64 a), (5, .sl 0 1 0 k), (7, .fz (.vals 1 (fzL 3 (rowsE g.es k))))]) (H' := [(0, OI (List.replicate k (-1)))]) (by exact ⟨⟨_, rfl, .inl ⟨rfl, rfl⟩⟩, ⟨_, rfl, .inl ⟨rfl, rfl⟩⟩, ⟨_, rfl, .inr ⟨_, rfl, .sl _ _ _ _ _ _ rfl rfl (take_all0 hFl) (by rw [hFl])⟩⟩, trivial⟩) wR rfl ?_
 have hSet := set_c (newH k) (HG.new k).hi a 0 (by simpa [newH] using ha) (by simp [newH])
 obtain ⟨hDJ, hcnt0⟩ := DJ.start vg ha
 refine nK2 ?_
 refine zb ?_
 refine za ?_
 refine zbi ?_
 refine Run.eff (dd := some 58) rfl rfl (op_call (n := 0) (n' := 4) [] (fun _ => new_c k (by omega)) rfl (Opd.func _) (oS (oT rfl) Opds.nil) rfl rfl (Lent.of rfl rfl trivial rfl) rfl rfl rfl rfl rfl) ?_
 refine zd ?_
 refine zc ?_
 refine nK2 ?_
 refine zb ?_
 refine za ?_
 refine za ?_
 refine Run.eff (dd := some 61) rfl rfl (op_call (n := 4) (n' := 5) [1, 2, 3, 4] (fun _ => hSet) rfl (Opd.func _) (oS (oT rfl) (oS (oT rfl) (oS oC Opds.nil))) rfl rfl (Lent.of rfl rfl (by exact ⟨⟨rfl, rfl, rfl, tL⟩, ⟨rfl, rfl, rfl, trivial⟩, ⟨rfl, rfl, rfl, trivial⟩, ⟨rfl, rfl, rfl, trivial⟩, trivial⟩) rfl) rfl rfl rfl rfl rfl) ?_
 refine zc ?_
 refine nK2 ?_
 refine n_loop (ι := List Int × Hq) (fun s => ([(5, .sl 0 1 0 k), (7, .fz (.vals 1 (fzL 3 (rowsE g.es k)))), (10, .ptr 1 3 0 0)], HDS s.1 s.2, 5)) (fun s => DJ g.es k a s.1 s.2 []) (fun s => k - cntP s.1) (List.replicate k (-1), setH (newH k) a 0) hDJ ?_ ?_
 ·refine Next.weak [0, 1, 5, 3, 4] [] (by rfl) (keepsN hC _ rfl) wG wR wN rel_intro
 intro ⟨dist, h⟩ hI K hK
 try dsimp only at hI hK ⊢
 have hok' := hI.hg.hi
 have hdl := hI.dl
 have hpl := hI.hl
 have hsm := hok'.small
 by_cases hit : h.it = []
 ·have hpn := pop_none h hok' hit
  refine nK2 ?_
  refine zb ?_
  refine za ?_
  refine rlZ 64 rfl (op_call_read (n := 4) [1, 2, 3, 4] (fun _ => hpn) rfl (Opd.func _) (oS (oT rfl) Opds.nil) rfl rfl (Lent.of rfl rfl (by exact ⟨⟨rfl, rfl, rfl, tL⟩, ⟨rfl, rfl, rfl, trivial⟩, ⟨rfl, rfl, rfl, trivial⟩, ⟨rfl, rfl, rfl, trivial⟩, trivial⟩) rfl) rfl) ?_
  refine za ?_
  refine zi ?_
  refine zi ?_
  refine zi ?_
  refine zd ?_
  refine zd ?_
  refine zd ?_
  refine zc ?_
  refine nK2 ?_
  refine zb ?_
  refine za ?_
  refine zbj ?_
  refine zc ?_
  refine nK2 ?_
  refine n_cond _ rfl (fun hb => ?_) (fun hb => ?_)
  ·have hde : dist = d := by
    apply List.ext_getElem (by omega)
    intro v h1 h2
    have := (hI.done vg ha hit (v := v) (by omega)).uniq (hD v (by omega))
    simpa [gt0, List.getD_eq_getElem?_getD, h1, h2] using this
   subst hde
   refine nK2 ?_
   refine zb ?_
   refine za ?_
   refine zd ?_
   refine zc ?_
   refine nK2 ?_
   refine Next.weakS [] [4] (by rfl) (keeps0 hC _) (G' := [(4, .fz (VI dist))]) (H' := []) ⟨⟨_, rfl, .inr ⟨_, rfl, .sl _ _ _ _ _ _ rfl rfl (take_all0 (by rw [List.length_map]; exact hdl)) (by rw [List.length_map]; omega)⟩⟩, trivial⟩ trivial rfl ?_
   exact n_out1 rfl (by rfl) rfl rfl
  simp at hb
 have hne : 0 < h.it.length := Nat.pos_of_ne_zero fun e => hit (List.length_eq_zero_iff.1 e)
 have hps := pop_some h hok' hne (by omega)
 obtain ⟨x1, x2, x3, x4, x5, x6⟩ := hI.pop vg ha hne
 have hrx := row_of encN dist (h.item 0) 0 (by omega)
 have hcl := cntP_le (dist.set (h.item 0) (h.key (h.item 0)))
 rw [List.length_set] at hcl
 have hrE := fzL_get (sz := 3) (rowsE_get g.es x1)
 have hLsub : ∀ e ∈ outE g.es (h.item 0), e ∈ g.es ∧ e.f = (h.item 0 : Nat) := fun e he => by simpa [outE] using he
 have hLl : (outE g.es (h.item 0)).length ≤ 1024 := by
  have : (outE g.es (h.item 0)).length ≤ g.es.length := List.length_filter_le _ _
  omega
 have hdx : gt0 (dist.set (h.item 0) (h.key (h.item 0))) (h.item 0) = h.key (h.item 0) := by rw [gt0, getD_set _ _ _ _ _ (by omega), if_pos rfl]
 change DJ g.es k a (dist.set (h.item 0) (h.key (h.item 0))) (dropH h (h.item 0)) (outE g.es (h.item 0)) at x6
 generalize h.item 0 = x at *
 generalize h.key x = kx at *
 generalize dropH h x = h1 at *
 generalize outE g.es x = L at *
 refine nK2 ?_
 refine zb ?_
 refine za ?_
 refine Run.eff (dd := some 64) rfl rfl (op_call (n := 4) (n' := 5) [1, 2, 3, 4] (fun _ => hps) rfl (Opd.func _) (oS (oT rfl) Opds.nil) rfl rfl (Lent.of rfl rfl (by exact ⟨⟨rfl, rfl, rfl, tL⟩, ⟨rfl, rfl, rfl, trivial⟩, ⟨rfl, rfl, rfl, trivial⟩, ⟨rfl, rfl, rfl, trivial⟩, trivial⟩) rfl) rfl rfl rfl rfl rfl) ?_
 refine za ?_
 refine zi ?_
 refine zi ?_
 refine zi ?_
 refine zd ?_
 refine zd ?_
 refine zd ?_
 refine zc ?_
 refine nK2 ?_
 refine zb ?_
 refine za ?_
 refine zbj ?_
 refine zc ?_
 refine nK2 ?_
 refine n_cond _ rfl (fun hb => ?_) (fun hb => ?_)
 ·simp at hb
 refine nK2 ?_
 refine zb ?_
 refine za ?_
 refine za ?_
 refine za ?_
 refine rpZ 73 rfl (op_idx_sl0 x rfl (oT rfl) (oT rfl) (by intro _; exact ⟨rfl, x1⟩)) ?_
 refine Run.eff (dd := none) rfl rfl (op_store_flat rfl (oT rfl) (oT rfl) tC rfl rfl hrx tS) ?_
 refine zc ?_
 refine nK2 ?_
 refine zb ?_
 refine za ?_
 refine za ?_
 refine rpZ 76 rfl (op_idx_fz x rfl (oT rfl) (oT rfl) (by intro _; exact ⟨rfl, hrE⟩)) ?_
 refine zj ?_
 refine zo ?_
 refine zbb ?_
 refine zc ?_
 refine nK2 ?_
 refine n_loop (ι := Nat × Hq) (fun s => ([(5, .sl 0 1 0 k), (7, .fz (.vals 1 (fzL 3 (rowsE g.es k)))), (10, .ptr 1 3 0 0), (12, IV .i64 kx), (77, .fz (VE L)), (78, IV .i64 L.length), (79, IV .i64 s.1)], HDS (dist.set x kx) s.2, 5)) (fun s => s.1 ≤ L.length ∧ DJ g.es k a (dist.set x kx) s.2 (L.drop s.1)) (fun s => L.length - s.1) (0, h1) ⟨Nat.zero_le _, x6⟩ ?_ ?_
 ·refine Next.weak [0, 1, 5, 3, 4] [] (by rfl) (keepsN hC _ rfl) wG (by exact ⟨ent_same rfl rfl (flEq rfl (by rw [List.map_set]; rfl)) trivial, ⟨wS, ⟨wS, ⟨wS, ⟨wS, trivial⟩⟩⟩⟩⟩) wN rel_intro
 intro ⟨j, h2⟩ ⟨hj, hJ⟩ K2 hK2
 try dsimp only at hj hJ hK2 ⊢
 refine nK2 ?_
 refine zb ?_
 refine zp ?_
 refine zc ?_
 refine nK2 ?_
 refine n_cond _ rfl (fun hb => ?_) (fun hb => ?_)
 ·have hlt : j < L.length := by simp at hb; omega
  have hr1 := row_at' encE L j hlt
  obtain ⟨he, hef⟩ := hLsub _ (List.getElem_mem hlt)
  rw [List.drop_eq_getElem_cons hlt] at hJ
  have hK3 := fun h3 hh => hK2 (j + 1, h3) ⟨by dsimp only; omega, hh⟩ (by dsimp only; omega)
  dsimp only at hK3
  generalize L[j] = e at *
  have het := vg.t e he
  have hec := vg.c e he
  have hJo := hJ.hg.hi
  have hJl := hJ.hl
  have hJs := hJo.small
  have hJd := hJ.dl
  have hket := key_i h2 hJo.ok e.t e.t.toNat (by omega) (by omega)
  have hrt := row_of encN (dist.set x kx) e.t.toNat 0 (by omega)
  have hput := fun hc => hJ.put vg he (by rw [hef, Int.toNat_natCast, hdx]; exact x3) (by rw [hef, Int.toNat_natCast, hdx, x5]; omega) hc
  have hskip := fun hc => hJ.skip vg hc
  have hset := set_i h2 hJo e.t e.t.toNat (kx + e.c) (by omega) (by omega) (by omega)
  have hfx : gt0 (dist.set x kx) e.f.toNat = kx := by rw [hef, Int.toNat_natCast]; exact hdx
  rw [hfx] at hput hskip
  have hgt : (dist.set x kx).getD e.t.toNat 0 = gt0 (dist.set x kx) e.t.toNat := rfl
  rw [hgt] at hrt
  have hqb := hJ.q e.t.toNat (by omega)
  refine nK2 ?_
  refine zb ?_
  refine zz ?_
  refine zbf ?_
  refine zu ?_
  refine zr ?_
  refine zc ?_
  refine nK2 ?_
  refine zb ?_
  refine za ?_
  refine zg ?_
  refine zh ?_
  refine rlZ 87 rfl (op_call_read (n := 4) [1, 2, 3, 4] (fun _ => hket) rfl (Opd.func _) (oS (oT rfl) (oS (oT rfl) Opds.nil)) rfl rfl (Lent.of rfl rfl (by exact ⟨⟨rfl, rfl, rfl, tL⟩, ⟨rfl, rfl, rfl, trivial⟩, ⟨rfl, rfl, rfl, trivial⟩, ⟨rfl, rfl, rfl, trivial⟩, trivial⟩) rfl) rfl) ?_
  refine za ?_
  refine zi ?_
  refine zi ?_
  refine zd ?_
  refine zd ?_
  refine zc ?_
  refine nK2 ?_
  refine zb ?_
  refine za ?_
  refine zg ?_
  refine zh ?_
  refine rpZ 93 rfl (op_idx_sl0 e.t.toNat rfl (oT rfl) (oT rfl) (by intro _; omega)) ?_
  refine rlZ 94 rfl (op_load1_flat rfl (oT rfl) (by intro _; exact ⟨rfl, hrt⟩) rfl) ?_
  refine zbn ?_
  refine za ?_
  refine zf ?_
  refine zbl ?_
  refine zbp ?_
  refine zf ?_
  refine zn ?_
  refine zm ?_
  refine zbs ?_
  refine zf ?_
  refine zbk ?_
  refine zcd ?_
  refine zt ?_
  refine zc ?_
  refine nK2 ?_
  refine n_cond _ rfl (fun hb => ?_) (fun hb => ?_)
  ·have hc : gt0 (dist.set x kx) e.t.toNat < 0 ∧ (h2.place e.t.toNat < 0 ∨ kx + e.c < h2.key e.t.toNat) := by
    simp only [Bool.and_eq_true, Bool.or_eq_true, Bool.not_eq_true', decide_eq_true_eq, decide_eq_false_iff_not] at hb
    refine ⟨hb.1, ?_⟩
    rcases hb.2 with h5 | h5
    ·exact .inl (by omega)
    by_cases h6 : 0 ≤ h2.place e.t.toNat
    ·rw [if_pos h6] at h5; exact .inr h5
    exact .inl (by omega)
   refine nK2 ?_
   refine zb ?_
   refine za ?_
   refine zg ?_
   refine zh ?_
   refine za ?_
   refine zg ?_
   refine zh ?_
   refine zbc ?_
   refine Run.eff (dd := some 115) rfl rfl (op_call (n := 4) (n' := 5) [1, 2, 3, 4] (fun _ => hset) rfl (Opd.func _) (oS (oT rfl) (oS (oT rfl) (oS (oT rfl) Opds.nil))) rfl rfl (Lent.of rfl rfl (by exact ⟨⟨rfl, rfl, rfl, tL⟩, ⟨rfl, rfl, rfl, trivial⟩, ⟨rfl, rfl, rfl, trivial⟩, ⟨rfl, rfl, rfl, trivial⟩, trivial⟩) rfl) rfl rfl rfl rfl rfl) ?_
   refine zc ?_
   refine nK2 ?_
   refine zb ?_
   refine zl ?_
   refine za ?_
   refine zc ?_
   refine nK2 ?_
   refine Next.weak [0, 1, 6, 3, 4] [] (by rfl) (keepsN hC _ rfl) wG wR wN (hK3 _ (hput hc))
  have hc : ¬ (gt0 (dist.set x kx) e.t.toNat < 0 ∧ (h2.place e.t.toNat < 0 ∨ kx + e.c < h2.key e.t.toNat)) := fun hc => by
   rw [Bool.eq_false_iff] at hb
   apply hb
   simp only [Bool.and_eq_true, Bool.or_eq_true, Bool.not_eq_true', decide_eq_true_eq, decide_eq_false_iff_not]
   refine ⟨hc.1, ?_⟩
   by_cases h6 : 0 ≤ h2.place e.t.toNat
   ·rw [if_pos h6]
    rcases hc.2 with h5 | h5
    ·omega
    exact .inr h5
   exact .inl (by omega)
  refine nK2 ?_
  refine zb ?_
  refine zl ?_
  refine za ?_
  refine zc ?_
  refine nK2 ?_
  refine Next.weak [0, 1, 2, 3, 4] [] (by rfl) (keepsN hC _ rfl) wG wR wN (hK3 _ (hskip hc))
 have hje : j = L.length := by simp at hb; omega
 subst hje
 rw [List.drop_length] at hJ
 refine nK2 ?_
 refine Next.weak [0, 1, 2, 3, 4] [] (by rfl) (keepsN hC _ rfl) wG wR wN (hK (dist.set x kx, h2) hJ (by dsimp only; omega))
open Go Go.RT Go.Proofs Go.Pl
set_option maxRecDepth 20000
set_option maxHeartbeats 2000000
theorem parents_c (g : Gr) (a : Nat) (d : List Int) (hg : checkI g = 0) (hd : d.length = (g.r + g.n).toNat) (hD : ∀ v, v < (g.r + g.n).toNat → -1 ≤ gt0 d v ∧ gt0 d v ≤ 10000000) : Pure Tryz.prog 71 [.agg (encG g), If .i64 a, VI d] (VLL (parL g.es a d (g.r + g.n).toNat)) := by
 obtain ⟨vg, hr0, hn0⟩ := checkI_vg hg
 have hn := vg.n128
 have hel := vg.e1024
 generalize hN : (g.r + g.n).toNat = n at *
 refine Meets.intro Tryz.func71 rfl (Nat.le_of_ble_eq_true rfl) fun C hC => ?_
 simp only [List.map, argEnv, Nat.reduceAdd]
 refine nK2 ?_
 refine zb ?_
 refine zq ?_
 refine ze ?_
 refine zc ?_
 refine nK2 ?_
 refine zb ?_
 refine za ?_
 refine zo ?_
 refine Run.eff (dd := some 12) rfl rfl (op_make (l := n) (c := n) rfl (oT rfl) (oT rfl) rfl rfl rfl rfl (by intro _; rw [hd]; refine ⟨rfl, rfl, ?_⟩; omega)) ?_
 refine zd ?_
 refine zc ?_
 refine nK2 ?_
 refine Next.toOwn 1 1 n rfl ?_
 refine Next.weak [0, 1] [] (by rfl) (keepsN hC _ rfl) (G' := [(1, IV .i64 a), (2, .fz (VI d)), (3, .ptr 0 3 0 0), (7, .sl 1 1 0 n)]) (H' := [(0, OG g), (1, some (.refs 1 (ownL 1 (rowsI (parL [] a d n)))))]) wG (by exact ⟨wS, ⟨ent_own rfl rfl (by rw [parL_nil, rowsI_nil, ← ownL_rep]; rfl), trivial⟩⟩) wN ?_
 refine nK2 ?_
 refine zb ?_
 refine zg ?_
 refine zh ?_
 refine zo ?_
 refine zbb ?_
 refine zc ?_
 refine nK2 ?_
 refine n_loop (ι := Nat) (fun i => ([(1, IV .i64 a), (2, .fz (VI d)), (7, .sl 0 1 0 n), (14, .fz (VE g.es)), (15, IV .i64 g.es.length), (16, IV .i64 i)], [(0, some (.refs 1 (ownL 1 (rowsI (parL (g.es.take i) a d n)))))], 1)) (fun i => i ≤ g.es.length) (fun i => g.es.length - i) 0 (Nat.zero_le _) ?_ ?_
 ·refine Next.weak [1] [] (by rfl) (keepsN hC _ rfl) wG (by exact ⟨ent_own rfl rfl rfl, trivial⟩) wN rel_intro
 intro i hi K hK
 try dsimp only at hi ⊢
 refine nK2 ?_
 refine zb ?_
 refine zp ?_
 refine zc ?_
 refine nK2 ?_
 refine n_cond _ rfl (fun hb => ?_) (fun hb => ?_)
 ·have hlt : i < g.es.length := by simp at hb; omega
  have hr1 := row_at' encE g.es i hlt
  have hef := vg.f _ (List.getElem_mem hlt)
  have het := vg.t _ (List.getElem_mem hlt)
  have hec := vg.c _ (List.getElem_mem hlt)
  have hyes := parL_yes (n := n) (a := a) (d := d) hlt het.1
  have hno := parL_no (n := n) (a := a) (d := d) hlt
  have hgt := parL_get (g.es.take i) a d (n := n) (v := g.es[i].t.toNat) (by omega)
  have hpl := parL_len (g.es.take i) a d n
  have hlen : (parE (g.es.take i) a d g.es[i].t.toNat).length ≤ 1024 := by
   have h1 : (parE (g.es.take i) a d g.es[i].t.toNat).length ≤ (g.es.take i).length := by unfold parE; rw [List.length_map]; exact List.length_filter_le _ _
   have h2 : (g.es.take i).length ≤ g.es.length := List.length_take_le' _ _
   omega
  have hK1 := hK (i + 1) (by omega) (by omega)
  generalize parL (g.es.take (i + 1)) a d n = ll2 at *
  generalize parL (g.es.take i) a d n = ll at *
  have hrg := rowsI_get (ll := ll) (v := g.es[i].t.toNat) (by omega)
  rw [hgt] at hrg
  generalize parE (g.es.take i) a d g.es[i].t.toNat = row at *
  generalize g.es[i] = e at *
  have hrf := row_of encN d e.f.toNat 0 (by omega)
  have hrt := row_of encN d e.t.toNat 0 (by omega)
  have hDf := hD e.f.toNat (by omega)
  have hgf : d.getD e.f.toNat 0 = gt0 d e.f.toNat := rfl
  have hgt2 : d.getD e.t.toNat 0 = gt0 d e.t.toNat := rfl
  rw [hgf] at hrf; rw [hgt2] at hrt
  refine nK2 ?_
  refine zb ?_
  refine zz ?_
  refine zbf ?_
  refine zu ?_
  refine zr ?_
  refine zc ?_
  refine nK2 ?_
  refine s_draw mixed ?_
  refine zg ?_
  refine zh ?_
  refine za ?_
  refine zbg ?_
  refine za ?_
  refine zf ?_
  refine zn ?_
  refine zm ?_
  refine rgZ 28 rfl rfl tG (op_idx_fz e.f.toNat rfl (oO rfl tO) (oO rfl tO) (by intro _; exact ⟨by omega, hrf⟩)) ?_
  refine zw ?_
  refine zcw ?_
  refine zt ?_
  refine za ?_
  refine zf ?_
  refine zn ?_
  refine zm ?_
  refine rgZ 36 rfl rfl tG (op_idx_fz e.f.toNat rfl (oO rfl tO) (oO rfl tO) (by intro _; exact ⟨by omega, hrf⟩)) ?_
  refine zw ?_
  refine zn ?_
  refine zm ?_
  refine zbs ?_
  refine zf ?_
  refine zn ?_
  refine zm ?_
  refine rgZ 44 rfl rfl tG (op_idx_fz e.t.toNat rfl (oO rfl tO) (oO rfl tO) (by intro _; exact ⟨by omega, hrt⟩)) ?_
  refine zw ?_
  refine zbo ?_
  refine zt ?_
  refine zs ?_
  refine nK2 ?_
  refine n_cond _ rfl (fun hb => ?_) (fun hb => ?_)
  ·rw [← hyes hb] at hK1
   refine nK2 ?_
   refine Next.take 0 e.t.toNat 0 rfl (ownL_get hrg) rfl rfl ?_
   have hs1 := set_get (ownL 1 (rowsI ll)) e.t.toNat [.sl 2 1 0 (row.map encN).length] (by rw [ownL_len, rowsI_len, hpl]; omega)
   refine nK2 ?_
   refine s_draw mixed ?_
   refine za ?_
   refine zg ?_
   refine zh ?_
   refine za ?_
   refine zg ?_
   refine zh ?_
   refine rpZ 54 rfl (op_idx_sl0 e.t.toNat rfl (oT rfl) (oT rfl) (by intro _; omega)) ?_
   refine rlZ 55 rfl (op_load1_refs rfl (oT rfl) (by intro _; exact ⟨rfl, hs1⟩) rfl) ?_
   refine zg ?_
   refine zh ?_
   refine zbh ?_
   refine zco ?_
   refine rpZ 60 rfl (op_idx_sl0 e.t.toNat rfl (oT rfl) (oT rfl) (by intro _; omega)) ?_
   refine Run.effW (dd := none) rfl rfl (op_store_refs rfl (oT rfl) (oT rfl) tP rfl rfl hs1 tS) (by first | exact ext_call | exact tE) ?_
   refine zs ?_
   refine nK2 ?_
   refine zb ?_
   refine zl ?_
   refine za ?_
   refine zc ?_
   refine nK2 ?_
   refine Next.untake 0 e.t.toNat 0 rfl (set_get _ _ _ (by rw [List.length_set, ownL_len, rowsI_len, hpl]; omega)) rfl rfl (by simp) rfl ?_
   refine Next.weak [0] [] (by rfl) (keepsN hC _ rfl) wG (by exact ⟨ent_own rfl rfl (congrArg (fun r => some (Ob.refs 1 r)) (own_back.trans (congrArg _ (by rw [← rowsI_set, List.map_append]; rfl)))), trivial⟩) wN hK1
  rw [← hno (by rw [Bool.not_eq_true]; exact hb)] at hK1
  refine nK2 ?_
  refine zb ?_
  refine zl ?_
  refine za ?_
  refine zc ?_
  refine nK2 ?_
  refine Next.weak [0] [] (by rfl) (keepsN hC _ rfl) wG (by exact ⟨ent_own rfl rfl rfl, trivial⟩) wN hK1
 have hge : i = g.es.length := by simp at hb; omega
 subst hge
 rw [List.take_length]
 refine Next.freezeOwn 0 rfl rfl ?_
 refine nK2 ?_
 refine zb ?_
 refine za ?_
 refine zd ?_
 refine zc ?_
 refine nK2 ?_
 have hFl : (fzL 1 (rowsI (parL g.es a d n))).length = n := by rw [fzL_len, rowsI_len, parL_len]
 refine Next.weakS [] [6] (by rfl) (keeps0 hC _) (G' := [(6, .fz (VLL (parL g.es a d n)))]) (H' := []) ⟨⟨_, rfl, .inr ⟨_, rfl, .sl _ _ _ _ _ _ rfl rfl ((take_all0 hFl).trans (fz_rowsI _)) (by rw [← fz_rowsI, hFl])⟩⟩, trivial⟩ trivial rfl ?_
 exact n_out1 rfl (by rfl) rfl rfl
end Go.Proofs.YtcillieggklaaaaGreat
/- The kit's contract of slices.SortFunc at elements of one cell, with a closure over frozen data. -/
namespace Go.RT
open Go Go.Proofs Go.Sort Go.Shelf
set_option linter.all false
variable {P : Program} {ρ : Ren}
theorem cmp_lays1 {g : Nat} {β : Type} [Inhabited β] {ev : β → Value} {cf : β → β → Int} {caps : List FV} (hc : ∀ x y, Pure P g ([.lit (ev x), .lit (ev y)] ++ caps) (If .i64 (cf x y))) {blk off size : Nat} {w : World} {S : Nat → Prop} {cb : Array Value} (hblk : ¬ S blk) (hS : ∀ b, S b → b < w.heap.size)
    (hcl : cb.size = caps.length) (hcr : ∀ (i : Nat) (v : Value) (f : FV), cb[i]? = some v → caps[i]? = some f → FRep w S v f) {c : Array Value} {e : TypeId} (hb : w.heap[blk]? = some (.cells c e (0, 0))) : CmpLays1 P g cb ev cf blk off size w := by
  intro m os dk _ x y
  have hsame : ∀ b, S b → (sortWorld ev w blk off m dk os).heap[b]? = w.heap[b]? := fun b hs => by
    have hbl := hS b hs
    have hne : b ≠ blk := fun e => hblk (e ▸ hs)
    unfold sortWorld putRow
    rw [mapBlock_setRow (w := Go.Sort.ahead w m) (b := blk) (c := c) (e := e) (fr := (0, 0)) _ hb]
    have : (grow ((Go.Sort.ahead w m).setRow blk (putCells ev off dk c)) os) = grown (w.setRow blk (putCells ev off dk c)) os m := rfl
    rw [this, grown_old _ _ _ (by simpa using hbl), setRow_other w blk b _ hne]
  have hsz : w.heap.size ≤ (sortWorld ev w blk off m dk os).heap.size := by
    unfold sortWorld putRow
    rw [mapBlock_setRow (w := Go.Sort.ahead w m) (b := blk) (c := c) (e := e) (fr := (0, 0)) _ hb]
    have : (grow ((Go.Sort.ahead w m).setRow blk (putCells ev off dk c)) os) = grown (w.setRow blk (putCells ev off dk c)) os m := rfl
    rw [this]; simp [grown]
  generalize sortWorld ev w blk off m dk os = W at hsame hsz
  let C : Cx := ⟨W, fun _ => False, S, fun _ => none, 0⟩
  have hm : Mem C [] 0 C.S0 C.m0 C.w0 := ⟨⟨rfl, Nat.le_refl _⟩, rfl, rfl, fun _ _ => rfl, Nat.le_refl _, fun _ _ _ => rfl, Le.refl _ _ _, fun b h => .inl h, fun i x hx => (by cases hx), fun i o h => (by cases h), fun i o b h => (by cases h), fun i j o1 o2 b h => (by cases h), fun b hb => Nat.lt_of_lt_of_le (hS b hb) hsz, fun _ _ => rfl, nst_nil⟩
  have := (hc x y).run C ([ev x, ev y] ++ cb.toList) rfl hm (by simp [hcl]) (fun i v p hi hp => by
    rw [List.getElem?_map] at hp
    obtain ⟨f, hf, rfl⟩ := Option.map_eq_some_iff.1 hp
    match i with
    | 0 => simp at hi hf; subst hi; subst hf; exact .fz _ _ (.lit _)
    | 1 => simp at hi hf; subst hi; subst hf; exact .fz _ _ (.lit _)
    | i + 2 =>
      simp at hi hf
      exact .fz _ _ ((hcr i v f hi hf).mono (fun _ h => h) hsame))
  have h2 : Calls P g (#[ev x, ev y] ++ cb) W (fun e w' => ∃ v S' m', e = .returned v ∧ Mem C [] 0 S' m' w' ∧ Rep w' S' m' v (.fz (If .i64 (cf x y)))) := by
    have e1 : ([ev x, ev y] ++ cb.toList).toArray = #[ev x, ev y] ++ cb := by simp
    rw [e1] at this; exact this
  refine h2.mono fun e w' ⟨v, S', m', he, hm', hr⟩ => ?_
  obtain ⟨q, os', hw⟩ := hm'.is_grown (fun b h => h)
  refine ⟨by rw [he]; cases hr with | fz _ _ h => cases h; rfl, q, os', hw⟩
theorem sort1_meets (L : SlLaysF.n6 P ρ) {β : Type} [Inhabited β] {ev : β → Value} (h1 : OneCell ev) {cf : β → β → Int} (hO : SWO (ltOf cf)) {g : Nat} [FnB P g] {caps : List FV}
    (hc : ∀ x y, Pure P g ([.lit (ev x), .lit (ev y)] ++ caps) (If .i64 (cf x y))) {l : List β} (hl : l.length < 4611686018427387904) :
    Meets P (ρ.f 6) [.sl 0 1 0 l.length, .fz (.clo g caps)] 1 [(0, some (.flat 1 (l.map fun x => [.lit (ev x)])))] (.fz (.tup [])) [(0, some (.flat 1 ((sortBy cf l).map fun x => [.lit (ev x)])))] 1 := by
  refine ⟨fun C vs hn hm hlv hr => ?_⟩
  have hg : ∀ args w, (callFunc g args).run P w = .ok (.enter g args) w := fun args w => by
    obtain ⟨fn, q1, q2, q3⟩ := (inferInstance : FnB P g).h
    have h4 : ¬ (fn.body = none) := by intro e; rw [e] at q3; cases q3
    have h5 : ¬ (fn.name = "runtime.NumGoroutine") := by simpa using q2
    simp [callFunc, q1, h4, h5]
  have tupR : ∀ w' S' m', Rep w' S' m' (.tuple #[]) (.fz (.tup [])) := fun w' S' m' => .fz _ _ (.tup #[] [] rfl (fun i c f hc => by simp at hc))
  match vs, hlv, hr with
  | [v0, v1], _, hr =>
  have r0 := hr 0 v0 _ rfl rfl
  have r1 := (hr 1 v1 _ rfl rfl).frz
  have ho := hm.objs 0 _ rfl
  obtain ⟨hs1, hs2, _⟩ := sortBy_spec cf hO l
  cases r1 with
  | clo _ cb _ hcl hcr =>
  generalize hll : l.length = n at r0 hl
  cases r0 with
  | sl0 =>
    have : l = [] := List.length_eq_zero_iff.1 hll
    subst this
    have e : sortBy cf ([] : List β) = [] := List.length_eq_zero_iff.1 hs2
    rw [e]
    refine (AnyF.slices_SortFunc_none (P := P) (ρ := ρ) { L with } none 0 (.func (.func g) #[] cb) C.w0).mono fun e w' ⟨he, hw⟩ => ?_
    subst hw
    exact ⟨_, _, _, he, hm, tupR _ _ _⟩
  | sl _ _ _ _ b cap h hroom hcap hmx =>
    rcases ho with ⟨h2, _⟩ | ⟨b', c, e, h2, h3, h4⟩
    · rw [h] at h2; cases h2
    · rw [h] at h2; cases h2
      obtain ⟨hsz, _, hR⟩ := h4
      obtain ⟨hb1, hb2, hb3⟩ := hm.blk 0 _ b rfl h
      have hcells : ∀ j (hj : j < l.length), c[j]? = some (ev l[j]) := fun j hj => by
        obtain ⟨u, hu, _, hf⟩ := hR j 0 [.lit (ev l[j])] (.lit (ev l[j])) (by simp [hj]) rfl
        cases hf
        simpa using hu
      have hH : Holds ev C.w0 b (0 * 1) l.toArray := by
        intro j hj
        simp at hj
        refine ⟨?_, ?_⟩
        · simp only [World.cell?, h3, Nat.zero_mul, Nat.zero_add]
          rw [getElem!_pos _ j (by simpa using hj)]
          simpa using hcells j hj
        · simp [World.frozen?, h3]
      have hcall := Any.slices_SortFunc_eq L ev h1 cf hO g cb b (0 * 1) cap l.toArray C.w0 hg (cmp_lays1 hc hb1 hm.stab hcl hcr h3) hH hb2 (by simpa [hll] using hl)
      rw [show l.toArray.size = n by simpa using hll] at hcall
      refine hcall.mono fun ex w' ⟨he, q, os, hw⟩ => ?_
      subst hw
      have hd : pdq (ltOf cf) l.toArray 0 n (Lib.bitLen n) true true = (sortBy cf l).toArray := by rw [← hll]; simp [sortBy]
      rw [hd]
      have hset : sortWorld ev C.w0 b (0 * 1) q (sortBy cf l).toArray os = grown (C.w0.setRow b (putCells ev 0 (sortBy cf l).toArray c)) os q := by
        unfold sortWorld putRow
        rw [mapBlock_setRow (w := Go.Sort.ahead C.w0 q) (b := b) (c := c) (e := e) (fr := (0, 0)) _ h3, Nat.zero_mul]
        rfl
      rw [hset]
      have hps : (putCells ev 0 (sortBy cf l).toArray c).size = c.size := by simp [putCells]
      have hrr : ∀ w' : World, RowsRep (FRep w' C.S0) (putCells ev 0 (sortBy cf l).toArray c) 1 ((sortBy cf l).map fun x => [FV.lit (ev x)]) := fun w' => by
        refine ⟨by rw [hps]; simpa [hs2] using hsz, fun r hr => ?_, fun i j r p hi hj => ?_⟩
        · obtain ⟨x, _, rfl⟩ := List.mem_map.1 hr
          rfl
        · rw [List.getElem?_map] at hi
          obtain ⟨x, hx, rfl⟩ := Option.map_eq_some_iff.1 hi
          have hin : i < (sortBy cf l).length := (List.getElem?_eq_some_iff.1 hx).1
          match j, hj with
          | 0, hj =>
            cases hj
            have hlt2 : i < c.size := by simp at hsz; omega
            refine ⟨ev x, ?_, h1 x, .lit _⟩
            unfold putCells
            rw [Nat.mul_one, Nat.add_zero, Array.getElem?_mapIdx, Array.getElem?_eq_getElem hlt2]
            simp only [Option.map_some, Nat.zero_le, true_and, Nat.zero_add, List.size_toArray, Nat.sub_zero]
            rw [if_pos hin, getElem!_pos _ i (by simpa using hin)]
            rw [List.getElem?_eq_getElem hin] at hx
            cases hx; simp
          | j + 1, hj => simp at hj
      obtain ⟨m1, hle1⟩ := hm.write (id := 0) (o' := .flat 1 ((sortBy cf l).map fun x => [.lit (ev x)])) rfl h h3 hps (plain_hown (by exact trivial)) (fun w' hle hb => .inr ⟨b, _, e, h, hb, hrr w'⟩)
      refine ⟨_, _, _, he, ((m1.reheap (H' := [(0, some (.flat 1 ((sortBy cf l).map fun x => [.lit (ev x)])))]) (fun id => ?_)).grow os q).1, tupR _ _ _⟩
      simp only [hlook]
      cases Nat.beq 0 id <;> rfl
end Go.RT
namespace Go.Proofs.YtcillieggklaaaaGreat
open Go Go.RT Go.Proofs Go.Pl
set_option linter.all false
set_option maxRecDepth 20000
set_option maxHeartbeats 2000000
instance : FnOv Tryz.prog 114 25   := ⟨_, 4, Tryz.func114, by decide +kernel, rfl, by kernel_rfl, by kernel_rfl⟩
theorem inserti_c (l : List Int) (x : Int) (i : Nat) (hn : l.length ≤ 2000000) (hi : i ≤ l.length) : Meets Tryz.prog 93 [.sl 0 1 0 l.length, IV .i64 i, .sl 1 1 0 1] 2 [(0, OI l), (1, OI [x])] (.sl 2 1 0 (l.length + 1)) [(2, OI (insL l i x))] 3 := by
 have hil := insL_len l i x hi
 have e0 : ∀ xs ys : List Int, List.map encN (xs ++ ys) = xs.map encN ++ ys.map encN := fun xs ys => List.map_append
 refine Meets.intro Tryz.func93 rfl (Nat.le_of_ble_eq_true rfl) fun C hC => ?_
 simp only [List.map, argEnv, Nat.reduceAdd]
 by_cases hie : i = l.length
 ·refine nK ?_
  refine zb ?_
  refine ze ?_
  refine zc ?_
  refine nK ?_
  refine zb ?_
  refine za ?_
  refine za ?_
  refine rlZ 12 rfl (op_slice_end (l := i) (h := l.length) rfl (oT rfl) (Bnd.yes _ _ _ _ _ (oT rfl) tQ) (Bnd.no _) (by intro _; refine ⟨rfl, ?_⟩; rw [List.length_map]; omega)) ?_
  refine zc ?_
  refine nK ?_
  refine zb ?_
  refine za ?_
  refine zbi ?_
  refine zd ?_
  refine zc ?_
  refine nK ?_
  refine zb ?_
  refine za ?_
  refine zci ?_
  refine zc ?_
  refine nK ?_
  refine n_cond _ rfl (fun hb => ?_) (fun hb => ?_)
  ·simp at hb
  refine nK ?_
  refine zb ?_
  refine za ?_
  refine zbi ?_
  refine zd ?_
  refine zc ?_
  refine nK ?_
  refine zb ?_
  refine za ?_
  refine za ?_
  refine zbr ?_
  refine zc ?_
  refine nK ?_
  refine n_cond _ rfl (fun hb => ?_) (fun hb => ?_)
  ·have e4 : insL l i x = l ++ [x] := by rw [hie]; simp [insL]
   refine nK ?_
   refine zb ?_
   refine za ?_
   refine za ?_
   refine zdi ?_
   refine zd ?_
   refine zc ?_
   refine nK ?_
   refine Next.weakS [0, 2, 6] [] (by rfl) (keepsN hC _ rfl) (G' := [(6, .sl 2 1 0 (l.length + 1))]) (H' := [(2, OI (insL l i x))]) (by exact ⟨⟨_, rfl, .inl ⟨rfl, rfl⟩⟩, trivial⟩) (by exact ⟨ent_same rfl rfl (by rw [e4, e0]; rfl) trivial, trivial⟩) rfl ?_
   exact n_out1 rfl (by rfl) rfl rfl
  exfalso; simp at hb; omega
 refine nK ?_
 refine zb ?_
 refine ze ?_
 refine zc ?_
 refine nK ?_
 refine zb ?_
 refine za ?_
 refine za ?_
 refine rlZ 12 rfl (op_slice_view (l := i) (h := l.length) rfl (oT rfl) (Bnd.yes _ _ _ _ _ (oT rfl) tQ) (Bnd.no _) (by intro _; refine ⟨rfl, ?_⟩; rw [List.length_map]; omega)) ?_
 refine zc ?_
 refine nK ?_
 refine zb ?_
 refine za ?_
 refine zbi ?_
 refine zd ?_
 refine zc ?_
 refine nK ?_
 refine zb ?_
 refine za ?_
 refine zci ?_
 refine zc ?_
 refine nK ?_
 refine n_cond _ rfl (fun hb => ?_) (fun hb => ?_)
 ·simp at hb
 refine nK ?_
 refine zb ?_
 refine za ?_
 refine zbi ?_
 refine zd ?_
 refine zc ?_
 refine nK ?_
 refine zb ?_
 refine za ?_
 refine za ?_
 refine zbr ?_
 refine zc ?_
 refine nK ?_
 refine n_cond _ rfl (fun hb => ?_) (fun hb => ?_)
 ·exfalso; simp at hb; omega
 refine Next.capE 0 rfl rfl rfl (Nat.zero_le _) fun cap hc1 hc2 hc3 => ?_
 unfold maxLen at hc3
 refine nK ?_
 refine zb ?_
 refine za ?_
 refine za ?_
 refine zbc ?_
 refine za ?_
 refine rpZ 30 rfl (op_cap rfl (oT rfl)) ?_
 refine zcn ?_
 refine zc ?_
 refine nK ?_
 refine n_cond _ rfl (fun hb => ?_) (fun hb => ?_)
 ·have hc4 : cap < l.length + 1 := by simp at hb; omega
  have hlen2 : ((l.map encN).take i ++ List.replicate (l.length + 1 - i) (encN 0)).length = l.length + 1 := by simp; omega
  refine nK ?_
  refine zb ?_
  refine za ?_
  refine za ?_
  refine rpZ 34 rfl (op_slice_room (h := i) rfl (oT rfl) (Bnd.yes _ _ _ _ _ (oT rfl) tQ) (by intro _; omega)) ?_
  refine za ?_
  refine za ?_
  refine zbc ?_
  refine za ?_
  refine zbw ?_
  refine Run.eff (dd := some 40) rfl rfl (op_append_zg (k := l.length + 1 - i) (zs := encN 0) rfl (oT rfl) (opdI (oT rfl) (by omega)) rfl rfl rfl rfl rfl (by rw [List.length_map]; omega) (by omega) (by omega) (by omega) (by omega)) ?_
  refine zd ?_
  refine zc ?_
  refine nK ?_
  have hz : ∀ k : Nat, (some (Ob.flat 1 ((l.map encN).take i ++ List.replicate k [If .i64 0]))) = some (.flat 1 ((l.map encN).take i ++ List.replicate k (encN 0))) := fun _ => rfl
  refine nK ?_
  refine zb ?_
  refine za ?_
  refine za ?_
  refine rlZ 43 rfl (op_slice_view (l := i) (h := i + (l.length + 1 - i)) rfl (oT rfl) (Bnd.yes _ _ _ _ _ (oT rfl) tQ) (Bnd.no _) (by intro _; refine ⟨rfl, ?_⟩; rw [hlen2]; omega)) ?_
  refine za ?_
  refine Run.eff (dd := some 45) rfl rfl (op_copy (n := 1) (rs := [x].map encN) rfl (oT rfl) (oT rfl) rfl rfl (by show min _ _ = _; omega) rfl rfl (by rw [hlen2]; omega)) ?_
  refine zc ?_
  refine nK ?_
  have hlen3 : (((l.map encN).take i ++ List.replicate (l.length + 1 - i) (encN 0)).take (0 + i) ++ [x].map encN ++ ((l.map encN).take i ++ List.replicate (l.length + 1 - i) (encN 0)).drop (0 + i + 1)).length = l.length + 1 := by simp; omega
  refine nK ?_
  refine s_draw mixed ?_
  refine za ?_
  refine za ?_
  refine za ?_
  refine zbc ?_
  refine rlZ 50 rfl (op_slice_view (l := i + 1) (h := i + (l.length + 1 - i)) rfl (oT rfl) (Bnd.yes _ _ _ _ _ (oT rfl) tQ) (Bnd.no _) (by intro _; refine ⟨rfl, ?_⟩; rw [hlen3]; omega)) ?_
  refine za ?_
  refine za ?_
  refine rlZ 53 rfl (op_slice_view (l := i) (h := l.length) rfl (Opd.wc _ _ _ (oT rfl)) (Bnd.yes _ _ _ _ _ (oT rfl) tQ) (Bnd.no _) (by intro _; refine ⟨rfl, ?_⟩; rw [List.length_map]; omega)) ?_
  refine Run.effW (dd := some 54) rfl rfl (op_copy (n := l.length - i) (rs := (l.map encN).drop i) rfl (oT rfl) (oT rfl) rfl rfl (by show min _ _ = _; omega) (by rw [Nat.zero_add, List.take_of_length_le (by simp)]) (by simp) (by rw [hlen3]; omega)) tE ?_
  refine zs ?_
  refine nK ?_
  have hgr := ins_grow (l.map encN) i (encN x) (encN 0) (by rw [List.length_map]; omega)
  rw [List.length_map, ← insL_map] at hgr
  refine nK ?_
  refine zb ?_
  refine za ?_
  refine zd ?_
  refine zc ?_
  refine nK ?_
  refine Next.weakS [0, 2, 6] [] (by rfl) (keepsN hC _ rfl) (G' := [(6, .sl 2 1 0 (l.length + 1))]) (H' := [(2, OI (insL l i x))]) (by exact ⟨⟨_, rfl, .inl ⟨slEq rfl (by omega), rfl⟩⟩, trivial⟩) (by exact ⟨ent_same rfl rfl (by rw [← hgr]; simp only [Nat.zero_add]; rfl) trivial, trivial⟩) rfl ?_
  exact n_out1 rfl (by rfl) rfl rfl
 have hc4 : l.length + 1 ≤ cap := by simp at hb; omega
 refine nK ?_
 refine zb ?_
 refine za ?_
 refine za ?_
 refine za ?_
 refine zbc ?_
 refine rpZ 60 rfl (op_slice_room (h := l.length + 1) rfl (oT rfl) (Bnd.yes _ _ _ _ _ (oT rfl) (by intro _; simp)) (by intro _; omega)) ?_
 refine zd ?_
 refine zc ?_
 refine nK ?_
 refine nK ?_
 refine zb ?_
 refine za ?_
 refine za ?_
 refine za ?_
 refine za ?_
 refine zbc ?_
 refine rpZ 66 rfl (op_slice_fromR (l := i + 1) rfl (oT rfl) (Bnd.yes _ _ _ _ _ (oT rfl) tQ) (by intro _; omega)) ?_
 refine rlZ 67 rfl (op_overlaps rfl (oT rfl) (oT rfl) rfl rfl rfl (by rw [List.length_map]; omega) rfl) ?_
 refine zbj ?_
 refine zc ?_
 refine nK ?_
 refine n_cond _ rfl (fun hb => ?_) (fun hb => ?_)
 ·refine nK ?_
  refine s_draw mixed ?_
  refine za ?_
  refine za ?_
  refine za ?_
  refine zbc ?_
  refine rpZ 73 rfl (op_slice_fromR (l := i + 1) rfl (oT rfl) (Bnd.yes _ _ _ _ _ (oT rfl) tQ) (by intro _; omega)) ?_
  refine za ?_
  refine za ?_
  refine rpZ 76 rfl (op_slice_fromR (l := i) rfl (oT rfl) (Bnd.yes _ _ _ _ _ (oT rfl) tQ) (by intro _; omega)) ?_
  refine Run.effW (dd := some 77) rfl rfl (op_copy (n := l.length - i) (rs := (l.map encN).drop i) rfl (oT rfl) (oT rfl) rfl rfl (by show min _ _ = _; omega) (by rw [Nat.zero_add, List.take_of_length_le (by simp)]) (by simp) (by rw [List.length_map]; omega)) tE ?_
  refine zs ?_
  refine nK ?_
  have hl5 : ((l.map encN).take (0 + (i + 1)) ++ (l.map encN).drop i ++ (l.map encN).drop (0 + (i + 1) + (l.length - i))).length = l.length + 1 := by simp; omega
  have hgr := ins_room (l.map encN) i (encN x) (by rw [List.length_map]; omega)
  rw [List.length_map, ← insL_map] at hgr
  refine nK ?_
  refine zb ?_
  refine za ?_
  refine za ?_
  refine rlZ 80 rfl (op_slice_view (l := i) (h := l.length + 1) rfl (Opd.wc _ _ _ (oT rfl)) (Bnd.yes _ _ _ _ _ (oT rfl) tQ) (Bnd.no _) (by intro _; refine ⟨rfl, ?_⟩; rw [hl5]; omega)) ?_
  refine za ?_
  refine Run.eff (dd := some 82) rfl rfl (op_copy (n := 1) (rs := [x].map encN) rfl (oT rfl) (oT rfl) rfl rfl (by show min _ _ = _; omega) rfl rfl (by rw [hl5]; omega)) ?_
  refine zc ?_
  refine nK ?_
  refine zb ?_
  refine za ?_
  refine zd ?_
  refine zc ?_
  refine nK ?_
  refine Next.unwc 6 rfl ?_
  refine Next.retag 6 rfl rfl ?_
  refine Next.weakS [0, 2, 6] [] (by rfl) (keepsN hC _ rfl) (G' := [(6, .sl 2 1 0 (l.length + 1))]) (H' := [(2, OI (insL l i x))]) (by exact ⟨⟨_, rfl, .inl ⟨rfl, rfl⟩⟩, trivial⟩) (by exact ⟨ent_same rfl rfl (by rw [← hgr]; simp only [Nat.zero_add]; rfl) trivial, trivial⟩) rfl ?_
  exact n_out1 rfl (by rfl) rfl rfl
 exfalso; simp at hb
open Go Go.RT Go.Proofs Go.Pl
set_option maxRecDepth 20000
set_option maxHeartbeats 2000000
theorem wHX14a {α : Prop} (h : α := by repeat (first | exact trivial | refine ⟨⟨_, rfl, .inl ⟨rfl, rfl⟩⟩, ?_⟩)) : α := h
theorem wHX14b {α : Prop} (h : α := by repeat (first | exact trivial | refine ⟨wS, ?_⟩ | refine ⟨ent_same rfl rfl (rfEq rfl tU) tL, ?_⟩ | refine ⟨ent_same rfl rfl (flEq rfl (by first | (simp; done) | (simp; omega) | (simp [encE, encN, encB, encT, encL]; done) | simp [maxC, minC])) trivial, ?_⟩)) : α := h
theorem snan_c (a : Int) : Pure Tryz.prog 113 [If .i64 a] (Bf false) := by
 refine Meets.intro Tryz.func113 rfl (Nat.le_of_ble_eq_true rfl) fun C hC => ?_
 simp only [List.map, argEnv, Nat.reduceAdd]
 refine nK ?_
 refine zb ?_
 refine ze ?_
 refine zc ?_
 refine nK ?_
 refine zb ?_
 refine za ?_
 refine za ?_
 refine zbg ?_
 refine zd ?_
 refine zc ?_
 refine nK ?_
 refine Next.weakS [] [] (by rfl) (keeps0 hC _) (G' := [(2, BV false)]) (H' := []) ⟨⟨_, rfl, .inl ⟨by simp [renP], rfl⟩⟩, trivial⟩ trivial rfl ?_
 exact wO hC
theorem cless_c (a b : Int) : Pure Tryz.prog 107 [If .i64 a, If .i64 b] (Bf (decide (a < b))) := by
 refine Meets.intro Tryz.func107 rfl (Nat.le_of_ble_eq_true rfl) fun C hC => ?_
 simp only [List.map, argEnv, Nat.reduceAdd]
 refine nK ?_
 refine zb ?_
 refine ze ?_
 refine zc ?_
 refine nK ?_
 refine zb ?_
 refine za ?_
 refine rpZ 6 rfl (op_call_pure (fun _ => nan_c _) rfl (Opd.func _) (oS (oT rfl) Opds.nil)) ?_
 refine za ?_
 refine zf ?_
 refine rgZ 9 rfl rfl tG (op_call_pure (fun _ => nan_c _) rfl (Opd.func _) (oS (oO rfl tO) Opds.nil)) ?_
 refine zbl ?_
 refine zt ?_
 refine za ?_
 refine zf ?_
 refine zf ?_
 refine zbk ?_
 refine zv ?_
 refine zd ?_
 refine zc ?_
 refine nK ?_
 exact wO hC
theorem bsearchi_c (l : List Int) (x : Int) (hn : l.length ≤ 2000000) : Pure Tryz.prog 92 [VI l, If .i64 x] (.tup [If .i64 (bsGo (fun e => decide (e < x)) l 0 l.length : Nat), Bf (hitAt (fun e => decide (e = x)) l (bsGo (fun e => decide (e < x)) l 0 l.length))]) := by
 refine Meets.intro Tryz.func92 rfl (Nat.le_of_ble_eq_true rfl) fun C hC => ?_
 simp only [List.map, argEnv, Nat.reduceAdd]
 refine nK ?_
 refine zb ?_
 refine ze ?_
 refine ze ?_
 refine zc ?_
 refine nK ?_
 refine zb ?_
 refine za ?_
 refine zo ?_
 refine zd ?_
 refine zc ?_
 refine nK ?_
 refine zb ?_
 refine za ?_
 refine ze ?_
 refine zd ?_
 refine zc ?_
 refine nK ?_
 refine n_loop (ι := Nat × Nat) (fun g => ([(0, .fz (VI l)), (1, IV .i64 x), (6, IV .i64 l.length), (7, IV .i64 g.1), (8, IV .i64 g.2)], [], 0)) (fun g => g.1 ≤ g.2 ∧ g.2 ≤ l.length ∧ bsGo (fun e => decide (e < x)) l g.1 g.2 = bsGo (fun e => decide (e < x)) l 0 l.length) (fun g => g.2 - g.1) (0, l.length) ⟨Nat.zero_le _, Nat.le_refl _, rfl⟩ ?_ ?_
 ·refine Next.weak [] [] (by rfl) (keeps0 hC _) wHX14a wHX14b wN rel_intro
 intro ⟨i, j⟩ ⟨hi, hj, ho⟩ K hK
 dsimp only at hi hj ho ⊢
 refine nK ?_
 refine zb ?_
 refine za ?_
 refine za ?_
 refine zp ?_
 refine zc ?_
 refine nK ?_
 refine n_cond _ rfl (fun hb => ?_) (fun hb => ?_)
 ·have hlt : i < j := by simp at hb; omega
  have hm : (i + j) / 2 < l.length := by omega
  have hr1 := row_at' encN l ((i + j) / 2) hm
  have hst := bsGo_step (fun e => decide (e < x)) l i j hlt hj
  rw [ho] at hst
  have hKl := fun h => hK (((i + j) / 2) + 1, j) ⟨by dsimp only; omega, by dsimp only; omega, h⟩ (by dsimp only; omega)
  have hKr := fun h => hK (i, (i + j) / 2) ⟨by dsimp only; omega, by dsimp only; omega, h⟩ (by dsimp only; omega)
  generalize l[(i + j) / 2] = e at *
  refine nK ?_
  refine zb ?_
  refine za ?_
  refine za ?_
  refine zbc ?_
  refine zca ?_
  refine rpZ 20 rfl (op_shr (n := 1) rfl (oT rfl) oC (by intro _; simp only [IntKind.bits]; omega)) ?_
  refine zca ?_
  refine zd ?_
  refine zc ?_
  refine nK ?_
  refine zb ?_
  refine za ?_
  refine za ?_
  refine rpZ 24 rfl (op_idx_fz ((i + j) / 2) rfl (oT rfl) (oT rfl) (by intro _; exact ⟨by omega, hr1⟩)) ?_
  refine zj ?_
  refine za ?_
  refine rpZ 27 rfl (op_call_pure (fun _ => cless_c _ _) rfl (Opd.func _) (oS (oT rfl) (oS (oT rfl) Opds.nil))) ?_
  refine zc ?_
  refine nK ?_
  refine n_cond _ rfl (fun hb => ?_) (fun hb => ?_)
  ·simp only [hb, cond_true] at hst
   refine nK ?_
   refine zb ?_
   refine za ?_
   refine zl ?_
   refine zd ?_
   refine zc ?_
   refine nK ?_
   refine Next.weak [] [] (by rfl) (keeps0 hC _) wHX14a wHX14b wN (hKl hst.symm)
  simp only [hb, cond_false] at hst
  refine nK ?_
  refine zb ?_
  refine za ?_
  refine zd ?_
  refine zc ?_
  refine nK ?_
  refine Next.weak [] [] (by rfl) (keeps0 hC _) wHX14a wHX14b wN (hKr hst.symm)
 have hie : i = j := by simp at hb; omega
 rw [hie, bsGo_end] at ho
 rw [← ho]
 rw [hie] at hi ⊢
 obtain ⟨q, hq, hh⟩ := hitAt_eq l j (fun e => decide (e = x))
 rw [hh]
 have hr : j < l.length → (l.map encN)[j]? = some (encN q) := fun h => by rw [List.getElem?_map, hq h]; rfl
 refine nK ?_
 refine zb ?_
 refine za ?_
 refine za ?_
 refine za ?_
 refine zp ?_
 refine za ?_
 refine zf ?_
 refine zf ?_
 refine rgZ 38 rfl rfl tG (op_idx_fz j rfl (oO rfl tO) (oO rfl tO) (by intro hg; exact ⟨rfl, hr (by simp at hg; omega)⟩)) ?_
 refine zw ?_
 refine zf ?_
 refine zbo ?_
 refine zbp ?_
 refine zf ?_
 refine zf ?_
 refine rgZ 45 rfl rfl tG (op_idx_fz j rfl (oO rfl tO) (oO rfl tO) (by intro hg; exact ⟨rfl, hr (by simp at hg; omega)⟩)) ?_
 refine zw ?_
 refine rgZ 47 rfl rfl tG (op_call_pure (fun _ => snan_c _) rfl (Opd.func _) (oS (oO rfl tO) Opds.nil)) ?_
 refine zbp ?_
 refine zf ?_
 refine rgZ 50 rfl rfl tG (op_call_pure (fun _ => snan_c _) rfl (Opd.func _) (oS (oO rfl tO) Opds.nil)) ?_
 refine zcf ?_
 refine zcd ?_
 refine zt ?_
 refine zd ?_
 refine zd ?_
 refine zc ?_
 refine nK ?_
 refine Next.weakS [] [] (by rfl) (keeps0 hC _) (G' := [(4, IV .i64 j), (5, BV (decide ((j : Int) < (l.length : Int)) && decide (q = x)))]) (H' := []) ⟨⟨_, rfl, .inl ⟨rfl, rfl⟩⟩, ⟨_, rfl, .inl ⟨by simp [renP], rfl⟩⟩, trivial⟩ trivial rfl ?_
 exact wO hC
open Go Go.RT Go.Proofs Go.Pl
set_option maxRecDepth 20000
set_option maxHeartbeats 2000000
theorem hcmp_c (d : List Int) (x y : Nat) (hx : x < d.length) (hy : y < d.length) : Pure Tryz.prog 90 [If .i64 x, If .i64 y, .cellp [VI d]] (If .i64 (ordH d x y)) := by
 have rx := row_of encN d x 0 hx
 have ry := row_of encN d y 0 hy
 have hgx : d.getD x 0 = gt0 d x := rfl
 have hgy : d.getD y 0 = gt0 d y := rfl
 rw [hgx] at rx; rw [hgy] at ry
 unfold ordH
 refine Meets.intro Tryz.func90 rfl (Nat.le_of_ble_eq_true rfl) fun C hC => ?_
 simp only [List.map, argEnv, Nat.reduceAdd]
 refine nK ?_
 refine zb ?_
 refine ze ?_
 refine zc ?_
 refine nK ?_
 refine s_draw mixed ?_
 refine zj ?_
 refine za ?_
 refine rpZ 8 rfl (op_idx_fz x rfl (oT rfl) (oT rfl) (by intro _; exact ⟨rfl, rx⟩)) ?_
 refine zj ?_
 refine zj ?_
 refine za ?_
 refine rpZ 12 rfl (op_idx_fz y rfl (oT rfl) (oT rfl) (by intro _; exact ⟨rfl, ry⟩)) ?_
 refine zj ?_
 refine rpZ 14 rfl (op_call_pure (fun _ => cmp_c _ _) rfl (Opd.func _) (oS (oT rfl) (oS (oT rfl) Opds.nil))) ?_
 refine za ?_
 refine za ?_
 refine rpZ 17 rfl (op_call_pure (fun _ => cmp_c _ _) rfl (Opd.func _) (oS (oT rfl) (oS (oT rfl) Opds.nil))) ?_
 refine zcs ?_
 refine rpZ 19 rfl (op_call_pure (fun _ => or_c [_, _] (by simp)) rfl (Opd.func _) (oS (oT rfl) Opds.nil)) ?_
 refine zd ?_
 refine zs ?_
 refine nK ?_
 exact wO hC
theorem swo_h (d : List Int) (n : Nat) : Go.Sort.SWO (ltOf fun x y : Fin n => ordH d x y) := by
 have e : ∀ x y : Fin n, ltOf (fun x y : Fin n => ordH d x y) x y = decide (gt0 d x < gt0 d y ∨ gt0 d x = gt0 d y ∧ y.val < x.val) := fun x y => by
  unfold ltOf; rw [Bool.eq_iff_iff]; simp [ordH_neg]
 refine ⟨fun x => ?_, fun x y z h1 h2 => ?_, fun x y z h1 h2 => ?_⟩
 ·rw [e]; simp
 ·rw [e] at *; simp only [decide_eq_true_eq] at *; omega
 rw [e] at *; simp only [decide_eq_false_iff_not] at *; omega
theorem sorth_c (d : List Int) (l l2 : List Nat) (hd : 0 < d.length) (hl : ∀ v ∈ l, v < d.length) (hm : l.length ≤ 2000000) (hp : l2.Perm l) (hs : l2.Pairwise (ltHd d)) : Meets Tryz.prog 89 [.sl 0 1 0 l.length, .fz (.clo 90 [.cellp [VI d]])] 1 [(0, OT l)] (.fz (.tup [])) [(0, OT l2)] 1 := by
 haveI : Inhabited (Fin d.length) := ⟨⟨0, hd⟩⟩
 have hl' : ∀ v ∈ l, v < d.length := hl
 let lf : List (Fin d.length) := l.pmap (fun v h => ⟨v, h⟩) hl'
 have hlf : lf.map (fun x => x.val) = l := by simp [lf, List.map_pmap]
 have hll : lf.length = l.length := by simp [lf]
 obtain ⟨s1, s2, s3⟩ := sortBy_spec (fun x y : Fin d.length => ordH d x y) (swo_h d d.length) lf
 have hr : (sortBy (fun x y : Fin d.length => ordH d x y) lf).map (fun x => x.val) = l2 := by
  refine perm_sorted_eq (le := fun x y => ¬ ltHd d y x) (fun a b h1 h2 => by unfold ltHd at *; omega) _ _ ?_ ?_ ?_
  ·exact ((s1.map _).trans (by rw [hlf])).trans hp.symm
  ·rw [List.pairwise_map, List.pairwise_iff_getElem]
   intro i j hi hj hij h
   exact s3 i j _ _ hij (List.getElem?_eq_getElem hi) (List.getElem?_eq_getElem hj) ((ordH_neg _ _ _).2 h)
  exact hs.imp fun h1 h2 => by unfold ltHd at *; omega
 have := sort1_meets (ρ := Tryz.sortFI_ren) Tryz.sortFI (ev := fun x : Fin d.length => .int .i64 (x.val : Int)) (fun x => rfl) (swo_h d d.length) (g := 90) (caps := [.cellp [VI d]]) (fun x y => hcmp_c d x y x.isLt y.isLt) (l := lf) (by omega)
 rw [hll] at this
 have e1 : ∀ q : List (Fin d.length), q.map (fun x => [FV.lit (.int .i64 (x.val : Int))]) = (q.map (fun x => x.val)).map encT := fun q => by rw [List.map_map]; rfl
 rw [e1, e1, hlf, hr] at this
 exact this
open Go Go.RT Go.Proofs Go.Pl
set_option maxRecDepth 20000
set_option maxHeartbeats 2000000
theorem merge_c (g : Gr) (u v n k0 : Nat) (ru : List Int) (ll : List (List Int)) (h : Int) (huv : u ≠ v) (hll : ll.length = n) (hv : v < n) (hn : n ≤ 128) (hrow : (ll.getD v []).length ≤ 2000) : Meets Tryz.prog 91 [IV .i64 h, .fz (.cellp (encG g)), .fz (.cellp [If .i64 v]), .ptr 0 1 0 0] 3 [(0, some (.refs 1 [[.sl 1 1 0 n]])), (1, some (.refs 1 (tkL (rowsI ll) u k0))), (2, OI ru)] (.fz (.tup [])) [(0, some (.refs 1 [[.sl 1 1 0 n]])), (1, some (.refs 1 (tkL (rowsI (mergeL g.r v ll h)) u k0))), (2, OI ru)] 3 := by
 have hrg := rowsI_get (ll := ll) (v := v) (by omega)
 unfold mergeL capV rowAt'
 generalize ll.getD v [] = row at *
 refine Meets.intro Tryz.func91 rfl (Nat.le_of_ble_eq_true rfl) fun C hC => ?_
 simp only [List.map, argEnv, Nat.reduceAdd]
 refine Next.take 1 v 0 rfl (tk_get huv hrg) rfl rfl ?_
 have hs1 := set_get (tkL (rowsI ll) u k0) v [.sl 3 1 0 (row.map encN).length] (by rw [tk_len, rowsI_len]; omega)
 refine nK ?_
 refine zb ?_
 refine za ?_
 refine zx ?_
 refine zj ?_
 refine zcj ?_
 refine zc ?_
 refine nK ?_
 refine n_cond _ rfl (fun hb => ?_) (fun hb => ?_)
 ·have hq0 : g.r ≤ h := by simpa using hb
  rw [if_pos hq0]
  refine nK ?_
  refine zb ?_
  refine zj ?_
  refine zd ?_
  refine zc ?_
  refine nK ?_
  generalize hqe : (v : Int) = hq at *
  have hbs := bsearchi_c row hq (by omega)
  have hble := bsI_le row hq
  have hiu : insU row hq = if hitI row hq = true then row else insL row (bsI row hq) hq := rfl
  change Pure Tryz.prog 92 [VI row, If .i64 hq] (.tup [If .i64 (bsI row hq : Nat), Bf (hitI row hq)]) at hbs
  rw [hiu]
  generalize bsI row hq = k at *
  generalize hitI row hq = hit at *
  refine nK ?_
  refine zb ?_
  refine zy ?_
  refine zj ?_
  refine rpZ 15 rfl (op_idx_sl0 v rfl (oT rfl) (oT rfl) (by intro _; exact ⟨by omega, by omega⟩)) ?_
  refine rlZ 16 rfl (op_load1_refs rfl (oT rfl) (by intro _; exact ⟨rfl, hs1⟩) rfl) ?_
  refine za ?_
  refine rlZ 18 rfl (op_call_lend [3] (fun _ => hbs) rfl (Opd.func _) (oS (oT rfl) (oS (oT rfl) Opds.nil)) (by exact .cons _ _ _ _ tW (.cons _ _ _ _ tW .nil)) rfl rfl) ?_
  refine za ?_
  refine zi ?_
  refine zi ?_
  refine zd ?_
  refine zd ?_
  refine zc ?_
  refine nK ?_
  refine zb ?_
  refine za ?_
  refine zbj ?_
  refine zc ?_
  refine nK ?_
  refine n_cond _ rfl (fun hb => ?_) (fun hb => ?_)
  ·have hh : hit = false := by simpa using hb
   subst hh
   rw [if_neg (by simp)]
   have hins := inserti_c row hq k (by omega) hble
   have hil := insL_len row k hq hble
   have hle : (row.map encN).length = row.length := List.length_map _
   rw [← hle] at hins
   refine nK ?_
   refine s_draw mixed ?_
   refine zy ?_
   refine zj ?_
   refine zy ?_
   refine zj ?_
   refine rpZ 27 rfl (op_idx_sl0 v rfl (oT rfl) (oT rfl) (by intro _; exact ⟨by omega, by omega⟩)) ?_
   refine rlZ 28 rfl (op_load1_refs rfl (oT rfl) (by intro _; exact ⟨rfl, hs1⟩) rfl) ?_
   refine za ?_
   refine za ?_
   refine zde ?_
   refine Run.effW (dd := some 32) rfl rfl (op_call (n := 2) (n' := 3) [3, 4] (fun _ => hins) rfl (Opd.func _) (oS (oT rfl) (oS (oT rfl) (oS (oT rfl) Opds.nil))) rfl rfl (Lent.of rfl rfl (by exact ⟨⟨rfl, rfl, rfl, trivial⟩, ⟨rfl, rfl, rfl, trivial⟩, trivial⟩) rfl) rfl rfl rfl rfl rfl) (by first | exact ext_call | exact tE) ?_
   refine rpZ 33 rfl (op_idx_sl0 v rfl (oT rfl) (oT rfl) (by intro _; exact ⟨by omega, by omega⟩)) ?_
   refine Run.effW (dd := none) rfl rfl (op_store_refs rfl (oT rfl) (oT rfl) tP rfl rfl hs1 tS) (by first | exact ext_call | exact tE) ?_
   refine zs ?_
   refine Next.untake 1 v 0 rfl (set_get _ _ _ (by rw [List.length_set, tk_len, rowsI_len]; omega)) rfl rfl (by rw [List.length_map, hil, hle]) rfl ?_
   refine Next.weak [0, 1, 2] [] (by rfl) (keepsN hC _ rfl) (G' := []) (H' := [(0, some (.refs 1 [[.sl 1 1 0 n]])), (1, some (.refs 1 (tkL (rowsI (ll.set v (insL row k hq))) u k0))), (2, OI ru)]) trivial (by exact ⟨wS, ⟨ent_tk rfl rfl rfl (by decide) (congrArg (fun r => some (Ob.refs 1 r)) ((tk_back huv).trans (by rw [rowsI_set]))), ⟨wS, trivial⟩⟩⟩) wN ?_
   exact n_out0 rfl
  have hh : hit = true := by simpa using hb
  subst hh
  rw [if_pos rfl]
  refine Next.untake 1 v 0 rfl hs1 rfl rfl (by rw [List.length_map]) rfl ?_
  refine Next.weak [0, 1, 2] [] (by rfl) (keepsN hC _ rfl) (G' := []) (H' := [(0, some (.refs 1 [[.sl 1 1 0 n]])), (1, some (.refs 1 (tkL (rowsI (ll.set v (row))) u k0))), (2, OI ru)]) trivial (by exact ⟨wS, ⟨ent_tk rfl rfl rfl (by decide) (congrArg (fun r => some (Ob.refs 1 r)) ((tk_back2 huv).trans (by rw [rowsI_set]))), ⟨wS, trivial⟩⟩⟩) wN ?_
  refine nK2 ?_
  exact n_out0 rfl
 have hq0 : ¬ g.r ≤ h := by simpa using hb
 rw [if_neg hq0]
 refine nK ?_
 generalize hqe : h = hq at *
 have hbs := bsearchi_c row hq (by omega)
 have hble := bsI_le row hq
 have hiu : insU row hq = if hitI row hq = true then row else insL row (bsI row hq) hq := rfl
 change Pure Tryz.prog 92 [VI row, If .i64 hq] (.tup [If .i64 (bsI row hq : Nat), Bf (hitI row hq)]) at hbs
 rw [hiu]
 generalize bsI row hq = k at *
 generalize hitI row hq = hit at *
 refine nK ?_
 refine zb ?_
 refine zy ?_
 refine zj ?_
 refine rpZ 15 rfl (op_idx_sl0 v rfl (oT rfl) (oT rfl) (by intro _; exact ⟨by omega, by omega⟩)) ?_
 refine rlZ 16 rfl (op_load1_refs rfl (oT rfl) (by intro _; exact ⟨rfl, hs1⟩) rfl) ?_
 refine za ?_
 refine rlZ 18 rfl (op_call_lend [3] (fun _ => hbs) rfl (Opd.func _) (oS (oT rfl) (oS (oT rfl) Opds.nil)) (by exact .cons _ _ _ _ tW (.cons _ _ _ _ tW .nil)) rfl rfl) ?_
 refine za ?_
 refine zi ?_
 refine zi ?_
 refine zd ?_
 refine zd ?_
 refine zc ?_
 refine nK ?_
 refine zb ?_
 refine za ?_
 refine zbj ?_
 refine zc ?_
 refine nK ?_
 refine n_cond _ rfl (fun hb => ?_) (fun hb => ?_)
 ·have hh : hit = false := by simpa using hb
  subst hh
  rw [if_neg (by simp)]
  have hins := inserti_c row hq k (by omega) hble
  have hil := insL_len row k hq hble
  have hle : (row.map encN).length = row.length := List.length_map _
  rw [← hle] at hins
  refine nK ?_
  refine s_draw mixed ?_
  refine zy ?_
  refine zj ?_
  refine zy ?_
  refine zj ?_
  refine rpZ 27 rfl (op_idx_sl0 v rfl (oT rfl) (oT rfl) (by intro _; exact ⟨by omega, by omega⟩)) ?_
  refine rlZ 28 rfl (op_load1_refs rfl (oT rfl) (by intro _; exact ⟨rfl, hs1⟩) rfl) ?_
  refine za ?_
  refine za ?_
  refine zde ?_
  refine Run.effW (dd := some 32) rfl rfl (op_call (n := 2) (n' := 3) [3, 4] (fun _ => hins) rfl (Opd.func _) (oS (oT rfl) (oS (oT rfl) (oS (oT rfl) Opds.nil))) rfl rfl (Lent.of rfl rfl (by exact ⟨⟨rfl, rfl, rfl, trivial⟩, ⟨rfl, rfl, rfl, trivial⟩, trivial⟩) rfl) rfl rfl rfl rfl rfl) (by first | exact ext_call | exact tE) ?_
  refine rpZ 33 rfl (op_idx_sl0 v rfl (oT rfl) (oT rfl) (by intro _; exact ⟨by omega, by omega⟩)) ?_
  refine Run.effW (dd := none) rfl rfl (op_store_refs rfl (oT rfl) (oT rfl) tP rfl rfl hs1 tS) (by first | exact ext_call | exact tE) ?_
  refine zs ?_
  refine Next.untake 1 v 0 rfl (set_get _ _ _ (by rw [List.length_set, tk_len, rowsI_len]; omega)) rfl rfl (by rw [List.length_map, hil, hle]) rfl ?_
  refine Next.weak [0, 1, 2] [] (by rfl) (keepsN hC _ rfl) (G' := []) (H' := [(0, some (.refs 1 [[.sl 1 1 0 n]])), (1, some (.refs 1 (tkL (rowsI (ll.set v (insL row k hq))) u k0))), (2, OI ru)]) trivial (by exact ⟨wS, ⟨ent_tk rfl rfl rfl (by decide) (congrArg (fun r => some (Ob.refs 1 r)) ((tk_back huv).trans (by rw [rowsI_set]))), ⟨wS, trivial⟩⟩⟩) wN ?_
  exact n_out0 rfl
 have hh : hit = true := by simpa using hb
 subst hh
 rw [if_pos rfl]
 refine Next.untake 1 v 0 rfl hs1 rfl rfl (by rw [List.length_map]) rfl ?_
 refine Next.weak [0, 1, 2] [] (by rfl) (keepsN hC _ rfl) (G' := []) (H' := [(0, some (.refs 1 [[.sl 1 1 0 n]])), (1, some (.refs 1 (tkL (rowsI (ll.set v (row))) u k0))), (2, OI ru)]) trivial (by exact ⟨wS, ⟨ent_tk rfl rfl rfl (by decide) (congrArg (fun r => some (Ob.refs 1 r)) ((tk_back2 huv).trans (by rw [rowsI_set]))), ⟨wS, trivial⟩⟩⟩) wN ?_
 refine nK2 ?_
 exact n_out0 rfl
open Go Go.RT Go.Proofs Go.Pl
set_option maxRecDepth 20000
set_option maxHeartbeats 4000000
theorem hops_c (g : Gr) (a n : Nat) (d : List Int) (up : List (List Int)) (l2 : List Nat) (hn : n ≤ 128) (hd : d.length = n) (ha : a < n) (hup : UpOk n up) (hp : l2.Perm (ordA d a n)) (hs : l2.Pairwise (ltHd d)) : Pure Tryz.prog 72 [.agg (encG g), If .i64 a, VI d, VLL up] (VLL (hopsL g.r a n up l2)) := by
 have hl2 : ∀ v ∈ l2, v < n := fun v hv => ordA_lt (hp.mem_iff.1 hv)
 have hso := sorth_c d (ordA d a n) l2 (by omega) (fun v hv => by have := ordA_lt hv; omega) (by have := ordA_len d a n; omega) hp hs
 have hl2l : l2.length = (ordA d a n).length := hp.length_eq
 have hl2n := ordA_len d a n
 refine Meets.intro Tryz.func72 rfl (Nat.le_of_ble_eq_true rfl) fun C hC => ?_
 simp only [List.map, argEnv, Nat.reduceAdd]
 refine nK ?_
 refine zb ?_
 refine zq ?_
 refine zq ?_
 refine ze ?_
 refine zc ?_
 refine nK ?_
 refine zb ?_
 refine ze ?_
 refine zc ?_
 refine nK ?_
 refine Next.weakS [] [4, 6] (by rfl) (keeps0 hC _) (G' := [(1, IV .i64 a), (3, .fz (VLL up)), (4, .fz (.cellp (encG g))), (6, .fz (.cellp [VI d])), (9, .fz (.lit (.slice none 0 0)))]) (H' := []) wF trivial rfl ?_
 refine Next.adopt 9 1 rfl ?_
 refine nK ?_
 refine zb ?_
 refine zj ?_
 refine zo ?_
 refine zbb ?_
 refine zc ?_
 refine nK ?_
 refine n_loop (ι := Nat) (fun i => ([(1, IV .i64 a), (3, .fz (VLL up)), (4, .fz (.cellp (encG g))), (6, .fz (.cellp [VI d])), (9, .sl 0 1 0 (ordA d a i).length), (20, .fz (VI d)), (21, IV .i64 n), (22, IV .i64 i)], [(0, OT (ordA d a i))], 1)) (fun i => i ≤ n) (fun i => n - i) 0 (Nat.zero_le _) ?_ ?_
 ·refine Next.weak [0] [] (by rfl) (keepsN hC _ rfl) (by repeat (first | exact trivial | refine ⟨⟨_, rfl, .inl ⟨rfl, rfl⟩⟩, ?_⟩ | refine ⟨⟨_, rfl, .inl ⟨ivEq (by rw [List.length_map, hd]), rfl⟩⟩, ?_⟩ | refine ⟨⟨_, rfl, .inl ⟨ivEq (by rw [hd]), rfl⟩⟩, ?_⟩)) wR wN rel_intro
 intro i hi K hK
 try dsimp only at hi hK ⊢
 have hol := ordA_len d a i
 refine nK ?_
 refine zb ?_
 refine zp ?_
 refine zc ?_
 refine nK ?_
 refine n_cond _ rfl (fun hb => ?_) (fun hb => ?_)
 ·have hlt : i < n := by simp at hb; omega
  have hri := row_of encN d i 0 (by omega)
  have hgi : d.getD i 0 = gt0 d i := rfl
  rw [hgi] at hri
  have hK1 := hK (i + 1) (by omega) (by omega)
  rw [ordA_succ] at hK1
  refine nK ?_
  refine zb ?_
  refine za ?_
  refine rpZ 25 rfl (op_idx_fz i rfl (oT rfl) (oT rfl) (by intro _; exact ⟨rfl, hri⟩)) ?_
  refine zj ?_
  refine zd ?_
  refine zd ?_
  refine zc ?_
  refine nK ?_
  refine zb ?_
  refine za ?_
  refine zbd ?_
  refine za ?_
  refine zf ?_
  refine zf ?_
  refine zcl ?_
  refine zt ?_
  refine zc ?_
  refine nK ?_
  refine n_cond _ rfl (fun hb => ?_) (fun hb => ?_)
  ·rw [if_pos (show ordP d a i = true from hb)] at hK1
   refine nK ?_
   refine zb ?_
   refine za ?_
   refine za ?_
   refine zbh ?_
   refine zbu ?_
   refine zd ?_
   refine zc ?_
   refine nK ?_
   refine zb ?_
   refine zl ?_
   refine za ?_
   refine zc ?_
   refine nK ?_
   refine Next.weak [1] [] (by rfl) (keepsN hC _ rfl) wG (by exact ⟨ent_same rfl rfl (flEq rfl (by rw [List.map_append]; rfl)) trivial, trivial⟩) wN hK1
  rw [if_neg (show ¬ ordP d a i = true by rw [Bool.not_eq_true]; exact hb), List.append_nil] at hK1
  refine nK ?_
  refine zb ?_
  refine zl ?_
  refine za ?_
  refine zc ?_
  refine nK ?_
  refine Next.weak [0] [] (by rfl) (keepsN hC _ rfl) wG wR wN hK1
 have hie : n = i := by simp at hb; omega
 subst hie
 refine nK ?_
 refine zb ?_
 refine za ?_
 refine rpZ 40 rfl (op_makeFuncF (fs := [.cellp [VI d]]) rfl (oS (oT rfl) Opds.nil)) ?_
 refine Run.eff (dd := some 41) rfl rfl (op_call (n := 1) (n' := 1) [0] (fun _ => hso) rfl (Opd.func _) (oS (oT rfl) (oS (oT rfl) Opds.nil)) rfl rfl (Lent.of rfl rfl (by exact ⟨⟨rfl, rfl, rfl, trivial⟩, trivial⟩) rfl) rfl rfl rfl rfl rfl) ?_
 refine zc ?_
 refine nK ?_
 refine zb ?_
 refine zj ?_
 refine zo ?_
 refine Run.eff (dd := some 44) rfl rfl (op_make (l := n) (c := n) rfl (oT rfl) (oT rfl) rfl rfl rfl rfl (by intro _; rw [hd]; refine ⟨rfl, rfl, ?_⟩; omega)) ?_
 refine zdf ?_
 refine zcp ?_
 refine zc ?_
 refine nK ?_
 refine Next.toOwn 1 1 n rfl ?_
 refine Next.weak [2, 1] [0] (by rfl) (keepsN hC _ rfl) (G' := [(1, IV .i64 a), (3, .fz (VLL up)), (4, .fz (.cellp (encG g))), (9, .fz (.vals 1 (l2.map encT))), (12, .ptr 0 1 0 0)]) (H' := [(0, some (.refs 1 [[.sl 1 1 0 n]])), (1, some (.refs 1 (ownL 1 (rowsI (List.replicate n [])))))]) (by exact ⟨⟨_, rfl, .inl ⟨rfl, rfl⟩⟩, ⟨_, rfl, .inl ⟨rfl, rfl⟩⟩, ⟨_, rfl, .inl ⟨rfl, rfl⟩⟩, ⟨_, rfl, .inr ⟨_, rfl, .sl _ _ _ _ _ _ rfl rfl (take_all0 (by rw [List.length_map]; exact hl2l)) (by rw [List.length_map]; omega)⟩⟩, ⟨_, rfl, .inl ⟨rfl, rfl⟩⟩, trivial⟩) (by exact ⟨wS, ⟨ent_own rfl rfl (by rw [rowsI_nil, ← ownL_rep]; rfl), trivial⟩⟩) (fun id h => by simp at h; subst h; exact ⟨_, rfl⟩) ?_
 refine nK ?_
 refine zb ?_
 refine za ?_
 refine zo ?_
 refine zbb ?_
 refine zc ?_
 refine nK ?_
 refine n_loop (ι := Nat) (fun i => ([(1, IV .i64 a), (3, .fz (VLL up)), (4, .fz (.cellp (encG g))), (12, .ptr 0 1 0 0), (45, .fz (.vals 1 (l2.map encT))), (46, IV .i64 l2.length), (47, IV .i64 i)], [(0, some (.refs 1 [[.sl 1 1 0 n]])), (1, some (.refs 1 (ownL 1 (rowsI ((l2.take i).foldl (hopsV g.r a up) (List.replicate n []))))))], 2)) (fun i => i ≤ l2.length) (fun i => l2.length - i) 0 (Nat.zero_le _) ?_ ?_
 ·refine Next.weak [0, 1] [] (by rfl) (keepsN hC _ rfl) wG (by exact ⟨wS, ⟨ent_own rfl rfl rfl, trivial⟩⟩) wN rel_intro
 intro i hi K2 hK2
 try dsimp only at hi hK2 ⊢
 have hli : LLok n ((l2.take i).foldl (hopsV g.r a up) (List.replicate n [])) := LLok.hops hup _ (LLok.nil n) fun x hx => hl2 x (List.mem_of_mem_take hx)
 refine nK ?_
 refine zb ?_
 refine zp ?_
 refine zc ?_
 refine nK ?_
 refine n_cond _ rfl (fun hb => ?_) (fun hb => ?_)
 ·have hlt : i < l2.length := by simp at hb; omega
  have hri := row_at' encT l2 i hlt
  have hv := hl2 _ (List.getElem_mem hlt)
  have hK3 := hK2 (i + 1) (by omega) (by omega)
  rw [foldl_take_succ _ _ _ _ hlt] at hK3
  generalize (l2.take i).foldl (hopsV g.r a up) (List.replicate n []) = ll0 at *
  generalize l2[i] = v at *
  have hru := row_of encL up v [] (by rw [hup.len]; exact hv)
  obtain ⟨hrl, hrow⟩ := hup.row v hv
  have hhv : hopsV g.r a up ll0 v = (rowAt' up v).foldl (stepU g.r a v) ll0 := rfl
  have hgu : up.getD v [] = rowAt' up v := rfl
  rw [hhv] at hK3
  rw [hgu] at hru
  generalize rowAt' up v = row at *
  refine nK ?_
  refine zb ?_
  refine zz ?_
  refine zj ?_
  refine zu ?_
  refine zr ?_
  refine zc ?_
  refine nK ?_
  refine Next.weak [0, 1] [2] (by rfl) (keepsN hC _ rfl) (G' := [(1, IV .i64 a), (3, .fz (VLL up)), (4, .fz (.cellp (encG g))), (12, .ptr 0 1 0 0), (45, .fz (.vals 1 (l2.map encT))), (46, IV .i64 l2.length), (47, IV .i64 i), (14, .fz (.cellp [If .i64 v]))]) (H' := [(0, some (.refs 1 [[.sl 1 1 0 n]])), (1, some (.refs 1 (ownL 1 (rowsI ll0))))]) (by repeat (first | exact trivial | refine ⟨⟨_, rfl, .inl ⟨rfl, rfl⟩⟩, ?_⟩ | refine ⟨⟨_, rfl, .inr ⟨_, rfl, tW⟩⟩, ?_⟩)) (by exact ⟨wS, ⟨ent_own rfl rfl rfl, trivial⟩⟩) (fun id h => by simp at h; subst h; exact ⟨_, rfl⟩) ?_
  refine nK ?_
  refine zb ?_
  refine rpZ 51 rfl (op_makeFunc rfl Opds.nil (oS (oT rfl) (oS (oT rfl) (oS (oT rfl) Opds.nil)))) ?_
  refine zd ?_
  refine zc ?_
  refine nK ?_
  refine zb ?_
  refine za ?_
  refine zj ?_
  refine rpZ 54 rfl (op_idx_fz v rfl (oT rfl) (oT rfl) (by intro _; exact ⟨rfl, hru⟩)) ?_
  refine zj ?_
  refine zo ?_
  refine zbb ?_
  refine zc ?_
  refine nK ?_
  refine n_loop (ι := Nat) (fun j => ([(1, IV .i64 a), (3, .fz (VLL up)), (4, .fz (.cellp (encG g))), (12, .ptr 0 1 0 0), (45, .fz (.vals 1 (l2.map encT))), (46, IV .i64 l2.length), (47, IV .i64 i), (14, .fz (.cellp [If .i64 v])), (15, .clo 91 [] [.fz (.cellp (encG g)), .fz (.cellp [If .i64 v]), .ptr 0 1 0 0]), (55, .fz (VI row)), (56, IV .i64 row.length), (57, IV .i64 j)], [(0, some (.refs 1 [[.sl 1 1 0 n]])), (1, some (.refs 1 (ownL 1 (rowsI ((row.take j).foldl (stepU g.r a v) ll0)))))], 2)) (fun j => j ≤ row.length) (fun j => row.length - j) 0 (Nat.zero_le _) ?_ ?_
  ·refine Next.weak [0, 1] [] (by rfl) (keepsN hC _ rfl) wG (by exact ⟨wS, ⟨ent_own rfl rfl rfl, trivial⟩⟩) wN rel_intro
  intro j hj K3 hK4
  try dsimp only at hj hK4 ⊢
  have hlj : LLok n ((row.take j).foldl (stepU g.r a v) ll0) := LLok.steps hv _ hli fun x hx => by have := hrow x (List.mem_of_mem_take hx); omega
  refine nK ?_
  refine zb ?_
  refine zp ?_
  refine zc ?_
  refine nK ?_
  refine n_cond _ rfl (fun hb => ?_) (fun hb => ?_)
  ·have hltj : j < row.length := by simp at hb; omega
   have hrj := row_at' encN row j hltj
   obtain ⟨hu0, hu1, huv0⟩ := hrow _ (List.getElem_mem hltj)
   have hK3 := hK4 (j + 1) (by omega) (by omega)
   rw [foldl_take_succ _ _ _ _ hltj] at hK3
   generalize (row.take j).foldl (stepU g.r a v) ll0 = ll at *
   generalize row[j] = u at *
   have huv : u.toNat ≠ v := by omega
   have hrgu := rowsI_get (ll := ll) (v := u.toNat) (by rw [hlj.len]; omega)
   have hruok := (hlj.row u.toNat (by omega)).2
   have hrul := (hlj.row u.toNat (by omega)).len
   have hstp : stepU g.r a v ll u = (rowAt' ll u.toNat).foldl (mergeL g.r v) (if u = (a : Int) then mergeL g.r v ll (v : Int) else ll) := rfl
   have hge : ll.getD u.toNat [] = rowAt' ll u.toNat := rfl
   have hmo := merge_other g.r v ll (v : Int) huv
   have hruq : rowAt' ll u.toNat = rowAt' ll u.toNat := rfl
   rw [hge] at hrgu
   generalize hrue : rowAt' ll u.toNat = ru at *
   have hmv := merge_c g u.toNat v n ru.length ru ll v huv hlj.len hv hn (Nat.le_trans (hlj.row v hv).len (by omega))
   refine nK ?_
   refine zb ?_
   refine rpZ 59 rfl (op_idx_fz j rfl (oT rfl) (oT rfl) (by intro _; exact ⟨rfl, hrj⟩)) ?_
   refine zj ?_
   refine zd ?_
   refine zc ?_
   refine nK ?_
   refine Next.take 1 u.toNat 0 rfl (ownL_get hrgu) rfl (rows' := tkL (rowsI ll) u.toNat ru.length) (by rw [List.length_map]; rfl) ?_
   refine nK ?_
   refine zb ?_
   refine za ?_
   refine za ?_
   refine zbr ?_
   refine zc ?_
   refine nK ?_
   refine n_cond _ rfl (fun hb => ?_) (fun hb => ?_)
   ·have hua : u = (a : Int) := by simpa using hb
    rw [if_pos hua] at hstp
    have hl1 := hlj.merge g.r hv (x := (v : Int)) (by omega)
    refine nK ?_
    refine zb ?_
    refine za ?_
    refine zj ?_
    refine Run.eff (dd := some 66) rfl rfl (op_call (n := 3) (n' := 3) [0, 1, 2] (fun _ => hmv) rfl (oT rfl) (oS (oT rfl) Opds.nil) rfl rfl (Lent.of rfl rfl (by exact ⟨⟨rfl, rfl, rfl, tL⟩, ⟨rfl, rfl, congrArg some (renO_tk rfl _ _ _).symm, ltO_tk (by decide) _ _ _⟩, ⟨rfl, rfl, rfl, trivial⟩, trivial⟩) rfl) rfl rfl rfl rfl rfl) ?_
    refine zc ?_
    refine nK ?_
    refine Next.weak [0, 1, 2] [] (by rfl) (keepsN hC _ rfl) (G' := [(1, IV .i64 a), (3, .fz (VLL up)), (4, .fz (.cellp (encG g))), (12, .ptr 0 1 0 0), (45, .fz (.vals 1 (l2.map encT))), (46, IV .i64 l2.length), (47, IV .i64 i), (14, .fz (.cellp [If .i64 v])), (15, .clo 91 [] [.fz (.cellp (encG g)), .fz (.cellp [If .i64 v]), .ptr 0 1 0 0]), (55, .fz (VI row)), (56, IV .i64 row.length), (57, IV .i64 j), (17, IV .i64 u)]) (H' := [(0, some (.refs 1 [[.sl 1 1 0 n]])), (1, some (.refs 1 (tkL (rowsI (mergeL g.r v ll (v : Int))) u.toNat ru.length))), (2, OI ru)]) wG (by exact ⟨wS, ⟨ent_tk rfl rfl rfl (by decide) (congrArg some (renO_tk rfl _ _ _)), ⟨wS, trivial⟩⟩⟩) wN ?_
    generalize mergeL g.r v ll (v : Int) = ll1 at *
    have hl1 : LLok n ll1 := hl1
    have hru1 : rowAt' ll1 u.toNat = ru := hmo
    have hfin : ru.foldl (mergeL g.r v) ll1 = stepU g.r a v ll u := hstp.symm
    rw [← hfin] at hK3
    clear hfin
    refine nK ?_
    refine zb ?_
    refine zy ?_
    refine za ?_
    refine rpZ 69 rfl (op_idx_sl0 u.toNat rfl (oT rfl) (oT rfl) (by intro _; omega)) ?_
    refine rlZ 70 rfl (op_load1_refs rfl (oT rfl) (by intro _; exact ⟨rfl, set_get (ownL 1 (rowsI ll1)) u.toNat [.sl 2 1 0 ru.length] (by rw [ownL_len, rowsI_len, hl1.len]; omega)⟩) rfl) ?_
    refine zbi ?_
    refine zbb ?_
    refine zc ?_
    refine nK ?_
    refine n_loop (ι := Nat) (fun k => ([(1, IV .i64 a), (3, .fz (VLL up)), (4, .fz (.cellp (encG g))), (12, .ptr 0 1 0 0), (45, .fz (.vals 1 (l2.map encT))), (46, IV .i64 l2.length), (47, IV .i64 i), (14, .fz (.cellp [If .i64 v])), (15, .clo 91 [] [.fz (.cellp (encG g)), .fz (.cellp [If .i64 v]), .ptr 0 1 0 0]), (55, .fz (VI row)), (56, IV .i64 row.length), (57, IV .i64 j), (70, .sl 2 1 0 ru.length), (71, IV .i64 ru.length), (72, IV .i64 k)], [(0, some (.refs 1 [[.sl 1 1 0 n]])), (1, some (.refs 1 (tkL (rowsI ((ru.take k).foldl (mergeL g.r v) ll1)) u.toNat ru.length))), (2, OI ru)], 3)) (fun k => k ≤ ru.length) (fun k => ru.length - k) 0 (Nat.zero_le _) ?_ ?_
    ·refine Next.weak [0, 1, 2] [] (by rfl) (keepsN hC _ rfl) wG (by exact ⟨wS, ⟨ent_tk rfl rfl rfl (by decide) rfl, ⟨wS, trivial⟩⟩⟩) wN rel_intro
    intro k hk K4 hK4
    try dsimp only at hk hK4 ⊢
    have hlk : LLok n ((ru.take k).foldl (mergeL g.r v) ll1) := LLok.fold hv _ hl1 fun x hx => hruok x (List.mem_of_mem_take hx)
    have hok := fold_other (r := g.r) (v := v) (u := u.toNat) huv (ru.take k) ll1
    refine nK ?_
    refine zb ?_
    refine zp ?_
    refine zc ?_
    refine nK ?_
    refine n_cond _ rfl (fun hb => ?_) (fun hb => ?_)
    ·have hkl : k < ru.length := by simp at hb; omega
     have hrk := row_at' encN ru k hkl
     have hxk := hruok _ (List.getElem_mem hkl)
     have hK5 := hK4 (k + 1) (by omega) (by omega)
     rw [foldl_take_succ _ _ _ _ hkl] at hK5
     have hmg := fun x => merge_c g u.toNat v n ru.length ru ((ru.take k).foldl (mergeL g.r v) ll1) x huv hlk.len hv hn (Nat.le_trans (hlk.row v hv).len (by omega))
     generalize (ru.take k).foldl (mergeL g.r v) ll1 = llk at *
     generalize ru[k] = x at *
     refine nK ?_
     refine zb ?_
     refine rpZ 74 rfl (op_idx_sl0 k rfl (oT rfl) (oT rfl) (by intro _; exact ⟨rfl, hkl⟩)) ?_
     refine rlZ 75 rfl (op_load1_flat rfl (oT rfl) (by intro _; exact ⟨rfl, hrk⟩) rfl) ?_
     refine zd ?_
     refine zc ?_
     refine nK ?_
     refine zb ?_
     refine za ?_
     refine za ?_
     refine Run.eff (dd := some 78) rfl rfl (op_call (n := 3) (n' := 3) [0, 1, 2] (fun _ => hmg x) rfl (oT rfl) (oS (oT rfl) Opds.nil) rfl rfl (Lent.of rfl rfl (by exact ⟨⟨rfl, rfl, rfl, tL⟩, ⟨rfl, rfl, congrArg some (renO_tk rfl _ _ _).symm, ltO_tk (by decide) _ _ _⟩, ⟨rfl, rfl, rfl, trivial⟩, trivial⟩) rfl) rfl rfl rfl rfl rfl) ?_
     refine zc ?_
     refine nK ?_
     refine zb ?_
     refine zl ?_
     refine za ?_
     refine zc ?_
     refine nK ?_
     refine Next.weak [0, 1, 2] [] (by rfl) (keepsN hC _ rfl) wG (by exact ⟨wS, ⟨ent_tk rfl rfl rfl (by decide) (congrArg some (renO_tk rfl _ _ _)), ⟨wS, trivial⟩⟩⟩) wN hK5
    have hke : k = ru.length := by simp at hb; omega
    subst hke
    rw [List.take_length] at *
    refine nK ?_
    refine zb ?_
    refine zl ?_
    refine za ?_
    refine zc ?_
    refine nK ?_
    refine Next.untake 1 u.toNat 0 rfl (set_get _ _ _ (by rw [ownL_len, rowsI_len, hlk.len]; omega)) rfl rfl (List.length_map _) (tk_put (by rw [rowsI_get (by rw [hlk.len]; omega)]; exact congrArg (fun r => some (r.map encN)) (hok.trans hru1))) ?_
    refine Next.weak [0, 1] [] (by rfl) (keepsN hC _ rfl) wG (by exact ⟨wS, ⟨ent_own rfl rfl rfl, trivial⟩⟩) wN hK3
   have hua : ¬ u = (a : Int) := by simpa using hb
   rw [if_neg hua] at hstp
   have hl1 : LLok n ll := hlj
   have hru1 : rowAt' ll u.toNat = ru := hrue
   have hfin : ru.foldl (mergeL g.r v) ll = stepU g.r a v ll u := hstp.symm
   rw [← hfin] at hK3
   clear hfin
   refine nK ?_
   refine zb ?_
   refine zy ?_
   refine za ?_
   refine rpZ 69 rfl (op_idx_sl0 u.toNat rfl (oT rfl) (oT rfl) (by intro _; omega)) ?_
   refine rlZ 70 rfl (op_load1_refs rfl (oT rfl) (by intro _; exact ⟨rfl, set_get (ownL 1 (rowsI ll)) u.toNat [.sl 2 1 0 ru.length] (by rw [ownL_len, rowsI_len, hl1.len]; omega)⟩) rfl) ?_
   refine zbi ?_
   refine zbb ?_
   refine zc ?_
   refine nK ?_
   refine n_loop (ι := Nat) (fun k => ([(1, IV .i64 a), (3, .fz (VLL up)), (4, .fz (.cellp (encG g))), (12, .ptr 0 1 0 0), (45, .fz (.vals 1 (l2.map encT))), (46, IV .i64 l2.length), (47, IV .i64 i), (14, .fz (.cellp [If .i64 v])), (15, .clo 91 [] [.fz (.cellp (encG g)), .fz (.cellp [If .i64 v]), .ptr 0 1 0 0]), (55, .fz (VI row)), (56, IV .i64 row.length), (57, IV .i64 j), (70, .sl 2 1 0 ru.length), (71, IV .i64 ru.length), (72, IV .i64 k)], [(0, some (.refs 1 [[.sl 1 1 0 n]])), (1, some (.refs 1 (tkL (rowsI ((ru.take k).foldl (mergeL g.r v) ll)) u.toNat ru.length))), (2, OI ru)], 3)) (fun k => k ≤ ru.length) (fun k => ru.length - k) 0 (Nat.zero_le _) ?_ ?_
   ·refine Next.weak [0, 1, 2] [] (by rfl) (keepsN hC _ rfl) wG (by exact ⟨wS, ⟨ent_tk rfl rfl rfl (by decide) rfl, ⟨wS, trivial⟩⟩⟩) wN rel_intro
   intro k hk K4 hK4
   try dsimp only at hk hK4 ⊢
   have hlk : LLok n ((ru.take k).foldl (mergeL g.r v) ll) := LLok.fold hv _ hl1 fun x hx => hruok x (List.mem_of_mem_take hx)
   have hok := fold_other (r := g.r) (v := v) (u := u.toNat) huv (ru.take k) ll
   refine nK ?_
   refine zb ?_
   refine zp ?_
   refine zc ?_
   refine nK ?_
   refine n_cond _ rfl (fun hb => ?_) (fun hb => ?_)
   ·have hkl : k < ru.length := by simp at hb; omega
    have hrk := row_at' encN ru k hkl
    have hxk := hruok _ (List.getElem_mem hkl)
    have hK5 := hK4 (k + 1) (by omega) (by omega)
    rw [foldl_take_succ _ _ _ _ hkl] at hK5
    have hmg := fun x => merge_c g u.toNat v n ru.length ru ((ru.take k).foldl (mergeL g.r v) ll) x huv hlk.len hv hn (Nat.le_trans (hlk.row v hv).len (by omega))
    generalize (ru.take k).foldl (mergeL g.r v) ll = llk at *
    generalize ru[k] = x at *
    refine nK ?_
    refine zb ?_
    refine rpZ 74 rfl (op_idx_sl0 k rfl (oT rfl) (oT rfl) (by intro _; exact ⟨rfl, hkl⟩)) ?_
    refine rlZ 75 rfl (op_load1_flat rfl (oT rfl) (by intro _; exact ⟨rfl, hrk⟩) rfl) ?_
    refine zd ?_
    refine zc ?_
    refine nK ?_
    refine zb ?_
    refine za ?_
    refine za ?_
    refine Run.eff (dd := some 78) rfl rfl (op_call (n := 3) (n' := 3) [0, 1, 2] (fun _ => hmg x) rfl (oT rfl) (oS (oT rfl) Opds.nil) rfl rfl (Lent.of rfl rfl (by exact ⟨⟨rfl, rfl, rfl, tL⟩, ⟨rfl, rfl, congrArg some (renO_tk rfl _ _ _).symm, ltO_tk (by decide) _ _ _⟩, ⟨rfl, rfl, rfl, trivial⟩, trivial⟩) rfl) rfl rfl rfl rfl rfl) ?_
    refine zc ?_
    refine nK ?_
    refine zb ?_
    refine zl ?_
    refine za ?_
    refine zc ?_
    refine nK ?_
    refine Next.weak [0, 1, 2] [] (by rfl) (keepsN hC _ rfl) wG (by exact ⟨wS, ⟨ent_tk rfl rfl rfl (by decide) (congrArg some (renO_tk rfl _ _ _)), ⟨wS, trivial⟩⟩⟩) wN hK5
   have hke : k = ru.length := by simp at hb; omega
   subst hke
   rw [List.take_length] at *
   refine nK ?_
   refine zb ?_
   refine zl ?_
   refine za ?_
   refine zc ?_
   refine nK ?_
   refine Next.untake 1 u.toNat 0 rfl (set_get _ _ _ (by rw [ownL_len, rowsI_len, hlk.len]; omega)) rfl rfl (List.length_map _) (tk_put (by rw [rowsI_get (by rw [hlk.len]; omega)]; exact congrArg (fun r => some (r.map encN)) (hok.trans hru1))) ?_
   refine Next.weak [0, 1] [] (by rfl) (keepsN hC _ rfl) wG (by exact ⟨wS, ⟨ent_own rfl rfl rfl, trivial⟩⟩) wN hK3
  have hje : j = row.length := by simp at hb; omega
  subst hje
  rw [List.take_length] at *
  refine nK ?_
  refine zb ?_
  refine zl ?_
  refine za ?_
  refine zc ?_
  refine nK ?_
  refine Next.weak [0, 1] [] (by rfl) (keepsN hC _ rfl) wG (by exact ⟨wS, ⟨ent_own rfl rfl rfl, trivial⟩⟩) wN hK3
 have hie : i = l2.length := by simp at hb; omega
 subst hie
 rw [List.take_length] at *
 refine Next.freezeOwn 1 rfl rfl ?_
 refine nK ?_
 refine zb ?_
 refine zy ?_
 refine zd ?_
 refine zc ?_
 refine nK ?_
 have hFl : (fzL 1 (rowsI (hopsL g.r a n up l2))).length = n := by rw [fzL_len, rowsI_len]; exact hli.len
 refine Next.weakS [] [8] (by rfl) (keeps0 hC _) (G' := [(8, .fz (VLL (hopsL g.r a n up l2)))]) (H' := []) ⟨⟨_, rfl, .inr ⟨_, rfl, .sl _ _ _ _ _ _ rfl rfl ((take_all0 hFl).trans (fz_rowsI _)) (by rw [← fz_rowsI, hFl])⟩⟩, trivial⟩ trivial rfl ?_
 exact n_out1 rfl (by rfl) rfl rfl
open Go Go.RT Go.Proofs Go.Pl
set_option maxRecDepth 20000
set_option maxHeartbeats 2000000
theorem run_c (g : Gr) (a : Nat) (t : Tr) (hok : okG g) (h : RunOk g a t) : Pure Tryz.prog 52 [.agg (encG g), If .i64 a] (.tup [.agg (encTr t), If .i64 0]) := by
 obtain ⟨vg, h0, h1⟩ := checkI_vg h.ok
 have hlt := h.lt
 obtain ⟨l2, p, q, hh⟩ := h.hops
 have hd := dist_c g a t.dist h.ok hok (by omega) h.dl h.dist
 have hp := parents_c g a t.dist h.ok h.dl (fun v hv => by have := (h.dist v hv).small vg (by omega) hv; omega)
 have hup := parL_ok vg a t.dist
 rw [← h.par] at hp hup
 have hho := hops_c g a (g.r + g.n).toNat t.dist t.par l2 vg.n128 h.dl (by omega) hup p q
 rw [← hh] at hho
 have hck := h.ok
 obtain ⟨rt, d, hs, pr⟩ := t
 have hrt : rt = a := h.root
 subst hrt
 dsimp only at hd hp hho
 clear hh h hup q p
 refine Meets.intro Tryz.func52 rfl (Nat.le_of_ble_eq_true rfl) fun C hC => ?_
 simp only [List.map, argEnv, Nat.reduceAdd]
 refine nK ?_
 refine zb ?_
 refine zq ?_
 refine zu ?_
 refine ze ?_
 refine zc ?_
 refine nK ?_
 refine zb ?_
 refine zk ?_
 refine rpZ 9 rfl (op_call_pure (fun _ => check_c _ (by assumption)) rfl (Opd.func _) (oS (oT rfl) Opds.nil)) ?_
 refine zd ?_
 refine zc ?_
 refine nK ?_
 refine zb ?_
 refine za ?_
 refine zbd ?_
 refine zc ?_
 refine nK ?_
 refine n_cond _ rfl (fun hb => ?_) (fun hb => ?_)
 ·simp at hb; omega
 refine nK ?_
 refine zb ?_
 refine za ?_
 refine zbn ?_
 refine za ?_
 refine zf ?_
 refine zn ?_
 refine zm ?_
 refine zbz ?_
 refine zv ?_
 refine zc ?_
 refine nK ?_
 refine n_cond _ rfl (fun hb => ?_) (fun hb => ?_)
 ·simp at hb; omega
 refine nK ?_
 refine zb ?_
 refine za ?_
 refine zk ?_
 refine za ?_
 refine rpZ 26 rfl (op_call_pure (fun _ => hd) rfl (Opd.func _) (oS (oT rfl) (oS (oT rfl) Opds.nil))) ?_
 refine rpZ 27 rfl (op_build rfl rfl rfl (FillF.cons _ _ _ _ _ _ _ _ _ _ (by rfl) (oT rfl) tC (by rfl) tR (FillF.cons _ _ _ _ _ _ _ _ _ _ (by rfl) (oT rfl) tC (by rfl) tR (FillF.nil _)))) ?_
 refine zu ?_
 refine zr ?_
 refine zc ?_
 refine nK ?_
 refine zb ?_
 refine zk ?_
 refine za ?_
 refine zg ?_
 refine zh ?_
 refine rpZ 32 rfl (op_call_pure (fun _ => hp) rfl (Opd.func _) (oS (oT rfl) (oS (oT rfl) (oS (oT rfl) Opds.nil)))) ?_
 refine zg ?_
 refine zr ?_
 refine zc ?_
 refine nK ?_
 refine zb ?_
 refine zk ?_
 refine za ?_
 refine zg ?_
 refine zh ?_
 refine zg ?_
 refine zh ?_
 refine rpZ 40 rfl (op_call_pure (fun _ => hho) rfl (Opd.func _) (oS (oT rfl) (oS (oT rfl) (oS (oT rfl) (oS (oT rfl) Opds.nil))))) ?_
 refine zg ?_
 refine zr ?_
 refine zc ?_
 refine nK ?_
 refine zb ?_
 refine zk ?_
 refine zr ?_
 refine ze ?_
 refine zc ?_
 refine nK ?_
 exact wO hC
open Go Go.RT Go.Proofs Go.Pl
set_option maxRecDepth 20000
set_option maxHeartbeats 2000000
theorem wHX19a {α : Prop} (h : α := by repeat (first | exact trivial | refine ⟨⟨_, rfl, .inl ⟨rfl, rfl⟩⟩, ?_⟩)) : α := h
theorem wHX19b {α : Prop} (h : α := by repeat (first | exact trivial | refine ⟨wS, ?_⟩ | refine ⟨ent_same rfl rfl (rfEq rfl tU) tL, ?_⟩ | refine ⟨ent_same rfl rfl (flEq rfl (by first | (simp; done) | (simp; omega) | (simp [encE, encN, encB, encT, encL, encTr]; done) | simp [maxC, minC])) trivial, ?_⟩)) : α := h
def smL (ll : List (List Int)) : Prop := ll.length ≤ 9223372036854775807 ∧ ∀ l ∈ ll, l.length ≤ 9223372036854775807
def smT (t : Tr) : Prop := t.dist.length ≤ 9223372036854775807 ∧ smL t.hops ∧ smL t.par
theorem equali_c (a b : List Int) (ha : a.length ≤ 9223372036854775807) (hb0 : b.length ≤ 9223372036854775807) : Pure Tryz.prog 43 [VI a, VI b] (Bf (decide (a = b))) := by
 refine Meets.intro Tryz.func43 rfl (Nat.le_of_ble_eq_true rfl) fun C hC => ?_
 simp only [List.map, argEnv, Nat.reduceAdd]
 refine nK ?_
 refine zb ?_
 refine ze ?_
 refine zc ?_
 refine nK ?_
 refine zb ?_
 refine za ?_
 refine zo ?_
 refine za ?_
 refine zo ?_
 refine zbg ?_
 refine zc ?_
 refine nK ?_
 refine n_cond _ rfl (fun hb => ?_) (fun hb => ?_)
 ·have e : decide (a = b) = false := by
   rw [decide_eq_false_iff_not]; rintro rfl; simp at hb
  rw [e]
  refine nK ?_
  refine zb ?_
  refine ze ?_
  refine zc ?_
  refine nK ?_
  exact wO hC
 have hl : a.length = b.length := by simp at hb; omega
 refine nK ?_
 refine zb ?_
 refine za ?_
 refine zo ?_
 refine zbb ?_
 refine zc ?_
 refine nK ?_
 refine n_loop (ι := Nat) (fun i => ([(0, .fz (VI a)), (1, .fz (VI b)), (12, IV .i64 a.length), (13, IV .i64 i)], [], 0)) (fun i => i ≤ a.length ∧ (a = b ↔ a.drop i = b.drop i)) (fun i => a.length - i) 0 ⟨Nat.zero_le _, Iff.rfl⟩ ?_ ?_
 ·refine Next.weak [] [] (by rfl) (keeps0 hC _) wHX19a wHX19b wN rel_intro
 intro i ⟨hi, ho⟩ K hK
 refine nK ?_
 refine zb ?_
 refine zp ?_
 refine zc ?_
 refine nK ?_
 refine n_cond _ rfl (fun hb => ?_) (fun hb => ?_)
 ·have hlt : i < a.length := by simp at hb; omega
  have hlt2 : i < b.length := by omega
  rw [same_step hlt hlt2] at ho
  have hr1 := row_at' encN a i hlt
  have hr2 := row_at' encN b i hlt2
  have hK1 := fun h => hK (i + 1) ⟨by omega, h⟩ (by omega)
  generalize a[i] = x at *
  generalize b[i] = y at *
  refine nK ?_
  refine zb ?_
  refine za ?_
  refine zd ?_
  refine zc ?_
  refine nK ?_
  refine s_draw mixed ?_
  refine za ?_
  refine za ?_
  refine zz ?_
  refine zj ?_
  refine za ?_
  refine za ?_
  refine zz ?_
  refine zj ?_
  refine zbg ?_
  refine zs ?_
  refine nK ?_
  refine n_cond _ rfl (fun hb => ?_) (fun hb => ?_)
  ·have e : decide (a = b) = false := by
    rw [decide_eq_false_iff_not, ho]; simp at hb; exact fun h => hb h.1
   rw [e]
   refine nK ?_
   refine zb ?_
   refine ze ?_
   refine zc ?_
   refine nK ?_
   exact wO hC
  refine nK ?_
  refine zb ?_
  refine zl ?_
  refine za ?_
  refine zc ?_
  refine nK ?_
  refine Next.weak [] [] (by rfl) (keeps0 hC _) wHX19a wHX19b wN (hK1 (ho.trans ⟨fun h => h.2, fun h => ⟨by simpa using hb, h⟩⟩))
 have hie : i = a.length := by simp at hb; omega
 have e : decide (a = b) = true := by
  rw [decide_eq_true_iff, ho, hie, List.drop_length, hl, List.drop_length]
 rw [e]
 refine nK ?_
 refine zb ?_
 refine ze ?_
 refine zc ?_
 refine nK ?_
 exact wO hC
theorem same1_c (a b : List Int) (ha : a.length ≤ 9223372036854775807) (hb0 : b.length ≤ 9223372036854775807) : Pure Tryz.prog 73 [VI a, VI b] (Bf (decide (a = b))) := by
 refine Meets.intro Tryz.func73 rfl (Nat.le_of_ble_eq_true rfl) fun C hC => ?_
 simp only [List.map, argEnv, Nat.reduceAdd]
 refine nK ?_
 refine zb ?_
 refine ze ?_
 refine zc ?_
 refine nK ?_
 refine zb ?_
 refine za ?_
 refine za ?_
 refine rpZ 7 rfl (op_call_pure (fun _ => equali_c _ _ (by assumption) (by assumption)) rfl (Opd.func _) (oS (oT rfl) (oS (oT rfl) Opds.nil))) ?_
 refine zd ?_
 refine zc ?_
 refine nK ?_
 exact wO hC
theorem equalF_c (a b : List (List Int)) (ha : smL a) (hb0 : smL b) : Pure Tryz.prog 74 [VLL a, VLL b, .clo 73 []] (Bf (decide (a = b))) := by
 have hal := ha.1
 have hbl := hb0.1
 refine Meets.intro Tryz.func74 rfl (Nat.le_of_ble_eq_true rfl) fun C hC => ?_
 simp only [List.map, argEnv, Nat.reduceAdd]
 refine nK ?_
 refine zb ?_
 refine ze ?_
 refine zc ?_
 refine nK ?_
 refine zb ?_
 refine za ?_
 refine zo ?_
 refine za ?_
 refine zo ?_
 refine zbg ?_
 refine zc ?_
 refine nK ?_
 refine n_cond _ rfl (fun hb => ?_) (fun hb => ?_)
 ·have e : decide (a = b) = false := by
   rw [decide_eq_false_iff_not]; rintro rfl; simp at hb
  rw [e]
  refine nK ?_
  refine zb ?_
  refine ze ?_
  refine zc ?_
  refine nK ?_
  exact wO hC
 have hl : a.length = b.length := by simp at hb; omega
 refine nK ?_
 refine zb ?_
 refine za ?_
 refine zo ?_
 refine zbb ?_
 refine zc ?_
 refine nK ?_
 refine n_loop (ι := Nat) (fun i => ([(0, .fz (VLL a)), (1, .fz (VLL b)), (2, .fz (.clo 73 [])), (15, .fz (VLL a)), (16, IV .i64 a.length), (17, IV .i64 i)], [], 0)) (fun i => i ≤ a.length ∧ (a = b ↔ a.drop i = b.drop i)) (fun i => a.length - i) 0 ⟨Nat.zero_le _, Iff.rfl⟩ ?_ ?_
 ·refine Next.weak [] [] (by rfl) (keeps0 hC _) wHX19a wHX19b wN rel_intro
 intro i ⟨hi, ho⟩ K hK
 refine nK ?_
 refine zb ?_
 refine zp ?_
 refine zc ?_
 refine nK ?_
 refine n_cond _ rfl (fun hb => ?_) (fun hb => ?_)
 ·have hlt : i < a.length := by simp at hb; omega
  have hlt2 : i < b.length := by omega
  rw [same_step hlt hlt2] at ho
  have hr1 := row_at' encL a i hlt
  have hr2 := row_at' encL b i hlt2
  have hK1 := fun h => hK (i + 1) ⟨by omega, h⟩ (by omega)
  have hx := ha.2 _ (List.getElem_mem hlt)
  have hy := hb0.2 _ (List.getElem_mem hlt2)
  generalize a[i] = x at *
  generalize b[i] = y at *
  refine nK ?_
  refine zb ?_
  refine za ?_
  refine zz ?_
  refine zj ?_
  refine zd ?_
  refine zd ?_
  refine zc ?_
  refine nK ?_
  refine zb ?_
  refine za ?_
  refine za ?_
  refine zz ?_
  refine zj ?_
  refine zd ?_
  refine zc ?_
  refine nK ?_
  refine zb ?_
  refine za ?_
  refine za ?_
  refine za ?_
  refine rpZ 29 rfl (op_call_pureC (args := [VI x, VI y]) (caps := []) (fun _ => same1_c x y hx hy) rfl (oT rfl) (oS (oT rfl) (oS (oT rfl) Opds.nil))) ?_
  refine zbj ?_
  refine zc ?_
  refine nK ?_
  refine n_cond _ rfl (fun hb => ?_) (fun hb => ?_)
  ·have e : decide (a = b) = false := by
    rw [decide_eq_false_iff_not, ho]; simp at hb; exact fun h => hb h.1
   rw [e]
   refine nK ?_
   refine zb ?_
   refine ze ?_
   refine zc ?_
   refine nK ?_
   exact wO hC
  refine nK ?_
  refine zb ?_
  refine zl ?_
  refine za ?_
  refine zc ?_
  refine nK ?_
  refine Next.weak [] [] (by rfl) (keeps0 hC _) wHX19a wHX19b wN (hK1 (ho.trans ⟨fun h => h.2, fun h => ⟨by simpa using hb, h⟩⟩))
 have hie : i = a.length := by simp at hb; omega
 have e : decide (a = b) = true := by
  rw [decide_eq_true_iff, ho, hie, List.drop_length, hl, List.drop_length]
 rw [e]
 refine nK ?_
 refine zb ?_
 refine ze ?_
 refine zc ?_
 refine nK ?_
 exact wO hC
theorem tr_eq (a b : Tr) : decide (a = b) = (decide (a.root = b.root) && decide (a.dist = b.dist) && decide (a.hops = b.hops) && decide (a.par = b.par)) := by
 cases a; cases b; simp [Bool.decide_and, Bool.and_assoc]
theorem same_c (a b : Tr) (ha : smT a) (hb : smT b) : Pure Tryz.prog 53 [.agg (encTr a), .agg (encTr b)] (Bf (decide (a = b))) := by
 rw [tr_eq]
 obtain ⟨a1, a2, a3⟩ := ha
 obtain ⟨b1, b2, b3⟩ := hb
 obtain ⟨r1, d1, h1, p1⟩ := a
 obtain ⟨r2, d2, h2, p2⟩ := b
 dsimp only at *
 refine Meets.intro Tryz.func53 rfl (Nat.le_of_ble_eq_true rfl) fun C hC => ?_
 simp only [List.map, argEnv, Nat.reduceAdd]
 refine nK ?_
 refine zb ?_
 refine zq ?_
 refine zq ?_
 refine ze ?_
 refine zc ?_
 refine nK ?_
 refine zb ?_
 refine rpZ 5 rfl (op_assign rfl (Opd.funcF _)) ?_
 refine zc ?_
 refine nK ?_
 refine zb ?_
 refine zg ?_
 refine zh ?_
 refine zg ?_
 refine zh ?_
 refine zbr ?_
 refine za ?_
 refine zn ?_
 refine zm ?_
 refine zn ?_
 refine zm ?_
 refine rgZ 16 rfl rfl tG (op_call_pure (fun _ => equali_c _ _ (by assumption) (by assumption)) rfl (Opd.func _) (oS (oO rfl tO) (oS (oO rfl tO) Opds.nil))) ?_
 refine zt ?_
 refine za ?_
 refine zn ?_
 refine zm ?_
 refine zn ?_
 refine zm ?_
 refine zf ?_
 refine rgZ 24 rfl rfl tG (op_call_pure (fun _ => equalF_c _ _ (by assumption) (by assumption)) rfl (Opd.func _) (oS (oO rfl tO) (oS (oO rfl tO) (oS (oO rfl tO) Opds.nil)))) ?_
 refine zt ?_
 refine za ?_
 refine zn ?_
 refine zm ?_
 refine zn ?_
 refine zm ?_
 refine zf ?_
 refine rgZ 32 rfl rfl tG (op_call_pure (fun _ => equalF_c _ _ (by assumption) (by assumption)) rfl (Opd.func _) (oS (oO rfl tO) (oS (oO rfl tO) (oS (oO rfl tO) Opds.nil)))) ?_
 refine zt ?_
 refine zd ?_
 refine zc ?_
 refine nK ?_
 exact wO hC
open Go Go.RT Go.Proofs Go.Pl
set_option maxRecDepth 20000
set_option maxHeartbeats 2000000
open Go Go.RT Go.Proofs Go.Pl
set_option maxRecDepth 20000
set_option maxHeartbeats 4000000
open Go Go.RT Go.Proofs Go.Pl
set_option maxRecDepth 20000
set_option maxHeartbeats 4000000
open Go Go.RT Go.Proofs Go.Pl
set_option maxRecDepth 20000
set_option maxHeartbeats 4000000
theorem cost_bnd {es : List Edg} {r n : Nat} (vg : VG es r n) (f t : Int) : 0 ≤ (costL f t es).1 ∧ (costL f t es).1 ≤ 65535 := by
 cases h : (costL f t es).2 with
 | true =>
  obtain ⟨e, he, _, _, h3⟩ := (cost_yes vg.asc).1 h
  rw [← h3]; exact vg.c e he
 | false =>
  have : ∀ l : List Edg, (costL f t l).2 = false → (costL f t l).1 = 0 := fun l => by
   induction l with
   | nil => intro _; rfl
   | cons x l ih =>
    simp only [costL]
    split
    ·simp
    exact ih
  rw [this es h]; omega
end Go.Proofs.YtcillieggklaaaaGreat
namespace Go.Pl
open Go Go.RT
set_option linter.all false
/- distances as a fixed point that is held up -/
structure Fx (es : List Edg) (n a : Nat) (D : List Int) : Prop where
  root : gt0 D a = 0
  fix : ∀ e ∈ es, 0 ≤ gt0 D e.f.toNat → 0 ≤ gt0 D e.t.toNat ∧ gt0 D e.t.toNat ≤ gt0 D e.f.toNat + e.c
  sup : ∀ v, v < n → v ≠ a → 0 ≤ gt0 D v → ∃ e ∈ es, e.t = (v : Int) ∧ 0 ≤ gt0 D e.f.toNat ∧ gt0 D e.f.toNat + e.c = gt0 D v
  neg : ∀ v, v < n → gt0 D v < 0 → gt0 D v = -1
theorem Fx.walk {es : List Edg} {r n a : Nat} {D : List Int} (vg : VG es r n) (h : Fx es n a D) : ∀ (k v : Nat), v < n → 0 ≤ gt0 D v → (gt0 D v).toNat * 129 + (n - v) ≤ k → Wk es a v (gt0 D v) := by
  intro k
  induction k with
  | zero => intro v hv _ hk; omega
  | succ k ih =>
    intro v hv h0 hk
    by_cases hva : v = a
    · subst hva; rw [h.root]; exact .nil
    · obtain ⟨e, he, ht, hf, hs⟩ := h.sup v hv hva h0
      have hfn := vg.f e he
      have hc := vg.c e he
      have hn := vg.n128
      have w : Wk es a e.f.toNat (gt0 D e.f.toNat) := by
        refine ih e.f.toNat (by omega) hf ?_
        by_cases hc0 : e.c = 0
        · have hr : (r : Int) ≤ e.f := by
            by_cases hlt : e.f < (r : Int)
            · have := vg.rt e he hlt; omega
            · omega
          have := (vg.net e he hr).1
          have e1 : gt0 D e.f.toNat = gt0 D v := by omega
          rw [e1]; omega
        · have e1 : (gt0 D e.f.toNat).toNat + 1 ≤ (gt0 D v).toNat := by omega
          have e2 := Nat.mul_le_mul_right 129 e1
          omega
      have := Wk.snoc w he
      rw [hs, ht, Int.toNat_natCast] at this
      exact this
theorem Fx.isD {es : List Edg} {r n a : Nat} {D : List Int} (vg : VG es r n) (h : Fx es n a D) : ∀ v, v < n → IsD es a v (gt0 D v) :=
  isD_cert h.root h.fix fun v hv => by
    by_cases h0 : 0 ≤ gt0 D v
    · exact .inr (h.walk vg _ v hv h0 (Nat.le_refl _))
    · exact .inl (h.neg v hv (by omega))
theorem fx_of {es : List Edg} {r n a : Nat} {D : List Int} (vg : VG es r n) (ha : a < n) (hD : ∀ v, v < n → IsD es a v (gt0 D v)) : Fx es n a D := by
  have hr : gt0 D a = 0 := by
    rcases (hD a ha).cases vg with ⟨_, h2⟩ | ⟨h1, _, h3⟩
    · exact absurd .nil (h2 0)
    · have := h3 0 .nil; omega
  have hx : ∀ e ∈ es, 0 ≤ gt0 D e.f.toNat → 0 ≤ gt0 D e.t.toNat ∧ gt0 D e.t.toNat ≤ gt0 D e.f.toNat + e.c := fun e he h0 => by
    have hf := vg.f e he; have ht := vg.t e he
    rcases (hD e.f.toNat (by omega)).cases vg with ⟨h1, _⟩ | ⟨_, h2, _⟩
    · omega
    · have w := Wk.snoc h2 he
      rcases (hD e.t.toNat (by omega)).cases vg with ⟨_, h4⟩ | ⟨h3, _, h5⟩
      · exact absurd w (h4 _)
      · exact ⟨h3, h5 _ w⟩
  refine ⟨hr, hx, fun v hv hne h0 => ?_, fun v hv h0 => ?_⟩
  · rcases (hD v hv).cases vg with ⟨h1, _⟩ | ⟨_, w, hm⟩
    · omega
    · generalize hd : gt0 D v = d at w hm
      have key : ∀ {v' : Nat} {d' : Int}, Wk es a v' d' → v' = v → d' = d → ∃ e ∈ es, e.t = (v : Int) ∧ 0 ≤ gt0 D e.f.toNat ∧ gt0 D e.f.toNat + e.c = d := fun {v' d'} w' hv' hd' => by
        cases w' with
        | nil => exact absurd hv'.symm hne
        | @snoc e c w2 he =>
          have hf := vg.f e he; have ht := vg.t e he
          rcases (hD e.f.toNat (by omega)).cases vg with ⟨_, h4⟩ | ⟨h3, _, h5⟩
          · exact absurd w2 (h4 _)
          · have h6 := h5 _ w2
            have h7 := (hx e he h3).2
            rw [hv', hd] at h7
            exact ⟨e, he, by omega, h3, by omega⟩
      exact key w rfl rfl
  · rcases hD v hv with ⟨h1, _⟩ | ⟨w, _⟩
    · exact h1
    · have := w.nn vg; omega
/-- only the root is at distance 0 -/
theorem Fx.pos {es : List Edg} {r n a : Nat} {D : List Int} (vg : VG es r n) (har : a < r) (h : Fx es n a D) {v : Nat} (hv : v < n) (hne : v ≠ a) (h0 : 0 ≤ gt0 D v) : 1 ≤ gt0 D v := by
  obtain ⟨e, he, ht, hf, hs⟩ := h.sup v hv hne h0
  have hfn := vg.f e he
  by_cases hlt : e.f < (r : Int)
  · have := vg.rt e he hlt; omega
  · have hc := vg.c e he
    obtain ⟨e2, he2, ht2, hf2, hs2⟩ := h.sup e.f.toNat (by omega) (by omega) hf
    by_cases hlt2 : e2.f < (r : Int)
    · have := vg.rt e2 he2 hlt2; omega
    · have := (vg.net e2 he2 (by omega)).1; omega
/- one change of a graph -/
structure ChRel (es es' : List Edg) (c : Edg) (old : Int) : Prop where
  out : ∀ e ∈ es', ¬ (e.f = c.f ∧ e.t = c.t) → e ∈ es
  ins : ∀ e ∈ es, ¬ (e.f = c.f ∧ e.t = c.t) → e ∈ es'
  new : 0 ≤ c.c → c ∈ es'
  one : ∀ e ∈ es', e.f = c.f ∧ e.t = c.t → 0 ≤ c.c ∧ e.c = c.c
  had : 0 ≤ old → ⟨c.f, c.t, old⟩ ∈ es
  was : ∀ e ∈ es, e.f = c.f ∧ e.t = c.t → e.c = old
theorem asc_key {l : List Edg} (h : AscK l) {x y : Edg} (hx : x ∈ l) (hy : y ∈ l) (hk : x.f = y.f ∧ x.t = y.t) : x = y := by
  obtain ⟨i, hi, rfl⟩ := List.mem_iff_getElem.1 hx
  obtain ⟨j, hj, rfl⟩ := List.mem_iff_getElem.1 hy
  rcases Nat.lt_trichotomy i j with hlt | rfl | hlt
  · have := asc_get h hlt hj; unfold ltK at this; omega
  · rfl
  · have := asc_get h hlt hi; unfold ltK at this; omega
def oldI (es : List Edg) (c : Edg) : Int := if (costL c.f c.t es).2 = true then (costL c.f c.t es).1 else -1
theorem old_spec {es : List Edg} {r n : Nat} (vg : VG es r n) (c : Edg) : (0 ≤ oldI es c → ⟨c.f, c.t, oldI es c⟩ ∈ es) ∧ ∀ e ∈ es, e.f = c.f ∧ e.t = c.t → e.c = oldI es c := by
  unfold oldI
  by_cases h : (costL c.f c.t es).2 = true
  · rw [if_pos h]
    obtain ⟨e, he, h1, h2, h3⟩ := (cost_yes vg.asc).1 h
    refine ⟨fun _ => ?_, fun e' he' hk => ?_⟩
    · rw [← h3, ← h1, ← h2]; exact he
    · rw [← h3, asc_key vg.asc he' he (by omega)]
  · have h' : (costL c.f c.t es).2 = false := by simpa using h
    rw [if_neg h]
    exact ⟨fun h0 => by omega, fun e' he' hk => absurd hk (cost_none.1 h' e' he')⟩
theorem chg_rel {g : Gr} (hg : checkI g = 0) (c : Edg) (hz : (chgF g c).2 = 0) :
    ∃ es', (chgF g c).1 = ⟨g.r, g.n, es'⟩ ∧ checkI ⟨g.r, g.n, es'⟩ = 0 ∧ ChRel g.es es' c (oldI g.es c) ∧ nodeB g c.f = true ∧ nodeB g c.t = true := by
  have hasc := check_asc hg
  obtain ⟨⟨h1, h2, h3⟩, hlen, hchk⟩ := checkI_ok hg
  have hal := chkL_alw _ _ hchk
  obtain ⟨vg, _, _⟩ := checkI_vg hg
  obtain ⟨hA, hB, hC, _, _⟩ := (chg_eq (c := c) hasc hlen).2 hz
  obtain ⟨o1, o2⟩ := old_spec vg c
  have hck : ∀ es', (∀ e ∈ es', alwI g e = 0) → AscK es' → es'.length ≤ 1024 → checkI ⟨g.r, g.n, es'⟩ = 0 := fun es' ha hs hl => by
    have hs' : sizeI ⟨g.r, g.n, es'⟩ = 0 := by
      unfold sizeI
      rw [if_neg (by dsimp only; omega), if_neg (by dsimp only; omega)]
    unfold checkI
    rw [if_neg (by rw [hs']; simp)]
    exact chkL_of es' none ha hs (fun q hq => by cases hq)
  obtain ⟨bs1, bs2, bs3⟩ := bsAt_spec hasc c
  have hbt := fun h => bsHit_true (l := g.es) c h
  have hbf := fun h => bsHit_false hasc c h
  unfold chgF at hz hB hC ⊢
  by_cases q1 : nodeB g c.f = false ∨ nodeB g c.t = false
  · rw [if_pos q1] at hz; cases hz
  · rw [if_neg q1] at hz hB hC ⊢
    have qn : nodeB g c.f = true ∧ nodeB g c.t = true := by simpa using q1
    by_cases q2 : c.c < 0
    · rw [if_pos q2] at hz hB hC ⊢
      by_cases q3 : bsHit g.es c = false
      · rw [if_pos q3] at hz; cases hz
      · rw [if_neg q3] at hz hB hC ⊢
        obtain ⟨k1, k2, k3⟩ := hbt (by simpa using q3)
        generalize bsAt g.es c = k at *
        have hmem : ∀ e, e ∈ delL g.es k (k + 1) → ∃ j, ∃ hj : j < g.es.length, j ≠ k ∧ g.es[j] = e := fun e he => by
          unfold delL at he
          rcases List.mem_append.1 he with he | he
          · obtain ⟨j, hj, e2⟩ := List.mem_iff_getElem.1 he
            rw [List.getElem_take] at e2
            rw [List.length_take] at hj
            exact ⟨j, by omega, by omega, e2⟩
          · obtain ⟨j, hj, e2⟩ := List.mem_iff_getElem.1 he
            rw [List.getElem_drop] at e2
            rw [List.length_drop] at hj
            exact ⟨k + 1 + j, by omega, by omega, e2⟩
        have hmem2 : ∀ j (hj : j < g.es.length), j ≠ k → g.es[j] ∈ delL g.es k (k + 1) := fun j hj hne => by
          unfold delL
          by_cases hjk : j < k
          · exact List.mem_append.2 (.inl (List.mem_iff_getElem.2 ⟨j, by rw [List.length_take]; omega, by rw [List.getElem_take]⟩))
          · refine List.mem_append.2 (.inr (List.mem_iff_getElem.2 ⟨j - (k + 1), by rw [List.length_drop]; omega, ?_⟩))
            rw [List.getElem_drop]; congr 1; omega
        have hsub : ∀ e ∈ delL g.es k (k + 1), e ∈ g.es := fun e he => by
          obtain ⟨j, hj, _, e2⟩ := hmem e he
          rw [← e2]; exact List.getElem_mem hj
        refine ⟨_, rfl, hck _ (fun e he => hal e (hsub e he)) hB hC, ⟨fun e he _ => hsub e he, fun e he hk => ?_, fun h => by omega, fun e he hk => ?_, o1, o2⟩, qn⟩
        · obtain ⟨j, hj, e2⟩ := List.mem_iff_getElem.1 he
          have hjk : j ≠ k := fun e3 => by subst e3; rw [← e2] at hk; exact hk ⟨k2, k3⟩
          rw [← e2]; exact hmem2 j hj hjk
        · obtain ⟨j, hj, hjk, e2⟩ := hmem e he
          exfalso
          have := asc_key hasc (hsub e he) (List.getElem_mem k1) (by omega)
          rcases Nat.lt_or_gt_of_ne hjk with hlt | hlt
          · have h4 := asc_get hasc hlt k1; rw [e2, this] at h4; unfold ltK at h4; omega
          · have h4 := asc_get hasc hlt hj; rw [e2, this] at h4; unfold ltK at h4; omega
    · rw [if_neg q2] at hz hB hC ⊢
      by_cases q3 : alwI g c ≠ 0
      · rw [if_pos q3] at hz; exact absurd hz q3
      · rw [if_neg q3] at hz hB hC ⊢
        have ha0 : alwI g c = 0 := by simpa using q3
        by_cases q4 : bsHit g.es c = true
        · rw [if_pos q4] at hz hB hC ⊢
          obtain ⟨k1, k2, k3⟩ := hbt q4
          generalize bsAt g.es c = k at *
          have hcm : c ∈ g.es.set k c := List.mem_iff_getElem.2 ⟨k, by simpa using k1, by simp⟩
          refine ⟨_, rfl, hck _ (fun e he => ?_) hB hC, ⟨fun e he hk => ?_, fun e he hk => ?_, fun _ => hcm, fun e he hk => ⟨by omega, ?_⟩, o1, o2⟩, qn⟩
          · rcases List.mem_or_eq_of_mem_set he with h | rfl
            · exact hal e h
            · exact ha0
          · rcases List.mem_or_eq_of_mem_set he with h | rfl
            · exact h
            · exact absurd ⟨rfl, rfl⟩ hk
          · obtain ⟨j, hj, e2⟩ := List.mem_iff_getElem.1 he
            have hjk : k ≠ j := fun e3 => by subst e3; rw [← e2] at hk; exact hk ⟨k2, k3⟩
            exact List.mem_iff_getElem.2 ⟨j, by simpa using hj, by rw [List.getElem_set, if_neg hjk]; exact e2⟩
          · rw [asc_key hB he hcm hk]
        · rw [if_neg q4] at hz hB hC ⊢
          by_cases q5 : g.es.length = 1024
          · rw [if_pos q5] at hz; cases hz
          · rw [if_neg q5] at hz hB hC ⊢
            have hno := hbf (by simpa using q4)
            generalize bsAt g.es c = k at *
            have hm : ∀ e, e ∈ insL g.es k c ↔ e = c ∨ e ∈ g.es := fun e => by
              unfold insL
              have : e ∈ g.es ↔ e ∈ g.es.take k ++ g.es.drop k := by rw [List.take_append_drop]
              rw [this]
              simp only [List.mem_append, List.mem_cons]
              constructor
              · rintro (h | h | h)
                · exact .inr (.inl h)
                · exact .inl h
                · exact .inr (.inr h)
              · rintro (h | h | h)
                · exact .inr (.inl h)
                · exact .inl h
                · exact .inr (.inr h)
            refine ⟨_, rfl, hck _ (fun e he => ?_) hB hC, ⟨fun e he hk => ?_, fun e he hk => (hm e).2 (.inr he), fun _ => (hm c).2 (.inl rfl), fun e he hk => ⟨by omega, ?_⟩, o1, o2⟩, qn⟩
            · rcases (hm e).1 he with rfl | h
              · exact ha0
              · exact hal e h
            · rcases (hm e).1 he with rfl | h
              · exact absurd ⟨rfl, rfl⟩ hk
              · exact h
            · rcases (hm e).1 he with rfl | h
              · rfl
              · exact absurd hk (hno e h)
open Go Go.RT
/- settling from distances that are upper bounds -/
def relE (d : List Int) (k : Int) (h : Hq) (e : Edg) : Hq := if (gt0 d e.t.toNat < 0 ∨ k + e.c < gt0 d e.t.toNat) ∧ (h.place e.t.toNat < 0 ∨ k + e.c < h.key e.t.toNat) then setH h e.t.toNat (k + e.c) else h
def setF (es : List Edg) : Nat → List Int → Hq → List Int × Hq
  | 0, d, h => (d, h)
  | f + 1, d, h => if h.it.length = 0 then (d, h) else setF es f (d.set (h.item 0) (h.key (h.item 0))) ((outE es (h.item 0)).foldl (relE (d.set (h.item 0) (h.key (h.item 0))) (h.key (h.item 0))) (dropH h (h.item 0)))
structure SJ (es : List Edg) (n a : Nat) (B : Int) (d : List Int) (h : Hq) (S : List Nat) (b : Int) (todo : List Edg) : Prop where
  hg : HG h
  hl : h.pl.length = n
  dl : d.length = n
  root : gt0 d a = 0
  neg : ∀ v, v < n → gt0 d v < 0 → gt0 d v = -1
  sup : ∀ v, v < n → v ≠ a → 0 ≤ gt0 d v → 0 ≤ h.place v ∨ ∃ e ∈ es, e.t = (v : Int) ∧ 0 ≤ gt0 d e.f.toNat ∧ gt0 d e.f.toNat + e.c ≤ gt0 d v
  q : ∀ v, v < n → 0 ≤ h.place v → v ≠ a ∧ 0 ≤ h.key v ∧ (gt0 d v < 0 ∨ h.key v < gt0 d v) ∧ b ≤ h.key v ∧ h.key v ≤ B + 65535 * S.length ∧ v ∉ S ∧ ∃ e ∈ es, e.t = (v : Int) ∧ 0 ≤ gt0 d e.f.toNat ∧ gt0 d e.f.toNat + e.c ≤ h.key v
  rel : ∀ e ∈ es, 0 ≤ gt0 d e.f.toNat → e ∈ todo ∨ (0 ≤ gt0 d e.t.toNat ∧ gt0 d e.t.toNat ≤ gt0 d e.f.toNat + e.c) ∨ (0 ≤ h.place e.t.toNat ∧ h.key e.t.toNat ≤ gt0 d e.f.toNat + e.c)
  nd : S.Nodup
  slt : ∀ v ∈ S, v < n
  sset : ∀ v ∈ S, 0 ≤ gt0 d v ∧ gt0 d v ≤ b
  bd : ∀ v, v < n → gt0 d v ≤ B + 65535 * S.length
  b0 : 0 ≤ B
theorem SJ.done {es : List Edg} {n a : Nat} {B : Int} {d : List Int} {h : Hq} {S : List Nat} {b : Int} (vt : ∀ e ∈ es, 0 ≤ e.t ∧ e.t < n) (o : SJ es n a B d h S b []) (he : h.it.length = 0) : Fx es n a d := by
  have hno : ∀ v, v < n → ¬ 0 ≤ h.place v := fun v hv hp => by
    have := (o.hg.hi.at_ v (by rw [o.hl]; exact hv) hp).1
    omega
  have hfix : ∀ e ∈ es, 0 ≤ gt0 d e.f.toNat → 0 ≤ gt0 d e.t.toNat ∧ gt0 d e.t.toNat ≤ gt0 d e.f.toNat + e.c := fun e hm h0 => by
    have := vt e hm
    rcases o.rel e hm h0 with h1 | h1 | h1
    · cases h1
    · exact h1
    · exact absurd h1.1 (hno _ (by omega))
  refine ⟨o.root, hfix, fun v hv hne h0 => ?_, o.neg⟩
  rcases o.sup v hv hne h0 with h1 | ⟨e, hm, ht, hf, hs⟩
  · exact absurd h1 (hno v hv)
  · have := (hfix e hm hf).2
    rw [ht, Int.toNat_natCast] at this
    exact ⟨e, hm, ht, hf, by omega⟩
theorem SJ.pop {es : List Edg} {n a : Nat} {B : Int} {d : List Int} {h : Hq} {S : List Nat} {b : Int} (vf : ∀ e ∈ es, 0 ≤ e.f ∧ e.f < n) (vt : ∀ e ∈ es, 0 ≤ e.t ∧ e.t < n) (vn : ∀ e ∈ es, e.f ≠ e.t) (o : SJ es n a B d h S b []) (hne : 0 < h.it.length) :
    h.item 0 < n ∧ 0 ≤ h.key (h.item 0) ∧ h.key (h.item 0) ≤ B + 65535 * S.length ∧ S.length < n ∧
    SJ es n a B (d.set (h.item 0) (h.key (h.item 0))) (dropH h (h.item 0)) (h.item 0 :: S) (h.key (h.item 0)) (outE es (h.item 0)) := by
  have hx : h.item 0 < n := by rw [← o.hl]; exact o.hg.hi.ok.item hne
  have hp : 0 ≤ h.place (h.item 0) := by rw [o.hg.hi.inv 0 hne]; decide
  have hmin := fun w hw hp => o.hg.min (w := w) (by rw [o.hl]; exact hw) hp
  obtain ⟨d1, d2, d3, d4, d5⟩ := o.hg.drop (by rw [o.hl]; exact hx) hp
  obtain ⟨q1, q2, q3, q4, q5, q6, q7⟩ := o.q _ hx hp
  unfold Hq.kk at hmin
  generalize h.item 0 = x at *
  have hkey : ∀ w, (dropH h x).key w = h.key w := fun w => by unfold Hq.key; rw [d4]
  generalize hkx : h.key x = k at *
  have hget : ∀ v, gt0 (d.set x k) v = if x = v then k else gt0 d v := fun v => getD_set _ _ _ _ _ (by rw [o.dl]; exact hx)
  have hnd : (x :: S).Nodup := List.nodup_cons.2 ⟨q6, o.nd⟩
  have hlt' : ∀ v ∈ x :: S, v < n := fun v hv => by
    rcases List.mem_cons.1 hv with rfl | hv
    · exact hx
    · exact o.slt v hv
  have hln := nodup_len n _ hnd hlt'
  have hle : ∀ v, 0 ≤ gt0 d v → 0 ≤ gt0 (d.set x k) v ∧ gt0 (d.set x k) v ≤ gt0 d v := fun v hv => by
    rw [hget]
    by_cases e : x = v
    · subst e; rw [if_pos rfl]; omega
    · rw [if_neg e]; exact ⟨hv, Int.le_refl _⟩
  simp only [List.length_cons] at hln
  refine ⟨hx, q2, q5, hln, d1, by rw [d3, o.hl], by rw [List.length_set, o.dl], ?_, fun v hv h0 => ?_, fun v hv hva h0 => ?_, fun v hv h0 => ?_, fun e he h0 => ?_, hnd, hlt', fun v hv => ?_, fun v hv => ?_, o.b0⟩
  · rw [hget, if_neg q1]; exact o.root
  · rw [hget] at h0 ⊢
    by_cases e : x = v
    · rw [if_pos e] at h0; omega
    · rw [if_neg e] at h0 ⊢; exact o.neg v hv h0
  · rw [hget] at h0
    by_cases e : x = v
    · subst e
      obtain ⟨ed, e1, e2, e3, e4⟩ := q7
      refine .inr ⟨ed, e1, e2, (hle _ e3).1, ?_⟩
      rw [hget x, if_pos rfl]
      have := (hle _ e3).2; omega
    · rw [if_neg e] at h0
      rcases o.sup v hv hva h0 with h1 | ⟨ed, e1, e2, e3, e4⟩
      · exact .inl ((d5 v).2 ⟨fun e2 => e e2.symm, h1⟩)
      · refine .inr ⟨ed, e1, e2, (hle _ e3).1, ?_⟩
        rw [hget v, if_neg e]
        have := (hle _ e3).2; omega
  · obtain ⟨e1, e2⟩ := (d5 v).1 h0
    obtain ⟨s1, s2, s3, s4, s5, s6, ed, t1, t2, t3, t4⟩ := o.q v hv e2
    have hm := hmin v hv e2
    unfold le2 at hm; simp only at hm
    rw [hkey, hget, if_neg (fun e => e1 e.symm)]
    refine ⟨s1, s2, s3, by omega, by simp only [List.length_cons]; omega, fun e => ?_, ed, t1, t2, (hle _ t3).1, ?_⟩
    · rcases List.mem_cons.1 e with e | e
      · exact e1 e
      · exact s6 e
    · have := (hle _ t3).2; omega
  · rw [hget] at h0
    have hef := vf e he
    have het := vt e he
    by_cases e1 : x = e.f.toNat
    · refine .inl (List.mem_filter.2 ⟨he, ?_⟩)
      rw [decide_eq_true_eq]; omega
    · rw [if_neg e1] at h0
      rw [hget (e.f.toNat), if_neg e1]
      rcases o.rel e he h0 with h3 | ⟨h3, h4⟩ | ⟨h3, h4⟩
      · cases h3
      · have := hle _ h3
        exact .inr (.inl ⟨this.1, by omega⟩)
      · by_cases e2 : x = e.t.toNat
        · refine .inr (.inl ?_)
          rw [hget, if_pos e2]
          rw [← e2, hkx] at h4
          exact ⟨q2, h4⟩
        · refine .inr (.inr ⟨(d5 _).2 ⟨fun e => e2 e.symm, h3⟩, ?_⟩)
          rw [hkey]; exact h4
  · rw [hget]
    by_cases e : x = v
    · rw [if_pos e]; omega
    · rw [if_neg e]
      rcases List.mem_cons.1 hv with h1 | h1
      · exact absurd h1.symm e
      · have := o.sset v h1; omega
  · rw [hget]
    have := o.bd v hv
    simp only [List.length_cons]
    by_cases e : x = v
    · rw [if_pos e]; omega
    · rw [if_neg e]; omega
theorem SJ.step {es : List Edg} {n a : Nat} {B : Int} {d : List Int} {h : Hq} {S : List Nat} {x : Nat} {b : Int} {e : Edg} {todo : List Edg} (vt : ∀ e ∈ es, 0 ≤ e.t ∧ e.t < n) (vc : ∀ e ∈ es, 0 ≤ e.c ∧ e.c ≤ 65535) (he : e ∈ es) (o : SJ es n a B d h S b (e :: todo)) (hf : gt0 d e.f.toNat = b) (hb0 : 0 ≤ b) (hb : b + 65535 ≤ B + 65535 * S.length) :
    SJ es n a B d (relE d b h e) S b todo := by
  have het := vt e he
  have hec := vc e he
  unfold relE
  by_cases hc : (gt0 d e.t.toNat < 0 ∨ b + e.c < gt0 d e.t.toNat) ∧ (h.place e.t.toNat < 0 ∨ b + e.c < h.key e.t.toNat)
  · rw [if_pos hc]
    have htl : e.t.toNat < h.pl.length := by rw [o.hl]; omega
    obtain ⟨s1, s2, s3, s4⟩ := o.hg.set htl (b + e.c)
    have hkey := key_set (by rw [← o.hg.hi.ok.len]; exact htl) s3
    refine ⟨s1, by rw [s2, o.hl], o.dl, o.root, o.neg, fun v hv hva h0 => ?_, fun v hv h0 => ?_, fun e' he' h0 => ?_, o.nd, o.slt, o.sset, o.bd, o.b0⟩
    · rcases o.sup v hv hva h0 with h1 | h1
      · exact .inl ((s4 v).2 (.inr h1))
      · exact .inr h1
    · rw [hkey]
      by_cases e1 : e.t.toNat = v
      · rw [if_pos e1]; subst e1
        refine ⟨fun e2 => ?_, by omega, hc.1, by omega, by omega, fun e2 => ?_, e, he, by omega, by omega, by omega⟩
        · have := o.root; rw [e2] at hc; omega
        · have := o.sset _ e2; omega
      · rw [if_neg e1]
        rcases (s4 v).1 h0 with h1 | h1
        · exact absurd h1.symm e1
        · exact o.q v hv h1
    · rcases o.rel e' he' h0 with h3 | h3 | ⟨h3, h4⟩
      · rcases List.mem_cons.1 h3 with rfl | h3
        · refine .inr (.inr ⟨(s4 _).2 (.inl rfl), ?_⟩)
          rw [hkey, if_pos rfl]; omega
        · exact .inl h3
      · exact .inr (.inl h3)
      · refine .inr (.inr ⟨(s4 _).2 (.inr h3), ?_⟩)
        rw [hkey]
        by_cases e1 : e.t.toNat = e'.t.toNat
        · rw [if_pos e1]
          rcases hc.2 with h5 | h5
          · rw [← e1] at h3; omega
          · rw [← e1] at h4; omega
        · rw [if_neg e1]; exact h4
  · rw [if_neg hc]
    refine ⟨o.hg, o.hl, o.dl, o.root, o.neg, o.sup, o.q, fun e' he' h0 => ?_, o.nd, o.slt, o.sset, o.bd, o.b0⟩
    rcases o.rel e' he' h0 with h3 | h3
    · rcases List.mem_cons.1 h3 with rfl | h3
      · refine .inr ?_
        rw [hf] at h0 ⊢
        by_cases h5 : gt0 d e'.t.toNat < 0 ∨ b + e'.c < gt0 d e'.t.toNat
        · have h6 : ¬ (h.place e'.t.toNat < 0 ∨ b + e'.c < h.key e'.t.toNat) := fun h6 => hc ⟨h5, h6⟩
          exact .inr (by omega)
        · exact .inl (by omega)
      · exact .inl h3
    · exact .inr h3
theorem SJ.steps {es : List Edg} {n a : Nat} {B : Int} {d : List Int} {S : List Nat} {b : Int} (vt : ∀ e ∈ es, 0 ≤ e.t ∧ e.t < n) (vc : ∀ e ∈ es, 0 ≤ e.c ∧ e.c ≤ 65535) (hb0 : 0 ≤ b) (hb : b + 65535 ≤ B + 65535 * S.length) : ∀ (todo : List Edg) {h : Hq}, (∀ e ∈ todo, e ∈ es ∧ gt0 d e.f.toNat = b) → SJ es n a B d h S b todo → SJ es n a B d (todo.foldl (relE d b) h) S b []
  | [], h, _, o => o
  | e :: todo, h, ht, o => SJ.steps vt vc hb0 hb todo (fun e' h' => ht e' (by simp [h'])) (o.step (x := 0) vt vc (ht e (by simp)).1 (ht e (by simp)).2 hb0 hb)
theorem SJ.round {es : List Edg} {r n a : Nat} {B : Int} {d : List Int} {h : Hq} {S : List Nat} {b : Int} (vg : VG es r n) (o : SJ es n a B d h S b []) (hne : 0 < h.it.length) :
    S.length < n ∧ SJ es n a B (d.set (h.item 0) (h.key (h.item 0))) ((outE es (h.item 0)).foldl (relE (d.set (h.item 0) (h.key (h.item 0))) (h.key (h.item 0))) (dropH h (h.item 0))) (h.item 0 :: S) (h.key (h.item 0)) [] := by
  obtain ⟨p1, p2, p3, p4, p5⟩ := o.pop vg.f vg.t vg.ne hne
  refine ⟨p4, SJ.steps vg.t vg.c p2 (by simp only [List.length_cons]; omega) _ (fun e he => ?_) p5⟩
  obtain ⟨h1, h2⟩ : e ∈ es ∧ e.f = (h.item 0 : Nat) := by simpa [outE] using he
  refine ⟨h1, ?_⟩
  rw [h2, Int.toNat_natCast, gt0, getD_set _ _ _ _ _ (by rw [o.dl]; exact p1), if_pos rfl]
theorem SJ.run {es : List Edg} {r n a : Nat} {B : Int} (vg : VG es r n) : ∀ (f : Nat) {d : List Int} {h : Hq} {S : List Nat} {b : Int}, n < f + S.length → SJ es n a B d h S b [] → Fx es n a (setF es f d h).1 ∧ (setF es f d h).1.length = n
  | 0, d, h, S, b, hf, o => by have := nodup_len n S o.nd o.slt; omega
  | f + 1, d, h, S, b, hf, o => by
    simp only [setF]
    by_cases he : h.it.length = 0
    · rw [if_pos he]; exact ⟨o.done vg.t he, o.dl⟩
    · rw [if_neg he]
      obtain ⟨p1, p2⟩ := o.round vg (by omega)
      exact SJ.run vg f (by simp only [List.length_cons]; omega) p2
open Go Go.RT
/- the nodes that lose all their shortest paths -/
def inE (es : List Edg) (v : Nat) : List Edg := es.filter fun e => decide (e.t = (v : Int))
abbrev gtb (l : List Bool) (v : Nat) : Bool := l.getD v false
def heldP (d : List Int) (gone : List Bool) (k : Int) (e : Edg) : Bool := (!gtb gone e.f.toNat && decide (0 ≤ gt0 d e.f.toNat)) && decide (gt0 d e.f.toNat + e.c = k)
def lrE (d : List Int) (k : Int) (h : Hq) (e : Edg) : Hq := if 0 ≤ gt0 d e.t.toNat ∧ k + e.c = gt0 d e.t.toNat then setH h e.t.toNat (gt0 d e.t.toNat) else h
def lostF (es : List Edg) (d : List Int) : Nat → List Bool → List Int → Hq → List Int
  | 0, _, out, _ => out
  | f + 1, gone, out, h =>
    if h.it.length = 0 then out
    else if (inE es (h.item 0)).any (heldP d gone (h.key (h.item 0))) = true then lostF es d f gone out (dropH h (h.item 0))
    else lostF es d f (gone.set (h.item 0) true) (out ++ [(h.item 0 : Int)]) ((outE es (h.item 0)).foldl (lrE d (h.key (h.item 0))) (dropH h (h.item 0)))
structure LJ (es : List Edg) (n a : Nat) (d : List Int) (gone : List Bool) (out : List Int) (h : Hq) (todo : List Edg) : Prop where
  hg : HG h
  hl : h.pl.length = n
  gl : gone.length = n
  q : ∀ v, v < n → 0 ≤ h.place v → v ≠ a ∧ 0 ≤ gt0 d v ∧ h.key v = gt0 d v ∧ gtb gone v = false
  g : ∀ v, v < n → gtb gone v = true → v ≠ a ∧ 0 ≤ gt0 d v ∧ ∀ e ∈ es, e.t = (v : Int) → 0 ≤ gt0 d e.f.toNat → gt0 d e.f.toNat + e.c = gt0 d v → gtb gone e.f.toNat = true
  s : ∀ v, v < n → v ≠ a → 0 ≤ gt0 d v → gtb gone v = false → 0 ≤ h.place v ∨ ∃ e ∈ es, e.t = (v : Int) ∧ 0 ≤ gt0 d e.f.toNat ∧ gt0 d e.f.toNat + e.c = gt0 d v ∧ (gtb gone e.f.toNat = false ∨ e ∈ todo)
  o : ∀ x : Int, x ∈ out ↔ 0 ≤ x ∧ x < n ∧ gtb gone x.toNat = true
  nd : out.Nodup
structure DP (es : List Edg) (n a : Nat) (d : List Int) : Prop where
  f : ∀ e ∈ es, 0 ≤ e.f ∧ e.f < n
  t : ∀ e ∈ es, 0 ≤ e.t ∧ e.t < n
  c : ∀ e ∈ es, 0 ≤ e.c ∧ e.c ≤ 65535
  ne : ∀ e ∈ es, e.f ≠ e.t
  dl : d.length = n
  root : gt0 d a = 0
  pos : ∀ v, v < n → v ≠ a → 0 ≤ gt0 d v → 1 ≤ gt0 d v
theorem gtb_set {l : List Bool} {i j : Nat} (hi : i < l.length) : gtb (l.set i true) j = if i = j then true else gtb l j := getD_set _ _ _ _ _ hi
theorem LJ.pop {es : List Edg} {n a : Nat} {d : List Int} {gone : List Bool} {out : List Int} {h : Hq} (p : DP es n a d) (o : LJ es n a d gone out h []) (hne : 0 < h.it.length) :
    h.item 0 < n ∧ h.item 0 ≠ a ∧ 0 ≤ gt0 d (h.item 0) ∧ h.key (h.item 0) = gt0 d (h.item 0) ∧ gtb gone (h.item 0) = false ∧ (dropH h (h.item 0)).it.length = h.it.length - 1 ∧
    ((inE es (h.item 0)).any (heldP d gone (h.key (h.item 0))) = true → LJ es n a d gone out (dropH h (h.item 0)) []) ∧
    ((inE es (h.item 0)).any (heldP d gone (h.key (h.item 0))) = false → out.length < n ∧ LJ es n a d (gone.set (h.item 0) true) (out ++ [(h.item 0 : Int)]) (dropH h (h.item 0)) (outE es (h.item 0))) := by
  have hx : h.item 0 < n := by rw [← o.hl]; exact o.hg.hi.ok.item hne
  have hp : 0 ≤ h.place (h.item 0) := by rw [o.hg.hi.inv 0 hne]; decide
  obtain ⟨d1, d2, d3, d4, d5⟩ := o.hg.drop (by rw [o.hl]; exact hx) hp
  obtain ⟨q1, q2, q3, q4⟩ := o.q _ hx hp
  generalize h.item 0 = x at *
  have hkey : ∀ w, (dropH h x).key w = h.key w := fun w => by unfold Hq.key; rw [d4]
  rw [q3]
  have hany : (inE es x).any (heldP d gone (gt0 d x)) = true ↔ ∃ e ∈ es, e.t = (x : Int) ∧ gtb gone e.f.toNat = false ∧ 0 ≤ gt0 d e.f.toNat ∧ gt0 d e.f.toNat + e.c = gt0 d x := by
    rw [List.any_eq_true]
    simp only [inE, List.mem_filter, decide_eq_true_eq, heldP, Bool.and_eq_true, Bool.not_eq_true']
    constructor
    · rintro ⟨e, ⟨h1, h2⟩, ⟨h3, h4⟩, h5⟩; exact ⟨e, h1, h2, h3, h4, h5⟩
    · rintro ⟨e, h1, h2, h3, h4, h5⟩; exact ⟨e, ⟨h1, h2⟩, ⟨h3, h4⟩, h5⟩
  refine ⟨hx, q1, q2, rfl, q4, d2, fun hh => ?_, fun hh => ?_⟩
  · obtain ⟨ed, e1, e2, e3, e4, e5⟩ := hany.1 hh
    refine ⟨d1, by rw [d3, o.hl], o.gl, fun v hv h0 => ?_, o.g, fun v hv hva h0 hg => ?_, o.o, o.nd⟩
    · rw [hkey]; exact o.q v hv ((d5 v).1 h0).2
    · by_cases e : v = x
      · subst e; exact .inr ⟨ed, e1, e2, e4, e5, .inl e3⟩
      · rcases o.s v hv hva h0 hg with h1 | h1
        · exact .inl ((d5 v).2 ⟨e, h1⟩)
        · exact .inr h1
  · have hgs : ∀ v, gtb (gone.set x true) v = if x = v then true else gtb gone v := fun v => gtb_set (by rw [o.gl]; exact hx)
    have hno : ∀ e ∈ es, e.t = (x : Int) → 0 ≤ gt0 d e.f.toNat → gt0 d e.f.toNat + e.c = gt0 d x → gtb gone e.f.toNat = true := fun e he ht hf hs => by
      cases hq : gtb gone e.f.toNat with
      | true => rfl
      | false => have := hany.2 ⟨e, he, ht, hq, hf, hs⟩; rw [hh] at this; cases this
    have hxo : (x : Int) ∉ out := fun hm => by
      have := ((o.o x).1 hm).2.2
      rw [Int.toNat_natCast, q4] at this; cases this
    have hnd : (out ++ [(x : Int)]).Nodup := by
      rw [List.nodup_append]
      refine ⟨o.nd, by simp, fun y hy z hz => ?_⟩
      have : z = (x : Int) := by simpa using hz
      subst this; exact fun e => hxo (by rw [← e]; exact hy)
    have hln : (out ++ [(x : Int)]).length ≤ n := by
      have h2 : NdL n (out ++ [(x : Int)]) := ⟨hnd, fun y hy => by
        rcases List.mem_append.1 hy with hy | hy
        · have := (o.o y).1 hy; omega
        · have : y = (x : Int) := by simpa using hy
          omega⟩
      exact h2.len
    simp only [List.length_append, List.length_singleton] at hln
    refine ⟨by omega, d1, by rw [d3, o.hl], by rw [List.length_set, o.gl], fun v hv h0 => ?_, fun v hv hg => ?_, fun v hv hva h0 hg => ?_, fun y => ?_, hnd⟩
    · obtain ⟨e1, e2⟩ := (d5 v).1 h0
      obtain ⟨s1, s2, s3, s4⟩ := o.q v hv e2
      rw [hkey, hgs, if_neg (fun e => e1 e.symm)]
      exact ⟨s1, s2, s3, s4⟩
    · rw [hgs] at hg
      have hup : ∀ w, gtb gone w = true → gtb (gone.set x true) w = true := fun w hw => by rw [hgs, hw]; split <;> rfl
      by_cases e : x = v
      · subst e
        exact ⟨q1, q2, fun e he ht hf hs => hup _ (hno e he ht hf hs)⟩
      · rw [if_neg e] at hg
        obtain ⟨g1, g2, g3⟩ := o.g v hv hg
        exact ⟨g1, g2, fun e he ht hf hs => hup _ (g3 e he ht hf hs)⟩
    · rw [hgs] at hg
      by_cases e : x = v
      · rw [if_pos e] at hg; cases hg
      · rw [if_neg e] at hg
        rcases o.s v hv hva h0 hg with h1 | ⟨ed, e1, e2, e3, e4, e5⟩
        · exact .inl ((d5 v).2 ⟨fun e2 => e e2.symm, h1⟩)
        · refine .inr ⟨ed, e1, e2, e3, e4, ?_⟩
          have hef := p.f ed e1
          by_cases e6 : x = ed.f.toNat
          · refine .inr (List.mem_filter.2 ⟨e1, ?_⟩)
            rw [decide_eq_true_eq]; omega
          · rw [hgs, if_neg e6]
            rcases e5 with e5 | e5
            · exact .inl e5
            · cases e5
    · rw [List.mem_append, o.o y]
      constructor
      · rintro (⟨h1, h2, h3⟩ | h1)
        · exact ⟨h1, h2, by rw [hgs, h3]; split <;> rfl⟩
        · have : y = (x : Int) := by simpa using h1
          subst this
          exact ⟨by omega, by omega, by rw [hgs, Int.toNat_natCast, if_pos rfl]⟩
      · rintro ⟨h1, h2, h3⟩
        rw [hgs] at h3
        by_cases e : x = y.toNat
        · right; simp; omega
        · rw [if_neg e] at h3; exact .inl ⟨h1, h2, h3⟩
theorem LJ.step {es : List Edg} {n a x : Nat} {d : List Int} {gone : List Bool} {out : List Int} {h : Hq} {e : Edg} {todo : List Edg} (p : DP es n a d) (he : e ∈ es) (hef : e.f = (x : Int)) (hx : gtb gone x = true) (hxn : x < n) (htodo : ∀ e' ∈ todo, e'.f = (x : Int)) (hnew : ∀ v, v < n → gtb gone v = true → ∀ e' ∈ es, e'.f = (x : Int) → e'.t = (v : Int) → gt0 d x + e'.c ≠ gt0 d v)
    (o : LJ es n a d gone out h (e :: todo)) : LJ es n a d gone out (lrE d (gt0 d x) h e) todo := by
  have het := p.t e he
  have hec := p.c e he
  obtain ⟨x1, x2, _⟩ := o.g x hxn hx
  unfold lrE
  by_cases hc : 0 ≤ gt0 d e.t.toNat ∧ gt0 d x + e.c = gt0 d e.t.toNat
  · rw [if_pos hc]
    have htl : e.t.toNat < h.pl.length := by rw [o.hl]; omega
    obtain ⟨s1, s2, s3, s4⟩ := o.hg.set htl (gt0 d e.t.toNat)
    have hkey := key_set (by rw [← o.hg.hi.ok.len]; exact htl) s3
    refine ⟨s1, by rw [s2, o.hl], o.gl, fun v hv h0 => ?_, o.g, fun v hv hva h0 hg => ?_, o.o, o.nd⟩
    · rw [hkey]
      by_cases e1 : e.t.toNat = v
      · rw [if_pos e1, e1]
        subst e1
        refine ⟨fun e2 => ?_, hc.1, rfl, ?_⟩
        · have h1 := p.pos x hxn x1 x2
          have h2 := p.root
          rw [e2] at hc; omega
        · cases hq : gtb gone e.t.toNat with
          | false => rfl
          | true => exact absurd hc.2 (hnew _ (by omega) hq e he hef (by omega))
      · rw [if_neg e1]
        rcases (s4 v).1 h0 with h1 | h1
        · exact absurd h1.symm e1
        · exact o.q v hv h1
    · rcases o.s v hv hva h0 hg with h1 | ⟨ed, e1, e2, e3, e4, e5⟩
      · exact .inl ((s4 v).2 (.inr h1))
      · rcases e5 with e5 | e5
        · exact .inr ⟨ed, e1, e2, e3, e4, .inl e5⟩
        · rcases List.mem_cons.1 e5 with rfl | e5
          · exact .inl ((s4 v).2 (.inl (by omega)))
          · exact .inr ⟨ed, e1, e2, e3, e4, .inr e5⟩
  · rw [if_neg hc]
    refine ⟨o.hg, o.hl, o.gl, o.q, o.g, fun v hv hva h0 hg => ?_, o.o, o.nd⟩
    rcases o.s v hv hva h0 hg with h1 | ⟨ed, e1, e2, e3, e4, e5⟩
    · exact .inl h1
    · rcases e5 with e5 | e5
      · exact .inr ⟨ed, e1, e2, e3, e4, .inl e5⟩
      · rcases List.mem_cons.1 e5 with rfl | e5
        · exfalso
          rw [hef, Int.toNat_natCast] at e4
          rw [e2, Int.toNat_natCast] at hc
          exact hc ⟨h0, e4⟩
        · exact .inr ⟨ed, e1, e2, e3, e4, .inr e5⟩
theorem LJ.steps {es : List Edg} {n a x : Nat} {d : List Int} {gone : List Bool} {out : List Int} (p : DP es n a d) (hx : gtb gone x = true) (hxn : x < n) (hnew : ∀ v, v < n → gtb gone v = true → ∀ e' ∈ es, e'.f = (x : Int) → e'.t = (v : Int) → gt0 d x + e'.c ≠ gt0 d v) :
    ∀ (todo : List Edg) {h : Hq}, (∀ e ∈ todo, e ∈ es ∧ e.f = (x : Int)) → LJ es n a d gone out h todo → LJ es n a d gone out (todo.foldl (lrE d (gt0 d x)) h) []
  | [], h, _, o => o
  | e :: todo, h, ht, o => LJ.steps p hx hxn hnew todo (fun e' h' => ht e' (by simp [h'])) (o.step p (ht e (by simp)).1 (ht e (by simp)).2 hx hxn (fun e' h' => (ht e' (by simp [h'])).2) hnew)
/-- no node that is gone is held up by one that goes now -/
theorem LJ.fresh {es : List Edg} {n a : Nat} {d : List Int} {gone : List Bool} {out : List Int} {h : Hq} {todo : List Edg} (p : DP es n a d) {x : Nat} (hxn : x < n) (hxg : gtb gone x = false) (hx0 : 0 ≤ gt0 d x)
    (o : LJ es n a d gone out h todo) : ∀ v, v < n → gtb (gone.set x true) v = true → ∀ e' ∈ es, e'.f = (x : Int) → e'.t = (v : Int) → gt0 d x + e'.c ≠ gt0 d v := fun v hv hg e he hf ht hs => by
  have hgs : gtb (gone.set x true) v = if x = v then true else gtb gone v := gtb_set (by rw [o.gl]; exact hxn)
  rw [hgs] at hg
  by_cases e1 : x = v
  · have := p.ne e he; omega
  · rw [if_neg e1] at hg
    have := (o.g v hv hg).2.2 e he ht (by rw [hf, Int.toNat_natCast]; exact hx0) (by rw [hf, Int.toNat_natCast]; exact hs)
    rw [hf, Int.toNat_natCast, hxg] at this; cases this
theorem LJ.small {es : List Edg} {n a : Nat} {d : List Int} {gone : List Bool} {out : List Int} {h : Hq} {todo : List Edg} (o : LJ es n a d gone out h todo) : h.it.length ≤ n ∧ out.length ≤ n := by
  have h1 := o.hg.hi.small
  rw [o.hl] at h1
  have h2 : NdL n out := ⟨o.nd, fun y hy => by have := (o.o y).1 hy; omega⟩
  exact ⟨h1, h2.len⟩
/-- what lost returns -/
def LostOk (es : List Edg) (n a : Nat) (d : List Int) (L : List Int) : Prop :=
  L.length ≤ n ∧ (∀ x ∈ L, 0 ≤ x ∧ x < n ∧ x ≠ (a : Int) ∧ 0 ≤ gt0 d x.toNat) ∧
  ∀ v, v < n → v ≠ a → 0 ≤ gt0 d v → (v : Int) ∉ L → ∃ e ∈ es, e.t = (v : Int) ∧ 0 ≤ gt0 d e.f.toNat ∧ gt0 d e.f.toNat + e.c = gt0 d v ∧ e.f ∉ L
theorem LJ.done {es : List Edg} {n a : Nat} {d : List Int} {gone : List Bool} {out : List Int} {h : Hq} (p : DP es n a d) (o : LJ es n a d gone out h []) (he : h.it.length = 0) : LostOk es n a d out := by
  refine ⟨o.small.2, fun x hx => ?_, fun v hv hva h0 hno => ?_⟩
  · obtain ⟨h1, h2, h3⟩ := (o.o x).1 hx
    obtain ⟨g1, g2, _⟩ := o.g x.toNat (by omega) h3
    exact ⟨h1, h2, by omega, g2⟩
  · have hg : gtb gone v = false := by
      cases hq : gtb gone v with
      | false => rfl
      | true => exact absurd ((o.o v).2 ⟨by omega, by omega, by rw [Int.toNat_natCast]; exact hq⟩) hno
    rcases o.s v hv hva h0 hg with h1 | ⟨ed, e1, e2, e3, e4, e5⟩
    · have := (o.hg.hi.at_ v (by rw [o.hl]; exact hv) h1).1; omega
    · refine ⟨ed, e1, e2, e3, e4, fun hm => ?_⟩
      have := ((o.o _).1 hm).2.2
      rcases e5 with e5 | e5
      · rw [this] at e5; cases e5
      · cases e5
/-- how many rounds are left -/
def lostM (n : Nat) (out : List Int) (h : Hq) : Nat := (n - out.length) * (n + 1) + h.it.length
theorem lostM_yes {n : Nat} {out : List Int} {h h' : Hq} (h1 : 0 < h.it.length) (h2 : h'.it.length = h.it.length - 1) : lostM n out h' + 1 ≤ lostM n out h := by unfold lostM; omega
theorem lostM_no {n x : Nat} {out : List Int} {h h' : Hq} (h0 : out.length < n) (h1 : 0 < h.it.length) (h2 : h'.it.length ≤ n) : lostM n (out ++ [(x : Int)]) h' + 1 ≤ lostM n out h := by
  unfold lostM
  have e : n - out.length = (n - (out ++ [(x : Int)]).length) + 1 := by simp only [List.length_append, List.length_singleton]; omega
  rw [e, Nat.add_mul]; omega
theorem LJ.round {es : List Edg} {n a : Nat} {d : List Int} {gone : List Bool} {out : List Int} {h : Hq} (p : DP es n a d) (o : LJ es n a d gone out h []) (hne : 0 < h.it.length) (hh : (inE es (h.item 0)).any (heldP d gone (h.key (h.item 0))) = false) :
    LJ es n a d (gone.set (h.item 0) true) (out ++ [(h.item 0 : Int)]) ((outE es (h.item 0)).foldl (lrE d (h.key (h.item 0))) (dropH h (h.item 0))) [] ∧ out.length < n := by
  obtain ⟨p1, p2, p3, p4, p5, p6, _, p7⟩ := o.pop p hne
  obtain ⟨q1, q2⟩ := p7 hh
  rw [p4]
  refine ⟨LJ.steps p (by rw [gtb_set (by rw [o.gl]; exact p1), if_pos rfl]) p1 (o.fresh p p1 p5 p3) _ (fun e he => ?_) q2, q1⟩
  simpa [outE] using he
theorem LJ.run {es : List Edg} {n a : Nat} {d : List Int} (p : DP es n a d) : ∀ (f : Nat) {gone : List Bool} {out : List Int} {h : Hq}, lostM n out h < f → LJ es n a d gone out h [] → LostOk es n a d (lostF es d f gone out h)
  | 0, gone, out, h, hf, o => by omega
  | f + 1, gone, out, h, hf, o => by
    simp only [lostF]
    by_cases he : h.it.length = 0
    · rw [if_pos he]; exact o.done p he
    · rw [if_neg he]
      have hne : 0 < h.it.length := by omega
      obtain ⟨p1, p2, p3, p4, p5, p6, p7, _⟩ := o.pop p hne
      cases hh : (inE es (h.item 0)).any (heldP d gone (h.key (h.item 0))) with
      | true =>
        rw [if_pos rfl]
        exact LJ.run p f (by have := lostM_yes (n := n) (out := out) hne p6; omega) (p7 hh)
      | false =>
        rw [if_neg (by simp)]
        obtain ⟨r1, r2⟩ := o.round p hne hh
        exact LJ.run p f (by have := lostM_no (x := h.item 0) r2 hne r1.small.1; omega) r1
/-- the start -/
theorem LJ.start {es : List Edg} {n a at_ : Nat} {d : List Int} (p : DP es n a d) (ha : at_ < n) (hne : at_ ≠ a) (h0 : 0 ≤ gt0 d at_)
    (hs : ∀ v, v < n → v ≠ a → v ≠ at_ → 0 ≤ gt0 d v → ∃ e ∈ es, e.t = (v : Int) ∧ 0 ≤ gt0 d e.f.toNat ∧ gt0 d e.f.toNat + e.c = gt0 d v) :
    LJ es n a d (List.replicate n false) [] (setH (newH n) at_ (gt0 d at_)) [] := by
  obtain ⟨s1, s2, s3, s4⟩ := (HG.new n).set (v := at_) (by simpa [newH] using ha) (gt0 d at_)
  have hkey := key_set (h := newH n) (v := at_) (by simpa [newH] using ha) s3
  have hp : ∀ v, v < n → (newH n).place v = -1 := fun v hv => getD_rep _ _ _ _ hv
  have hgb : ∀ v, v < n → gtb (List.replicate n false) v = false := fun v hv => getD_rep _ _ _ _ hv
  refine ⟨s1, by rw [s2]; simp [newH], by simp, fun v hv hq => ?_, fun v hv hg => ?_, fun v hv hva h1 _ => ?_, fun x => ?_, List.nodup_nil⟩
  · rw [hkey]
    rcases (s4 v).1 hq with rfl | h1
    · rw [if_pos rfl]; exact ⟨hne, h0, rfl, hgb _ hv⟩
    · rw [hp v hv] at h1; omega
  · rw [hgb v hv] at hg; cases hg
  · by_cases e : v = at_
    · exact .inl ((s4 v).2 (.inl e))
    · obtain ⟨ed, e1, e2, e3, e4⟩ := hs v hv hva e h1
      have := p.f ed e1
      exact .inr ⟨ed, e1, e2, e3, e4, .inl (hgb _ (by omega))⟩
  · constructor
    · intro h; cases h
    · rintro ⟨h1, h2, h3⟩
      rw [hgb _ (by omega)] at h3; cases h3
open Go Go.RT
abbrev topB : Int := 8454015
theorem newH_place {n v : Nat} (hv : v < n) : (newH n).place v = -1 := getD_rep _ _ _ _ hv
/-- a change that no shortest path can meet -/
theorem step_far {es es' : List Edg} {r n a : Nat} {d : List Int} {c : Edg} {old : Int} (R : ChRel es es' c old) (vg : VG es r n) (h : Fx es n a d) (hc : gt0 d c.f.toNat < 0 ∨ c.t = (a : Int)) : Fx es' n a d := by
  refine ⟨h.root, fun e he h0 => ?_, fun v hv hne h0 => ?_, h.neg⟩
  · by_cases hk : e.f = c.f ∧ e.t = c.t
    · rcases hc with hc | hc
      · rw [hk.1] at h0; omega
      · rw [hk.2, hc, Int.toNat_natCast, h.root]
        by_cases h1 : 0 ≤ e.c
        · omega
        · have := (R.one e he hk); omega
    · exact h.fix e (R.out e he hk) h0
  · obtain ⟨e, he, ht, hf, hs⟩ := h.sup v hv hne h0
    refine ⟨e, R.ins e he fun hk => ?_, ht, hf, hs⟩
    rcases hc with hc | hc
    · rw [hk.1] at hf; omega
    · omega
/-- a change that changes no distance -/
theorem step_no {es es' : List Edg} {r n a : Nat} {d : List Int} {c : Edg} {old : Int} (R : ChRel es es' c old) (vg : VG es r n) (h : Fx es n a d) (hf0 : 0 ≤ gt0 d c.f.toNat)
    (h1 : ¬ (0 ≤ c.c ∧ (gt0 d c.t.toNat < 0 ∨ gt0 d c.f.toNat + c.c < gt0 d c.t.toNat))) (h2 : ¬ ((0 ≤ old ∧ gt0 d c.f.toNat + old = gt0 d c.t.toNat) ∧ (c.c < 0 ∨ old < c.c))) : Fx es' n a d := by
  refine ⟨h.root, fun e he h0 => ?_, fun v hv hne h0 => ?_, h.neg⟩
  · by_cases hk : e.f = c.f ∧ e.t = c.t
    · have := R.one e he hk
      rw [hk.1, hk.2]; omega
    · exact h.fix e (R.out e he hk) h0
  · obtain ⟨e, he, ht, hf, hs⟩ := h.sup v hv hne h0
    by_cases hk : e.f = c.f ∧ e.t = c.t
    · have e1 := R.was e he hk
      have e2 := vg.c e he
      rw [hk.1] at hf hs
      have e3 : c.t.toNat = v := by omega
      rw [e3] at h1 h2
      refine ⟨c, R.new (by omega), by omega, hf, ?_⟩
      omega
    · exact ⟨e, R.ins e he hk, ht, hf, hs⟩
/-- a way that is shorter now -/
theorem step_less {es es' : List Edg} {r n a : Nat} {d : List Int} {c : Edg} {old : Int} (R : ChRel es es' c old) (vg : VG es r n) (vg' : VG es' r n) (dl : d.length = n) (hb : ∀ v, v < n → gt0 d v ≤ 8388480) (h : Fx es n a d) (hcn : c.t.toNat < n ∧ 0 ≤ c.t) (hf0 : 0 ≤ gt0 d c.f.toNat) (hcf : c.f.toNat < n) (hta : c.t ≠ (a : Int))
    (h0 : 0 ≤ c.c) (h1 : gt0 d c.t.toNat < 0 ∨ gt0 d c.f.toNat + c.c < gt0 d c.t.toNat) : SJ es' n a topB d (setH (newH n) c.t.toNat (gt0 d c.f.toNat + c.c)) [] 0 [] := by
  obtain ⟨s1, s2, s3, s4⟩ := (HG.new n).set (v := c.t.toNat) (by simpa [newH] using hcn.1) (gt0 d c.f.toNat + c.c)
  have hkey := key_set (h := newH n) (v := c.t.toNat) (by simpa [newH] using hcn.1) s3
  have hcm := R.new h0
  have hcc := vg'.c c hcm
  have hin : 0 ≤ (setH (newH n) c.t.toNat (gt0 d c.f.toNat + c.c)).place c.t.toNat := (s4 _).2 (.inl rfl)
  refine ⟨s1, by rw [s2]; simp [newH], dl, h.root, h.neg, fun v hv hva hv0 => ?_, fun v hv hp => ?_, fun e he hf => ?_, by simp, by simp, by simp, fun v hv => ?_, by decide⟩
  · obtain ⟨e, he, ht, hf, hs⟩ := h.sup v hv hva hv0
    by_cases hk : e.f = c.f ∧ e.t = c.t
    · have : v = c.t.toNat := by omega
      rw [this]; exact .inl hin
    · exact .inr ⟨e, R.ins e he hk, ht, hf, by omega⟩
  · rcases (s4 v).1 hp with rfl | h2
    · have := hb _ hcf
      rw [hkey, if_pos rfl]
      exact ⟨by omega, by omega, h1, by omega, by simp only [List.length_nil, topB]; omega, by simp, c, hcm, by omega, hf0, by omega⟩
    · rw [newH_place hv] at h2; omega
  · by_cases hk : e.f = c.f ∧ e.t = c.t
    · have := R.one e he hk
      refine .inr (.inr ?_)
      rw [hk.1, hk.2, hkey, if_pos rfl]
      exact ⟨hin, by omega⟩
    · exact .inr (.inl (h.fix e (R.out e he hk) hf))
  · have := hb v hv
    simp only [List.length_nil, topB]; omega
/- a way that is longer now -/
def negL (d : List Int) (L : List Int) : List Int := L.foldl (fun d x => d.set x.toNat (-1)) d
theorem negL_len : ∀ (L d : List Int), (negL d L).length = d.length
  | [], d => rfl
  | x :: L, d => by
    show (negL (d.set x.toNat (-1)) L).length = _
    rw [negL_len L, List.length_set]
theorem negL_get {n : Nat} : ∀ (L d : List Int), d.length = n → (∀ x ∈ L, 0 ≤ x ∧ x < n) → ∀ v, gt0 (negL d L) v = if (v : Int) ∈ L then -1 else gt0 d v
  | [], d, _, _, v => by simp [negL]
  | x :: L, d, hl, hx, v => by
    have h0 := hx x (by simp)
    show gt0 (negL (d.set x.toNat (-1)) L) v = _
    rw [negL_get L _ (by rw [List.length_set]; exact hl) (fun y hy => hx y (by simp [hy])) v]
    have hg : gt0 (d.set x.toNat (-1)) v = if x.toNat = v then -1 else gt0 d v := getD_set _ _ _ _ _ (by omega)
    rw [hg]
    by_cases h1 : (v : Int) ∈ L
    · rw [if_pos h1, if_pos (by simp [h1])]
    · rw [if_neg h1]
      by_cases h2 : x.toNat = v
      · rw [if_pos h2, if_pos (by rw [List.mem_cons]; left; omega)]
      · rw [if_neg h2, if_neg (fun h => by
          rcases List.mem_cons.1 h with h | h
          · omega
          · exact h1 h)]
def qE (d : List Int) (v : Nat) (h : Hq) (e : Edg) : Hq := if 0 ≤ gt0 d e.f.toNat ∧ (h.place v < 0 ∨ gt0 d e.f.toNat + e.c < h.key v) then setH h v (gt0 d e.f.toNat + e.c) else h
def qV (es : List Edg) (d : List Int) (h : Hq) (x : Int) : Hq := (inE es x.toNat).foldl (qE d x.toNat) h
structure QJ (es : List Edg) (n : Nat) (d : List Int) (L : List Int) (h : Hq) (todo : List Edg) (rest : List Int) : Prop where
  hg : HG h
  hl : h.pl.length = n
  q : ∀ v, v < n → 0 ≤ h.place v → (v : Int) ∈ L ∧ ∃ e ∈ es, e.t = (v : Int) ∧ 0 ≤ gt0 d e.f.toNat ∧ gt0 d e.f.toNat + e.c = h.key v
  rel : ∀ e ∈ es, e.t ∈ L → 0 ≤ gt0 d e.f.toNat → e ∈ todo ∨ e.t ∈ rest ∨ (0 ≤ h.place e.t.toNat ∧ h.key e.t.toNat ≤ gt0 d e.f.toNat + e.c)
theorem QJ.step {es : List Edg} {n v : Nat} {d L : List Int} {h : Hq} {e : Edg} {todo : List Edg} {rest : List Int} (he : e ∈ es) (het : e.t = (v : Int)) (hv : v < n) (hvL : (v : Int) ∈ L) (o : QJ es n d L h (e :: todo) rest) : QJ es n d L (qE d v h e) todo rest := by
  unfold qE
  by_cases hc : 0 ≤ gt0 d e.f.toNat ∧ (h.place v < 0 ∨ gt0 d e.f.toNat + e.c < h.key v)
  · rw [if_pos hc]
    have htl : v < h.pl.length := by rw [o.hl]; omega
    obtain ⟨s1, s2, s3, s4⟩ := o.hg.set htl (gt0 d e.f.toNat + e.c)
    have hkey := key_set (by rw [← o.hg.hi.ok.len]; exact htl) s3
    refine ⟨s1, by rw [s2, o.hl], fun w hw hp => ?_, fun e' he' hL h0 => ?_⟩
    · rw [hkey]
      by_cases e1 : v = w
      · subst e1; rw [if_pos rfl]; exact ⟨hvL, e, he, het, hc.1, rfl⟩
      · rw [if_neg e1]
        rcases (s4 w).1 hp with h1 | h1
        · exact absurd h1.symm e1
        · exact o.q w hw h1
    · rcases o.rel e' he' hL h0 with h3 | h3 | ⟨h3, h4⟩
      · rcases List.mem_cons.1 h3 with rfl | h3
        · refine .inr (.inr ?_)
          rw [het, Int.toNat_natCast, hkey, if_pos rfl]
          exact ⟨(s4 _).2 (.inl rfl), Int.le_refl _⟩
        · exact .inl h3
      · exact .inr (.inl h3)
      · refine .inr (.inr ⟨(s4 _).2 (.inr h3), ?_⟩)
        rw [hkey]
        by_cases e1 : v = e'.t.toNat
        · rw [if_pos e1]
          rw [← e1] at h3 h4
          rcases hc.2 with h5 | h5
          · omega
          · omega
        · rw [if_neg e1]; exact h4
  · rw [if_neg hc]
    refine ⟨o.hg, o.hl, o.q, fun e' he' hL h0 => ?_⟩
    rcases o.rel e' he' hL h0 with h3 | h3
    · rcases List.mem_cons.1 h3 with rfl | h3
      · refine .inr (.inr ?_)
        rw [het, Int.toNat_natCast]
        have : ¬ (h.place v < 0 ∨ gt0 d e'.f.toNat + e'.c < h.key v) := fun h5 => hc ⟨h0, h5⟩
        omega
      · exact .inl h3
    · exact .inr h3
theorem QJ.row {es : List Edg} {n v : Nat} {d L : List Int} {rest : List Int} (hv : v < n) (hvL : (v : Int) ∈ L) : ∀ (todo : List Edg) {h : Hq}, (∀ e ∈ todo, e ∈ es ∧ e.t = (v : Int)) → QJ es n d L h todo rest → QJ es n d L (todo.foldl (qE d v) h) [] rest
  | [], h, _, o => o
  | e :: todo, h, ht, o => QJ.row hv hvL todo (fun e' h' => ht e' (by simp [h'])) (o.step (ht e (by simp)).1 (ht e (by simp)).2 hv hvL)
theorem QJ.node {es : List Edg} {n : Nat} {d L : List Int} {x : Int} {rest : List Int} (hx : 0 ≤ x ∧ x < n) (hxL : x ∈ L) {h : Hq} (o : QJ es n d L h [] (x :: rest)) : QJ es n d L h (inE es x.toNat) rest ∧ QJ es n d L (qV es d h x) [] rest := by
  have ex : ((x.toNat : Nat) : Int) = x := by omega
  have h1 : QJ es n d L h (inE es x.toNat) rest := ⟨o.hg, o.hl, o.q, fun e he hL h0 => by
    rcases o.rel e he hL h0 with h3 | h3 | h3
    · cases h3
    · rcases List.mem_cons.1 h3 with h3 | h3
      · exact .inl (List.mem_filter.2 ⟨he, by rw [decide_eq_true_eq]; omega⟩)
      · exact .inr (.inl h3)
    · exact .inr (.inr h3)⟩
  refine ⟨h1, ?_⟩
  unfold qV
  exact QJ.row (by omega) (by rw [ex]; exact hxL) _ (fun e he => by simpa [inE] using he) h1
theorem QJ.all {es : List Edg} {n : Nat} {d L : List Int} : ∀ (rest : List Int) {h : Hq}, (∀ x ∈ rest, 0 ≤ x ∧ x < n ∧ x ∈ L) → QJ es n d L h [] rest → QJ es n d L (rest.foldl (qV es d) h) [] []
  | [], h, _, o => o
  | x :: rest, h, hr, o => QJ.all rest (fun y hy => hr y (by simp [hy])) (o.node ⟨(hr x (by simp)).1, (hr x (by simp)).2.1⟩ (hr x (by simp)).2.2).2
theorem QJ.start (es : List Edg) (n : Nat) (d L : List Int) (hL : ∀ x ∈ L, 0 ≤ x ∧ x < n) : QJ es n d L (newH n) [] L :=
  ⟨HG.new n, by simp [newH], fun v hv hp => by rw [newH_place hv] at hp; omega, fun e _ hL' _ => .inr (.inl hL')⟩
theorem dp_of {es es' : List Edg} {r n a : Nat} {d : List Int} (har : a < r) (vg : VG es r n) (vg' : VG es' r n) (dl : d.length = n) (h : Fx es n a d) : DP es' n a d :=
  ⟨vg'.f, vg'.t, vg'.c, vg'.ne, dl, h.root, fun _ hv hne h0 => h.pos vg har hv hne h0⟩
theorem step_more {es es' : List Edg} {r n a : Nat} {d : List Int} {c : Edg} {old : Int} (har : a < r) (R : ChRel es es' c old) (vg : VG es r n) (vg' : VG es' r n) (dl : d.length = n) (h : Fx es n a d) (hcn : c.t.toNat < n ∧ 0 ≤ c.t) (hf0 : 0 ≤ gt0 d c.f.toNat) (hta : c.t ≠ (a : Int))
    (h0 : 0 ≤ old) (h1 : gt0 d c.f.toNat + old = gt0 d c.t.toNat) : LJ es' n a d (List.replicate n false) [] (setH (newH n) c.t.toNat (gt0 d c.t.toNat)) [] :=
  LJ.start (dp_of har vg vg' dl h) hcn.1 (by omega) (by omega) fun v hv hva hvt hv0 => by
    obtain ⟨e, he, ht, hf, hs⟩ := h.sup v hv hva hv0
    exact ⟨e, R.ins e he (fun hk => hvt (by omega)), ht, hf, hs⟩
theorem step_queue {es es' : List Edg} {r n a : Nat} {d : List Int} {c : Edg} {old : Int} {L : List Int} (har : a < r) (ha : a < n) (R : ChRel es es' c old) (vg : VG es r n) (vg' : VG es' r n) (dl : d.length = n) (hb : ∀ v, v < n → gt0 d v ≤ 8388480) (h : Fx es n a d)
    (h2 : c.c < 0 ∨ old < c.c) (h3 : gt0 d c.f.toNat + old = gt0 d c.t.toNat) (h4 : 0 ≤ old) (hL : LostOk es' n a d L) : SJ es' n a topB (negL d L) (L.foldl (qV es' (negL d L)) (newH n)) [] 0 [] := by
  obtain ⟨l1, l2, l3⟩ := hL
  have hLn : ∀ x ∈ L, 0 ≤ x ∧ x < n := fun x hx => ⟨(l2 x hx).1, (l2 x hx).2.1⟩
  have o := QJ.all L (fun x hx => ⟨(l2 x hx).1, (l2 x hx).2.1, hx⟩) (QJ.start es' n (negL d L) L hLn)
  have hget := fun v => negL_get L d dl hLn v
  have hnot : ∀ e : Edg, 0 ≤ e.f → 0 ≤ gt0 (negL d L) e.f.toNat → e.f ∉ L ∧ gt0 (negL d L) e.f.toNat = gt0 d e.f.toNat := fun e he h0 => by
    rw [hget] at h0 ⊢
    have e1 : ((e.f.toNat : Nat) : Int) = e.f := by omega
    rw [e1] at h0 ⊢
    by_cases hm : e.f ∈ L
    · rw [if_pos hm] at h0; omega
    · rw [if_neg hm]; exact ⟨hm, rfl⟩
  have haL : (a : Int) ∉ L := fun hm => (l2 _ hm).2.2.1 rfl
  have hin : ∀ v : Nat, (v : Int) ∉ L → gt0 (negL d L) v = gt0 d v := fun v hv => by rw [hget, if_neg hv]
  refine ⟨o.hg, o.hl, by rw [negL_len, dl], by rw [hin a haL, h.root], fun v hv hv0 => ?_, fun v hv hva hv0 => ?_, fun v hv hp => ?_, fun e he hf => ?_, by simp, by simp, by simp, fun v hv => ?_, by decide⟩
  · rw [hget] at hv0 ⊢
    by_cases hm : (v : Int) ∈ L
    · rw [if_pos hm]
    · rw [if_neg hm] at hv0 ⊢; exact h.neg v hv hv0
  · have hm : (v : Int) ∉ L := fun hm => by rw [hget, if_pos hm] at hv0; omega
    rw [hin v hm] at hv0 ⊢
    obtain ⟨e, he, ht, hf, hs, hfL⟩ := l3 v hv hva hv0 hm
    have hef := vg'.f e he
    refine .inr ⟨e, he, ht, ?_⟩
    rw [hin _ (by rw [show ((e.f.toNat : Nat) : Int) = e.f by omega]; exact hfL)]
    exact ⟨hf, by omega⟩
  · obtain ⟨q1, e, he, ht, hf, hs⟩ := o.q v hv hp
    have hef := vg'.f e he
    have hec := vg'.c e he
    obtain ⟨n1, n2⟩ := hnot e hef.1 hf
    have hb1 := hb e.f.toNat (by omega)
    rw [← hs, hget v, if_pos q1]
    exact ⟨fun e2 => haL (by rw [← e2]; exact q1), by omega, .inl (by decide), by omega, by simp only [List.length_nil, topB]; omega, by simp, e, he, ht, hf, by omega⟩
  · have hef := vg'.f e he
    have het := vg'.t e he
    have hec := vg'.c e he
    obtain ⟨n1, n2⟩ := hnot e hef.1 hf
    by_cases hm : e.t ∈ L
    · rcases o.rel e he hm hf with h5 | h5 | h5
      · cases h5
      · cases h5
      · exact .inr (.inr h5)
    · refine .inr (.inl ?_)
      rw [n2] at hf ⊢
      rw [hin _ (by rw [show ((e.t.toNat : Nat) : Int) = e.t by omega]; exact hm)]
      by_cases hk : e.f = c.f ∧ e.t = c.t
      · have := R.one e he hk
        rw [hk.1] at hf ⊢
        rw [hk.2]; omega
      · exact h.fix e (R.out e he hk) hf
  · rw [hget]
    simp only [List.length_nil, topB]
    split
    · omega
    · have := hb v hv; omega
end Go.Pl
/- Stable merging and sorting of lists: no program in sight. -/
namespace Go.Pl
set_option linter.all false
variable {α : Type}
/-- a strict weak order -/
structure SWk (lt : α → α → Bool) : Prop where
  asy : ∀ x y, lt x y = true → lt y x = false
  tr : ∀ x y z, lt y x = false → lt z y = false → lt z x = false
def mrg (lt : α → α → Bool) : List α → List α → List α
  | [], B => B
  | x :: A, [] => x :: A
  | x :: A, y :: B => if lt y x = true then y :: mrg lt (x :: A) B else x :: mrg lt A (y :: B)
termination_by A B => A.length + B.length
variable {lt : α → α → Bool}
theorem mrg_nil_left (B : List α) : mrg lt [] B = B := by simp [mrg]
theorem mrg_nil (A : List α) : mrg lt A [] = A := by cases A <;> simp [mrg]
theorem mrg_cut : ∀ (k : Nat) (A1 B1 A2 B2 : List α), A1.length + B1.length ≤ k → (∀ b ∈ B1, ∀ a ∈ A2, lt b a = true) → (∀ a ∈ A1, ∀ b ∈ B2, lt b a = false) →
    mrg lt (A1 ++ A2) (B1 ++ B2) = mrg lt A1 B1 ++ mrg lt A2 B2
  | k, [], [], A2, B2, _, _, _ => by simp [mrg]
  | k, [], y :: B1, A2, B2, hk, h1, h2 => by
    cases A2 with
    | nil => simp [mrg_nil_left]
    | cons x A2 =>
      cases k with
      | zero => simp at hk
      | succ k =>
        have := mrg_cut k [] B1 (x :: A2) B2 (by simp at hk ⊢; omega) (fun b hb => h1 b (by simp [hb])) (fun a ha => by cases ha)
        simp only [List.nil_append, List.cons_append, mrg_nil_left] at this ⊢
        rw [mrg, if_pos (h1 y (by simp) x (by simp)), this]
  | k, x :: A1, [], A2, B2, hk, h1, h2 => by
    cases B2 with
    | nil => simp [mrg_nil]
    | cons y B2 =>
      cases k with
      | zero => simp at hk
      | succ k =>
        have := mrg_cut k A1 [] A2 (y :: B2) (by simp at hk ⊢; omega) (fun b hb => by cases hb) (fun a ha => h2 a (by simp [ha]))
        simp only [List.nil_append, List.cons_append, mrg_nil] at this ⊢
        rw [mrg, if_neg (by rw [h2 x (by simp) y (by simp)]; simp), this]
  | k, x :: A1, y :: B1, A2, B2, hk, h1, h2 => by
    cases k with
    | zero => simp at hk
    | succ k =>
      simp only [List.cons_append]
      rw [mrg, mrg]
      by_cases h : lt y x = true
      · rw [if_pos h, if_pos h]
        have := mrg_cut k (x :: A1) B1 A2 B2 (by simp at hk ⊢; omega) (fun b hb => h1 b (by simp [hb])) h2
        rw [List.cons_append] at this
        rw [this]; rfl
      · rw [if_neg h, if_neg h]
        have := mrg_cut k A1 (y :: B1) A2 B2 (by simp at hk ⊢; omega) h1 (fun a ha => h2 a (by simp [ha]))
        rw [List.cons_append] at this
        rw [this]; rfl
theorem mrg_split {A1 B1 A2 B2 : List α} (h1 : ∀ b ∈ B1, ∀ a ∈ A2, lt b a = true) (h2 : ∀ a ∈ A1, ∀ b ∈ B2, lt b a = false) : mrg lt (A1 ++ A2) (B1 ++ B2) = mrg lt A1 B1 ++ mrg lt A2 B2 := mrg_cut _ A1 B1 A2 B2 (Nat.le_refl _) h1 h2
theorem mrg_left {x : α} {B1 B2 : List α} (h1 : ∀ b ∈ B1, lt b x = true) (h2 : ∀ b ∈ B2, lt b x = false) : mrg lt [x] (B1 ++ B2) = B1 ++ x :: B2 := by
  have e1 := mrg_split (lt := lt) (A1 := []) (A2 := [x]) (B1 := B1) (B2 := B2) (fun b hb a ha => by rw [List.mem_singleton.1 ha]; exact h1 b hb) (fun a ha => by cases ha)
  have e2 := mrg_split (lt := lt) (A1 := [x]) (A2 := []) (B1 := []) (B2 := B2) (fun b hb => by cases hb) (fun a ha b hb => by rw [List.mem_singleton.1 ha]; exact h2 b hb)
  simp only [List.nil_append, List.append_nil, mrg_nil_left, mrg_nil] at e1 e2
  rw [e1, e2]; rfl
theorem mrg_right {y : α} {A1 A2 : List α} (h1 : ∀ a ∈ A1, lt y a = false) (h2 : ∀ a ∈ A2, lt y a = true) : mrg lt (A1 ++ A2) [y] = A1 ++ y :: A2 := by
  have e1 := mrg_split (lt := lt) (A1 := A1) (A2 := A2) (B1 := []) (B2 := [y]) (fun b hb => by cases hb) (fun a ha b hb => by rw [List.mem_singleton.1 hb]; exact h1 a ha)
  have e2 := mrg_split (lt := lt) (A1 := []) (A2 := A2) (B1 := [y]) (B2 := []) (fun b hb a ha => by rw [List.mem_singleton.1 hb]; exact h2 a ha) (fun a ha => by cases ha)
  simp only [List.nil_append, List.append_nil, mrg_nil_left, mrg_nil] at e1 e2
  rw [e1, e2]; rfl
theorem mrg_mem : ∀ (k : Nat) (A B : List α), A.length + B.length ≤ k → ∀ x, x ∈ mrg lt A B ↔ x ∈ A ∨ x ∈ B
  | k, [], B, _, x => by simp [mrg_nil_left]
  | k, a :: A, [], _, x => by simp [mrg_nil]
  | 0, a :: A, b :: B, h, x => by simp at h
  | k + 1, a :: A, b :: B, h, x => by
    rw [mrg]
    split
    · rw [List.mem_cons, mrg_mem k (a :: A) B (by simp at h ⊢; omega)]
      simp; constructor
      · rintro (h | (h | h) | h) <;> simp [h]
      · rintro ((h | h) | h | h) <;> simp [h]
    · rw [List.mem_cons, mrg_mem k A (b :: B) (by simp at h ⊢; omega)]
      simp; constructor
      · rintro (h | h | h | h) <;> simp [h]
      · rintro ((h | h) | h | h) <;> simp [h]
theorem mrg_len : ∀ (k : Nat) (A B : List α), A.length + B.length ≤ k → (mrg lt A B).length = A.length + B.length
  | k, [], B, _ => by simp [mrg_nil_left]
  | k, a :: A, [], _ => by simp [mrg_nil]
  | 0, a :: A, b :: B, h => by simp at h
  | k + 1, a :: A, b :: B, h => by
    rw [mrg]
    split
    · rw [List.length_cons, mrg_len k (a :: A) B (by simp at h ⊢; omega)]; simp; omega
    · rw [List.length_cons, mrg_len k A (b :: B) (by simp at h ⊢; omega)]; simp; omega
abbrev Srt (lt : α → α → Bool) (l : List α) : Prop := l.Pairwise fun x y => lt y x = false
theorem mrg_srt (o : SWk lt) : ∀ (k : Nat) (A B : List α), A.length + B.length ≤ k → Srt lt A → Srt lt B → Srt lt (mrg lt A B)
  | k, [], B, _, _, h => by rw [mrg_nil_left]; exact h
  | k, a :: A, [], _, h, _ => by rw [mrg_nil]; exact h
  | 0, a :: A, b :: B, h, _, _ => by simp at h
  | k + 1, a :: A, b :: B, h, hA, hB => by
    obtain ⟨a1, a2⟩ := List.pairwise_cons.1 hA
    obtain ⟨b1, b2⟩ := List.pairwise_cons.1 hB
    rw [mrg]
    split
    · rename_i hlt
      refine List.pairwise_cons.2 ⟨fun x hx => ?_, mrg_srt o k (a :: A) B (by simp at h ⊢; omega) hA b2⟩
      rcases (mrg_mem _ _ _ (Nat.le_refl _) x).1 hx with hx | hx
      · rcases List.mem_cons.1 hx with rfl | hx
        · exact o.asy _ _ hlt
        · exact o.tr b a x (o.asy _ _ hlt) (a1 x hx)
      · exact b1 x hx
    · rename_i hlt
      have hlt' : lt b a = false := by simpa using hlt
      refine List.pairwise_cons.2 ⟨fun x hx => ?_, mrg_srt o k A (b :: B) (by simp at h ⊢; omega) a2 hB⟩
      rcases (mrg_mem _ _ _ (Nat.le_refl _) x).1 hx with hx | hx
      · exact a1 x hx
      · rcases List.mem_cons.1 hx with rfl | hx
        · exact hlt'
        · exact o.tr a b x hlt' (b1 x hx)
/-- a sorted list, parted by what stands behind y -/
theorem srt_part (o : SWk lt) (y : α) : ∀ {l : List α}, Srt lt l → ∃ l1 l2, l = l1 ++ l2 ∧ (∀ x ∈ l1, lt y x = false) ∧ ∀ x ∈ l2, lt y x = true
  | [], _ => ⟨[], [], rfl, by simp, by simp⟩
  | x :: l, h => by
    obtain ⟨h1, h2⟩ := List.pairwise_cons.1 h
    by_cases hx : lt y x = true
    · refine ⟨[], x :: l, rfl, by simp, fun z hz => ?_⟩
      rcases List.mem_cons.1 hz with rfl | hz
      · exact hx
      · cases hc : lt y z with
        | true => rfl
        | false =>
          have := o.tr x z y (h1 z hz) hc
          rw [hx] at this; cases this
    · obtain ⟨l1, l2, e, h3, h4⟩ := srt_part o y h2
      refine ⟨x :: l1, l2, by rw [e]; rfl, fun z hz => ?_, h4⟩
      rcases List.mem_cons.1 hz with rfl | hz
      · simpa using hx
      · exact h3 z hz
theorem lt_of {o : SWk lt} {b y a : α} (h1 : lt y b = false) (h2 : lt y a = true) : lt b a = true := by
  cases hc : lt b a with
  | true => rfl
  | false =>
    have := o.tr a b y hc h1
    rw [h2] at this; cases this
theorem mrg_assoc1 (o : SWk lt) {A B : List α} (hA : Srt lt A) (hB : Srt lt B) (y : α) : mrg lt (mrg lt A B) [y] = mrg lt A (mrg lt B [y]) := by
  obtain ⟨A1, A2, rfl, a1, a2⟩ := srt_part o y hA
  obtain ⟨B1, B2, rfl, b1, b2⟩ := srt_part o y hB
  have e1 : mrg lt (A1 ++ A2) (B1 ++ B2) = mrg lt A1 B1 ++ mrg lt A2 B2 := mrg_split (fun b hb a ha => lt_of (o := o) (b1 b hb) (a2 a ha)) (fun a ha b hb => o.asy _ _ (lt_of (o := o) (a1 a ha) (b2 b hb)))
  rw [e1, mrg_right (fun x hx => ?_) (fun x hx => ?_), mrg_right b1 b2]
  · have e2 : mrg lt (A1 ++ A2) (B1 ++ y :: B2) = mrg lt A1 B1 ++ mrg lt A2 (y :: B2) := mrg_split (fun b hb a ha => lt_of (o := o) (b1 b hb) (a2 a ha)) (fun a ha b hb => by
      rcases List.mem_cons.1 hb with rfl | hb
      · exact a1 a ha
      · exact o.asy _ _ (lt_of (o := o) (a1 a ha) (b2 b hb)))
    have e3 := mrg_split (lt := lt) (A1 := []) (A2 := A2) (B1 := [y]) (B2 := B2) (fun b hb a ha => by rw [List.mem_singleton.1 hb]; exact a2 a ha) (fun a ha => by cases ha)
    simp only [List.nil_append, mrg_nil_left] at e3
    rw [e2, show y :: B2 = [y] ++ B2 from rfl, e3]; rfl
  · rcases (mrg_mem _ _ _ (Nat.le_refl _) x).1 hx with h | h
    · exact a1 x h
    · exact b1 x h
  · rcases (mrg_mem _ _ _ (Nat.le_refl _) x).1 hx with h | h
    · exact a2 x h
    · exact b2 x h
/-- the stable sort: one after the other, behind all that do not stand behind it -/
def srtS (lt : α → α → Bool) (l : List α) : List α := l.foldl (fun acc y => mrg lt acc [y]) []
theorem srtS_snoc (l : List α) (y : α) : srtS lt (l ++ [y]) = mrg lt (srtS lt l) [y] := by unfold srtS; rw [List.foldl_append]; rfl
theorem rev_ind {P : List α → Prop} (h0 : P []) (h1 : ∀ l y, P l → P (l ++ [y])) : ∀ l, P l := fun l => by
  have : ∀ (k : Nat) (l : List α), l.length = k → P l := fun k => by
    induction k with
    | zero => intro l h; rw [List.length_eq_zero_iff.1 h]; exact h0
    | succ k ih =>
      intro l h
      have hne : l ≠ [] := fun e => by rw [e] at h; cases h
      rw [← List.dropLast_concat_getLast hne]
      exact h1 _ _ (ih _ (by rw [List.length_dropLast, h]; rfl))
  exact this _ l rfl
theorem srtS_srt (o : SWk lt) : ∀ l, Srt lt (srtS lt l) := rev_ind List.Pairwise.nil fun l y ih => by
  rw [srtS_snoc]; exact mrg_srt o _ _ _ (Nat.le_refl _) ih (by simp)
theorem srtS_len : ∀ l : List α, (srtS lt l).length = l.length := rev_ind rfl fun l y ih => by
  rw [srtS_snoc, mrg_len _ _ _ (Nat.le_refl _), ih]; simp
theorem srtS_app (o : SWk lt) (X : List α) : ∀ Y, srtS lt (X ++ Y) = mrg lt (srtS lt X) (srtS lt Y) := rev_ind (by simp [srtS, mrg_nil]) fun l y ih => by
  rw [← List.append_assoc, srtS_snoc, ih, srtS_snoc, mrg_assoc1 o (srtS_srt o _) (srtS_srt o _)]
end Go.Pl
/- Symmetric merging: where both lists are cut; one element merged by a search. -/
namespace Go.Pl
set_option linter.all false
variable {α : Type} {lt : α → α → Bool}
theorem SWk.rf (o : SWk lt) (x : α) : lt x x = false := by
  cases h : lt x x with
  | false => rfl
  | true => rw [o.asy x x h] at h; cases h
theorem srt_le (o : SWk lt) {l : List α} (h : Srt lt l) {i j : Nat} (hj : j < l.length) (hij : i ≤ j) : lt l[j] (l[i]'(by omega)) = false := by
  rcases Nat.lt_or_ge i j with h1 | h1
  · exact List.pairwise_iff_getElem.1 h i j (by omega) hj h1
  · have : i = j := by omega
    subst this; exact o.rf _
theorem SWk.tr2 (o : SWk lt) {x y z : α} (h1 : lt y x = false) (h2 : lt y z = true) : lt x z = true := by
  cases hc : lt x z with
  | true => rfl
  | false =>
    have := o.tr z x y hc h1
    rw [h2] at this; cases this
theorem SWk.tr3 (o : SWk lt) {x y z : α} (h1 : lt x y = true) (h2 : lt z y = false) : lt x z = true := by
  cases hc : lt x z with
  | true => rfl
  | false =>
    have := o.tr y z x h2 hc
    rw [h1] at this; cases this
theorem sym_cut (o : SWk lt) {A B : List α} (hA : Srt lt A) (hB : Srt lt B) {S T : Nat} (hS : S ≤ A.length) (hT : T ≤ B.length)
    (h1 : ∀ (k1 : 0 < S) (k2 : T < B.length), lt B[T] (A[S - 1]'(by omega)) = false) (h2 : ∀ (k1 : S < A.length) (k2 : 0 < T), lt (B[T - 1]'(by omega)) A[S] = true) :
    mrg lt A B = mrg lt (A.take S) (B.take T) ++ mrg lt (A.drop S) (B.drop T) := by
  rw [← mrg_split (fun b hb a ha => ?_) (fun a ha b hb => ?_), List.take_append_drop, List.take_append_drop]
  · obtain ⟨j, hj, rfl⟩ := List.mem_iff_getElem.1 hb
    obtain ⟨i, hi, rfl⟩ := List.mem_iff_getElem.1 ha
    rw [List.length_take] at hj
    rw [List.length_drop] at hi
    rw [List.getElem_take, List.getElem_drop]
    have e1 := srt_le o hB (i := j) (j := T - 1) (by omega) (by omega)
    have e2 := h2 (by omega) (by omega)
    have e3 := srt_le o hA (i := S) (j := S + i) (by omega) (by omega)
    exact o.tr3 (o.tr2 e1 e2) e3
  · obtain ⟨j, hj, rfl⟩ := List.mem_iff_getElem.1 hb
    obtain ⟨i, hi, rfl⟩ := List.mem_iff_getElem.1 ha
    rw [List.length_take] at hi
    rw [List.length_drop] at hj
    rw [List.getElem_take, List.getElem_drop]
    have e1 := srt_le o hA (i := i) (j := S - 1) (by omega) (by omega)
    have e2 := h1 (by omega) (by omega)
    have e3 := srt_le o hB (i := T) (j := T + j) (by omega) (by omega)
    exact o.tr _ _ _ (o.tr _ _ _ e1 e2) e3
theorem one_left (o : SWk lt) {x : α} {B : List α} (hB : Srt lt B) {T : Nat} (hT : T ≤ B.length) (h1 : ∀ (k : 0 < T), lt (B[T - 1]'(by omega)) x = true) (h2 : ∀ (k : T < B.length), lt B[T] x = false) :
    mrg lt [x] B = B.take T ++ x :: B.drop T := by
  have := mrg_left (lt := lt) (x := x) (B1 := B.take T) (B2 := B.drop T) (fun b hb => ?_) (fun b hb => ?_)
  · rwa [List.take_append_drop] at this
  · obtain ⟨j, hj, rfl⟩ := List.mem_iff_getElem.1 hb
    rw [List.length_take] at hj
    rw [List.getElem_take]
    exact o.tr2 (srt_le o hB (i := j) (j := T - 1) (by omega) (by omega)) (h1 (by omega))
  · obtain ⟨j, hj, rfl⟩ := List.mem_iff_getElem.1 hb
    rw [List.length_drop] at hj
    rw [List.getElem_drop]
    exact o.tr _ _ _ (h2 (by omega)) (srt_le o hB (i := T) (j := T + j) (by omega) (by omega))
theorem one_right (o : SWk lt) {y : α} {A : List α} (hA : Srt lt A) {S : Nat} (hS : S ≤ A.length) (h1 : ∀ (k : 0 < S), lt y (A[S - 1]'(by omega)) = false) (h2 : ∀ (k : S < A.length), lt y A[S] = true) :
    mrg lt A [y] = A.take S ++ y :: A.drop S := by
  have := mrg_right (lt := lt) (y := y) (A1 := A.take S) (A2 := A.drop S) (fun a ha => ?_) (fun a ha => ?_)
  · rwa [List.take_append_drop] at this
  · obtain ⟨i, hi, rfl⟩ := List.mem_iff_getElem.1 ha
    rw [List.length_take] at hi
    rw [List.getElem_take]
    exact o.tr _ _ _ (srt_le o hA (i := i) (j := S - 1) (by omega) (by omega)) (h1 (by omega))
  · obtain ⟨i, hi, rfl⟩ := List.mem_iff_getElem.1 ha
    rw [List.length_drop] at hi
    rw [List.getElem_drop]
    exact o.tr3 (h2 (by omega)) (srt_le o hA (i := S) (j := S + i) (by omega) (by omega))
/- exchanging -/
theorem set_at_len {P R : List α} {u v : α} : (P ++ u :: R).set P.length v = P ++ v :: R := by
  rw [List.set_append_right _ _ (Nat.le_refl _)]; simp
theorem swap_two (P M R : List α) (u v : α) : ((P ++ u :: (M ++ v :: R)).set P.length v).set (P.length + 1 + M.length) u = P ++ v :: (M ++ u :: R) := by
  rw [set_at_len]
  have e : P ++ v :: (M ++ v :: R) = (P ++ v :: M) ++ v :: R := by simp
  rw [e, show P.length + 1 + M.length = (P ++ v :: M).length by simp; omega, set_at_len]
  simp
theorem get_at_len {P R : List α} {u : α} : (P ++ u :: R)[P.length]? = some u := by
  rw [List.getElem?_append_right (Nat.le_refl _)]; simp
end Go.Pl
/- Exchanging two ranges, one pair after the other. -/
namespace Go.Pl
set_option linter.all false
variable {α : Type}
def swI (P U M V R : List α) (i : Nat) : List α := P ++ V.take i ++ (U.drop i ++ (M ++ U.take i ++ (V.drop i ++ R)))
theorem swI_0 (P U M V R : List α) : swI P U M V R 0 = P ++ (U ++ (M ++ (V ++ R))) := by simp [swI]
theorem swI_n {P U M V R : List α} (h : U.length = V.length) : swI P U M V R U.length = P ++ (V ++ (M ++ (U ++ R))) := by
  have : V.take U.length = V := by rw [h]; exact List.take_length
  have h2 : V.drop U.length = [] := by rw [h]; exact List.drop_length
  simp [swI, this, h2, List.drop_length]
theorem swI_form {P U M V R : List α} {i : Nat} (hu : i < U.length) (hv : i < V.length) : swI P U M V R i = (P ++ V.take i) ++ U[i] :: ((U.drop (i + 1) ++ M ++ U.take i) ++ V[i] :: (V.drop (i + 1) ++ R)) := by
  unfold swI
  rw [List.drop_eq_getElem_cons hu, List.drop_eq_getElem_cons hv]
  simp only [List.append_assoc, List.cons_append]
theorem swI_step {P U M V R : List α} {i : Nat} (hu : i < U.length) (hv : i < V.length) :
    ((swI P U M V R i).set (P.length + i) V[i]).set (P.length + U.length + M.length + i) U[i] = swI P U M V R (i + 1) := by
  rw [swI_form hu hv]
  have h := swap_two (P ++ V.take i) (U.drop (i + 1) ++ M ++ U.take i) (V.drop (i + 1) ++ R) U[i] V[i]
  rw [show (P ++ V.take i).length = P.length + i by simp; omega] at h
  rw [show P.length + i + 1 + (U.drop (i + 1) ++ M ++ U.take i).length = P.length + U.length + M.length + i by simp; omega] at h
  rw [h]
  unfold swI
  rw [List.take_succ_eq_append_getElem hu, List.take_succ_eq_append_getElem hv]
  simp only [List.append_assoc, List.cons_append, List.nil_append]
theorem swI_u {P U M V R : List α} {i : Nat} (hu : i < U.length) (hv : i < V.length) : (swI P U M V R i)[P.length + i]? = some U[i] := by
  rw [swI_form hu hv]
  have := get_at_len (P := P ++ V.take i) (R := (U.drop (i + 1) ++ M ++ U.take i) ++ V[i] :: (V.drop (i + 1) ++ R)) (u := U[i])
  rwa [show (P ++ V.take i).length = P.length + i by simp; omega] at this
theorem swI_v {P U M V R : List α} {i : Nat} (hu : i < U.length) (hv : i < V.length) : (swI P U M V R i)[P.length + U.length + M.length + i]? = some V[i] := by
  rw [swI_form hu hv]
  have e : (P ++ V.take i) ++ U[i] :: ((U.drop (i + 1) ++ M ++ U.take i) ++ V[i] :: (V.drop (i + 1) ++ R)) = ((P ++ V.take i) ++ U[i] :: (U.drop (i + 1) ++ M ++ U.take i)) ++ V[i] :: (V.drop (i + 1) ++ R) := by simp
  rw [e]
  have := get_at_len (P := (P ++ V.take i) ++ U[i] :: (U.drop (i + 1) ++ M ++ U.take i)) (R := V.drop (i + 1) ++ R) (u := V[i])
  rwa [show ((P ++ V.take i) ++ U[i] :: (U.drop (i + 1) ++ M ++ U.take i)).length = P.length + U.length + M.length + i by simp; omega] at this
end Go.Pl
/- Blocks: every full block of a list in its stable order; insertion from the right. -/
namespace Go.Pl
set_option linter.all false
variable {α : Type}
abbrev ltS (c : α → α → Int) (x y : α) : Bool := decide (c x y < 0)
def bsF (lt : α → α → Bool) (w : Nat) : Nat → List α → List α
  | 0, l => srtS lt l
  | k + 1, l => if l.length ≤ w then srtS lt l else srtS lt (l.take w) ++ bsF lt w k (l.drop w)
def bsL (lt : α → α → Bool) (w : Nat) (l : List α) : List α := bsF lt w l.length l
variable {lt : α → α → Bool}
theorem bsF_more (w : Nat) (hw : 0 < w) : ∀ (k k' : Nat) (l : List α), l.length ≤ k → l.length ≤ k' → bsF lt w k l = bsF lt w k' l
  | 0, 0, l, _, _ => rfl
  | 0, k' + 1, l, h, _ => by
    have : l = [] := List.length_eq_zero_iff.1 (by omega)
    subst this; simp [bsF]
  | k + 1, 0, l, _, h => by
    have : l = [] := List.length_eq_zero_iff.1 (by omega)
    subst this; simp [bsF]
  | k + 1, k' + 1, l, h, h' => by
    simp only [bsF]
    split
    · rfl
    · rw [bsF_more w hw k k' (l.drop w) (by simp; omega) (by simp; omega)]
theorem bsL_small {w : Nat} {l : List α} (h : l.length ≤ w) : bsL lt w l = srtS lt l := by
  unfold bsL
  cases hl : l.length with
  | zero => rfl
  | succ k => simp only [bsF]; rw [if_pos h]
theorem bsL_cut {w : Nat} {l : List α} (hw : 0 < w) (h : w ≤ l.length) : bsL lt w l = srtS lt (l.take w) ++ bsL lt w (l.drop w) := by
  rcases Nat.lt_or_ge w l.length with h1 | h1
  · unfold bsL
    cases hl : l.length with
    | zero => omega
    | succ k =>
      simp only [bsF]
      rw [if_neg (by omega)]
      congr 1
      exact bsF_more w hw _ _ _ (by simp; omega) (by simp)
  · have e : l.length = w := by omega
    rw [bsL_small (by omega), List.take_of_length_le (by omega), List.drop_eq_nil_of_le (by omega), bsL_small (by simp)]
    simp [srtS]
theorem bsL_len (w : Nat) (hw : 0 < w) : ∀ (k : Nat) (l : List α), l.length ≤ k → (bsL lt w l).length = l.length
  | 0, l, h => by
    have : l = [] := List.length_eq_zero_iff.1 (by omega)
    subst this; rfl
  | k + 1, l, h => by
    rcases (by omega : l.length ≤ w ∨ w < l.length) with h1 | h1
    · rw [bsL_small h1, srtS_len]
    · rw [bsL_cut hw (by omega), List.length_append, srtS_len, bsL_len w hw k _ (by simp; omega)]; simp; omega
theorem bsL_two (o : SWk lt) {w : Nat} {l : List α} (hw : 0 < w) (h : 2 * w ≤ l.length) :
    bsL lt w l = srtS lt (l.take w) ++ (srtS lt ((l.drop w).take w) ++ bsL lt w (l.drop (2 * w))) ∧ bsL lt (2 * w) l = mrg lt (srtS lt (l.take w)) (srtS lt ((l.drop w).take w)) ++ bsL lt (2 * w) (l.drop (2 * w)) := by
  constructor
  · rw [bsL_cut hw (by omega), bsL_cut (l := l.drop w) hw (by simp; omega), List.drop_drop, show w + w = 2 * w by omega]
  · rw [bsL_cut (by omega) h, ← srtS_app o]
    congr 2
    rw [show 2 * w = w + w by omega, List.take_add]
theorem bsL_last (o : SWk lt) {w : Nat} {l : List α} (hw : 0 < w) (h : w < l.length) (h2 : l.length < 2 * w) :
    bsL lt w l = srtS lt (l.take w) ++ srtS lt (l.drop w) ∧ bsL lt (2 * w) l = mrg lt (srtS lt (l.take w)) (srtS lt (l.drop w)) := by
  constructor
  · rw [bsL_cut hw (by omega), bsL_small (l := l.drop w) (by simp; omega)]
  · rw [bsL_small (by omega), ← srtS_app o, List.take_append_drop]
/-- one step of an insertion: x goes ahead of the last of those that stand ahead of it -/
theorem ins_step {S R : List α} {x : α} {X : List α} {k : Nat} (hk : 0 < k) (hk2 : k ≤ S.length) :
    ((X ++ (S.take k ++ x :: (S.drop k ++ R))).set (X.length + k) (S[k - 1]'(by omega))).set (X.length + (k - 1)) x = X ++ (S.take (k - 1) ++ x :: (S.drop (k - 1) ++ R)) := by
  have e1 : S.take k = S.take (k - 1) ++ [S[k - 1]'(by omega)] := by
    have := List.take_succ_eq_append_getElem (l := S) (i := k - 1) (by omega)
    rwa [show k - 1 + 1 = k by omega] at this
  have e2 : S.drop (k - 1) = (S[k - 1]'(by omega)) :: S.drop k := by
    have := List.drop_eq_getElem_cons (l := S) (i := k - 1) (by omega)
    rwa [show k - 1 + 1 = k by omega] at this
  have e3 : (X ++ S.take (k - 1)).length = X.length + (k - 1) := by simp; omega
  rw [List.set_comm _ _ (by omega)]
  have h := swap_two (X ++ S.take (k - 1)) [] (S.drop k ++ R) (S[k - 1]'(by omega)) x
  rw [e3] at h
  simp only [List.nil_append, List.length_nil, Nat.add_zero] at h
  rw [show X.length + (k - 1) + 1 = X.length + k by omega] at h
  rw [e1, e2]
  simp only [List.append_assoc, List.cons_append, List.nil_append] at h ⊢
  exact h
theorem ins_prev {S R : List α} {x : α} {X : List α} {k : Nat} (hk : 0 < k) (hk2 : k ≤ S.length) : (X ++ (S.take k ++ x :: (S.drop k ++ R)))[X.length + (k - 1)]? = some (S[k - 1]'(by omega)) := by
  rw [List.getElem?_append_right (by omega), List.getElem?_append_left (by simp; omega), List.getElem?_take_of_lt (by omega)]
  rw [show X.length + (k - 1) - X.length = k - 1 by omega]
  exact List.getElem?_eq_getElem _
theorem ins_at {S R : List α} {x : α} {X : List α} {k : Nat} (hk2 : k ≤ S.length) : (X ++ (S.take k ++ x :: (S.drop k ++ R)))[X.length + k]? = some x := by
  have := get_at_len (P := X ++ S.take k) (R := S.drop k ++ R) (u := x)
  rw [show (X ++ S.take k).length = X.length + k by simp; omega] at this
  simpa using this
/-- the other way: x goes behind the first of those that stand behind it -/
theorem ins_fwd {S R : List α} {x : α} {X : List α} {k : Nat} (hk : k < S.length) :
    ((X ++ (S.take k ++ x :: (S.drop k ++ R))).set (X.length + k) S[k]).set (X.length + (k + 1)) x = X ++ (S.take (k + 1) ++ x :: (S.drop (k + 1) ++ R)) := by
  have e3 : (X ++ S.take k).length = X.length + k := by simp; omega
  have h := swap_two (X ++ S.take k) [] (S.drop (k + 1) ++ R) x S[k]
  rw [e3] at h
  simp only [List.nil_append, List.length_nil, Nat.add_zero] at h
  rw [List.take_succ_eq_append_getElem hk, List.drop_eq_getElem_cons hk]
  simp only [List.append_assoc, List.cons_append, List.nil_append] at h ⊢
  exact h
theorem ins_next {S R : List α} {x : α} {X : List α} {k : Nat} (hk : k < S.length) : (X ++ (S.take k ++ x :: (S.drop k ++ R)))[X.length + (k + 1)]? = some S[k] := by
  have := get_at_len (P := X ++ (S.take k ++ [x])) (R := S.drop (k + 1) ++ R) (u := S[k])
  rw [show (X ++ (S.take k ++ [x])).length = X.length + (k + 1) by simp; omega] at this
  rw [List.drop_eq_getElem_cons hk]
  simp only [List.append_assoc, List.cons_append, List.nil_append] at this ⊢
  exact this
open Go Go.RT
/- the hops of a tree, row after row -/
def rawU (r : Int) (a v : Nat) (ll : List (List Int)) (u : Int) : List Int := (if u = (a : Int) then [(v : Int)] else []) ++ (rowAt' ll u.toNat).map (capV r v)
def rawH (r : Int) (a v : Nat) (ll : List (List Int)) (up : List Int) : List Int := up.flatMap (rawU r a v ll)
def hopN (r : Int) (a : Nat) (par : List (List Int)) (ll : List (List Int)) (v : Nat) : List (List Int) := ll.set v (compL eqI (srtI (rawH r a v ll (rowAt' par v))))
def hopT (r : Int) (a n : Nat) (par : List (List Int)) (L : List Nat) : List (List Int) := L.foldl (hopN r a par) (List.replicate n [])
theorem hopN_len (r : Int) (a : Nat) (par ll : List (List Int)) (v : Nat) : (hopN r a par ll v).length = ll.length := by simp [hopN]
theorem raw_mem {r : Int} {a v : Nat} (hva : v < a ∨ a ≤ v) {ll : List (List Int)} {up : List Int} (hr : ∀ u ∈ up, u = (a : Int) → capV r v (v : Int) = (v : Int)) (x : Int) : x ∈ rawH r a v ll up ↔ ∃ u ∈ up, Src r a v ll u x := by
  unfold rawH rawU Src
  rw [List.mem_flatMap]
  refine exists_congr fun u => and_congr_right fun hu => ?_
  rw [List.mem_append, List.mem_map]
  constructor
  · rintro (h | ⟨y, h1, h2⟩)
    · by_cases e : u = (a : Int)
      · rw [if_pos e] at h
        have : x = (v : Int) := by simpa using h
        exact .inl ⟨e, by rw [hr u hu e]; exact this⟩
      · rw [if_neg e] at h; cases h
    · exact .inr ⟨y, h1, h2.symm⟩
  · rintro (⟨e, h⟩ | ⟨y, h1, h2⟩)
    · left; rw [if_pos e, h, hr u hu e]; simp
    · exact .inr ⟨y, h1, h2.symm⟩
/-- the order in which the program makes the rows -/
def ordT (r : Int) (d : List Int) (x y : Nat) : Int := orI [cmpI (gt0 d x) (gt0 d y), cmpI (min (y : Int) r) (min (x : Int) r)]
theorem ordT_neg (r : Int) (d : List Int) (x y : Nat) : ordT r d x y < 0 ↔ gt0 d x < gt0 d y ∨ gt0 d x = gt0 d y ∧ min (y : Int) r < min (x : Int) r := by
  unfold ordT
  simp only [orI, cmpI]
  split <;> split <;> (try split) <;> (try split) <;> simp_all <;> omega
structure TopL (r : Int) (n : Nat) (d : List Int) (L : List Nat) : Prop where
  mem : ∀ v, v ∈ L ↔ v < n
  nd : L.Nodup
  srt : L.Pairwise (fun x y => ¬ ordT r d y x < 0)
theorem topL_before {r : Int} {n : Nat} {d : List Int} {L p q : List Nat} (h : TopL r n d L) {v u : Nat} (e : L = p ++ v :: q) (hu : u < n) (hlt : ordT r d u v < 0) : u ∈ p := by
  have hm := (h.mem u).2 hu
  have hs := h.srt
  rw [e] at hm hs
  rcases List.mem_append.1 hm with h1 | h1
  · exact h1
  · exfalso
    have h2 := (List.pairwise_append.1 hs).2.1
    rcases List.mem_cons.1 h1 with rfl | h1
    · rw [ordT_neg] at hlt; omega
    · exact (List.pairwise_cons.1 h2).1 u h1 hlt
theorem rows_extT {a b : List (List Int)} {n : Nat} (ha : a.length = n) (hb : b.length = n) (h : ∀ v, v < n → rowAt' a v = rowAt' b v) : a = b := by
  apply List.ext_getElem (by omega)
  intro i h1 h2
  have := h i (by omega)
  simpa [rowAt', List.getD_eq_getElem?_getD, h1, h2] using this
theorem RunOk.noRow {g : Gr} {a : Nat} {t : Tr} (h : RunOk g a t) {v : Nat} (hv : v < g.m) (hn : rowAt' t.par v = []) : rowAt' t.hops v = [] := by
  have h1 := h.par_len hv
  have h2 := h.hop_len hv
  rw [hn] at h1
  have : ¬ 0 < (rowAt' t.hops v).length := fun h3 => by have := h1.2 (h2.1 h3); simp at this
  exact List.length_eq_zero_iff.1 (by omega)
theorem RunOk.row_mem {g : Gr} {a : Nat} {t : Tr} (h : RunOk g a t) {v : Nat} (hv : v < g.m) (x : Int) : x ∈ rowAt' t.hops v ↔ ∃ u ∈ rowAt' t.par v, Src g.r a v t.hops u x := by
  by_cases hm : v ∈ ordA t.dist a g.m
  · exact h.hopInv.on v hm x
  · have e1 := h.hopInv.off v hv hm
    have h2 := h.hop_len hv
    have h3 := h.par_len hv
    rw [e1] at h2
    have : ¬ 0 < (rowAt' t.par v).length := fun h4 => by have := h2.2 (h3.1 h4); simp at this
    have e2 : rowAt' t.par v = [] := List.length_eq_zero_iff.1 (by omega)
    rw [e1, e2]; simp
theorem capV_self (r : Int) (v : Nat) : capV r v (v : Int) = (v : Int) := by unfold capV; split <;> rfl
theorem hopT_go {g : Gr} {a : Nat} {t : Tr} (h : RunOk g a t) {L : List Nat} (hL : TopL g.r g.m t.dist L) : ∀ (q p : List Nat) (ll : List (List Int)), L = p ++ q → ll.length = g.m → (∀ v, v < g.m → v ∈ p → rowAt' ll v = rowAt' t.hops v) → (∀ v, v < g.m → v ∉ p → rowAt' ll v = []) → q.foldl (hopN g.r a t.par) ll = t.hops
  | [], p, ll, e, hl, h1, _ => by
    have hp : ∀ v, v < g.m → v ∈ p := fun v hv => by have := (hL.mem v).2 hv; rw [e] at this; simpa using this
    exact rows_extT hl h.hopInv.ok.len fun v hv => h1 v hv (hp v hv)
  | v :: q, p, ll, e, hl, h1, h2 => by
    have vg := h.vg
    have hv : v < g.m := (hL.mem v).1 (by rw [e]; simp)
    have hnd := hL.nd
    rw [e] at hnd
    have hvp : v ∉ p := fun hm => (List.nodup_append.1 hnd).2.2 v hm v (by simp) rfl
    have hroot : rowAt' ll a = rowAt' t.hops a := by
      have e0 : rowAt' t.par a = [] := by
        have := h.par_len h.am
        exact List.length_eq_zero_iff.1 (by
          have : ¬ 0 < (rowAt' t.par a).length := fun h4 => (this.1 h4).1 rfl
          omega)
      by_cases hm : a ∈ p
      · exact h1 a h.am hm
      · rw [h2 a h.am hm, h.noRow h.am e0]
    have hpar : ∀ u ∈ rowAt' t.par v, rowAt' ll u.toNat = rowAt' t.hops u.toNat := fun u hu => by
      obtain ⟨hva, ed, he, hf, ht, hd, hs⟩ := (h.par_mem hv u).1 hu
      have hfn := vg.f ed he
      have hc := vg.c ed he
      rw [hf] at hd hs hfn
      have hdu := h.dge (v := u.toNat) (by omega)
      by_cases hua : u = (a : Int)
      · rw [hua, Int.toNat_natCast]; exact hroot
      · refine h1 _ (by omega) (topL_before hL e (by omega) ((ordT_neg _ _ _ _).2 ?_))
        by_cases hc0 : ed.c = 0
        · have hr : (g.r.toNat : Int) ≤ ed.f := by
            by_cases hlt : ed.f < (g.r.toNat : Int)
            · have := vg.rt ed he hlt; omega
            · omega
          have := (vg.net ed he hr).1
          exact .inr ⟨by omega, by omega⟩
        · exact .inl (by omega)
    have hraw : rawH g.r a v ll (rowAt' t.par v) = rawH g.r a v t.hops (rowAt' t.par v) := by
      unfold rawH
      rw [List.flatMap_def, List.flatMap_def]
      congr 1
      exact List.map_congr_left fun u hu => by unfold rawU; rw [hpar u hu]
    obtain ⟨c1, c2⟩ := comp_asc (srtI_sorted (rawH g.r a v ll (rowAt' t.par v)))
    have hrow : compL eqI (srtI (rawH g.r a v ll (rowAt' t.par v))) = rowAt' t.hops v := by
      refine Asc.ext c1 (h.hopInv.ok.row v hv).1 fun x => ?_
      rw [c2, (srtI_perm _).mem_iff, hraw, raw_mem (Nat.lt_or_ge v a) (fun u _ _ => capV_self _ _), h.row_mem hv]
    have hset : ∀ w, w < g.m → rowAt' (hopN g.r a t.par ll v) w = if v = w then rowAt' t.hops v else rowAt' ll w := fun w hw => by
      unfold hopN
      show (ll.set v _).getD w [] = _
      rw [getD_set _ _ _ _ _ (by rw [hl]; exact hv), hrow]
    rw [List.foldl_cons]
    refine hopT_go h hL q (p ++ [v]) _ (by rw [e]; simp) (by rw [hopN_len, hl]) (fun w hw hm => ?_) (fun w hw hm => ?_)
    · rw [hset w hw]
      by_cases e1 : v = w
      · rw [if_pos e1, e1]
      · rw [if_neg e1]
        rcases List.mem_append.1 hm with hm | hm
        · exact h1 w hw hm
        · have e2 : w = v := by simpa using hm
          exact absurd e2.symm e1
    · rw [hset w hw, if_neg (fun e1 => hm (by simp [e1]))]
      exact h2 w hw (fun e1 => hm (by simp [e1]))
theorem hopT_eq {g : Gr} {a : Nat} {t : Tr} (h : RunOk g a t) {L : List Nat} (hL : TopL g.r g.m t.dist L) : hopT g.r a g.m t.par L = t.hops :=
  hopT_go h hL L [] _ rfl (by simp) (fun v _ hm => by cases hm) (fun v hv _ => getD_rep _ _ _ _ hv)
open Go Go.RT
/- rows of the edges that end at each node -/
def rowsN (es : List Edg) (n : Nat) : List (List (List FV)) := (List.range n).map fun v => (inE es v).map encE
theorem inE_succ {es : List Edg} {i : Nat} (h : i < es.length) (v : Nat) : inE (es.take (i + 1)) v = inE (es.take i) v ++ if es[i].t = (v : Int) then [es[i]] else [] := by
  unfold inE
  rw [← List.take_append_getElem h, List.filter_append]
  congr 1
  by_cases e : es[i].t = (v : Int)
  · simp [e]
  · simp [e]
theorem rowsN_succ {es : List Edg} {i n : Nat} (h : i < es.length) (h0 : 0 ≤ es[i].t) : (rowsN (es.take i) n).set es[i].t.toNat ((inE (es.take i) es[i].t.toNat).map encE ++ [encE es[i]]) = rowsN (es.take (i + 1)) n := by
  refine rng_set n _ _ _ _ ?_ fun w hw => ?_
  · rw [inE_succ h, if_pos (by omega), List.map_append]; rfl
  · rw [inE_succ h, if_neg (by omega), List.append_nil]
theorem rowsN_get (es : List Edg) {n v : Nat} (h : v < n) : (rowsN es n)[v]? = some ((inE es v).map encE) := rng_get n _ v h
theorem rowsN_nil (n : Nat) : rowsN [] n = List.replicate n [] := (rng_const n _).symm
theorem rowsN_len (es : List Edg) (n : Nat) : (rowsN es n).length = n := rng_len n _
theorem inE_len (es : List Edg) (v : Nat) : (inE es v).length ≤ es.length := List.length_filter_le _ _
theorem outE_len (es : List Edg) (v : Nat) : (outE es v).length ≤ es.length := List.length_filter_le _ _
/- graph.Next and graph.Cost on the edges of a node -/
theorem next_out {es : List Edg} (h : AscK es) (v : Nat) : nextI (v : Int) es = (outE es v).map (·.t) := by
  obtain ⟨h1, h2⟩ := nextI_spec (v : Int) es
  refine Asc.ext h1 ?_ fun x => ?_
  · unfold Asc outE
    rw [List.pairwise_map]
    have h3 : (es.filter fun e : Edg => decide (e.f = (v : Int))).Pairwise ltK := h.sublist List.filter_sublist
    refine h3.imp_of_mem fun {x y} hx hy hlt => ?_
    have e1 := (List.mem_filter.1 hx).2
    have e2 := (List.mem_filter.1 hy).2
    rw [decide_eq_true_eq] at e1 e2
    unfold ltK at hlt; omega
  · rw [h2]
    simp [outE, and_assoc]
theorem cost_at {es : List Edg} (h : AscK es) {e : Edg} (he : e ∈ es) : costL e.f e.t es = (e.c, true) := by
  have h1 : (costL e.f e.t es).2 = true := by
    cases hq : (costL e.f e.t es).2 with
    | true => rfl
    | false => exact absurd ⟨rfl, rfl⟩ (cost_none.1 hq e he)
  obtain ⟨e', he', hf, ht, hc⟩ := (cost_yes h).1 h1
  have := asc_key h he' he ⟨hf, ht⟩
  subst this
  exact Prod.ext hc.symm h1
theorem cost_old (es : List Edg) (c : Edg) : (costL c.f c.t es).2 = true → oldI es c = (costL c.f c.t es).1 := fun h => by unfold oldI; rw [if_pos h]
theorem cost_old2 (es : List Edg) (c : Edg) : (costL c.f c.t es).2 = false → oldI es c = -1 := fun h => by unfold oldI; rw [if_neg (by rw [h]; simp)]
open Go Go.RT
def popK (h : Hq) : Int := if h.it.length = 0 then 0 else h.key (h.item 0)
def popB (h : Hq) : Bool := decide (0 < h.it.length)
def popH (h : Hq) : Hq := if h.it.length = 0 then h else dropH h (h.item 0)
theorem setF_stop {es : List Edg} {f : Nat} {d : List Int} {h : Hq} (he : h.it.length = 0) : setF es f d h = (d, h) := by
  cases f with
  | zero => rfl
  | succ f => simp only [setF]; rw [if_pos he]
theorem setF_step {es : List Edg} {f : Nat} {d : List Int} {h : Hq} (he : ¬ h.it.length = 0) : setF es (f + 1) d h = setF es f (d.set (h.item 0) (h.key (h.item 0))) ((outE es (h.item 0)).foldl (relE (d.set (h.item 0) (h.key (h.item 0))) (h.key (h.item 0))) (dropH h (h.item 0))) := by
  simp only [setF]; rw [if_neg he]
open Go Go.RT
theorem lostF_stop {es : List Edg} {d : List Int} {f : Nat} {gone : List Bool} {out : List Int} {h : Hq} (he : h.it.length = 0) : lostF es d f gone out h = out := by
  cases f with
  | zero => rfl
  | succ f => simp only [lostF]; rw [if_pos he]
theorem lostF_step {es : List Edg} {d : List Int} {f : Nat} {gone : List Bool} {out : List Int} {h : Hq} (he : ¬ h.it.length = 0) : lostF es d (f + 1) gone out h = if (inE es (h.item 0)).any (heldP d gone (h.key (h.item 0))) = true then lostF es d f gone out (dropH h (h.item 0)) else lostF es d f (gone.set (h.item 0) true) (out ++ [(h.item 0 : Int)]) ((outE es (h.item 0)).foldl (lrE d (h.key (h.item 0))) (dropH h (h.item 0))) := by
  simp only [lostF]; rw [if_neg he]
end Go.Pl
namespace Go.Proofs.YtcillieggklaaaaGreat
open Go Go.RT Go.Proofs Go.Pl
set_option linter.all false
set_option maxRecDepth 20000
set_option maxHeartbeats 4000000
theorem into_c (g : Gr) (hg : checkI g = 0) : Pure Tryz.prog 58 [.agg (encG g)] (.vals 1 (fzL 3 (rowsN g.es g.m))) := by
 obtain ⟨vg, hr0, hn0⟩ := checkI_vg hg
 have hn := vg.n128
 have hel := vg.e1024
 have hrn : g.r + g.n = (g.m : Int) := by unfold Gr.m; omega
 have vt : ∀ e ∈ g.es, 0 ≤ e.t ∧ e.t < (g.m : Int) := fun e he => vg.t e he
 have hm128 : g.m ≤ 128 := hn
 clear vg hr0 hn0 hn
 generalize g.m = n at *
 refine Meets.intro Tryz.func58 rfl (Nat.le_of_ble_eq_true rfl) fun C hC => ?_
 simp only [List.map, argEnv, Nat.reduceAdd]
 refine nK2 ?_
 refine zb ?_
 refine zq ?_
 refine ze ?_
 refine zc ?_
 refine nK2 ?_
 refine zb ?_
 refine zg ?_
 refine zh ?_
 refine zg ?_
 refine zh ?_
 refine zbc ?_
 refine Run.eff (dd := some 11) rfl rfl (op_make (l := n) (c := n) rfl (oT rfl) (oT rfl) rfl rfl rfl rfl (by intro _; refine ⟨hrn, hrn, ?_⟩; omega)) ?_
 refine zd ?_
 refine zc ?_
 refine nK2 ?_
 refine Next.toOwn 1 3 n rfl ?_
 refine Next.weak [0, 1] [] (by rfl) (keepsN hC _ rfl) (G' := [(1, .ptr 0 3 0 0), (3, .sl 1 1 0 n)]) (H' := [(0, OG g), (1, some (.refs 1 (ownL 3 (rowsN [] n))))]) wG (by exact ⟨wS, ⟨ent_own rfl rfl (by rw [rowsN_nil, ← ownL_rep]; rfl), trivial⟩⟩) wN ?_
 refine nK2 ?_
 refine zb ?_
 refine zg ?_
 refine zh ?_
 refine zo ?_
 refine zbb ?_
 refine zc ?_
 refine nK2 ?_
 refine n_loop (ι := Nat) (fun i => ([(3, .sl 1 1 0 n), (13, .fz (VE g.es)), (14, IV .i64 g.es.length), (15, IV .i64 i)], [(0, OG g), (1, some (.refs 1 (ownL 3 (rowsN (g.es.take i) n))))], 2)) (fun i => i ≤ g.es.length) (fun i => g.es.length - i) 0 (Nat.zero_le _) ?_ ?_
 ·refine Next.weak [0, 1] [] (by rfl) (keepsN hC _ rfl) wG (by exact ⟨wS, ⟨ent_own rfl rfl rfl, trivial⟩⟩) wN rel_intro
 intro i hi K hK
 try dsimp only at hi ⊢
 refine nK2 ?_
 refine zb ?_
 refine zp ?_
 refine zc ?_
 refine nK2 ?_
 refine n_cond _ rfl (fun hb => ?_) (fun hb => ?_)
 ·have hlt : i < g.es.length := by simp at hb; omega
  have hr1 := row_at' encE g.es i hlt
  have hef := vt _ (List.getElem_mem hlt)
  have hst := rowsN_succ (n := n) hlt hef.1
  have hrg := rowsN_get (g.es.take i) (n := n) (v := g.es[i].t.toNat) (by omega)
  have hlen : (inE (g.es.take i) g.es[i].t.toNat).length ≤ 1024 := by
   have h1 := inE_len (g.es.take i) g.es[i].t.toNat
   have h2 : (g.es.take i).length ≤ g.es.length := List.length_take_le' _ _
   omega
  have hK1 := hK (i + 1) (by omega) (by omega)
  rw [← hst] at hK1
  have hrl := rowsN_len (g.es.take i) n
  generalize rowsN (g.es.take i) n = irs at *
  generalize inE (g.es.take i) g.es[i].t.toNat = row at *
  generalize g.es[i] = e at *
  refine nK2 ?_
  refine zb ?_
  refine zz ?_
  refine zbf ?_
  refine zu ?_
  refine zr ?_
  refine zc ?_
  refine nK2 ?_
  refine Next.take 1 e.t.toNat 0 rfl (ownL_get hrg) rfl rfl ?_
  have hs1 := set_get (ownL 3 irs) e.t.toNat [.sl 3 3 0 (row.map encE).length] (by rw [ownL_len, hrl]; omega)
  refine nK2 ?_
  refine s_draw mixed ?_
  refine za ?_
  refine zg ?_
  refine zh ?_
  refine za ?_
  refine zg ?_
  refine zh ?_
  refine rpZ 25 rfl (op_idx_sl0 e.t.toNat rfl (oT rfl) (oT rfl) (by intro _; omega)) ?_
  refine rlZ 26 rfl (op_load1_refs rfl (oT rfl) (by intro _; exact ⟨rfl, hs1⟩) rfl) ?_
  refine zk ?_
  refine zbh ?_
  refine zco ?_
  refine rpZ 30 rfl (op_idx_sl0 e.t.toNat rfl (oT rfl) (oT rfl) (by intro _; omega)) ?_
  refine Run.effW (dd := none) rfl rfl (op_store_refs rfl (oT rfl) (oT rfl) tP rfl rfl hs1 tS) (by first | exact ext_call | exact tE) ?_
  refine zs ?_
  refine nK2 ?_
  refine zb ?_
  refine zl ?_
  refine za ?_
  refine zc ?_
  refine nK2 ?_
  refine Next.untake 1 e.t.toNat 0 rfl (set_get _ _ _ (by rw [List.length_set, ownL_len, hrl]; omega)) rfl rfl (by simp) rfl ?_
  refine Next.weak [0, 1] [] (by rfl) (keepsN hC _ rfl) wG (by exact ⟨wS, ⟨ent_own rfl rfl (congrArg (fun r => some (Ob.refs 1 r)) own_back), trivial⟩⟩) wN hK1
 have hge : i = g.es.length := by simp at hb; omega
 subst hge
 rw [List.take_length]
 refine Next.freezeOwn 1 rfl rfl ?_
 have hFl : (fzL 3 (rowsN g.es n)).length = n := by rw [fzL_len, rowsN_len]
 refine Next.weakS [] [3] (by rfl) (keepsN hC _ rfl) (G' := [(3, .fz (.vals 1 (fzL 3 (rowsN g.es n))))]) (H' := []) (by exact ⟨⟨_, rfl, .inr ⟨_, rfl, .sl _ _ _ _ _ _ rfl rfl (take_all0 hFl) (by rw [hFl])⟩⟩, trivial⟩) trivial rfl ?_
 refine nK2 ?_
 refine zb ?_
 refine za ?_
 refine zd ?_
 refine zc ?_
 refine nK2 ?_
 exact wO hC
open Go Go.RT Go.Proofs Go.Pl
set_option maxRecDepth 20000
set_option maxHeartbeats 4000000
theorem pop_c (h : Hq) (o : HI h) (hm : h.it.length ≤ 1999999) : Meets Tryz.prog 81 [.ptr 0 3 0 0] 4 (HH h) (.fz (.tup [If .i64 (h.item 0 : Nat), If .i64 (popK h), Bf (popB h)])) (HX (popH h)) 5 := by
 by_cases hz : h.it.length = 0
 ·have he : h.it = [] := List.length_eq_zero_iff.1 hz
  unfold popK popB popH
  rw [if_pos hz, if_pos hz, decide_eq_false (by omega)]
  have hmn := min_c h o.ok
  rw [if_pos he, show (!h.it.isEmpty) = false by rw [he]; rfl] at hmn
  rw [show h.item 0 = 0 by unfold Hq.item; rw [he]; rfl] at hmn ⊢
  refine Meets.intro Tryz.func81 rfl (Nat.le_of_ble_eq_true rfl) fun C hC => ?_
  simp only [List.map, argEnv, Nat.reduceAdd]
  refine nK2 ?_
  refine zb ?_
  refine ze ?_
  refine ze ?_
  refine ze ?_
  refine zc ?_
  refine nK2 ?_
  refine zb ?_
  refine za ?_
  refine rlZ 7 rfl (op_call_read (n := 4) [0, 1, 2, 3] (fun _ => hmn) rfl (Opd.func _) (oS (oT rfl) Opds.nil) rfl rfl (Lent.of rfl rfl (by exact ⟨⟨rfl, rfl, rfl, tL⟩, ⟨rfl, rfl, rfl, trivial⟩, ⟨rfl, rfl, rfl, trivial⟩, ⟨rfl, rfl, rfl, trivial⟩, trivial⟩) rfl) rfl) ?_
  refine za ?_
  refine zi ?_
  refine zi ?_
  refine zi ?_
  refine zd ?_
  refine zd ?_
  refine zd ?_
  refine zc ?_
  refine nK2 ?_
  refine zb ?_
  refine za ?_
  refine zc ?_
  refine nK2 ?_
  refine n_cond _ rfl (fun hb => ?_) (fun hb => ?_)
  ·exfalso; simp at hb
  refine nK2 ?_
  refine zb ?_
  refine za ?_
  refine za ?_
  refine za ?_
  refine zd ?_
  refine zd ?_
  refine zd ?_
  refine zc ?_
  refine nK2 ?_
  refine Next.retagCell 0 0 0 rfl rfl rfl rfl rfl ?_
  refine Next.weak [0, 1, 2, 3, 4] [] (by rfl) (keepsN hC _ rfl) (G' := [(2, IV .i64 0), (3, IV .i64 0), (4, BV false)]) (H' := HX h) wG wR wN ?_
  exact n_out3 rfl (by rfl) rfl rfl (.inl ⟨_, _, _, rfl, rfl, rfl, rfl⟩)
 unfold popK popB popH
 rw [if_neg hz, if_neg hz, decide_eq_true (by omega)]
 exact pop_some h o (by omega) hm
/-- the heap in the state of settle: its items lie in block 6 -/
abbrev HSt (g : Gr) (d : List Int) (h : Hq) : Hp := [(0, OI d), (1, some (.refs 3 [[.sl 6 1 0 h.it.length, .sl 3 1 0 h.pl.length, .sl 4 1 0 h.ky.length]])), (3, OI h.pl), (4, OI h.ky), (5, OG g), (6, OT h.it)]
abbrev HSo (d : List Int) (h : Hq) : Hp := [(0, OI d), (1, some (.refs 3 [[.sl 5 1 0 h.it.length, .sl 3 1 0 h.pl.length, .sl 4 1 0 h.ky.length]])), (3, OI h.pl), (4, OI h.ky), (5, OT h.it)]
theorem settle5_c (g : Gr) (hg : checkI g = 0) (a : Nat) (d0 : List Int) (q0 : Hq) (f0 : Nat) (S0 : List Nat) (b0 : Int) (hf : g.m < f0 + S0.length) (hJ0 : SJ g.es g.m a topB d0 q0 S0 b0 []) :
  Meets Tryz.prog 61 [.fz (.agg (encG g)), .sl 0 1 0 g.m, .ptr 1 3 0 0] 5 (HDS d0 q0) (.fz (.tup [])) (HSo (setF g.es f0 d0 q0).1 (setF g.es f0 d0 q0).2) 6 := by
 obtain ⟨vg, hr0, hn0⟩ := checkI_vg hg
 have hn := vg.n128
 have hel := vg.e1024
 have hasc := vg.asc
 have hm128 : g.m ≤ 128 := hn
 have hmm : g.m = (g.r + g.n).toNat := rfl
 rw [← hmm] at vg
 generalize hR : setF g.es f0 d0 q0 = R at *
 generalize g.m = n at *
 have hok0 := hJ0.hg.hi
 have hpl0 := hJ0.hl
 have hsm0 := hok0.small
 have hpop0 := pop_c q0 hok0 (by omega)
 refine Meets.intro Tryz.func61 rfl (Nat.le_of_ble_eq_true rfl) fun C hC => ?_
 simp only [List.map, argEnv, Nat.reduceAdd]
 refine nK2 ?_
 refine zb ?_
 refine zq ?_
 refine zc ?_
 refine nK2 ?_
 refine Next.retagCell 1 0 0 rfl rfl rfl rfl rfl ?_
 refine Next.weak [0, 1, 2, 3, 4, 5, 6] [] (by rfl) (keepsN hC _ rfl) (G' := [(1, .sl 0 1 0 n), (2, .ptr 1 3 0 0), (3, .ptr 5 3 0 0)]) (H' := HSt g d0 q0) wG wR wN ?_
 refine nK2 ?_
 refine zb ?_
 refine za ?_
 refine Run.eff (dd := some 17) rfl rfl (op_call (n := 4) (n' := 5) [1, 6, 3, 4] (fun _ => hpop0) rfl (Opd.func _) (oS (oT rfl) Opds.nil) rfl rfl (Lent.of rfl rfl (by exact ⟨⟨rfl, rfl, rfl, tL⟩, ⟨rfl, rfl, rfl, trivial⟩, ⟨rfl, rfl, rfl, trivial⟩, ⟨rfl, rfl, rfl, trivial⟩, trivial⟩) rfl) rfl rfl rfl rfl rfl) ?_
 refine za ?_
 refine zi ?_
 refine zi ?_
 refine zi ?_
 refine zd ?_
 refine zd ?_
 refine zd ?_
 refine zc ?_
 refine nK2 ?_
 refine n_loop (ι := List Int × Hq × Nat) (fun s => ([(1, .sl 0 1 0 n), (2, .ptr 1 3 0 0), (3, .ptr 5 3 0 0), (6, IV .i64 (s.2.1.item 0 : Nat)), (7, IV .i64 (popK s.2.1)), (8, BV (popB s.2.1))], HSt g s.1 (popH s.2.1), 7)) (fun s => (∃ S b, SJ g.es n a topB s.1 s.2.1 S b [] ∧ n < s.2.2 + S.length) ∧ setF g.es s.2.2 s.1 s.2.1 = R) (fun s => s.2.2) (d0, q0, f0) ⟨⟨S0, b0, hJ0, hf⟩, hR⟩ ?_ ?_
 ·refine Next.weak [0, 1, 2, 3, 4, 5, 7] [] (by rfl) (keepsN hC _ rfl) wG wR wN rel_intro
 intro ⟨d, h, f⟩ ⟨⟨S, b, hJ, hfS⟩, hRs⟩ K hK
 try dsimp only at hJ hfS hRs hK ⊢
 refine nK2 ?_
 refine zb ?_
 refine za ?_
 refine zc ?_
 refine nK2 ?_
 refine n_cond _ rfl (fun hb => ?_) (fun hb => ?_)
 ·have hne : 0 < h.it.length := by simpa [popB] using hb
  have hnz : ¬ h.it.length = 0 := by omega
  obtain ⟨x1, x3, x4, x5, x6⟩ := hJ.pop vg.f vg.t vg.ne hne
  match f, hfS, hRs, hK with
  | 0, hfS, hRs, hK => omega
  | f + 1, hfS, hRs, hK =>
   rw [setF_step hnz] at hRs
   have hdl := hJ.dl
   have hrx := row_of encN d (h.item 0) 0 (by omega)
   have hLsub : ∀ e ∈ outE g.es (h.item 0), e ∈ g.es ∧ e.f = (h.item 0 : Nat) := fun e he => by simpa [outE] using he
   have hLl := outE_len g.es (h.item 0)
   have hnx := next_out hasc (h.item 0)
   have hdx : gt0 (d.set (h.item 0) (h.key (h.item 0))) (h.item 0) = h.key (h.item 0) := by rw [gt0, getD_set _ _ _ _ _ (by omega), if_pos rfl]
   rw [show popK h = h.key (h.item 0) by unfold popK; rw [if_neg hnz], show popH h = dropH h (h.item 0) by unfold popH; rw [if_neg hnz]]
   have hkb : h.key (h.item 0) ≤ 20000000 := by simp only [topB] at x4; omega
   clear hJ
   generalize h.item 0 = x at *
   generalize h.key x = kx at *
   generalize dropH h x = h1 at *
   generalize hLq : outE g.es x = L at *
   have hK4 : ∀ h2, SJ g.es n a topB (d.set x kx) h2 (x :: S) kx [] → setF g.es f (d.set x kx) h2 = R → _ := fun h2 hj2 hr2 => hK (d.set x kx, h2, f) ⟨⟨x :: S, kx, hj2, by simp only [List.length_cons] at *; omega⟩, hr2⟩ (by dsimp only; omega)
   dsimp only at hK4
   have hgxf : gt0 (d.set x kx) x = kx := hdx
   have hdl2 : (d.set x kx).length = n := by rw [List.length_set]; exact hdl
   refine nK2 ?_
   refine zb ?_
   refine za ?_
   refine za ?_
   refine za ?_
   refine rpZ 31 rfl (op_idx_sl0 x rfl (oT rfl) (oT rfl) (by intro _; exact ⟨rfl, by omega⟩)) ?_
   refine Run.eff (dd := none) rfl rfl (op_store_flat rfl (oT rfl) (oT rfl) tC rfl rfl hrx tS) ?_
   refine zc ?_
   refine nK2 ?_
   obtain ⟨dx, hde⟩ : ∃ dx, dx = d.set x kx := ⟨_, rfl⟩
   rw [← hde] at x6 hRs hdx hgxf hdl2 hK4
   refine Next.weak [0, 1, 2, 3, 4, 5, 6] [] (by rfl) (keepsN hC _ rfl) (G' := [(1, .sl 0 1 0 n), (2, .ptr 1 3 0 0), (3, .ptr 5 3 0 0), (6, IV .i64 x), (7, IV .i64 kx)]) (H' := HSt g dx h1) wG (by exact ⟨ent_same rfl rfl (flEq rfl (by rw [hde, List.map_set]; rfl)) trivial, ⟨wS, ⟨wS, ⟨wS, ⟨wS, ⟨wS, trivial⟩⟩⟩⟩⟩⟩) wN ?_
   refine nK2 ?_
   refine zb ?_
   refine zk ?_
   refine za ?_
   refine rpZ 34 rfl (op_call_pure (fun _ => next_c _ _ (by omega)) rfl (Opd.func _) (oS (oT rfl) (oS (oT rfl) Opds.nil))) ?_
   refine zo ?_
   refine zbb ?_
   refine zc ?_
   refine nK2 ?_
   rw [hnx]
   have hln : (L.map (·.t)).length = L.length := List.length_map _
   refine n_loop (ι := Nat × Hq) (fun s => ([(1, .sl 0 1 0 n), (2, .ptr 1 3 0 0), (3, .ptr 5 3 0 0), (6, IV .i64 x), (7, IV .i64 kx), (34, .fz (VI (L.map (·.t)))), (35, IV .i64 L.length), (36, IV .i64 s.1)], HSt g dx s.2, 7)) (fun s => s.1 ≤ L.length ∧ SJ g.es n a topB dx s.2 (x :: S) kx (L.drop s.1) ∧ setF g.es f dx ((L.drop s.1).foldl (relE dx kx) s.2) = R) (fun s => L.length - s.1) (0, h1) ⟨Nat.zero_le _, x6, hRs⟩ ?_ ?_
   ·refine Next.weak [0, 1, 2, 3, 4, 5, 6] [] (by rfl) (keepsN hC _ rfl) wG wR wN rel_intro
   intro ⟨j, h2⟩ ⟨hj, hJ2, hR2⟩ K2 hK2
   try dsimp only at hj hJ2 hR2 hK2 ⊢
   refine nK2 ?_
   refine zb ?_
   refine zp ?_
   refine zc ?_
   refine nK2 ?_
   refine n_cond _ rfl (fun hb => ?_) (fun hb => ?_)
   ·have hlt : j < L.length := by have := of_decide_eq_true hb; omega
    have hr1 : ((L.map (·.t)).map encN)[j]? = some (encN L[j].t) := by rw [List.getElem?_map, List.getElem?_map, List.getElem?_eq_getElem hlt]; rfl
    obtain ⟨he, hef⟩ := hLsub _ (List.getElem_mem hlt)
    rw [List.drop_eq_getElem_cons hlt] at hJ2 hR2
    rw [List.foldl_cons] at hR2
    have hK3 := fun h3 hh hh2 => hK2 (j + 1, h3) ⟨by dsimp only; omega, hh, hh2⟩ (by dsimp only; omega)
    dsimp only at hK3
    generalize L[j] = e at *
    have hco := cost_at hasc he
    rw [hef] at hco
    have het := vg.t e he
    have hec := vg.c e he
    have hJo := hJ2.hg.hi
    have hJl := hJ2.hl
    have hJs := hJo.small
    have hket := key_i h2 hJo.ok e.t e.t.toNat (by omega) (by omega)
    have hrt := row_of encN dx e.t.toNat 0 (by omega)
    have hgt : dx.getD e.t.toNat 0 = gt0 dx e.t.toNat := rfl
    rw [hgt] at hrt
    have hbt := hJ2.bd e.t.toNat (by omega)
    have hqt := hJ2.q e.t.toNat (by omega)
    have hset := set_i h2 hJo e.t e.t.toNat (kx + e.c) (by omega) (by omega) (by omega)
    have hcoP := cost_c g x e.t (by omega)
    rw [hco] at hcoP
    have hst2 := hJ2.step (x := x) vg.t vg.c he (by rw [hef, Int.toNat_natCast]; exact hgxf) x3 (by simp only [List.length_cons]; omega)
    refine nK2 ?_
    refine zb ?_
    refine zz ?_
    refine zj ?_
    refine zd ?_
    refine zc ?_
    refine nK2 ?_
    refine zb ?_
    refine zk ?_
    refine za ?_
    refine za ?_
    refine rpZ 44 rfl (op_call_pure (fun _ => hcoP) rfl (Opd.func _) (oS (oT rfl) (oS (oT rfl) (oS (oT rfl) Opds.nil)))) ?_
    refine za ?_
    refine zi ?_
    refine zi ?_
    refine zd ?_
    refine zd ?_
    refine zc ?_
    refine nK2 ?_
    refine zb ?_
    refine za ?_
    refine za ?_
    refine rlZ 50 rfl (op_call_read (n := 4) [1, 6, 3, 4] (fun _ => hket) rfl (Opd.func _) (oS (oT rfl) (oS (oT rfl) Opds.nil)) rfl rfl (Lent.of rfl rfl (by exact ⟨⟨rfl, rfl, rfl, tL⟩, ⟨rfl, rfl, rfl, trivial⟩, ⟨rfl, rfl, rfl, trivial⟩, ⟨rfl, rfl, rfl, trivial⟩, trivial⟩) rfl) rfl) ?_
    refine za ?_
    refine zi ?_
    refine zi ?_
    refine zd ?_
    refine zd ?_
    refine zc ?_
    refine nK2 ?_
    refine zb ?_
    refine za ?_
    refine za ?_
    refine rpZ 55 rfl (op_idx_sl0 e.t.toNat rfl (oT rfl) (oT rfl) (by intro _; omega)) ?_
    refine rlZ 56 rfl (op_load1_flat rfl (oT rfl) (by intro _; exact ⟨rfl, hrt⟩) rfl) ?_
    refine zbn ?_
    refine za ?_
    refine zf ?_
    refine zf ?_
    refine zbs ?_
    refine zf ?_
    refine zf ?_
    refine rgZ 64 rfl rfl tG (op_idx_sl0 e.t.toNat rfl (oO rfl tO) (oO rfl tO) (by intro _; omega)) ?_
    refine rkZ 65 rfl rfl tG (op_load1_flat rfl (oO rfl tO) (by intro _; exact ⟨rfl, hrt⟩) rfl) ?_
    refine zbk ?_
    refine zv ?_
    refine za ?_
    refine zf ?_
    refine zbl ?_
    refine zbp ?_
    refine zf ?_
    refine zf ?_
    refine zbs ?_
    refine zf ?_
    refine zbk ?_
    refine zcd ?_
    refine zt ?_
    refine zc ?_
    refine nK2 ?_
    refine n_cond _ rfl (fun hb => ?_) (fun hb => ?_)
    ·have hc : (gt0 dx e.t.toNat < 0 ∨ kx + e.c < gt0 dx e.t.toNat) ∧ (h2.place e.t.toNat < 0 ∨ kx + e.c < h2.key e.t.toNat) := by
      simp only [Bool.and_eq_true, Bool.or_eq_true, Bool.not_eq_true', decide_eq_true_eq, decide_eq_false_iff_not] at hb
      refine ⟨hb.1, ?_⟩
      rcases hb.2 with h5 | h5
      ·exact .inl (by omega)
      by_cases h6 : 0 ≤ h2.place e.t.toNat
      ·rw [if_pos h6] at h5; exact .inr h5
      exact .inl (by omega)
     unfold relE at hst2 hR2
     rw [if_pos hc] at hst2 hR2
     refine nK2 ?_
     refine zb ?_
     refine za ?_
     refine za ?_
     refine za ?_
     refine za ?_
     refine zbc ?_
     refine Run.eff (dd := some 84) rfl rfl (op_call (n := 4) (n' := 5) [1, 6, 3, 4] (fun _ => hset) rfl (Opd.func _) (oS (oT rfl) (oS (oT rfl) (oS (oT rfl) Opds.nil))) rfl rfl (Lent.of rfl rfl (by exact ⟨⟨rfl, rfl, rfl, tL⟩, ⟨rfl, rfl, rfl, trivial⟩, ⟨rfl, rfl, rfl, trivial⟩, ⟨rfl, rfl, rfl, trivial⟩, trivial⟩) rfl) rfl rfl rfl rfl rfl) ?_
     refine zc ?_
     refine nK2 ?_
     refine zb ?_
     refine zl ?_
     refine za ?_
     refine zc ?_
     refine nK2 ?_
     refine Next.weak [0, 1, 2, 3, 4, 5, 7] [] (by rfl) (keepsN hC _ rfl) wG wR wN (hK3 _ hst2 hR2)
    have hc : ¬ ((gt0 dx e.t.toNat < 0 ∨ kx + e.c < gt0 dx e.t.toNat) ∧ (h2.place e.t.toNat < 0 ∨ kx + e.c < h2.key e.t.toNat)) := fun hc => by
     rw [Bool.eq_false_iff] at hb
     apply hb
     simp only [Bool.and_eq_true, Bool.or_eq_true, Bool.not_eq_true', decide_eq_true_eq, decide_eq_false_iff_not]
     refine ⟨hc.1, ?_⟩
     rcases hc.2 with h5 | h5
     ·exact .inl (by omega)
     by_cases h6 : 0 ≤ h2.place e.t.toNat
     ·rw [if_pos h6]; exact .inr h5
     exact .inl h6
    unfold relE at hst2 hR2
    rw [if_neg hc] at hst2 hR2
    refine nK2 ?_
    refine zb ?_
    refine zl ?_
    refine za ?_
    refine zc ?_
    refine nK2 ?_
    refine Next.weak [0, 1, 2, 3, 4, 5, 6] [] (by rfl) (keepsN hC _ rfl) wG wR wN (hK3 _ hst2 hR2)
   have hje : j = L.length := by have := of_decide_eq_false hb; omega
   rw [hje, List.drop_length] at hJ2 hR2
   have hJo := hJ2.hg.hi
   have hJl := hJ2.hl
   have hJs := hJo.small
   have hpop := pop_c h2 hJo (by omega)
   refine nK2 ?_
   refine zb ?_
   refine za ?_
   refine Run.eff (dd := some 24) rfl rfl (op_call (n := 4) (n' := 5) [1, 6, 3, 4] (fun _ => hpop) rfl (Opd.func _) (oS (oT rfl) Opds.nil) rfl rfl (Lent.of rfl rfl (by exact ⟨⟨rfl, rfl, rfl, tL⟩, ⟨rfl, rfl, rfl, trivial⟩, ⟨rfl, rfl, rfl, trivial⟩, ⟨rfl, rfl, rfl, trivial⟩, trivial⟩) rfl) rfl rfl rfl rfl rfl) ?_
   refine za ?_
   refine zi ?_
   refine zi ?_
   refine zi ?_
   refine zd ?_
   refine zd ?_
   refine zd ?_
   refine zc ?_
   refine nK2 ?_
   refine Next.weak [0, 1, 2, 3, 4, 5, 7] [] (by rfl) (keepsN hC _ rfl) wG wR wN (hK4 h2 hJ2 hR2)
 have hz : h.it.length = 0 := by simp [popB] at hb; simp [hb]
 rw [setF_stop hz] at hRs
 subst hRs
 rw [show popH h = h by unfold popH; rw [if_pos hz]]
 refine nK ?_
 refine Next.weak [0, 1, 2, 3, 4, 6] [] (by rfl) (keepsN hC _ rfl) (G' := []) (H' := HSo d h) trivial wR wN ?_
 exact n_out0 rfl
open Go Go.RT Go.Proofs Go.Pl
set_option maxRecDepth 20000
set_option maxHeartbeats 4000000
abbrev OBl (l : List Bool) : Option Ob := some (.flat 1 (l.map encB))
abbrev HG3 (n : Nat) (gone : List Bool) (k : Int) : Hp := [(0, some (.refs 1 [[.sl 1 1 0 n]])), (1, OBl gone), (2, some (.flat 1 [[If .i64 k]]))]
abbrev clH (d : List Int) : PV := .clo 83 [] [.ptr 0 1 0 0, .fz (.cellp [VI d]), .ptr 2 1 0 0]
theorem held_c (n : Nat) (d : List Int) (gone : List Bool) (k : Int) (e : Edg) (hf : 0 ≤ e.f ∧ e.f < n) (hc : 0 ≤ e.c ∧ e.c ≤ 65535) (hd : d.length = n) (hg : gone.length = n) (hn : n ≤ 128) (hb : gt0 d e.f.toNat ≤ 20000000) :
  Meets Tryz.prog 83 [.fz (.agg (encE e)), .ptr 0 1 0 0, .fz (.cellp [VI d]), .ptr 2 1 0 0] 3 (HG3 n gone k) (BV (heldP d gone k e)) (HG3 n gone k) 3 := by
 have hrd := row_at' encN d e.f.toNat (by omega)
 have hrg := row_of encB gone e.f.toNat false (by omega)
 have hdd : d[e.f.toNat] = gt0 d e.f.toNat := by unfold gt0; rw [List.getD_eq_getElem?_getD, List.getElem?_eq_getElem]; rfl
 rw [hdd] at hrd
 have hgg : gone.getD e.f.toNat false = gtb gone e.f.toNat := rfl
 rw [hgg] at hrg
 unfold heldP
 generalize gt0 d e.f.toNat = dv at *
 generalize gtb gone e.f.toNat = gv at *
 refine Meets.intro Tryz.func83 rfl (Nat.le_of_ble_eq_true rfl) fun C hC => ?_
 simp only [List.map, argEnv, Nat.reduceAdd]
 refine nK2 ?_
 refine zb ?_
 refine zq ?_
 refine ze ?_
 refine zc ?_
 refine nK2 ?_
 refine s_draw mixed ?_
 refine zy ?_
 refine zg ?_
 refine zh ?_
 refine rpZ 9 rfl (op_idx_sl0 e.f.toNat rfl (oT rfl) (oT rfl) (by intro _; omega)) ?_
 refine rlZ 10 rfl (op_load1_flat rfl (oT rfl) (by intro _; exact ⟨rfl, hrg⟩) rfl) ?_
 refine zbj ?_
 refine za ?_
 refine zcu ?_
 refine zn ?_
 refine zm ?_
 refine rgZ 16 rfl rfl tG (op_idx_fz e.f.toNat rfl (oO rfl tO) (oO rfl tO) (by intro _; exact ⟨by omega, hrd⟩)) ?_
 refine zw ?_
 refine zck ?_
 refine zt ?_
 refine za ?_
 refine zcu ?_
 refine zn ?_
 refine zm ?_
 refine rgZ 24 rfl rfl tG (op_idx_fz e.f.toNat rfl (oO rfl tO) (oO rfl tO) (by intro _; exact ⟨by omega, hrd⟩)) ?_
 refine zw ?_
 refine zn ?_
 refine zm ?_
 refine zbs ?_
 refine rkZ 29 rfl rfl tG (op_load1_flat rfl (oT rfl) tH rfl) ?_
 refine zbo ?_
 refine zt ?_
 refine zd ?_
 refine zs ?_
 refine nK2 ?_
 refine Next.weak [0, 1, 2] [] (by rfl) (keepsN hC _ rfl) (G' := [(5, BV ((!gv && decide (0 ≤ dv)) && decide (dv + e.c = k)))]) (H' := HG3 n gone k) wG wR wN ?_
 exact n_out1 rfl (by rfl) rfl rfl
theorem indexF_c (n : Nat) (d : List Int) (gone : List Bool) (k : Int) (l : List Edg) (hf : ∀ e ∈ l, 0 ≤ e.f ∧ e.f < n) (hc : ∀ e ∈ l, 0 ≤ e.c ∧ e.c ≤ 65535) (hd : d.length = n) (hg : gone.length = n) (hn : n ≤ 128) (hbd : ∀ v, v < n → gt0 d v ≤ 20000000) (hl : l.length ≤ 2000000) :
  Meets Tryz.prog 98 [.fz (VE l), clH d] 3 (HG3 n gone k) (.fz (If .i64 (idxAt (heldP d gone k) 0 l))) (HG3 n gone k) 3 := by
 refine Meets.intro Tryz.func98 rfl (Nat.le_of_ble_eq_true rfl) fun C hC => ?_
 simp only [List.map, argEnv, Nat.reduceAdd]
 refine nK2 ?_
 refine zb ?_
 refine ze ?_
 refine zc ?_
 refine nK2 ?_
 refine zb ?_
 refine za ?_
 refine zo ?_
 refine zbb ?_
 refine zc ?_
 refine nK2 ?_
 refine n_loop (ι := Nat) (fun i => ([(0, .fz (VE l)), (1, clH d), (7, IV .i64 l.length), (8, IV .i64 i)], HG3 n gone k, 3)) (fun i => i ≤ l.length ∧ idxAt (heldP d gone k) 0 l = idxAt (heldP d gone k) i (l.drop i)) (fun i => l.length - i) 0 ⟨Nat.zero_le _, rfl⟩ ?_ ?_
 ·refine Next.weak [0, 1, 2] [] (by rfl) (keepsN hC _ rfl) wG wR wN rel_intro
 intro i ⟨hi, ho⟩ K hK
 try dsimp only at hi ho hK ⊢
 refine nK2 ?_
 refine zb ?_
 refine zp ?_
 refine zc ?_
 refine nK2 ?_
 refine n_cond _ rfl (fun hb => ?_) (fun hb => ?_)
 ·have hlt : i < l.length := by have := of_decide_eq_true (by assumption); omega
  rw [List.drop_eq_getElem_cons hlt] at ho
  have hr1 := row_at' encE l i hlt
  have hmem := List.getElem_mem hlt
  have hK1 := fun h => hK (i + 1) ⟨by omega, h⟩ (by omega)
  generalize l[i] = e at *
  have hh := held_c n d gone k e (hf e hmem) (hc e hmem) hd hg hn (hbd _ (by have := hf e hmem; omega))
  refine nK2 ?_
  refine zb ?_
  refine za ?_
  refine zd ?_
  refine zc ?_
  refine nK2 ?_
  refine zb ?_
  refine za ?_
  refine za ?_
  refine za ?_
  refine zz ?_
  refine zbf ?_
  refine rlZ 16 rfl (op_call_read (n := 3) [0, 1, 2] (fun _ => hh) rfl (oT rfl) (oS (oT rfl) Opds.nil) rfl rfl (Lent.of rfl rfl (by exact ⟨⟨rfl, rfl, rfl, tL⟩, ⟨rfl, rfl, rfl, trivial⟩, ⟨rfl, rfl, rfl, trivial⟩, trivial⟩) rfl) rfl) ?_
  refine zc ?_
  refine nK2 ?_
  refine n_cond _ rfl (fun hb => ?_) (fun hb => ?_)
  ·have e1 : heldP d gone k e = true := by assumption
   rw [ho, show idxAt (heldP d gone k) i (e :: l.drop (i + 1)) = (i : Int) by simp [idxAt, e1]]
   refine nK2 ?_
   refine zb ?_
   refine za ?_
   refine zd ?_
   refine zc ?_
   refine nK2 ?_
   refine Next.weak [0, 1, 2] [] (by rfl) (keepsN hC _ rfl) (G' := [(4, IV .i64 i)]) (H' := HG3 n gone k) wG wR wN ?_
   exact n_out1 rfl (by rfl) rfl rfl
  have e1 : heldP d gone k e = false := by assumption
  rw [show idxAt (heldP d gone k) i (e :: l.drop (i + 1)) = idxAt (heldP d gone k) (i + 1) (l.drop (i + 1)) by simp [idxAt, e1]] at ho
  refine nK2 ?_
  refine zb ?_
  refine zl ?_
  refine za ?_
  refine zc ?_
  refine nK2 ?_
  refine Next.weak [0, 1, 2] [] (by rfl) (keepsN hC _ rfl) wG wR wN (hK1 ho)
 have hlt : ¬ ((i : Int) < l.length) := of_decide_eq_false (by assumption)
 have hie : i = l.length := by omega
 rw [hie, List.drop_length] at ho
 rw [ho]
 refine nK2 ?_
 refine zb ?_
 refine ze ?_
 refine zc ?_
 refine nK2 ?_
 refine Next.weak [0, 1, 2] [] (by rfl) (keepsN hC _ rfl) (G' := [(4, IV .i64 (-1))]) (H' := HG3 n gone k) wG wR wN ?_
 exact n_out1 rfl (by rfl) rfl rfl
theorem contF_c (n : Nat) (d : List Int) (gone : List Bool) (k : Int) (l : List Edg) (hf : ∀ e ∈ l, 0 ≤ e.f ∧ e.f < n) (hc : ∀ e ∈ l, 0 ≤ e.c ∧ e.c ≤ 65535) (hd : d.length = n) (hg : gone.length = n) (hn : n ≤ 128) (hbd : ∀ v, v < n → gt0 d v ≤ 20000000) (hl : l.length ≤ 2000000) :
  Meets Tryz.prog 82 [.fz (VE l), clH d] 3 (HG3 n gone k) (.fz (Bf (l.any (heldP d gone k)))) (HG3 n gone k) 3 := by
 have hix := indexF_c n d gone k l hf hc hd hg hn hbd hl
 have e : l.any (heldP d gone k) = decide (0 ≤ idxAt (heldP d gone k) 0 l) := by
  rcases idxAt_spec (heldP d gone k) l 0 with ⟨h1, h2⟩ | ⟨j, hj, h1, h2, h3⟩
  ·rw [h1, decide_eq_false (by decide), List.any_eq_false]
   intro x hx hp
   have : keepL (heldP d gone k) l = l := h2
   rw [← this] at hx
   have := (List.mem_filter.1 hx).2
   rw [hp] at this; simp at this
  rw [h1, decide_eq_true (by omega), List.any_eq_true]
  exact ⟨l[j], List.getElem_mem hj, h2⟩
 rw [e]
 refine Meets.intro Tryz.func82 rfl (Nat.le_of_ble_eq_true rfl) fun C hC => ?_
 simp only [List.map, argEnv, Nat.reduceAdd]
 refine nK2 ?_
 refine zb ?_
 refine ze ?_
 refine zc ?_
 refine nK2 ?_
 refine zb ?_
 refine za ?_
 refine za ?_
 refine rlZ 7 rfl (op_call_read (n := 3) [0, 1, 2] (fun _ => hix) rfl (Opd.func _) (oS (oT rfl) (oS (oT rfl) Opds.nil)) rfl rfl (Lent.of rfl rfl (by exact ⟨⟨rfl, rfl, rfl, tL⟩, ⟨rfl, rfl, rfl, trivial⟩, ⟨rfl, rfl, rfl, trivial⟩, trivial⟩) rfl) rfl) ?_
 refine zby ?_
 refine zd ?_
 refine zc ?_
 refine nK2 ?_
 refine Next.weak [0, 1, 2] [] (by rfl) (keepsN hC _ rfl) (G' := [(4, BV (decide (0 ≤ idxAt (heldP d gone k) 0 l)))]) (H' := HG3 n gone k) wG wR wN ?_
 exact n_out1 rfl (by rfl) rfl rfl
end Go.Proofs.YtcillieggklaaaaGreat
