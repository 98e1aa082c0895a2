/- A part of the proof: X117, X118, X119, X11, X12, SRT1, X13, X14, X15, X16, X17, X18, X19, X20, X30, X31, X32, IP1, IP2. -/
import Derived.Test.YtcillieggklaaaaGreatZD
import Derived.Shelf.SlSortCmp.Whole1
set_option linter.all false
namespace Go.Proofs.YtcillieggklaaaaGreat
open Go Go.RT Go.Proofs Go.Pl
set_option linter.all false
set_option maxRecDepth 20000
set_option maxHeartbeats 4000000
instance : FnOv Tryz.prog 94 22   := ⟨_, 4, Tryz.func94, by decide +kernel, rfl, by kernel_rfl, by kernel_rfl⟩
theorem insert_c (l : List Edg) (x : Edg) (i : Nat) (hn : l.length ≤ 2000000) (hi : i ≤ l.length) : Meets Tryz.prog 77 [.sl 0 3 0 l.length, IV .i64 i, .sl 1 3 0 1] 2 [(0, OE l), (1, OE [x])] (.sl 2 3 0 (l.length + 1)) [(2, OE (insL l i x))] 3 := by
 have hil := insL_len l i x hi
 have e0 : ∀ xs ys : List Edg, List.map encE (xs ++ ys) = xs.map encE ++ ys.map encE := fun xs ys => List.map_append
 refine Meets.intro Tryz.func77 rfl (Nat.le_of_ble_eq_true rfl) fun C hC => ?_
 simp only [List.map, argEnv, Nat.reduceAdd]
 by_cases hie : i = l.length
 ·refine nK ?_
  refine zb ?_
  refine ze ?_
  refine zc ?_
  refine nK ?_
  refine zb ?_
  refine za ?_
  refine za ?_
  refine rlZ 12 rfl (op_slice_end (l := i) (h := l.length) rfl (oT rfl) (Bnd.yes _ _ _ _ _ (oT rfl) tQ) (Bnd.no _) (by intro _; refine ⟨rfl, ?_⟩; rw [List.length_map]; omega)) ?_
  refine zc ?_
  refine nK ?_
  refine zb ?_
  refine za ?_
  refine zbi ?_
  refine zd ?_
  refine zc ?_
  refine nK ?_
  refine zb ?_
  refine za ?_
  refine zci ?_
  refine zc ?_
  refine nK ?_
  refine n_cond _ rfl (fun hb => ?_) (fun hb => ?_)
  ·simp at hb
  refine nK ?_
  refine zb ?_
  refine za ?_
  refine zbi ?_
  refine zd ?_
  refine zc ?_
  refine nK ?_
  refine zb ?_
  refine za ?_
  refine za ?_
  refine zbr ?_
  refine zc ?_
  refine nK ?_
  refine n_cond _ rfl (fun hb => ?_) (fun hb => ?_)
  ·have e4 : insL l i x = l ++ [x] := by rw [hie]; simp [insL]
   refine nK ?_
   refine zb ?_
   refine za ?_
   refine za ?_
   refine zdi ?_
   refine zd ?_
   refine zc ?_
   refine nK ?_
   refine Next.weakS [0, 2, 6] [] (by rfl) (keepsN hC _ rfl) (G' := [(6, .sl 2 3 0 (l.length + 1))]) (H' := [(2, OE (insL l i x))]) (by exact ⟨⟨_, rfl, .inl ⟨rfl, rfl⟩⟩, trivial⟩) (by exact ⟨ent_same rfl rfl (by rw [e4, e0]; rfl) trivial, trivial⟩) rfl ?_
   exact n_out1 rfl (by rfl) rfl rfl
  exfalso; simp at hb; omega
 refine nK ?_
 refine zb ?_
 refine ze ?_
 refine zc ?_
 refine nK ?_
 refine zb ?_
 refine za ?_
 refine za ?_
 refine rlZ 12 rfl (op_slice_view (l := i) (h := l.length) rfl (oT rfl) (Bnd.yes _ _ _ _ _ (oT rfl) tQ) (Bnd.no _) (by intro _; refine ⟨rfl, ?_⟩; rw [List.length_map]; omega)) ?_
 refine zc ?_
 refine nK ?_
 refine zb ?_
 refine za ?_
 refine zbi ?_
 refine zd ?_
 refine zc ?_
 refine nK ?_
 refine zb ?_
 refine za ?_
 refine zci ?_
 refine zc ?_
 refine nK ?_
 refine n_cond _ rfl (fun hb => ?_) (fun hb => ?_)
 ·simp at hb
 refine nK ?_
 refine zb ?_
 refine za ?_
 refine zbi ?_
 refine zd ?_
 refine zc ?_
 refine nK ?_
 refine zb ?_
 refine za ?_
 refine za ?_
 refine zbr ?_
 refine zc ?_
 refine nK ?_
 refine n_cond _ rfl (fun hb => ?_) (fun hb => ?_)
 ·exfalso; simp at hb; omega
 refine Next.capE 0 rfl rfl rfl (Nat.zero_le _) fun cap hc1 hc2 hc3 => ?_
 unfold maxLen at hc3
 refine nK ?_
 refine zb ?_
 refine za ?_
 refine za ?_
 refine zbc ?_
 refine za ?_
 refine rpZ 30 rfl (op_cap rfl (oT rfl)) ?_
 refine zcn ?_
 refine zc ?_
 refine nK ?_
 refine n_cond _ rfl (fun hb => ?_) (fun hb => ?_)
 ·have hc4 : cap < l.length + 1 := by simp at hb; omega
  have hlen2 : ((l.map encE).take i ++ List.replicate (l.length + 1 - i) (encE zE)).length = l.length + 1 := by simp; omega
  refine nK ?_
  refine zb ?_
  refine za ?_
  refine za ?_
  refine rpZ 34 rfl (op_slice_room (h := i) rfl (oT rfl) (Bnd.yes _ _ _ _ _ (oT rfl) tQ) (by intro _; omega)) ?_
  refine za ?_
  refine za ?_
  refine zbc ?_
  refine za ?_
  refine zbw ?_
  refine Run.eff (dd := some 40) rfl rfl (op_append_zg (k := l.length + 1 - i) (zs := encE zE) rfl (oT rfl) (opdI (oT rfl) (by omega)) rfl rfl rfl rfl rfl (by rw [List.length_map]; omega) (by omega) (by omega) (by omega) (by omega)) ?_
  refine zd ?_
  refine zc ?_
  refine nK ?_
  have hz : ∀ k : Nat, (some (Ob.flat 3 ((l.map encE).take i ++ List.replicate k [If .i64 0, If .i64 0, If .i64 0]))) = some (.flat 3 ((l.map encE).take i ++ List.replicate k (encE zE))) := fun _ => rfl
  refine nK ?_
  refine zb ?_
  refine za ?_
  refine za ?_
  refine rlZ 43 rfl (op_slice_view (l := i) (h := i + (l.length + 1 - i)) rfl (oT rfl) (Bnd.yes _ _ _ _ _ (oT rfl) tQ) (Bnd.no _) (by intro _; refine ⟨rfl, ?_⟩; rw [hlen2]; omega)) ?_
  refine za ?_
  refine Run.eff (dd := some 45) rfl rfl (op_copy (n := 1) (rs := [x].map encE) rfl (oT rfl) (oT rfl) rfl rfl (by show min _ _ = _; omega) rfl rfl (by rw [hlen2]; omega)) ?_
  refine zc ?_
  refine nK ?_
  have hlen3 : (((l.map encE).take i ++ List.replicate (l.length + 1 - i) (encE zE)).take (0 + i) ++ [x].map encE ++ ((l.map encE).take i ++ List.replicate (l.length + 1 - i) (encE zE)).drop (0 + i + 1)).length = l.length + 1 := by simp; omega
  refine nK ?_
  refine s_draw mixed ?_
  refine za ?_
  refine za ?_
  refine za ?_
  refine zbc ?_
  refine rlZ 50 rfl (op_slice_view (l := i + 1) (h := i + (l.length + 1 - i)) rfl (oT rfl) (Bnd.yes _ _ _ _ _ (oT rfl) tQ) (Bnd.no _) (by intro _; refine ⟨rfl, ?_⟩; rw [hlen3]; omega)) ?_
  refine za ?_
  refine za ?_
  refine rlZ 53 rfl (op_slice_view (l := i) (h := l.length) rfl (Opd.wc _ _ _ (oT rfl)) (Bnd.yes _ _ _ _ _ (oT rfl) tQ) (Bnd.no _) (by intro _; refine ⟨rfl, ?_⟩; rw [List.length_map]; omega)) ?_
  refine Run.effW (dd := some 54) rfl rfl (op_copy (n := l.length - i) (rs := (l.map encE).drop i) rfl (oT rfl) (oT rfl) rfl rfl (by show min _ _ = _; omega) (by rw [Nat.zero_add, List.take_of_length_le (by simp)]) (by simp) (by rw [hlen3]; omega)) tE ?_
  refine zs ?_
  refine nK ?_
  have hgr := ins_grow (l.map encE) i (encE x) (encE zE) (by rw [List.length_map]; omega)
  rw [List.length_map, ← insL_map] at hgr
  refine nK ?_
  refine zb ?_
  refine za ?_
  refine zd ?_
  refine zc ?_
  refine nK ?_
  refine Next.weakS [0, 2, 6] [] (by rfl) (keepsN hC _ rfl) (G' := [(6, .sl 2 3 0 (l.length + 1))]) (H' := [(2, OE (insL l i x))]) (by exact ⟨⟨_, rfl, .inl ⟨slEq rfl (by omega), rfl⟩⟩, trivial⟩) (by exact ⟨ent_same rfl rfl (by rw [← hgr]; simp only [Nat.zero_add]; rfl) trivial, trivial⟩) rfl ?_
  exact n_out1 rfl (by rfl) rfl rfl
 have hc4 : l.length + 1 ≤ cap := by simp at hb; omega
 refine nK ?_
 refine zb ?_
 refine za ?_
 refine za ?_
 refine za ?_
 refine zbc ?_
 refine rpZ 60 rfl (op_slice_room (h := l.length + 1) rfl (oT rfl) (Bnd.yes _ _ _ _ _ (oT rfl) (by intro _; simp)) (by intro _; omega)) ?_
 refine zd ?_
 refine zc ?_
 refine nK ?_
 refine nK ?_
 refine zb ?_
 refine za ?_
 refine za ?_
 refine za ?_
 refine za ?_
 refine zbc ?_
 refine rpZ 66 rfl (op_slice_fromR (l := i + 1) rfl (oT rfl) (Bnd.yes _ _ _ _ _ (oT rfl) tQ) (by intro _; omega)) ?_
 refine rlZ 67 rfl (op_overlaps rfl (oT rfl) (oT rfl) rfl rfl rfl (by rw [List.length_map]; omega) rfl) ?_
 refine zbj ?_
 refine zc ?_
 refine nK ?_
 refine n_cond _ rfl (fun hb => ?_) (fun hb => ?_)
 ·refine nK ?_
  refine s_draw mixed ?_
  refine za ?_
  refine za ?_
  refine za ?_
  refine zbc ?_
  refine rpZ 73 rfl (op_slice_fromR (l := i + 1) rfl (oT rfl) (Bnd.yes _ _ _ _ _ (oT rfl) tQ) (by intro _; omega)) ?_
  refine za ?_
  refine za ?_
  refine rpZ 76 rfl (op_slice_fromR (l := i) rfl (oT rfl) (Bnd.yes _ _ _ _ _ (oT rfl) tQ) (by intro _; omega)) ?_
  refine Run.effW (dd := some 77) rfl rfl (op_copy (n := l.length - i) (rs := (l.map encE).drop i) rfl (oT rfl) (oT rfl) rfl rfl (by show min _ _ = _; omega) (by rw [Nat.zero_add, List.take_of_length_le (by simp)]) (by simp) (by rw [List.length_map]; omega)) tE ?_
  refine zs ?_
  refine nK ?_
  have hl5 : ((l.map encE).take (0 + (i + 1)) ++ (l.map encE).drop i ++ (l.map encE).drop (0 + (i + 1) + (l.length - i))).length = l.length + 1 := by simp; omega
  have hgr := ins_room (l.map encE) i (encE x) (by rw [List.length_map]; omega)
  rw [List.length_map, ← insL_map] at hgr
  refine nK ?_
  refine zb ?_
  refine za ?_
  refine za ?_
  refine rlZ 80 rfl (op_slice_view (l := i) (h := l.length + 1) rfl (Opd.wc _ _ _ (oT rfl)) (Bnd.yes _ _ _ _ _ (oT rfl) tQ) (Bnd.no _) (by intro _; refine ⟨rfl, ?_⟩; rw [hl5]; omega)) ?_
  refine za ?_
  refine Run.eff (dd := some 82) rfl rfl (op_copy (n := 1) (rs := [x].map encE) rfl (oT rfl) (oT rfl) rfl rfl (by show min _ _ = _; omega) rfl rfl (by rw [hl5]; omega)) ?_
  refine zc ?_
  refine nK ?_
  refine zb ?_
  refine za ?_
  refine zd ?_
  refine zc ?_
  refine nK ?_
  refine Next.unwc 6 rfl ?_
  refine Next.retag 6 rfl rfl ?_
  refine Next.weakS [0, 2, 6] [] (by rfl) (keepsN hC _ rfl) (G' := [(6, .sl 2 3 0 (l.length + 1))]) (H' := [(2, OE (insL l i x))]) (by exact ⟨⟨_, rfl, .inl ⟨rfl, rfl⟩⟩, trivial⟩) (by exact ⟨ent_same rfl rfl (by rw [← hgr]; simp only [Nat.zero_add]; rfl) trivial, trivial⟩) rfl ?_
  exact n_out1 rfl (by rfl) rfl rfl
 exfalso; simp at hb
open Go Go.RT Go.Proofs Go.Pl
set_option maxRecDepth 20000
set_option maxHeartbeats 4000000
theorem wHX118a {α : Prop} (h : α := by repeat (first | exact trivial | refine ⟨wS, ?_⟩ | refine ⟨ent_same rfl rfl (rfEq rfl tU) tL, ?_⟩ | refine ⟨ent_same rfl rfl (flEq rfl (by first | (simp; done) | (simp; omega) | (simp [encE, encN, encB]; done) | simp [maxC, minC])) trivial, ?_⟩)) : α := h
theorem ordbs (x : Edg) (l : List Edg) (hn : l.length ≤ 2000000) : Pure Tryz.prog 75 [VE l, .agg (encE x), .clo 51 []] (.tup [If .i64 (bsAt l x : Nat), Bf (bsHit l x)]) := bsearch_c l x hn 51 [] ordE (fun a b => order_c a b)
theorem change_c (g : Gr) (c : Edg) (hs : szOk g) (hn : g.es.length ≤ 1999999) : Meets Tryz.prog 55 [.ptr 0 3 0 0, .fz (.agg (encE c))] 2 [(0, some (.refs 3 [[IV .i64 g.r, IV .i64 g.n, .sl 1 3 0 g.es.length]])), (1, OE g.es)] (IV .i64 (chgF g c).2) [(0, some (.refs 3 [[IV .i64 g.r, IV .i64 g.n, .sl 2 3 0 (chgF g c).1.es.length]])), (2, OE (chgF g c).1.es)] 3 := by
 have hbs := ordbs c g.es (by omega)
 have hin := fun x => isnode_c g x hs
 have hal := allowed_c g c hs
 have hhit : bsHit g.es c = true → ∃ h : bsAt g.es c < g.es.length, g.es[bsAt g.es c].f = c.f ∧ g.es[bsAt g.es c].t = c.t := fun h => by
  obtain ⟨h1, h2⟩ := hitAt_lt h
  exact ⟨h1, by simpa [ordE_zero] using h2⟩
 have hble := (bsGo_le (fun e => decide (ordE e c < 0)) g.es (g.es.length) 0 g.es.length (by omega) (Nat.zero_le _) (Nat.le_refl _)).2
 unfold chgF
 have hble : bsAt g.es c ≤ g.es.length := hble
 generalize bsAt g.es c = k at *
 generalize bsHit g.es c = hit at *
 refine Meets.intro Tryz.func55 rfl (Nat.le_of_ble_eq_true rfl) fun C hC => ?_
 simp only [List.map, argEnv, Nat.reduceAdd]
 refine nK ?_
 refine zb ?_
 refine zq ?_
 refine ze ?_
 refine zc ?_
 refine nK ?_
 refine zb ?_
 refine zg ?_
 refine zh ?_
 refine zg ?_
 refine zh ?_
 refine zg ?_
 refine zh ?_
 refine zdb ?_
 refine zu ?_
 refine zr ?_
 refine zc ?_
 refine nK ?_
 refine s_draw mixed ?_
 refine za ?_
 refine zba ?_
 refine rlZ 18 rfl (op_loadn_refs rfl (oT rfl) tH tR tR) ?_
 refine zg ?_
 refine zh ?_
 refine rlZ 21 rfl (op_call_lend (args := [.agg (encG g), If .i64 c.f]) [1] (fun _ => hin c.f) rfl (Opd.func _) (oS (oT rfl) (oS (oT rfl) Opds.nil)) (by exact .cons _ _ _ _ tW (.cons _ _ _ _ tW .nil)) rfl rfl) ?_
 refine zbj ?_
 refine za ?_
 refine zf ?_
 refine zcm ?_
 refine rkZ 26 rfl rfl tG (op_loadn_refs rfl (oO rfl tO) tH tR tR) ?_
 refine zn ?_
 refine zm ?_
 refine rkZ 29 rfl rfl tG (op_call_lend (args := [.agg (encG g), If .i64 c.t]) [1] (fun _ => hin c.t) rfl (Opd.func _) (oS (oO rfl tO) (oS (oO rfl tO) Opds.nil)) (by exact .cons _ _ _ _ tW (.cons _ _ _ _ tW .nil)) rfl rfl) ?_
 refine zbl ?_
 refine zv ?_
 refine zs ?_
 refine nK ?_
 refine n_cond _ rfl (fun hb => ?_) (fun hb => ?_)
 ·have hz : nodeB g c.f = false ∨ nodeB g c.t = false := by simpa using hb
  rw [if_pos hz]
  refine nK ?_
  refine zb ?_
  refine ze ?_
  refine zc ?_
  refine nK ?_
  (refine Next.weak [0, 1] [] (by rfl) (keepsN hC _ rfl) (G' := [(4, .fz _)]) (H' := [(0, some (.refs 3 [[IV .i64 g.r, IV .i64 g.n, .sl 1 3 0 g.es.length]])), (1, OE g.es)]) wG wHX118a wN ?_; refine Next.retagCell 0 0 2 rfl rfl rfl rfl rfl ?_; refine Next.weak [0, 1, 2] [] (by rfl) (keepsN hC _ rfl) (G' := [(4, .fz _)]) (H' := [(0, some (.refs 3 [[IV .i64 g.r, IV .i64 g.n, .sl 2 3 0 g.es.length]])), (2, OE g.es)]) wG wHX118a wN ?_; exact n_out1 rfl (by rfl) rfl rfl)
 have hz : ¬ (nodeB g c.f = false ∨ nodeB g c.t = false) := by simpa using hb
 rw [if_neg hz]
 refine nK ?_
 refine s_draw mixed ?_
 refine za ?_
 refine zba ?_
 refine zg ?_
 refine zy ?_
 refine zk ?_
 refine rlZ 38 rfl (op_call_lend [1] (fun _ => hbs) rfl (Opd.func _) (.cons _ _ _ _ (oT rfl) (.cons _ _ _ _ (oT rfl) (.cons _ _ _ _ (Opd.funcF _) .nil))) (by exact .cons _ _ _ _ tW (.cons _ _ _ _ tW (.cons _ _ _ _ tW .nil))) rfl rfl) ?_
 refine za ?_
 refine zi ?_
 refine zi ?_
 refine zd ?_
 refine zd ?_
 refine zs ?_
 refine nK ?_
 refine zb ?_
 refine zg ?_
 refine zh ?_
 refine zbn ?_
 refine zc ?_
 refine nK ?_
 refine n_cond _ rfl (fun hb => ?_) (fun hb => ?_)
 ·rw [if_pos (by simpa using hb)]
  refine nK ?_
  refine zb ?_
  refine za ?_
  refine zbj ?_
  refine zc ?_
  refine nK ?_
  refine n_cond _ rfl (fun hb => ?_) (fun hb => ?_)
  ·have hz2 : hit = false := by simpa using hb
   rw [if_pos hz2]
   refine nK ?_
   refine zb ?_
   refine ze ?_
   refine zc ?_
   refine nK ?_
   (refine Next.weak [0, 1] [] (by rfl) (keepsN hC _ rfl) (G' := [(4, .fz _)]) (H' := [(0, some (.refs 3 [[IV .i64 g.r, IV .i64 g.n, .sl 1 3 0 g.es.length]])), (1, OE g.es)]) wG wHX118a wN ?_; refine Next.retagCell 0 0 2 rfl rfl rfl rfl rfl ?_; refine Next.weak [0, 1, 2] [] (by rfl) (keepsN hC _ rfl) (G' := [(4, .fz _)]) (H' := [(0, some (.refs 3 [[IV .i64 g.r, IV .i64 g.n, .sl 2 3 0 g.es.length]])), (2, OE g.es)]) wG wHX118a wN ?_; exact n_out1 rfl (by rfl) rfl rfl)
  have hz2 : hit = true := by simpa using hb
  subst hz2
  obtain ⟨hk, _⟩ := hhit rfl
  have hdl := delete_c g.es 0 k (k + 1) (by omega) (by omega) (by omega)
  have hdn := delL_len g.es k (k + 1) (by omega) (by omega)
  have e1 : k + 1 - k = 1 := by omega
  rw [e1] at hdn
  simp only [List.replicate_zero, List.append_nil, e1, Nat.zero_add] at hdl
  rw [if_neg (by simp)]
  have hrl : (List.map encE (delL g.es k (k + 1)) ++ List.replicate 1 (encE zE)).take (g.es.length - 1) = (delL g.es k (k + 1)).map encE := by
   rw [List.take_append_of_le_length (by simp; omega), List.take_of_length_le (by simp; omega)]
  refine nK ?_
  refine zb ?_
  refine za ?_
  refine za ?_
  refine zba ?_
  refine zg ?_
  refine zy ?_
  refine za ?_
  refine za ?_
  refine zl ?_
  refine Run.eff (dd := some 54) rfl rfl (op_call (n := 1) (n' := 1) [1] (fun _ => hdl) rfl (Opd.func _) (oS (oT rfl) (oS (oT rfl) (oS (oT rfl) Opds.nil))) rfl rfl (Lent.of rfl rfl (by exact ⟨⟨rfl, rfl, rfl, trivial⟩, trivial⟩) rfl) rfl rfl rfl rfl rfl) ?_
  refine zba ?_
  refine zg ?_
  refine zcp ?_
  refine zc ?_
  refine nK ?_
  refine zb ?_
  refine ze ?_
  refine zc ?_
  refine nK ?_
  refine Next.trim 1 (g.es.length - 1) rfl ?_
  refine Next.weak [0, 1] [] (by rfl) (keepsN hC _ rfl) (G' := [(4, IV .i64 0)]) (H' := [(0, some (.refs 3 [[IV .i64 g.r, IV .i64 g.n, .sl 1 3 0 (delL g.es k (k + 1)).length]])), (1, OE (delL g.es k (k + 1)))]) wG (by exact ⟨ent_same rfl rfl (by rw [hdn]; rfl) tL, ent_same rfl rfl (flEq rfl (by rw [List.map_append]; exact hrl)) trivial, trivial⟩) wN ?_
  refine Next.retagCell 0 0 2 rfl rfl rfl rfl rfl ?_
  refine Next.weak [0, 1, 2] [] (by rfl) (keepsN hC _ rfl) (G' := [(4, .fz _)]) (H' := [(0, some (.refs 3 [[IV .i64 g.r, IV .i64 g.n, .sl 2 3 0 (delL g.es k (k + 1)).length]])), (2, OE (delL g.es k (k + 1)))]) wG wHX118a wN ?_
  exact n_out1 rfl (by rfl) rfl rfl
 rw [if_neg (by simpa using hb)]
 refine nK ?_
 refine s_draw mixed ?_
 refine za ?_
 refine zba ?_
 refine rlZ 59 rfl (op_loadn_refs rfl (oT rfl) tH tR tR) ?_
 refine zk ?_
 refine rlZ 61 rfl (op_call_lend (args := [.agg (encG g), .agg (encE c)]) [1] (fun _ => hal) rfl (Opd.func _) (oS (oT rfl) (oS (oT rfl) Opds.nil)) (by exact .cons _ _ _ _ tW (.cons _ _ _ _ tW .nil)) rfl rfl) ?_
 refine zd ?_
 refine zs ?_
 refine nK ?_
 refine zb ?_
 refine za ?_
 refine zbd ?_
 refine zc ?_
 refine nK ?_
 refine n_cond _ rfl (fun hb => ?_) (fun hb => ?_)
 ·have hz2 : alwI g c ≠ 0 := by simpa using hb
  rw [if_pos hz2]
  refine nK ?_
  refine zb ?_
  refine za ?_
  refine zd ?_
  refine zc ?_
  refine nK ?_
  (refine Next.weak [0, 1] [] (by rfl) (keepsN hC _ rfl) (G' := [(4, .fz _)]) (H' := [(0, some (.refs 3 [[IV .i64 g.r, IV .i64 g.n, .sl 1 3 0 g.es.length]])), (1, OE g.es)]) wG wHX118a wN ?_; refine Next.retagCell 0 0 2 rfl rfl rfl rfl rfl ?_; refine Next.weak [0, 1, 2] [] (by rfl) (keepsN hC _ rfl) (G' := [(4, .fz _)]) (H' := [(0, some (.refs 3 [[IV .i64 g.r, IV .i64 g.n, .sl 2 3 0 g.es.length]])), (2, OE g.es)]) wG wHX118a wN ?_; exact n_out1 rfl (by rfl) rfl rfl)
 have hz2 : ¬ (alwI g c ≠ 0) := by simpa using hb
 rw [if_neg hz2]
 have hq : ∃ q : Edg, (hit = true → g.es[k]? = some q ∧ q.f = c.f ∧ q.t = c.t) := by
  cases hit with
  | false => exact ⟨c, fun h => by cases h⟩
  | true => obtain ⟨h1, h2⟩ := hhit rfl; exact ⟨g.es[k], fun _ => ⟨List.getElem?_eq_getElem h1, h2⟩⟩
 obtain ⟨q, hq⟩ := hq
 have hrow : hit = true → (g.es.map encE)[k]? = some (encE q) := fun h => by rw [List.getElem?_map, (hq h).1]; rfl
 have hkl : hit = true → k < g.es.length := fun h => (List.getElem?_eq_some_iff.1 (hq h).1).1
 refine nK ?_
 refine s_draw mixed ?_
 refine za ?_
 refine za ?_
 refine zf ?_
 refine zcm ?_
 refine zcq ?_
 refine zcr ?_
 refine zf ?_
 refine rgZ 73 rfl rfl tG (op_idx_sl0 k rfl (oO rfl tO) (oO rfl tO) (by intro h; simp at h; exact ⟨rfl, hkl h⟩)) ?_
 refine rkZ 74 rfl rfl tG (op_loadw_flat rfl (oO rfl tO) (by intro h; simp at h; exact ⟨rfl, hrow h⟩) rfl) ?_
 refine zbe ?_
 refine rgZ 76 rfl rfl tG (op_neS rfl (oO rfl tO) (oO rfl tO) (by kernel_rfl)) ?_
 refine zt ?_
 refine zd ?_
 refine zs ?_
 refine nK ?_
 refine n_cond _ rfl (fun hb => ?_) (fun hb => ?_)
 ·have hb2 : hit = true ∧ q ≠ c := by have e : eqFs (encE q) [If .i64 c.f, If .i64 c.t, If .i64 c.c] = decide (q = c) := eqFs_encE q c; simpa [e] using hb
  obtain ⟨hh, hqc⟩ := hb2
  have hr := hrow hh
  have hlt := hkl hh
  subst hh
  rw [if_pos rfl]
  refine nK ?_
  refine s_draw mixed ?_
  refine za ?_
  refine zba ?_
  refine zg ?_
  refine zy ?_
  refine za ?_
  refine zk ?_
  refine rpZ 84 rfl (op_idx_sl0 k rfl (oT rfl) (oT rfl) (by intro _; exact ⟨rfl, hlt⟩)) ?_
  refine Run.effW (dd := none) rfl rfl (op_store_flat rfl (oT rfl) (oT rfl) tC rfl rfl hr tS) (by first | exact ext_call | exact tE) ?_
  refine zs ?_
  refine nK ?_
  refine zb ?_
  refine ze ?_
  refine zc ?_
  refine nK ?_
  refine Next.weak [0, 1] [] (by rfl) (keepsN hC _ rfl) (G' := [(4, IV .i64 0)]) (H' := [(0, some (.refs 3 [[IV .i64 g.r, IV .i64 g.n, .sl 1 3 0 (g.es.set k c).length]])), (1, OE (g.es.set k c))]) wG (by exact ⟨ent_same rfl rfl (by rw [List.length_set]; rfl) tL, ent_same rfl rfl (flEq rfl (by rw [List.map_set]; rfl)) trivial, trivial⟩) wN ?_
  refine Next.retagCell 0 0 2 rfl rfl rfl rfl rfl ?_
  refine Next.weak [0, 1, 2] [] (by rfl) (keepsN hC _ rfl) (G' := [(4, .fz _)]) (H' := [(0, some (.refs 3 [[IV .i64 g.r, IV .i64 g.n, .sl 2 3 0 (g.es.set k c).length]])), (2, OE (g.es.set k c))]) wG wHX118a wN ?_
  exact n_out1 rfl (by rfl) rfl rfl
 have hb2 : hit = true → q = c := by have e : eqFs (encE q) [If .i64 c.f, If .i64 c.t, If .i64 c.c] = decide (q = c) := eqFs_encE q c; simpa [e] using hb
 refine nK ?_
 refine zb ?_
 refine za ?_
 refine zbj ?_
 refine za ?_
 refine zf ?_
 refine zcm ?_
 refine zcq ?_
 refine zcr ?_
 refine rgZ 93 rfl rfl tG (op_len_sl rfl (oO rfl tO)) ?_
 refine zce ?_
 refine zt ?_
 refine zd ?_
 refine zc ?_
 refine nK ?_
 refine n_cond _ rfl (fun hb => ?_) (fun hb => ?_)
 ·have hb3 : hit = false ∧ g.es.length = 1024 := by simp at hb; exact ⟨hb.1, by omega⟩
  rw [if_neg (by rw [hb3.1]; simp), if_pos hb3.2]
  refine nK ?_
  refine zb ?_
  refine ze ?_
  refine zc ?_
  refine nK ?_
  (refine Next.weak [0, 1] [] (by rfl) (keepsN hC _ rfl) (G' := [(4, .fz _)]) (H' := [(0, some (.refs 3 [[IV .i64 g.r, IV .i64 g.n, .sl 1 3 0 g.es.length]])), (1, OE g.es)]) wG wHX118a wN ?_; refine Next.retagCell 0 0 2 rfl rfl rfl rfl rfl ?_; refine Next.weak [0, 1, 2] [] (by rfl) (keepsN hC _ rfl) (G' := [(4, .fz _)]) (H' := [(0, some (.refs 3 [[IV .i64 g.r, IV .i64 g.n, .sl 2 3 0 g.es.length]])), (2, OE g.es)]) wG wHX118a wN ?_; exact n_out1 rfl (by rfl) rfl rfl)
 have hb3 : hit = false → g.es.length ≠ 1024 := by simp at hb; intro h; have := hb h; omega
 refine nK ?_
 refine zb ?_
 refine za ?_
 refine zbj ?_
 refine zd ?_
 refine zc ?_
 refine nK ?_
 refine n_cond _ rfl (fun hb => ?_) (fun hb => ?_)
 ·have hh : hit = false := by simpa using hb
  subst hh
  have hins := insert_c g.es c k (by omega) hble
  have hil := insL_len g.es k c hble
  rw [if_neg (by simp), if_neg (hb3 rfl)]
  refine nK ?_
  refine s_draw mixed ?_
  refine za ?_
  refine za ?_
  refine zba ?_
  refine zg ?_
  refine zy ?_
  refine za ?_
  refine zk ?_
  refine zde ?_
  refine Run.effW (dd := some 107) rfl rfl (op_call (n := 2) (n' := 3) [1, 4] (fun _ => hins) rfl (Opd.func _) (oS (oT rfl) (oS (oT rfl) (oS (oT rfl) Opds.nil))) rfl rfl (Lent.of rfl rfl (by exact ⟨⟨rfl, rfl, rfl, trivial⟩, ⟨rfl, rfl, rfl, trivial⟩, trivial⟩) rfl) rfl rfl rfl rfl rfl) (by first | exact ext_call | exact tE) ?_
  refine zba ?_
  refine zg ?_
  refine Run.effW (dd := none) rfl rfl (op_store_refs rfl (oT rfl) (oT rfl) tP rfl rfl rfl tS) (by first | exact ext_call | exact tE) ?_
  refine zs ?_
  refine nK ?_
  refine zb ?_
  refine ze ?_
  refine zc ?_
  refine nK ?_
  refine Next.weak [0, 1, 5] [] (by rfl) (keepsN hC _ rfl) (G' := [(4, IV .i64 0)]) (H' := [(0, some (.refs 3 [[IV .i64 g.r, IV .i64 g.n, .sl 2 3 0 (insL g.es k c).length]])), (2, OE (insL g.es k c))]) wG (by exact ⟨ent_same rfl rfl (by rw [hil]; rfl) tL, ent_same rfl rfl rfl trivial, trivial⟩) wN ?_
  exact n_out1 rfl (by rfl) rfl rfl
 have hh : hit = true := by simpa using hb
 subst hh
 obtain ⟨h1, _, _⟩ := hq rfl
 have hset : g.es.set k c = g.es := by
  rw [hb2 rfl] at h1
  exact List.ext_getElem? fun j => by
   rw [List.getElem?_set]
   by_cases hj : k = j
   ·subst hj; rw [if_pos rfl, if_pos (hkl rfl)]; exact h1.symm
   rw [if_neg hj]
 rw [if_pos rfl, hset]
 refine nK ?_
 refine zb ?_
 refine ze ?_
 refine zc ?_
 refine nK ?_
 (refine Next.weak [0, 1] [] (by rfl) (keepsN hC _ rfl) (G' := [(4, .fz _)]) (H' := [(0, some (.refs 3 [[IV .i64 g.r, IV .i64 g.n, .sl 1 3 0 g.es.length]])), (1, OE g.es)]) wG wHX118a wN ?_; refine Next.retagCell 0 0 2 rfl rfl rfl rfl rfl ?_; refine Next.weak [0, 1, 2] [] (by rfl) (keepsN hC _ rfl) (G' := [(4, .fz _)]) (H' := [(0, some (.refs 3 [[IV .i64 g.r, IV .i64 g.n, .sl 2 3 0 g.es.length]])), (2, OE g.es)]) wG wHX118a wN ?_; exact n_out1 rfl (by rfl) rfl rfl)
open Go Go.RT Go.Proofs Go.Pl
set_option maxRecDepth 20000
set_option maxHeartbeats 4000000
theorem apply_c (g : Gr) (cs : List Edg) (hg : okG g) (hl : cs.length ≤ 9223372036854775807) : Pure Tryz.prog 26 [.agg (encG g), VE cs] (.tup [.agg (encG (applyF g cs).1), If .i64 (applyF g cs).2]) := by
 unfold applyF
 refine Meets.intro Tryz.func26 rfl (Nat.le_of_ble_eq_true rfl) fun C hC => ?_
 simp only [List.map, argEnv, Nat.reduceAdd]
 refine nK ?_
 refine zb ?_
 refine zq ?_
 refine zu ?_
 refine ze ?_
 refine zc ?_
 refine nK ?_
 refine zb ?_
 refine zk ?_
 refine rpZ 11 rfl (op_call_pure (fun _ => check_c _ (by assumption)) rfl (Opd.func _) (oS (oT rfl) Opds.nil)) ?_
 refine zd ?_
 refine zc ?_
 refine nK ?_
 refine zb ?_
 refine za ?_
 refine zbd ?_
 refine zc ?_
 refine nK ?_
 refine n_cond _ rfl (fun hb => ?_) (fun hb => ?_)
 ·rw [if_pos (by simpa using hb)]
  refine nK ?_
  refine zb ?_
  refine zbm ?_
  refine za ?_
  refine zr ?_
  refine zd ?_
  refine zc ?_
  refine nK ?_
  refine Next.weakS [4] [] (by rfl) (keeps0 hC _) (G' := [(4, .ptr 0 3 0 0), (5, IV .i64 (checkI g))]) (H' := [(0, OG zeroG)]) wG (by exact ⟨⟨rfl, rfl, .fflat _ _ _ rfl tW⟩, trivial⟩) rfl ?_
  exact wO hC
 have hz : checkI g = 0 := by simpa using hb
 obtain ⟨hs, hlen, _⟩ := checkI_ok hz
 have hasc := check_asc hz
 have hcl := clone_c g.es (by omega)
 rw [if_neg (by simp [hz])]
 refine nK ?_
 refine Next.toRefs 0 rfl rfl ?_
 refine nK ?_
 refine zb ?_
 refine zg ?_
 refine zy ?_
 refine Run.eff (dd := some 18) rfl rfl (op_call_fresh (fun _ => hcl) rfl (Opd.func _) (oS (oT rfl) Opds.nil)) ?_
 refine zg ?_
 refine zcp ?_
 refine zc ?_
 refine nK ?_
 refine zb ?_
 refine za ?_
 refine zo ?_
 refine zbb ?_
 refine zc ?_
 refine nK ?_
 refine n_loop (ι := Nat × List Edg) (fun s => ([(2, .ptr 0 3 0 0), (4, .ptr 1 3 0 0), (20, .fz (VE cs)), (21, IV .i64 cs.length), (22, IV .i64 s.1)], [(0, some (.refs 3 [[IV .i64 g.r, IV .i64 g.n, .sl 2 3 0 s.2.length]])), (1, OG zeroG), (2, OE s.2)], 3)) (fun s => s.1 ≤ cs.length ∧ s.2.length ≤ 1024 ∧ AscK s.2 ∧ appL ⟨g.r, g.n, s.2⟩ (cs.drop s.1) = appL g cs) (fun s => cs.length - s.1) (0, g.es) ⟨Nat.zero_le _, hlen, hasc, rfl⟩ ?_ ?_
 ·refine Next.weak [0, 1, 2] [] (by rfl) (keeps0 hC _) wG (by exact ⟨wS, ⟨⟨rfl, rfl, .fflat _ _ _ rfl tW⟩, ⟨wS, trivial⟩⟩⟩) wN rel_intro
 intro ⟨i, es⟩ ⟨hi, hel, hea, hap⟩ K hK
 dsimp only at hi hel hea hap ⊢
 refine nK ?_
 refine zb ?_
 refine zp ?_
 refine zc ?_
 refine nK ?_
 refine n_cond _ rfl (fun hb => ?_) (fun hb => ?_)
 ·have hlt : i < cs.length := by simp at hb; omega
  have hr1 := row_at' encE cs i hlt
  have hKn := fun es' a b h => hK (i + 1, es') ⟨by dsimp only; omega, a, b, h⟩ (by dsimp only; omega)
  rw [List.drop_eq_getElem_cons hlt] at hap
  simp only [appL] at hap
  generalize cs[i] = c at *
  have hch := change_c ⟨g.r, g.n, es⟩ c hs (by dsimp only; omega)
  have hceq := (chg_eq (g := ⟨g.r, g.n, es⟩) (c := c) hea hel).2
  have hrn : (chgF ⟨g.r, g.n, es⟩ c).2 = 0 → (chgF ⟨g.r, g.n, es⟩ c).1 = ⟨g.r, g.n, (chgF ⟨g.r, g.n, es⟩ c).1.es⟩ := fun h => by
   obtain ⟨_, _, _, h4, h5⟩ := hceq h
   generalize (chgF ⟨g.r, g.n, es⟩ c).1 = z at *
   cases z; simp_all
  generalize chgF ⟨g.r, g.n, es⟩ c = r at *
  refine nK ?_
  refine zb ?_
  refine zz ?_
  refine zbf ?_
  refine zu ?_
  refine zr ?_
  refine zc ?_
  refine nK ?_
  refine zb ?_
  refine zk ?_
  refine Run.eff (dd := some 27) rfl rfl (op_call (n := 2) (n' := 3) [0, 2] (fun _ => hch) rfl (Opd.func _) (oS (oT rfl) (oS (oT rfl) Opds.nil)) rfl rfl (Lent.of rfl rfl (by exact ⟨⟨rfl, rfl, rfl, tL⟩, ⟨rfl, rfl, rfl, trivial⟩, trivial⟩) rfl) rfl rfl rfl rfl rfl) ?_
  refine zd ?_
  refine zc ?_
  refine nK ?_
  refine zb ?_
  refine za ?_
  refine zbd ?_
  refine zc ?_
  refine nK ?_
  refine n_cond _ rfl (fun hb => ?_) (fun hb => ?_)
  ·have hz2 : r.2 ≠ 0 := by simpa using hb
   rw [if_pos hz2] at hap
   rw [← hap]
   refine nK ?_
   refine zb ?_
   refine zbm ?_
   refine za ?_
   refine zr ?_
   refine zd ?_
   refine zc ?_
   refine nK ?_
   refine Next.weakS [4] [] (by rfl) (keeps0 hC _) (G' := [(4, .ptr 0 3 0 0), (5, IV .i64 r.2)]) (H' := [(0, OG zeroG)]) wG (by exact ⟨⟨rfl, rfl, .fflat _ _ _ rfl tW⟩, trivial⟩) rfl ?_
   exact wO hC
  have hz2 : r.2 = 0 := by simpa using hb
  obtain ⟨_, h2, h3, _, _⟩ := hceq hz2
  rw [if_neg (by simp [hz2]), hrn hz2] at hap
  refine nK ?_
  refine zb ?_
  refine zl ?_
  refine za ?_
  refine zc ?_
  refine nK ?_
  refine Next.weak [0, 1, 4] [] (by rfl) (keeps0 hC _) wG wR wN (hKn r.1.es h3 h2 hap)
 have hie : i = cs.length := by simp at hb; omega
 rw [hie, List.drop_length] at hap
 rw [← hap]
 refine Next.weak [0, 1] [2] (by rfl) (keeps0 hC _) (G' := [(2, .ptr 0 3 0 0), (4, .ptr 1 3 0 0)]) (H' := [(0, OG ⟨g.r, g.n, es⟩), (1, OG zeroG)]) wG (by exact ⟨⟨rfl, rfl, .flat _ _ _ rfl tW⟩, ⟨wS, trivial⟩⟩) (fun id h => by obtain rfl : id = 2 := (by simpa using h); exact ⟨_, rfl⟩) ?_
 refine nK ?_
 refine zb ?_
 refine zk ?_
 refine zr ?_
 refine ze ?_
 refine zc ?_
 refine nK ?_
 exact wO hC
open Go Go.RT Go.Proofs Go.Pl
set_option maxRecDepth 20000
set_option maxHeartbeats 2000000
abbrev HD (h : Hq) : Hp := [(1, some (.refs 3 [[.sl 2 1 0 h.it.length, .sl 3 1 0 h.pl.length, .sl 4 1 0 h.ky.length]])), (2, OT h.it), (3, OI h.pl), (4, OI h.ky)]
abbrev HDS (d : List Int) (h : Hq) : Hp := (0, OI d) :: HD h
theorem set_i (h : Hq) (o : HI h) (b : Int) (v : Nat) (k : Int) (e : b = v) (hv : v < h.pl.length) (hm : h.it.length ≤ 1999999) : Meets Tryz.prog 57 [.ptr 0 3 0 0, IV .i64 b, IV .i64 k] 4 (HH h) (BV true) (HX (setH h v k)) 5 := by subst e; exact set_c h o v k hv hm
theorem key_i (h : Hq) (o : h.Ok) (b : Int) (v : Nat) (e : b = v) (hv : v < h.pl.length) : Meets Tryz.prog 60 [.ptr 0 3 0 0, IV .i64 b] 4 (HH h) (.fz (.tup [If .i64 (if 0 ≤ h.place v then h.key v else 0), Bf (decide (0 ≤ h.place v))])) (HH h) 4 := by subst e; exact key_c h o v hv
theorem dist_c (g : Gr) (a : Nat) (d : List Int) (hg : checkI g = 0) (hok : okG g) (ha : a < (g.r + g.n).toNat) (hd : d.length = (g.r + g.n).toNat) (hD : ∀ v, v < (g.r + g.n).toNat → IsD g.es a v (gt0 d v)) : Pure Tryz.prog 70 [.agg (encG g), If .i64 a] (VI d) := by
 obtain ⟨vg, hr0, hn0⟩ := checkI_vg hg
 have hn := vg.n128
 have hel := vg.e1024
 have hrn : g.r + g.n = ((g.r + g.n).toNat : Int) := by omega
 generalize hN : (g.r + g.n).toNat = n at *
 refine Meets.intro Tryz.func70 rfl (Nat.le_of_ble_eq_true rfl) fun C hC => ?_
 simp only [List.map, argEnv, Nat.reduceAdd]
 refine nK2 ?_
 refine zb ?_
 refine zq ?_
 refine ze ?_
 refine zc ?_
 refine nK2 ?_
 refine zb ?_
 refine zg ?_
 refine zh ?_
 refine zg ?_
 refine zh ?_
 refine zbc ?_
 refine Run.eff (dd := some 23) rfl rfl (op_make (l := n) (c := n) rfl (oT rfl) (oT rfl) rfl rfl rfl rfl (by intro _; refine ⟨hrn, hrn, ?_⟩; omega)) ?_
 refine zd ?_
 refine zc ?_
 refine nK2 ?_
 refine Next.weak [0, 1] [] (by rfl) (keepsN hC _ rfl) (G' := [(1, IV .i64 a), (2, .ptr 0 3 0 0), (5, .sl 1 1 0 n)]) (H' := [(0, OG g), (1, OI (fillN n 0))]) wG (by exact ⟨wS, ⟨ent_same rfl rfl (flEq rfl (by rw [fillN_0, List.map_replicate]; rfl)) trivial, trivial⟩⟩) wN ?_
 refine nK2 ?_
 refine zb ?_
 refine za ?_
 refine zbi ?_
 refine zbb ?_
 refine zc ?_
 refine nK2 ?_
 refine n_loop (ι := Nat) (fun k => ([(1, IV .i64 a), (2, .ptr 0 3 0 0), (5, .sl 1 1 0 n), (25, IV .i64 n), (26, IV .i64 k)], [(0, OG g), (1, OI (fillN n k))], 2)) (fun k => k ≤ n) (fun k => n - k) 0 (Nat.zero_le _) ?_ ?_
 ·refine Next.weak [0, 1] [] (by rfl) (keepsN hC _ rfl) wG wR wN rel_intro
 intro k hk K hK
 try dsimp only at hk ⊢
 refine nK2 ?_
 refine zb ?_
 refine zp ?_
 refine zc ?_
 refine nK2 ?_
 refine n_cond _ rfl (fun hb => ?_) (fun hb => ?_)
 ·have hlt : k < n := by simpa using hb
  have hrow := row_of encN (fillN n k) k 0 (by rw [fillN_len _ _ hk]; exact hlt)
  refine nK2 ?_
  refine zb ?_
  refine za ?_
  refine zd ?_
  refine zc ?_
  refine nK2 ?_
  refine zb ?_
  refine za ?_
  refine za ?_
  refine rpZ 31 rfl (op_idx_sl0 k rfl (oT rfl) (oT rfl) (by intro _; exact ⟨rfl, hlt⟩)) ?_
  refine Run.eff (dd := none) rfl rfl (op_store_flat rfl (oT rfl) oC tC rfl rfl hrow tS) ?_
  refine zc ?_
  refine nK2 ?_
  refine zb ?_
  refine zl ?_
  refine za ?_
  refine zc ?_
  refine nK2 ?_
  refine Next.weak [0, 1] [] (by rfl) (keepsN hC _ rfl) wG (by exact ⟨wS, ⟨ent_same rfl rfl (flEq rfl (by rw [← fillN_set n k hlt, List.map_set]; rfl)) trivial, trivial⟩⟩) wN (hK (k + 1) hlt (by omega))
 have hge : k = n := by simp at hb; omega
 subst hge
 rw [fillN_n]
 refine nK2 ?_
 refine zb ?_
 refine za ?_
 refine zbi ?_
 refine Run.eff (dd := some 35) rfl rfl (op_make (l := k) (c := k) rfl (oT rfl) (oT rfl) rfl rfl rfl rfl (by intro _; refine ⟨rfl, rfl, ?_⟩; omega)) ?_
 refine zd ?_
 refine zc ?_
 refine nK2 ?_
 refine Next.toOwn 2 3 k rfl ?_
 refine Next.weak [0, 1, 2] [] (by rfl) (keepsN hC _ rfl) (G' := [(1, IV .i64 a), (2, .ptr 0 3 0 0), (5, .sl 1 1 0 k), (7, .sl 2 1 0 k)]) (H' := [(0, OG g), (1, OI (List.replicate k (-1))), (2, some (.refs 1 (ownL 3 (rowsE [] k))))]) wG (by exact ⟨wS, ⟨wS, ⟨ent_own rfl rfl (by rw [rowsE_nil, ← ownL_rep]; rfl), trivial⟩⟩⟩) wN ?_
 refine nK2 ?_
 refine zb ?_
 refine zg ?_
 refine zh ?_
 refine zo ?_
 refine zbb ?_
 refine zc ?_
 refine nK2 ?_
 refine n_loop (ι := Nat) (fun i => ([(1, IV .i64 a), (5, .sl 1 1 0 k), (7, .sl 2 1 0 k), (37, .fz (VE g.es)), (38, IV .i64 g.es.length), (39, IV .i64 i)], [(0, OG g), (1, OI (List.replicate k (-1))), (2, some (.refs 1 (ownL 3 (rowsE (g.es.take i) k))))], 3)) (fun i => i ≤ g.es.length) (fun i => g.es.length - i) 0 (Nat.zero_le _) ?_ ?_
 ·refine Next.weak [0, 1, 2] [] (by rfl) (keepsN hC _ rfl) wG (by exact ⟨wS, ⟨wS, ⟨ent_own rfl rfl rfl, trivial⟩⟩⟩) wN rel_intro
 intro i hi K hK
 try dsimp only at hi ⊢
 refine nK2 ?_
 refine zb ?_
 refine zp ?_
 refine zc ?_
 refine nK2 ?_
 refine n_cond _ rfl (fun hb => ?_) (fun hb => ?_)
 ·have hlt : i < g.es.length := by simp at hb; omega
  have hr1 := row_at' encE g.es i hlt
  have hef := vg.f _ (List.getElem_mem hlt)
  have hst := rowsE_succ (n := k) hlt hef.1
  have hrg := rowsE_get (g.es.take i) (n := k) (v := g.es[i].f.toNat) (by omega)
  have hlen : (outE (g.es.take i) g.es[i].f.toNat).length ≤ 1024 := by
   have h1 : (outE (g.es.take i) g.es[i].f.toNat).length ≤ (g.es.take i).length := List.length_filter_le _ _
   have h2 : (g.es.take i).length ≤ g.es.length := List.length_take_le' _ _
   omega
  have hK1 := hK (i + 1) (by omega) (by omega)
  rw [← hst] at hK1
  have hrl := rowsE_len (g.es.take i) k
  generalize rowsE (g.es.take i) k = irs at *
  generalize outE (g.es.take i) g.es[i].f.toNat = row at *
  generalize g.es[i] = e at *
  refine nK2 ?_
  refine zb ?_
  refine zz ?_
  refine zbf ?_
  refine zu ?_
  refine zr ?_
  refine zc ?_
  refine nK2 ?_
  refine Next.take 2 e.f.toNat 0 rfl (ownL_get hrg) rfl rfl ?_
  have hs1 := set_get (ownL 3 irs) e.f.toNat [.sl 4 3 0 (row.map encE).length] (by rw [ownL_len, hrl]; omega)
  refine nK2 ?_
  refine s_draw mixed ?_
  refine za ?_
  refine zg ?_
  refine zh ?_
  refine za ?_
  refine zg ?_
  refine zh ?_
  refine rpZ 49 rfl (op_idx_sl0 e.f.toNat rfl (oT rfl) (oT rfl) (by intro _; omega)) ?_
  refine rlZ 50 rfl (op_load1_refs rfl (oT rfl) (by intro _; exact ⟨rfl, hs1⟩) rfl) ?_
  refine zk ?_
  refine zbh ?_
  refine zco ?_
  refine rpZ 54 rfl (op_idx_sl0 e.f.toNat rfl (oT rfl) (oT rfl) (by intro _; omega)) ?_
  refine Run.effW (dd := none) rfl rfl (op_store_refs rfl (oT rfl) (oT rfl) tP rfl rfl hs1 tS) (by first | exact ext_call | exact tE) ?_
  refine zs ?_
  refine nK2 ?_
  refine zb ?_
  refine zl ?_
  refine za ?_
  refine zc ?_
  refine nK2 ?_
  refine Next.untake 2 e.f.toNat 0 rfl (set_get _ _ _ (by rw [List.length_set, ownL_len, hrl]; omega)) rfl rfl (by simp) rfl ?_
  refine Next.weak [0, 1, 2] [] (by rfl) (keepsN hC _ rfl) wG (by exact ⟨wS, ⟨wS, ⟨ent_own rfl rfl (congrArg (fun r => some (Ob.refs 1 r)) own_back), trivial⟩⟩⟩) wN hK1
 have hge : i = g.es.length := by simp at hb; omega
 subst hge
 rw [List.take_length]
 refine Next.freezeOwn 2 rfl rfl ?_
 have hFl : (fzL 3 (rowsE g.es k)).length = k := by rw [fzL_len, rowsE_len]
 refine Next.weakS [5] [7] (by rfl) (keepsN hC _ rfl) (G' := [(1, IV .i64 a), (5, .sl 0 1 0 k), (7, .fz (.vals 1 (fzL 3 (rowsE g.es k))))]) (H' := [(0, OI (List.replicate k (-1)))]) (by exact ⟨⟨_, rfl, .inl ⟨rfl, rfl⟩⟩, ⟨_, rfl, .inl ⟨rfl, rfl⟩⟩, ⟨_, rfl, .inr ⟨_, rfl, .sl _ _ _ _ _ _ rfl rfl (take_all0 hFl) (by rw [hFl])⟩⟩, trivial⟩) wR rfl ?_
 have hSet := set_c (newH k) (HG.new k).hi a 0 (by simpa [newH] using ha) (by simp [newH])
 obtain ⟨hDJ, hcnt0⟩ := DJ.start vg ha
 refine nK2 ?_
 refine zb ?_
 refine za ?_
 refine zbi ?_
 refine Run.eff (dd := some 58) rfl rfl (op_call (n := 0) (n' := 4) [] (fun _ => new_c k (by omega)) rfl (Opd.func _) (oS (oT rfl) Opds.nil) rfl rfl (Lent.of rfl rfl trivial rfl) rfl rfl rfl rfl rfl) ?_
 refine zd ?_
 refine zc ?_
 refine nK2 ?_
 refine zb ?_
 refine za ?_
 refine za ?_
 refine Run.eff (dd := some 61) rfl rfl (op_call (n := 4) (n' := 5) [1, 2, 3, 4] (fun _ => hSet) rfl (Opd.func _) (oS (oT rfl) (oS (oT rfl) (oS oC Opds.nil))) rfl rfl (Lent.of rfl rfl (by exact ⟨⟨rfl, rfl, rfl, tL⟩, ⟨rfl, rfl, rfl, trivial⟩, ⟨rfl, rfl, rfl, trivial⟩, ⟨rfl, rfl, rfl, trivial⟩, trivial⟩) rfl) rfl rfl rfl rfl rfl) ?_
 refine zc ?_
 refine nK2 ?_
 refine n_loop (ι := List Int × Hq) (fun s => ([(5, .sl 0 1 0 k), (7, .fz (.vals 1 (fzL 3 (rowsE g.es k)))), (10, .ptr 1 3 0 0)], HDS s.1 s.2, 5)) (fun s => DJ g.es k a s.1 s.2 []) (fun s => k - cntP s.1) (List.replicate k (-1), setH (newH k) a 0) hDJ ?_ ?_
 ·refine Next.weak [0, 1, 5, 3, 4] [] (by rfl) (keepsN hC _ rfl) wG wR wN rel_intro
 intro ⟨dist, h⟩ hI K hK
 try dsimp only at hI hK ⊢
 have hok' := hI.hg.hi
 have hdl := hI.dl
 have hpl := hI.hl
 have hsm := hok'.small
 by_cases hit : h.it = []
 ·have hpn := pop_none h hok' hit
  refine nK2 ?_
  refine zb ?_
  refine za ?_
  refine rlZ 64 rfl (op_call_read (n := 4) [1, 2, 3, 4] (fun _ => hpn) rfl (Opd.func _) (oS (oT rfl) Opds.nil) rfl rfl (Lent.of rfl rfl (by exact ⟨⟨rfl, rfl, rfl, tL⟩, ⟨rfl, rfl, rfl, trivial⟩, ⟨rfl, rfl, rfl, trivial⟩, ⟨rfl, rfl, rfl, trivial⟩, trivial⟩) rfl) rfl) ?_
  refine za ?_
  refine zi ?_
  refine zi ?_
  refine zi ?_
  refine zd ?_
  refine zd ?_
  refine zd ?_
  refine zc ?_
  refine nK2 ?_
  refine zb ?_
  refine za ?_
  refine zbj ?_
  refine zc ?_
  refine nK2 ?_
  refine n_cond _ rfl (fun hb => ?_) (fun hb => ?_)
  ·have hde : dist = d := by
    apply List.ext_getElem (by omega)
    intro v h1 h2
    have := (hI.done vg ha hit (v := v) (by omega)).uniq (hD v (by omega))
    simpa [gt0, List.getD_eq_getElem?_getD, h1, h2] using this
   subst hde
   refine nK2 ?_
   refine zb ?_
   refine za ?_
   refine zd ?_
   refine zc ?_
   refine nK2 ?_
   refine Next.weakS [] [4] (by rfl) (keeps0 hC _) (G' := [(4, .fz (VI dist))]) (H' := []) ⟨⟨_, rfl, .inr ⟨_, rfl, .sl _ _ _ _ _ _ rfl rfl (take_all0 (by rw [List.length_map]; exact hdl)) (by rw [List.length_map]; omega)⟩⟩, trivial⟩ trivial rfl ?_
   exact n_out1 rfl (by rfl) rfl rfl
  simp at hb
 have hne : 0 < h.it.length := Nat.pos_of_ne_zero fun e => hit (List.length_eq_zero_iff.1 e)
 have hps := pop_some h hok' hne (by omega)
 obtain ⟨x1, x2, x3, x4, x5, x6⟩ := hI.pop vg ha hne
 have hrx := row_of encN dist (h.item 0) 0 (by omega)
 have hcl := cntP_le (dist.set (h.item 0) (h.key (h.item 0)))
 rw [List.length_set] at hcl
 have hrE := fzL_get (sz := 3) (rowsE_get g.es x1)
 have hLsub : ∀ e ∈ outE g.es (h.item 0), e ∈ g.es ∧ e.f = (h.item 0 : Nat) := fun e he => by simpa [outE] using he
 have hLl : (outE g.es (h.item 0)).length ≤ 1024 := by
  have : (outE g.es (h.item 0)).length ≤ g.es.length := List.length_filter_le _ _
  omega
 have hdx : gt0 (dist.set (h.item 0) (h.key (h.item 0))) (h.item 0) = h.key (h.item 0) := by rw [gt0, getD_set _ _ _ _ _ (by omega), if_pos rfl]
 change DJ g.es k a (dist.set (h.item 0) (h.key (h.item 0))) (dropH h (h.item 0)) (outE g.es (h.item 0)) at x6
 generalize h.item 0 = x at *
 generalize h.key x = kx at *
 generalize dropH h x = h1 at *
 generalize outE g.es x = L at *
 refine nK2 ?_
 refine zb ?_
 refine za ?_
 refine Run.eff (dd := some 64) rfl rfl (op_call (n := 4) (n' := 5) [1, 2, 3, 4] (fun _ => hps) rfl (Opd.func _) (oS (oT rfl) Opds.nil) rfl rfl (Lent.of rfl rfl (by exact ⟨⟨rfl, rfl, rfl, tL⟩, ⟨rfl, rfl, rfl, trivial⟩, ⟨rfl, rfl, rfl, trivial⟩, ⟨rfl, rfl, rfl, trivial⟩, trivial⟩) rfl) rfl rfl rfl rfl rfl) ?_
 refine za ?_
 refine zi ?_
 refine zi ?_
 refine zi ?_
 refine zd ?_
 refine zd ?_
 refine zd ?_
 refine zc ?_
 refine nK2 ?_
 refine zb ?_
 refine za ?_
 refine zbj ?_
 refine zc ?_
 refine nK2 ?_
 refine n_cond _ rfl (fun hb => ?_) (fun hb => ?_)
 ·simp at hb
 refine nK2 ?_
 refine zb ?_
 refine za ?_
 refine za ?_
 refine za ?_
 refine rpZ 73 rfl (op_idx_sl0 x rfl (oT rfl) (oT rfl) (by intro _; exact ⟨rfl, x1⟩)) ?_
 refine Run.eff (dd := none) rfl rfl (op_store_flat rfl (oT rfl) (oT rfl) tC rfl rfl hrx tS) ?_
 refine zc ?_
 refine nK2 ?_
 refine zb ?_
 refine za ?_
 refine za ?_
 refine rpZ 76 rfl (op_idx_fz x rfl (oT rfl) (oT rfl) (by intro _; exact ⟨rfl, hrE⟩)) ?_
 refine zj ?_
 refine zo ?_
 refine zbb ?_
 refine zc ?_
 refine nK2 ?_
 refine n_loop (ι := Nat × Hq) (fun s => ([(5, .sl 0 1 0 k), (7, .fz (.vals 1 (fzL 3 (rowsE g.es k)))), (10, .ptr 1 3 0 0), (12, IV .i64 kx), (77, .fz (VE L)), (78, IV .i64 L.length), (79, IV .i64 s.1)], HDS (dist.set x kx) s.2, 5)) (fun s => s.1 ≤ L.length ∧ DJ g.es k a (dist.set x kx) s.2 (L.drop s.1)) (fun s => L.length - s.1) (0, h1) ⟨Nat.zero_le _, x6⟩ ?_ ?_
 ·refine Next.weak [0, 1, 5, 3, 4] [] (by rfl) (keepsN hC _ rfl) wG (by exact ⟨ent_same rfl rfl (flEq rfl (by rw [List.map_set]; rfl)) trivial, ⟨wS, ⟨wS, ⟨wS, ⟨wS, trivial⟩⟩⟩⟩⟩) wN rel_intro
 intro ⟨j, h2⟩ ⟨hj, hJ⟩ K2 hK2
 try dsimp only at hj hJ hK2 ⊢
 refine nK2 ?_
 refine zb ?_
 refine zp ?_
 refine zc ?_
 refine nK2 ?_
 refine n_cond _ rfl (fun hb => ?_) (fun hb => ?_)
 ·have hlt : j < L.length := by simp at hb; omega
  have hr1 := row_at' encE L j hlt
  obtain ⟨he, hef⟩ := hLsub _ (List.getElem_mem hlt)
  rw [List.drop_eq_getElem_cons hlt] at hJ
  have hK3 := fun h3 hh => hK2 (j + 1, h3) ⟨by dsimp only; omega, hh⟩ (by dsimp only; omega)
  dsimp only at hK3
  generalize L[j] = e at *
  have het := vg.t e he
  have hec := vg.c e he
  have hJo := hJ.hg.hi
  have hJl := hJ.hl
  have hJs := hJo.small
  have hJd := hJ.dl
  have hket := key_i h2 hJo.ok e.t e.t.toNat (by omega) (by omega)
  have hrt := row_of encN (dist.set x kx) e.t.toNat 0 (by omega)
  have hput := fun hc => hJ.put vg he (by rw [hef, Int.toNat_natCast, hdx]; exact x3) (by rw [hef, Int.toNat_natCast, hdx, x5]; omega) hc
  have hskip := fun hc => hJ.skip vg hc
  have hset := set_i h2 hJo e.t e.t.toNat (kx + e.c) (by omega) (by omega) (by omega)
  have hfx : gt0 (dist.set x kx) e.f.toNat = kx := by rw [hef, Int.toNat_natCast]; exact hdx
  rw [hfx] at hput hskip
  have hgt : (dist.set x kx).getD e.t.toNat 0 = gt0 (dist.set x kx) e.t.toNat := rfl
  rw [hgt] at hrt
  have hqb := hJ.q e.t.toNat (by omega)
  refine nK2 ?_
  refine zb ?_
  refine zz ?_
  refine zbf ?_
  refine zu ?_
  refine zr ?_
  refine zc ?_
  refine nK2 ?_
  refine zb ?_
  refine za ?_
  refine zg ?_
  refine zh ?_
  refine rlZ 87 rfl (op_call_read (n := 4) [1, 2, 3, 4] (fun _ => hket) rfl (Opd.func _) (oS (oT rfl) (oS (oT rfl) Opds.nil)) rfl rfl (Lent.of rfl rfl (by exact ⟨⟨rfl, rfl, rfl, tL⟩, ⟨rfl, rfl, rfl, trivial⟩, ⟨rfl, rfl, rfl, trivial⟩, ⟨rfl, rfl, rfl, trivial⟩, trivial⟩) rfl) rfl) ?_
  refine za ?_
  refine zi ?_
  refine zi ?_
  refine zd ?_
  refine zd ?_
  refine zc ?_
  refine nK2 ?_
  refine zb ?_
  refine za ?_
  refine zg ?_
  refine zh ?_
  refine rpZ 93 rfl (op_idx_sl0 e.t.toNat rfl (oT rfl) (oT rfl) (by intro _; omega)) ?_
  refine rlZ 94 rfl (op_load1_flat rfl (oT rfl) (by intro _; exact ⟨rfl, hrt⟩) rfl) ?_
  refine zbn ?_
  refine za ?_
  refine zf ?_
  refine zbl ?_
  refine zbp ?_
  refine zf ?_
  refine zn ?_
  refine zm ?_
  refine zbs ?_
  refine zf ?_
  refine zbk ?_
  refine zcd ?_
  refine zt ?_
  refine zc ?_
  refine nK2 ?_
  refine n_cond _ rfl (fun hb => ?_) (fun hb => ?_)
  ·have hc : gt0 (dist.set x kx) e.t.toNat < 0 ∧ (h2.place e.t.toNat < 0 ∨ kx + e.c < h2.key e.t.toNat) := by
    simp only [Bool.and_eq_true, Bool.or_eq_true, Bool.not_eq_true', decide_eq_true_eq, decide_eq_false_iff_not] at hb
    refine ⟨hb.1, ?_⟩
    rcases hb.2 with h5 | h5
    ·exact .inl (by omega)
    by_cases h6 : 0 ≤ h2.place e.t.toNat
    ·rw [if_pos h6] at h5; exact .inr h5
    exact .inl (by omega)
   refine nK2 ?_
   refine zb ?_
   refine za ?_
   refine zg ?_
   refine zh ?_
   refine za ?_
   refine zg ?_
   refine zh ?_
   refine zbc ?_
   refine Run.eff (dd := some 115) rfl rfl (op_call (n := 4) (n' := 5) [1, 2, 3, 4] (fun _ => hset) rfl (Opd.func _) (oS (oT rfl) (oS (oT rfl) (oS (oT rfl) Opds.nil))) rfl rfl (Lent.of rfl rfl (by exact ⟨⟨rfl, rfl, rfl, tL⟩, ⟨rfl, rfl, rfl, trivial⟩, ⟨rfl, rfl, rfl, trivial⟩, ⟨rfl, rfl, rfl, trivial⟩, trivial⟩) rfl) rfl rfl rfl rfl rfl) ?_
   refine zc ?_
   refine nK2 ?_
   refine zb ?_
   refine zl ?_
   refine za ?_
   refine zc ?_
   refine nK2 ?_
   refine Next.weak [0, 1, 6, 3, 4] [] (by rfl) (keepsN hC _ rfl) wG wR wN (hK3 _ (hput hc))
  have hc : ¬ (gt0 (dist.set x kx) e.t.toNat < 0 ∧ (h2.place e.t.toNat < 0 ∨ kx + e.c < h2.key e.t.toNat)) := fun hc => by
   rw [Bool.eq_false_iff] at hb
   apply hb
   simp only [Bool.and_eq_true, Bool.or_eq_true, Bool.not_eq_true', decide_eq_true_eq, decide_eq_false_iff_not]
   refine ⟨hc.1, ?_⟩
   by_cases h6 : 0 ≤ h2.place e.t.toNat
   ·rw [if_pos h6]
    rcases hc.2 with h5 | h5
    ·omega
    exact .inr h5
   exact .inl (by omega)
  refine nK2 ?_
  refine zb ?_
  refine zl ?_
  refine za ?_
  refine zc ?_
  refine nK2 ?_
  refine Next.weak [0, 1, 2, 3, 4] [] (by rfl) (keepsN hC _ rfl) wG wR wN (hK3 _ (hskip hc))
 have hje : j = L.length := by simp at hb; omega
 subst hje
 rw [List.drop_length] at hJ
 refine nK2 ?_
 refine Next.weak [0, 1, 2, 3, 4] [] (by rfl) (keepsN hC _ rfl) wG wR wN (hK (dist.set x kx, h2) hJ (by dsimp only; omega))
open Go Go.RT Go.Proofs Go.Pl
set_option maxRecDepth 20000
set_option maxHeartbeats 2000000
theorem parents_c (g : Gr) (a : Nat) (d : List Int) (hg : checkI g = 0) (hd : d.length = (g.r + g.n).toNat) (hD : ∀ v, v < (g.r + g.n).toNat → -1 ≤ gt0 d v ∧ gt0 d v ≤ 10000000) : Pure Tryz.prog 71 [.agg (encG g), If .i64 a, VI d] (VLL (parL g.es a d (g.r + g.n).toNat)) := by
 obtain ⟨vg, hr0, hn0⟩ := checkI_vg hg
 have hn := vg.n128
 have hel := vg.e1024
 generalize hN : (g.r + g.n).toNat = n at *
 refine Meets.intro Tryz.func71 rfl (Nat.le_of_ble_eq_true rfl) fun C hC => ?_
 simp only [List.map, argEnv, Nat.reduceAdd]
 refine nK2 ?_
 refine zb ?_
 refine zq ?_
 refine ze ?_
 refine zc ?_
 refine nK2 ?_
 refine zb ?_
 refine za ?_
 refine zo ?_
 refine Run.eff (dd := some 12) rfl rfl (op_make (l := n) (c := n) rfl (oT rfl) (oT rfl) rfl rfl rfl rfl (by intro _; rw [hd]; refine ⟨rfl, rfl, ?_⟩; omega)) ?_
 refine zd ?_
 refine zc ?_
 refine nK2 ?_
 refine Next.toOwn 1 1 n rfl ?_
 refine Next.weak [0, 1] [] (by rfl) (keepsN hC _ rfl) (G' := [(1, IV .i64 a), (2, .fz (VI d)), (3, .ptr 0 3 0 0), (7, .sl 1 1 0 n)]) (H' := [(0, OG g), (1, some (.refs 1 (ownL 1 (rowsI (parL [] a d n)))))]) wG (by exact ⟨wS, ⟨ent_own rfl rfl (by rw [parL_nil, rowsI_nil, ← ownL_rep]; rfl), trivial⟩⟩) wN ?_
 refine nK2 ?_
 refine zb ?_
 refine zg ?_
 refine zh ?_
 refine zo ?_
 refine zbb ?_
 refine zc ?_
 refine nK2 ?_
 refine n_loop (ι := Nat) (fun i => ([(1, IV .i64 a), (2, .fz (VI d)), (7, .sl 0 1 0 n), (14, .fz (VE g.es)), (15, IV .i64 g.es.length), (16, IV .i64 i)], [(0, some (.refs 1 (ownL 1 (rowsI (parL (g.es.take i) a d n)))))], 1)) (fun i => i ≤ g.es.length) (fun i => g.es.length - i) 0 (Nat.zero_le _) ?_ ?_
 ·refine Next.weak [1] [] (by rfl) (keepsN hC _ rfl) wG (by exact ⟨ent_own rfl rfl rfl, trivial⟩) wN rel_intro
 intro i hi K hK
 try dsimp only at hi ⊢
 refine nK2 ?_
 refine zb ?_
 refine zp ?_
 refine zc ?_
 refine nK2 ?_
 refine n_cond _ rfl (fun hb => ?_) (fun hb => ?_)
 ·have hlt : i < g.es.length := by simp at hb; omega
  have hr1 := row_at' encE g.es i hlt
  have hef := vg.f _ (List.getElem_mem hlt)
  have het := vg.t _ (List.getElem_mem hlt)
  have hec := vg.c _ (List.getElem_mem hlt)
  have hyes := parL_yes (n := n) (a := a) (d := d) hlt het.1
  have hno := parL_no (n := n) (a := a) (d := d) hlt
  have hgt := parL_get (g.es.take i) a d (n := n) (v := g.es[i].t.toNat) (by omega)
  have hpl := parL_len (g.es.take i) a d n
  have hlen : (parE (g.es.take i) a d g.es[i].t.toNat).length ≤ 1024 := by
   have h1 : (parE (g.es.take i) a d g.es[i].t.toNat).length ≤ (g.es.take i).length := by unfold parE; rw [List.length_map]; exact List.length_filter_le _ _
   have h2 : (g.es.take i).length ≤ g.es.length := List.length_take_le' _ _
   omega
  have hK1 := hK (i + 1) (by omega) (by omega)
  generalize parL (g.es.take (i + 1)) a d n = ll2 at *
  generalize parL (g.es.take i) a d n = ll at *
  have hrg := rowsI_get (ll := ll) (v := g.es[i].t.toNat) (by omega)
  rw [hgt] at hrg
  generalize parE (g.es.take i) a d g.es[i].t.toNat = row at *
  generalize g.es[i] = e at *
  have hrf := row_of encN d e.f.toNat 0 (by omega)
  have hrt := row_of encN d e.t.toNat 0 (by omega)
  have hDf := hD e.f.toNat (by omega)
  have hgf : d.getD e.f.toNat 0 = gt0 d e.f.toNat := rfl
  have hgt2 : d.getD e.t.toNat 0 = gt0 d e.t.toNat := rfl
  rw [hgf] at hrf; rw [hgt2] at hrt
  refine nK2 ?_
  refine zb ?_
  refine zz ?_
  refine zbf ?_
  refine zu ?_
  refine zr ?_
  refine zc ?_
  refine nK2 ?_
  refine s_draw mixed ?_
  refine zg ?_
  refine zh ?_
  refine za ?_
  refine zbg ?_
  refine za ?_
  refine zf ?_
  refine zn ?_
  refine zm ?_
  refine rgZ 28 rfl rfl tG (op_idx_fz e.f.toNat rfl (oO rfl tO) (oO rfl tO) (by intro _; exact ⟨by omega, hrf⟩)) ?_
  refine zw ?_
  refine zcw ?_
  refine zt ?_
  refine za ?_
  refine zf ?_
  refine zn ?_
  refine zm ?_
  refine rgZ 36 rfl rfl tG (op_idx_fz e.f.toNat rfl (oO rfl tO) (oO rfl tO) (by intro _; exact ⟨by omega, hrf⟩)) ?_
  refine zw ?_
  refine zn ?_
  refine zm ?_
  refine zbs ?_
  refine zf ?_
  refine zn ?_
  refine zm ?_
  refine rgZ 44 rfl rfl tG (op_idx_fz e.t.toNat rfl (oO rfl tO) (oO rfl tO) (by intro _; exact ⟨by omega, hrt⟩)) ?_
  refine zw ?_
  refine zbo ?_
  refine zt ?_
  refine zs ?_
  refine nK2 ?_
  refine n_cond _ rfl (fun hb => ?_) (fun hb => ?_)
  ·rw [← hyes hb] at hK1
   refine nK2 ?_
   refine Next.take 0 e.t.toNat 0 rfl (ownL_get hrg) rfl rfl ?_
   have hs1 := set_get (ownL 1 (rowsI ll)) e.t.toNat [.sl 2 1 0 (row.map encN).length] (by rw [ownL_len, rowsI_len, hpl]; omega)
   refine nK2 ?_
   refine s_draw mixed ?_
   refine za ?_
   refine zg ?_
   refine zh ?_
   refine za ?_
   refine zg ?_
   refine zh ?_
   refine rpZ 54 rfl (op_idx_sl0 e.t.toNat rfl (oT rfl) (oT rfl) (by intro _; omega)) ?_
   refine rlZ 55 rfl (op_load1_refs rfl (oT rfl) (by intro _; exact ⟨rfl, hs1⟩) rfl) ?_
   refine zg ?_
   refine zh ?_
   refine zbh ?_
   refine zco ?_
   refine rpZ 60 rfl (op_idx_sl0 e.t.toNat rfl (oT rfl) (oT rfl) (by intro _; omega)) ?_
   refine Run.effW (dd := none) rfl rfl (op_store_refs rfl (oT rfl) (oT rfl) tP rfl rfl hs1 tS) (by first | exact ext_call | exact tE) ?_
   refine zs ?_
   refine nK2 ?_
   refine zb ?_
   refine zl ?_
   refine za ?_
   refine zc ?_
   refine nK2 ?_
   refine Next.untake 0 e.t.toNat 0 rfl (set_get _ _ _ (by rw [List.length_set, ownL_len, rowsI_len, hpl]; omega)) rfl rfl (by simp) rfl ?_
   refine Next.weak [0] [] (by rfl) (keepsN hC _ rfl) wG (by exact ⟨ent_own rfl rfl (congrArg (fun r => some (Ob.refs 1 r)) (own_back.trans (congrArg _ (by rw [← rowsI_set, List.map_append]; rfl)))), trivial⟩) wN hK1
  rw [← hno (by rw [Bool.not_eq_true]; exact hb)] at hK1
  refine nK2 ?_
  refine zb ?_
  refine zl ?_
  refine za ?_
  refine zc ?_
  refine nK2 ?_
  refine Next.weak [0] [] (by rfl) (keepsN hC _ rfl) wG (by exact ⟨ent_own rfl rfl rfl, trivial⟩) wN hK1
 have hge : i = g.es.length := by simp at hb; omega
 subst hge
 rw [List.take_length]
 refine Next.freezeOwn 0 rfl rfl ?_
 refine nK2 ?_
 refine zb ?_
 refine za ?_
 refine zd ?_
 refine zc ?_
 refine nK2 ?_
 have hFl : (fzL 1 (rowsI (parL g.es a d n))).length = n := by rw [fzL_len, rowsI_len, parL_len]
 refine Next.weakS [] [6] (by rfl) (keeps0 hC _) (G' := [(6, .fz (VLL (parL g.es a d n)))]) (H' := []) ⟨⟨_, rfl, .inr ⟨_, rfl, .sl _ _ _ _ _ _ rfl rfl ((take_all0 hFl).trans (fz_rowsI _)) (by rw [← fz_rowsI, hFl])⟩⟩, trivial⟩ trivial rfl ?_
 exact n_out1 rfl (by rfl) rfl rfl
end Go.Proofs.YtcillieggklaaaaGreat
/- The kit's contract of slices.SortFunc at elements of one cell, with a closure over frozen data. -/
namespace Go.RT
open Go Go.Proofs Go.Sort Go.Shelf
set_option linter.all false
variable {P : Program} {ρ : Ren}
theorem cmp_lays1 {g : Nat} {β : Type} [Inhabited β] {ev : β → Value} {cf : β → β → Int} {caps : List FV} (hc : ∀ x y, Pure P g ([.lit (ev x), .lit (ev y)] ++ caps) (If .i64 (cf x y))) {blk off size : Nat} {w : World} {S : Nat → Prop} {cb : Array Value} (hblk : ¬ S blk) (hS : ∀ b, S b → b < w.heap.size)
    (hcl : cb.size = caps.length) (hcr : ∀ (i : Nat) (v : Value) (f : FV), cb[i]? = some v → caps[i]? = some f → FRep w S v f) {c : Array Value} {e : TypeId} (hb : w.heap[blk]? = some (.cells c e (0, 0))) : CmpLays1 P g cb ev cf blk off size w := by
  intro m os dk _ x y
  have hsame : ∀ b, S b → (sortWorld ev w blk off m dk os).heap[b]? = w.heap[b]? := fun b hs => by
    have hbl := hS b hs
    have hne : b ≠ blk := fun e => hblk (e ▸ hs)
    unfold sortWorld putRow
    rw [mapBlock_setRow (w := Go.Sort.ahead w m) (b := blk) (c := c) (e := e) (fr := (0, 0)) _ hb]
    have : (grow ((Go.Sort.ahead w m).setRow blk (putCells ev off dk c)) os) = grown (w.setRow blk (putCells ev off dk c)) os m := rfl
    rw [this, grown_old _ _ _ (by simpa using hbl), setRow_other w blk b _ hne]
  have hsz : w.heap.size ≤ (sortWorld ev w blk off m dk os).heap.size := by
    unfold sortWorld putRow
    rw [mapBlock_setRow (w := Go.Sort.ahead w m) (b := blk) (c := c) (e := e) (fr := (0, 0)) _ hb]
    have : (grow ((Go.Sort.ahead w m).setRow blk (putCells ev off dk c)) os) = grown (w.setRow blk (putCells ev off dk c)) os m := rfl
    rw [this]; simp [grown]
  generalize sortWorld ev w blk off m dk os = W at hsame hsz
  let C : Cx := ⟨W, fun _ => False, S, fun _ => none, 0⟩
  have hm : Mem C [] 0 C.S0 C.m0 C.w0 := ⟨⟨rfl, Nat.le_refl _⟩, rfl, rfl, fun _ _ => rfl, Nat.le_refl _, fun _ _ _ => rfl, Le.refl _ _ _, fun b h => .inl h, fun i x hx => (by cases hx), fun i o h => (by cases h), fun i o b h => (by cases h), fun i j o1 o2 b h => (by cases h), fun b hb => Nat.lt_of_lt_of_le (hS b hb) hsz, fun _ _ => rfl, nst_nil⟩
  have := (hc x y).run C ([ev x, ev y] ++ cb.toList) rfl hm (by simp [hcl]) (fun i v p hi hp => by
    rw [List.getElem?_map] at hp
    obtain ⟨f, hf, rfl⟩ := Option.map_eq_some_iff.1 hp
    match i with
    | 0 => simp at hi hf; subst hi; subst hf; exact .fz _ _ (.lit _)
    | 1 => simp at hi hf; subst hi; subst hf; exact .fz _ _ (.lit _)
    | i + 2 =>
      simp at hi hf
      exact .fz _ _ ((hcr i v f hi hf).mono (fun _ h => h) hsame))
  have h2 : Calls P g (#[ev x, ev y] ++ cb) W (fun e w' => ∃ v S' m', e = .returned v ∧ Mem C [] 0 S' m' w' ∧ Rep w' S' m' v (.fz (If .i64 (cf x y)))) := by
    have e1 : ([ev x, ev y] ++ cb.toList).toArray = #[ev x, ev y] ++ cb := by simp
    rw [e1] at this; exact this
  refine h2.mono fun e w' ⟨v, S', m', he, hm', hr⟩ => ?_
  obtain ⟨q, os', hw⟩ := hm'.is_grown (fun b h => h)
  refine ⟨by rw [he]; cases hr with | fz _ _ h => cases h; rfl, q, os', hw⟩
theorem sort1_meets (L : SlLaysF.n6 P ρ) {β : Type} [Inhabited β] {ev : β → Value} (h1 : OneCell ev) {cf : β → β → Int} (hO : SWO (ltOf cf)) {g : Nat} [FnB P g] {caps : List FV}
    (hc : ∀ x y, Pure P g ([.lit (ev x), .lit (ev y)] ++ caps) (If .i64 (cf x y))) {l : List β} (hl : l.length < 4611686018427387904) :
    Meets P (ρ.f 6) [.sl 0 1 0 l.length, .fz (.clo g caps)] 1 [(0, some (.flat 1 (l.map fun x => [.lit (ev x)])))] (.fz (.tup [])) [(0, some (.flat 1 ((sortBy cf l).map fun x => [.lit (ev x)])))] 1 := by
  refine ⟨fun C vs hn hm hlv hr => ?_⟩
  have hg : ∀ args w, (callFunc g args).run P w = .ok (.enter g args) w := fun args w => by
    obtain ⟨fn, q1, q2, q3⟩ := (inferInstance : FnB P g).h
    have h4 : ¬ (fn.body = none) := by intro e; rw [e] at q3; cases q3
    have h5 : ¬ (fn.name = "runtime.NumGoroutine") := by simpa using q2
    simp [callFunc, q1, h4, h5]
  have tupR : ∀ w' S' m', Rep w' S' m' (.tuple #[]) (.fz (.tup [])) := fun w' S' m' => .fz _ _ (.tup #[] [] rfl (fun i c f hc => by simp at hc))
  match vs, hlv, hr with
  | [v0, v1], _, hr =>
  have r0 := hr 0 v0 _ rfl rfl
  have r1 := (hr 1 v1 _ rfl rfl).frz
  have ho := hm.objs 0 _ rfl
  obtain ⟨hs1, hs2, _⟩ := sortBy_spec cf hO l
  cases r1 with
  | clo _ cb _ hcl hcr =>
  generalize hll : l.length = n at r0 hl
  cases r0 with
  | sl0 =>
    have : l = [] := List.length_eq_zero_iff.1 hll
    subst this
    have e : sortBy cf ([] : List β) = [] := List.length_eq_zero_iff.1 hs2
    rw [e]
    refine (AnyF.slices_SortFunc_none (P := P) (ρ := ρ) { L with } none 0 (.func (.func g) #[] cb) C.w0).mono fun e w' ⟨he, hw⟩ => ?_
    subst hw
    exact ⟨_, _, _, he, hm, tupR _ _ _⟩
  | sl _ _ _ _ b cap h hroom hcap hmx =>
    rcases ho with ⟨h2, _⟩ | ⟨b', c, e, h2, h3, h4⟩
    · rw [h] at h2; cases h2
    · rw [h] at h2; cases h2
      obtain ⟨hsz, _, hR⟩ := h4
      obtain ⟨hb1, hb2, hb3⟩ := hm.blk 0 _ b rfl h
      have hcells : ∀ j (hj : j < l.length), c[j]? = some (ev l[j]) := fun j hj => by
        obtain ⟨u, hu, _, hf⟩ := hR j 0 [.lit (ev l[j])] (.lit (ev l[j])) (by simp [hj]) rfl
        cases hf
        simpa using hu
      have hH : Holds ev C.w0 b (0 * 1) l.toArray := by
        intro j hj
        simp at hj
        refine ⟨?_, ?_⟩
        · simp only [World.cell?, h3, Nat.zero_mul, Nat.zero_add]
          rw [getElem!_pos _ j (by simpa using hj)]
          simpa using hcells j hj
        · simp [World.frozen?, h3]
      have hcall := Any.slices_SortFunc_eq L ev h1 cf hO g cb b (0 * 1) cap l.toArray C.w0 hg (cmp_lays1 hc hb1 hm.stab hcl hcr h3) hH hb2 (by simpa [hll] using hl)
      rw [show l.toArray.size = n by simpa using hll] at hcall
      refine hcall.mono fun ex w' ⟨he, q, os, hw⟩ => ?_
      subst hw
      have hd : pdq (ltOf cf) l.toArray 0 n (Lib.bitLen n) true true = (sortBy cf l).toArray := by rw [← hll]; simp [sortBy]
      rw [hd]
      have hset : sortWorld ev C.w0 b (0 * 1) q (sortBy cf l).toArray os = grown (C.w0.setRow b (putCells ev 0 (sortBy cf l).toArray c)) os q := by
        unfold sortWorld putRow
        rw [mapBlock_setRow (w := Go.Sort.ahead C.w0 q) (b := b) (c := c) (e := e) (fr := (0, 0)) _ h3, Nat.zero_mul]
        rfl
      rw [hset]
      have hps : (putCells ev 0 (sortBy cf l).toArray c).size = c.size := by simp [putCells]
      have hrr : ∀ w' : World, RowsRep (FRep w' C.S0) (putCells ev 0 (sortBy cf l).toArray c) 1 ((sortBy cf l).map fun x => [FV.lit (ev x)]) := fun w' => by
        refine ⟨by rw [hps]; simpa [hs2] using hsz, fun r hr => ?_, fun i j r p hi hj => ?_⟩
        · obtain ⟨x, _, rfl⟩ := List.mem_map.1 hr
          rfl
        · rw [List.getElem?_map] at hi
          obtain ⟨x, hx, rfl⟩ := Option.map_eq_some_iff.1 hi
          have hin : i < (sortBy cf l).length := (List.getElem?_eq_some_iff.1 hx).1
          match j, hj with
          | 0, hj =>
            cases hj
            have hlt2 : i < c.size := by simp at hsz; omega
            refine ⟨ev x, ?_, h1 x, .lit _⟩
            unfold putCells
            rw [Nat.mul_one, Nat.add_zero, Array.getElem?_mapIdx, Array.getElem?_eq_getElem hlt2]
            simp only [Option.map_some, Nat.zero_le, true_and, Nat.zero_add, List.size_toArray, Nat.sub_zero]
            rw [if_pos hin, getElem!_pos _ i (by simpa using hin)]
            rw [List.getElem?_eq_getElem hin] at hx
            cases hx; simp
          | j + 1, hj => simp at hj
      obtain ⟨m1, hle1⟩ := hm.write (id := 0) (o' := .flat 1 ((sortBy cf l).map fun x => [.lit (ev x)])) rfl h h3 hps (plain_hown (by exact trivial)) (fun w' hle hb => .inr ⟨b, _, e, h, hb, hrr w'⟩)
      refine ⟨_, _, _, he, ((m1.reheap (H' := [(0, some (.flat 1 ((sortBy cf l).map fun x => [.lit (ev x)])))]) (fun id => ?_)).grow os q).1, tupR _ _ _⟩
      simp only [hlook]
      cases Nat.beq 0 id <;> rfl
end Go.RT
namespace Go.Proofs.YtcillieggklaaaaGreat
open Go Go.RT Go.Proofs Go.Pl
set_option linter.all false
set_option maxRecDepth 20000
set_option maxHeartbeats 2000000
instance : FnOv Tryz.prog 114 25   := ⟨_, 4, Tryz.func114, by decide +kernel, rfl, by kernel_rfl, by kernel_rfl⟩
theorem inserti_c (l : List Int) (x : Int) (i : Nat) (hn : l.length ≤ 2000000) (hi : i ≤ l.length) : Meets Tryz.prog 93 [.sl 0 1 0 l.length, IV .i64 i, .sl 1 1 0 1] 2 [(0, OI l), (1, OI [x])] (.sl 2 1 0 (l.length + 1)) [(2, OI (insL l i x))] 3 := by
 have hil := insL_len l i x hi
 have e0 : ∀ xs ys : List Int, List.map encN (xs ++ ys) = xs.map encN ++ ys.map encN := fun xs ys => List.map_append
 refine Meets.intro Tryz.func93 rfl (Nat.le_of_ble_eq_true rfl) fun C hC => ?_
 simp only [List.map, argEnv, Nat.reduceAdd]
 by_cases hie : i = l.length
 ·refine nK ?_
  refine zb ?_
  refine ze ?_
  refine zc ?_
  refine nK ?_
  refine zb ?_
  refine za ?_
  refine za ?_
  refine rlZ 12 rfl (op_slice_end (l := i) (h := l.length) rfl (oT rfl) (Bnd.yes _ _ _ _ _ (oT rfl) tQ) (Bnd.no _) (by intro _; refine ⟨rfl, ?_⟩; rw [List.length_map]; omega)) ?_
  refine zc ?_
  refine nK ?_
  refine zb ?_
  refine za ?_
  refine zbi ?_
  refine zd ?_
  refine zc ?_
  refine nK ?_
  refine zb ?_
  refine za ?_
  refine zci ?_
  refine zc ?_
  refine nK ?_
  refine n_cond _ rfl (fun hb => ?_) (fun hb => ?_)
  ·simp at hb
  refine nK ?_
  refine zb ?_
  refine za ?_
  refine zbi ?_
  refine zd ?_
  refine zc ?_
  refine nK ?_
  refine zb ?_
  refine za ?_
  refine za ?_
  refine zbr ?_
  refine zc ?_
  refine nK ?_
  refine n_cond _ rfl (fun hb => ?_) (fun hb => ?_)
  ·have e4 : insL l i x = l ++ [x] := by rw [hie]; simp [insL]
   refine nK ?_
   refine zb ?_
   refine za ?_
   refine za ?_
   refine zdi ?_
   refine zd ?_
   refine zc ?_
   refine nK ?_
   refine Next.weakS [0, 2, 6] [] (by rfl) (keepsN hC _ rfl) (G' := [(6, .sl 2 1 0 (l.length + 1))]) (H' := [(2, OI (insL l i x))]) (by exact ⟨⟨_, rfl, .inl ⟨rfl, rfl⟩⟩, trivial⟩) (by exact ⟨ent_same rfl rfl (by rw [e4, e0]; rfl) trivial, trivial⟩) rfl ?_
   exact n_out1 rfl (by rfl) rfl rfl
  exfalso; simp at hb; omega
 refine nK ?_
 refine zb ?_
 refine ze ?_
 refine zc ?_
 refine nK ?_
 refine zb ?_
 refine za ?_
 refine za ?_
 refine rlZ 12 rfl (op_slice_view (l := i) (h := l.length) rfl (oT rfl) (Bnd.yes _ _ _ _ _ (oT rfl) tQ) (Bnd.no _) (by intro _; refine ⟨rfl, ?_⟩; rw [List.length_map]; omega)) ?_
 refine zc ?_
 refine nK ?_
 refine zb ?_
 refine za ?_
 refine zbi ?_
 refine zd ?_
 refine zc ?_
 refine nK ?_
 refine zb ?_
 refine za ?_
 refine zci ?_
 refine zc ?_
 refine nK ?_
 refine n_cond _ rfl (fun hb => ?_) (fun hb => ?_)
 ·simp at hb
 refine nK ?_
 refine zb ?_
 refine za ?_
 refine zbi ?_
 refine zd ?_
 refine zc ?_
 refine nK ?_
 refine zb ?_
 refine za ?_
 refine za ?_
 refine zbr ?_
 refine zc ?_
 refine nK ?_
 refine n_cond _ rfl (fun hb => ?_) (fun hb => ?_)
 ·exfalso; simp at hb; omega
 refine Next.capE 0 rfl rfl rfl (Nat.zero_le _) fun cap hc1 hc2 hc3 => ?_
 unfold maxLen at hc3
 refine nK ?_
 refine zb ?_
 refine za ?_
 refine za ?_
 refine zbc ?_
 refine za ?_
 refine rpZ 30 rfl (op_cap rfl (oT rfl)) ?_
 refine zcn ?_
 refine zc ?_
 refine nK ?_
 refine n_cond _ rfl (fun hb => ?_) (fun hb => ?_)
 ·have hc4 : cap < l.length + 1 := by simp at hb; omega
  have hlen2 : ((l.map encN).take i ++ List.replicate (l.length + 1 - i) (encN 0)).length = l.length + 1 := by simp; omega
  refine nK ?_
  refine zb ?_
  refine za ?_
  refine za ?_
  refine rpZ 34 rfl (op_slice_room (h := i) rfl (oT rfl) (Bnd.yes _ _ _ _ _ (oT rfl) tQ) (by intro _; omega)) ?_
  refine za ?_
  refine za ?_
  refine zbc ?_
  refine za ?_
  refine zbw ?_
  refine Run.eff (dd := some 40) rfl rfl (op_append_zg (k := l.length + 1 - i) (zs := encN 0) rfl (oT rfl) (opdI (oT rfl) (by omega)) rfl rfl rfl rfl rfl (by rw [List.length_map]; omega) (by omega) (by omega) (by omega) (by omega)) ?_
  refine zd ?_
  refine zc ?_
  refine nK ?_
  have hz : ∀ k : Nat, (some (Ob.flat 1 ((l.map encN).take i ++ List.replicate k [If .i64 0]))) = some (.flat 1 ((l.map encN).take i ++ List.replicate k (encN 0))) := fun _ => rfl
  refine nK ?_
  refine zb ?_
  refine za ?_
  refine za ?_
  refine rlZ 43 rfl (op_slice_view (l := i) (h := i + (l.length + 1 - i)) rfl (oT rfl) (Bnd.yes _ _ _ _ _ (oT rfl) tQ) (Bnd.no _) (by intro _; refine ⟨rfl, ?_⟩; rw [hlen2]; omega)) ?_
  refine za ?_
  refine Run.eff (dd := some 45) rfl rfl (op_copy (n := 1) (rs := [x].map encN) rfl (oT rfl) (oT rfl) rfl rfl (by show min _ _ = _; omega) rfl rfl (by rw [hlen2]; omega)) ?_
  refine zc ?_
  refine nK ?_
  have hlen3 : (((l.map encN).take i ++ List.replicate (l.length + 1 - i) (encN 0)).take (0 + i) ++ [x].map encN ++ ((l.map encN).take i ++ List.replicate (l.length + 1 - i) (encN 0)).drop (0 + i + 1)).length = l.length + 1 := by simp; omega
  refine nK ?_
  refine s_draw mixed ?_
  refine za ?_
  refine za ?_
  refine za ?_
  refine zbc ?_
  refine rlZ 50 rfl (op_slice_view (l := i + 1) (h := i + (l.length + 1 - i)) rfl (oT rfl) (Bnd.yes _ _ _ _ _ (oT rfl) tQ) (Bnd.no _) (by intro _; refine ⟨rfl, ?_⟩; rw [hlen3]; omega)) ?_
  refine za ?_
  refine za ?_
  refine rlZ 53 rfl (op_slice_view (l := i) (h := l.length) rfl (Opd.wc _ _ _ (oT rfl)) (Bnd.yes _ _ _ _ _ (oT rfl) tQ) (Bnd.no _) (by intro _; refine ⟨rfl, ?_⟩; rw [List.length_map]; omega)) ?_
  refine Run.effW (dd := some 54) rfl rfl (op_copy (n := l.length - i) (rs := (l.map encN).drop i) rfl (oT rfl) (oT rfl) rfl rfl (by show min _ _ = _; omega) (by rw [Nat.zero_add, List.take_of_length_le (by simp)]) (by simp) (by rw [hlen3]; omega)) tE ?_
  refine zs ?_
  refine nK ?_
  have hgr := ins_grow (l.map encN) i (encN x) (encN 0) (by rw [List.length_map]; omega)
  rw [List.length_map, ← insL_map] at hgr
  refine nK ?_
  refine zb ?_
  refine za ?_
  refine zd ?_
  refine zc ?_
  refine nK ?_
  refine Next.weakS [0, 2, 6] [] (by rfl) (keepsN hC _ rfl) (G' := [(6, .sl 2 1 0 (l.length + 1))]) (H' := [(2, OI (insL l i x))]) (by exact ⟨⟨_, rfl, .inl ⟨slEq rfl (by omega), rfl⟩⟩, trivial⟩) (by exact ⟨ent_same rfl rfl (by rw [← hgr]; simp only [Nat.zero_add]; rfl) trivial, trivial⟩) rfl ?_
  exact n_out1 rfl (by rfl) rfl rfl
 have hc4 : l.length + 1 ≤ cap := by simp at hb; omega
 refine nK ?_
 refine zb ?_
 refine za ?_
 refine za ?_
 refine za ?_
 refine zbc ?_
 refine rpZ 60 rfl (op_slice_room (h := l.length + 1) rfl (oT rfl) (Bnd.yes _ _ _ _ _ (oT rfl) (by intro _; simp)) (by intro _; omega)) ?_
 refine zd ?_
 refine zc ?_
 refine nK ?_
 refine nK ?_
 refine zb ?_
 refine za ?_
 refine za ?_
 refine za ?_
 refine za ?_
 refine zbc ?_
 refine rpZ 66 rfl (op_slice_fromR (l := i + 1) rfl (oT rfl) (Bnd.yes _ _ _ _ _ (oT rfl) tQ) (by intro _; omega)) ?_
 refine rlZ 67 rfl (op_overlaps rfl (oT rfl) (oT rfl) rfl rfl rfl (by rw [List.length_map]; omega) rfl) ?_
 refine zbj ?_
 refine zc ?_
 refine nK ?_
 refine n_cond _ rfl (fun hb => ?_) (fun hb => ?_)
 ·refine nK ?_
  refine s_draw mixed ?_
  refine za ?_
  refine za ?_
  refine za ?_
  refine zbc ?_
  refine rpZ 73 rfl (op_slice_fromR (l := i + 1) rfl (oT rfl) (Bnd.yes _ _ _ _ _ (oT rfl) tQ) (by intro _; omega)) ?_
  refine za ?_
  refine za ?_
  refine rpZ 76 rfl (op_slice_fromR (l := i) rfl (oT rfl) (Bnd.yes _ _ _ _ _ (oT rfl) tQ) (by intro _; omega)) ?_
  refine Run.effW (dd := some 77) rfl rfl (op_copy (n := l.length - i) (rs := (l.map encN).drop i) rfl (oT rfl) (oT rfl) rfl rfl (by show min _ _ = _; omega) (by rw [Nat.zero_add, List.take_of_length_le (by simp)]) (by simp) (by rw [List.length_map]; omega)) tE ?_
  refine zs ?_
  refine nK ?_
  have hl5 : ((l.map encN).take (0 + (i + 1)) ++ (l.map encN).drop i ++ (l.map encN).drop (0 + (i + 1) + (l.length - i))).length = l.length + 1 := by simp; omega
  have hgr := ins_room (l.map encN) i (encN x) (by rw [List.length_map]; omega)
  rw [List.length_map, ← insL_map] at hgr
  refine nK ?_
  refine zb ?_
  refine za ?_
  refine za ?_
  refine rlZ 80 rfl (op_slice_view (l := i) (h := l.length + 1) rfl (Opd.wc _ _ _ (oT rfl)) (Bnd.yes _ _ _ _ _ (oT rfl) tQ) (Bnd.no _) (by intro _; refine ⟨rfl, ?_⟩; rw [hl5]; omega)) ?_
  refine za ?_
  refine Run.eff (dd := some 82) rfl rfl (op_copy (n := 1) (rs := [x].map encN) rfl (oT rfl) (oT rfl) rfl rfl (by show min _ _ = _; omega) rfl rfl (by rw [hl5]; omega)) ?_
  refine zc ?_
  refine nK ?_
  refine zb ?_
  refine za ?_
  refine zd ?_
  refine zc ?_
  refine nK ?_
  refine Next.unwc 6 rfl ?_
  refine Next.retag 6 rfl rfl ?_
  refine Next.weakS [0, 2, 6] [] (by rfl) (keepsN hC _ rfl) (G' := [(6, .sl 2 1 0 (l.length + 1))]) (H' := [(2, OI (insL l i x))]) (by exact ⟨⟨_, rfl, .inl ⟨rfl, rfl⟩⟩, trivial⟩) (by exact ⟨ent_same rfl rfl (by rw [← hgr]; simp only [Nat.zero_add]; rfl) trivial, trivial⟩) rfl ?_
  exact n_out1 rfl (by rfl) rfl rfl
 exfalso; simp at hb
open Go Go.RT Go.Proofs Go.Pl
set_option maxRecDepth 20000
set_option maxHeartbeats 2000000
theorem wHX14a {α : Prop} (h : α := by repeat (first | exact trivial | refine ⟨⟨_, rfl, .inl ⟨rfl, rfl⟩⟩, ?_⟩)) : α := h
theorem wHX14b {α : Prop} (h : α := by repeat (first | exact trivial | refine ⟨wS, ?_⟩ | refine ⟨ent_same rfl rfl (rfEq rfl tU) tL, ?_⟩ | refine ⟨ent_same rfl rfl (flEq rfl (by first | (simp; done) | (simp; omega) | (simp [encE, encN, encB, encT, encL]; done) | simp [maxC, minC])) trivial, ?_⟩)) : α := h
theorem snan_c (a : Int) : Pure Tryz.prog 113 [If .i64 a] (Bf false) := by
 refine Meets.intro Tryz.func113 rfl (Nat.le_of_ble_eq_true rfl) fun C hC => ?_
 simp only [List.map, argEnv, Nat.reduceAdd]
 refine nK ?_
 refine zb ?_
 refine ze ?_
 refine zc ?_
 refine nK ?_
 refine zb ?_
 refine za ?_
 refine za ?_
 refine zbg ?_
 refine zd ?_
 refine zc ?_
 refine nK ?_
 refine Next.weakS [] [] (by rfl) (keeps0 hC _) (G' := [(2, BV false)]) (H' := []) ⟨⟨_, rfl, .inl ⟨by simp [renP], rfl⟩⟩, trivial⟩ trivial rfl ?_
 exact wO hC
theorem cless_c (a b : Int) : Pure Tryz.prog 107 [If .i64 a, If .i64 b] (Bf (decide (a < b))) := by
 refine Meets.intro Tryz.func107 rfl (Nat.le_of_ble_eq_true rfl) fun C hC => ?_
 simp only [List.map, argEnv, Nat.reduceAdd]
 refine nK ?_
 refine zb ?_
 refine ze ?_
 refine zc ?_
 refine nK ?_
 refine zb ?_
 refine za ?_
 refine rpZ 6 rfl (op_call_pure (fun _ => nan_c _) rfl (Opd.func _) (oS (oT rfl) Opds.nil)) ?_
 refine za ?_
 refine zf ?_
 refine rgZ 9 rfl rfl tG (op_call_pure (fun _ => nan_c _) rfl (Opd.func _) (oS (oO rfl tO) Opds.nil)) ?_
 refine zbl ?_
 refine zt ?_
 refine za ?_
 refine zf ?_
 refine zf ?_
 refine zbk ?_
 refine zv ?_
 refine zd ?_
 refine zc ?_
 refine nK ?_
 exact wO hC
theorem bsearchi_c (l : List Int) (x : Int) (hn : l.length ≤ 2000000) : Pure Tryz.prog 92 [VI l, If .i64 x] (.tup [If .i64 (bsGo (fun e => decide (e < x)) l 0 l.length : Nat), Bf (hitAt (fun e => decide (e = x)) l (bsGo (fun e => decide (e < x)) l 0 l.length))]) := by
 refine Meets.intro Tryz.func92 rfl (Nat.le_of_ble_eq_true rfl) fun C hC => ?_
 simp only [List.map, argEnv, Nat.reduceAdd]
 refine nK ?_
 refine zb ?_
 refine ze ?_
 refine ze ?_
 refine zc ?_
 refine nK ?_
 refine zb ?_
 refine za ?_
 refine zo ?_
 refine zd ?_
 refine zc ?_
 refine nK ?_
 refine zb ?_
 refine za ?_
 refine ze ?_
 refine zd ?_
 refine zc ?_
 refine nK ?_
 refine n_loop (ι := Nat × Nat) (fun g => ([(0, .fz (VI l)), (1, IV .i64 x), (6, IV .i64 l.length), (7, IV .i64 g.1), (8, IV .i64 g.2)], [], 0)) (fun g => g.1 ≤ g.2 ∧ g.2 ≤ l.length ∧ bsGo (fun e => decide (e < x)) l g.1 g.2 = bsGo (fun e => decide (e < x)) l 0 l.length) (fun g => g.2 - g.1) (0, l.length) ⟨Nat.zero_le _, Nat.le_refl _, rfl⟩ ?_ ?_
 ·refine Next.weak [] [] (by rfl) (keeps0 hC _) wHX14a wHX14b wN rel_intro
 intro ⟨i, j⟩ ⟨hi, hj, ho⟩ K hK
 dsimp only at hi hj ho ⊢
 refine nK ?_
 refine zb ?_
 refine za ?_
 refine za ?_
 refine zp ?_
 refine zc ?_
 refine nK ?_
 refine n_cond _ rfl (fun hb => ?_) (fun hb => ?_)
 ·have hlt : i < j := by simp at hb; omega
  have hm : (i + j) / 2 < l.length := by omega
  have hr1 := row_at' encN l ((i + j) / 2) hm
  have hst := bsGo_step (fun e => decide (e < x)) l i j hlt hj
  rw [ho] at hst
  have hKl := fun h => hK (((i + j) / 2) + 1, j) ⟨by dsimp only; omega, by dsimp only; omega, h⟩ (by dsimp only; omega)
  have hKr := fun h => hK (i, (i + j) / 2) ⟨by dsimp only; omega, by dsimp only; omega, h⟩ (by dsimp only; omega)
  generalize l[(i + j) / 2] = e at *
  refine nK ?_
  refine zb ?_
  refine za ?_
  refine za ?_
  refine zbc ?_
  refine zca ?_
  refine rpZ 20 rfl (op_shr (n := 1) rfl (oT rfl) oC (by intro _; simp only [IntKind.bits]; omega)) ?_
  refine zca ?_
  refine zd ?_
  refine zc ?_
  refine nK ?_
  refine zb ?_
  refine za ?_
  refine za ?_
  refine rpZ 24 rfl (op_idx_fz ((i + j) / 2) rfl (oT rfl) (oT rfl) (by intro _; exact ⟨by omega, hr1⟩)) ?_
  refine zj ?_
  refine za ?_
  refine rpZ 27 rfl (op_call_pure (fun _ => cless_c _ _) rfl (Opd.func _) (oS (oT rfl) (oS (oT rfl) Opds.nil))) ?_
  refine zc ?_
  refine nK ?_
  refine n_cond _ rfl (fun hb => ?_) (fun hb => ?_)
  ·simp only [hb, cond_true] at hst
   refine nK ?_
   refine zb ?_
   refine za ?_
   refine zl ?_
   refine zd ?_
   refine zc ?_
   refine nK ?_
   refine Next.weak [] [] (by rfl) (keeps0 hC _) wHX14a wHX14b wN (hKl hst.symm)
  simp only [hb, cond_false] at hst
  refine nK ?_
  refine zb ?_
  refine za ?_
  refine zd ?_
  refine zc ?_
  refine nK ?_
  refine Next.weak [] [] (by rfl) (keeps0 hC _) wHX14a wHX14b wN (hKr hst.symm)
 have hie : i = j := by simp at hb; omega
 rw [hie, bsGo_end] at ho
 rw [← ho]
 rw [hie] at hi ⊢
 obtain ⟨q, hq, hh⟩ := hitAt_eq l j (fun e => decide (e = x))
 rw [hh]
 have hr : j < l.length → (l.map encN)[j]? = some (encN q) := fun h => by rw [List.getElem?_map, hq h]; rfl
 refine nK ?_
 refine zb ?_
 refine za ?_
 refine za ?_
 refine za ?_
 refine zp ?_
 refine za ?_
 refine zf ?_
 refine zf ?_
 refine rgZ 38 rfl rfl tG (op_idx_fz j rfl (oO rfl tO) (oO rfl tO) (by intro hg; exact ⟨rfl, hr (by simp at hg; omega)⟩)) ?_
 refine zw ?_
 refine zf ?_
 refine zbo ?_
 refine zbp ?_
 refine zf ?_
 refine zf ?_
 refine rgZ 45 rfl rfl tG (op_idx_fz j rfl (oO rfl tO) (oO rfl tO) (by intro hg; exact ⟨rfl, hr (by simp at hg; omega)⟩)) ?_
 refine zw ?_
 refine rgZ 47 rfl rfl tG (op_call_pure (fun _ => snan_c _) rfl (Opd.func _) (oS (oO rfl tO) Opds.nil)) ?_
 refine zbp ?_
 refine zf ?_
 refine rgZ 50 rfl rfl tG (op_call_pure (fun _ => snan_c _) rfl (Opd.func _) (oS (oO rfl tO) Opds.nil)) ?_
 refine zcf ?_
 refine zcd ?_
 refine zt ?_
 refine zd ?_
 refine zd ?_
 refine zc ?_
 refine nK ?_
 refine Next.weakS [] [] (by rfl) (keeps0 hC _) (G' := [(4, IV .i64 j), (5, BV (decide ((j : Int) < (l.length : Int)) && decide (q = x)))]) (H' := []) ⟨⟨_, rfl, .inl ⟨rfl, rfl⟩⟩, ⟨_, rfl, .inl ⟨by simp [renP], rfl⟩⟩, trivial⟩ trivial rfl ?_
 exact wO hC
open Go Go.RT Go.Proofs Go.Pl
set_option maxRecDepth 20000
set_option maxHeartbeats 2000000
theorem hcmp_c (d : List Int) (x y : Nat) (hx : x < d.length) (hy : y < d.length) : Pure Tryz.prog 90 [If .i64 x, If .i64 y, .cellp [VI d]] (If .i64 (ordH d x y)) := by
 have rx := row_of encN d x 0 hx
 have ry := row_of encN d y 0 hy
 have hgx : d.getD x 0 = gt0 d x := rfl
 have hgy : d.getD y 0 = gt0 d y := rfl
 rw [hgx] at rx; rw [hgy] at ry
 unfold ordH
 refine Meets.intro Tryz.func90 rfl (Nat.le_of_ble_eq_true rfl) fun C hC => ?_
 simp only [List.map, argEnv, Nat.reduceAdd]
 refine nK ?_
 refine zb ?_
 refine ze ?_
 refine zc ?_
 refine nK ?_
 refine s_draw mixed ?_
 refine zj ?_
 refine za ?_
 refine rpZ 8 rfl (op_idx_fz x rfl (oT rfl) (oT rfl) (by intro _; exact ⟨rfl, rx⟩)) ?_
 refine zj ?_
 refine zj ?_
 refine za ?_
 refine rpZ 12 rfl (op_idx_fz y rfl (oT rfl) (oT rfl) (by intro _; exact ⟨rfl, ry⟩)) ?_
 refine zj ?_
 refine rpZ 14 rfl (op_call_pure (fun _ => cmp_c _ _) rfl (Opd.func _) (oS (oT rfl) (oS (oT rfl) Opds.nil))) ?_
 refine za ?_
 refine za ?_
 refine rpZ 17 rfl (op_call_pure (fun _ => cmp_c _ _) rfl (Opd.func _) (oS (oT rfl) (oS (oT rfl) Opds.nil))) ?_
 refine zcs ?_
 refine rpZ 19 rfl (op_call_pure (fun _ => or_c [_, _] (by simp)) rfl (Opd.func _) (oS (oT rfl) Opds.nil)) ?_
 refine zd ?_
 refine zs ?_
 refine nK ?_
 exact wO hC
theorem swo_h (d : List Int) (n : Nat) : Go.Sort.SWO (ltOf fun x y : Fin n => ordH d x y) := by
 have e : ∀ x y : Fin n, ltOf (fun x y : Fin n => ordH d x y) x y = decide (gt0 d x < gt0 d y ∨ gt0 d x = gt0 d y ∧ y.val < x.val) := fun x y => by
  unfold ltOf; rw [Bool.eq_iff_iff]; simp [ordH_neg]
 refine ⟨fun x => ?_, fun x y z h1 h2 => ?_, fun x y z h1 h2 => ?_⟩
 ·rw [e]; simp
 ·rw [e] at *; simp only [decide_eq_true_eq] at *; omega
 rw [e] at *; simp only [decide_eq_false_iff_not] at *; omega
theorem sorth_c (d : List Int) (l l2 : List Nat) (hd : 0 < d.length) (hl : ∀ v ∈ l, v < d.length) (hm : l.length ≤ 2000000) (hp : l2.Perm l) (hs : l2.Pairwise (ltHd d)) : Meets Tryz.prog 89 [.sl 0 1 0 l.length, .fz (.clo 90 [.cellp [VI d]])] 1 [(0, OT l)] (.fz (.tup [])) [(0, OT l2)] 1 := by
 haveI : Inhabited (Fin d.length) := ⟨⟨0, hd⟩⟩
 have hl' : ∀ v ∈ l, v < d.length := hl
 let lf : List (Fin d.length) := l.pmap (fun v h => ⟨v, h⟩) hl'
 have hlf : lf.map (fun x => x.val) = l := by simp [lf, List.map_pmap]
 have hll : lf.length = l.length := by simp [lf]
 obtain ⟨s1, s2, s3⟩ := sortBy_spec (fun x y : Fin d.length => ordH d x y) (swo_h d d.length) lf
 have hr : (sortBy (fun x y : Fin d.length => ordH d x y) lf).map (fun x => x.val) = l2 := by
  refine perm_sorted_eq (le := fun x y => ¬ ltHd d y x) (fun a b h1 h2 => by unfold ltHd at *; omega) _ _ ?_ ?_ ?_
  ·exact ((s1.map _).trans (by rw [hlf])).trans hp.symm
  ·rw [List.pairwise_map, List.pairwise_iff_getElem]
   intro i j hi hj hij h
   exact s3 i j _ _ hij (List.getElem?_eq_getElem hi) (List.getElem?_eq_getElem hj) ((ordH_neg _ _ _).2 h)
  exact hs.imp fun h1 h2 => by unfold ltHd at *; omega
 have := sort1_meets (ρ := Tryz.sortFI_ren) Tryz.sortFI (ev := fun x : Fin d.length => .int .i64 (x.val : Int)) (fun x => rfl) (swo_h d d.length) (g := 90) (caps := [.cellp [VI d]]) (fun x y => hcmp_c d x y x.isLt y.isLt) (l := lf) (by omega)
 rw [hll] at this
 have e1 : ∀ q : List (Fin d.length), q.map (fun x => [FV.lit (.int .i64 (x.val : Int))]) = (q.map (fun x => x.val)).map encT := fun q => by rw [List.map_map]; rfl
 rw [e1, e1, hlf, hr] at this
 exact this
open Go Go.RT Go.Proofs Go.Pl
set_option maxRecDepth 20000
set_option maxHeartbeats 2000000
theorem merge_c (g : Gr) (u v n k0 : Nat) (ru : List Int) (ll : List (List Int)) (h : Int) (huv : u ≠ v) (hll : ll.length = n) (hv : v < n) (hn : n ≤ 128) (hrow : (ll.getD v []).length ≤ 2000) : Meets Tryz.prog 91 [IV .i64 h, .fz (.cellp (encG g)), .fz (.cellp [If .i64 v]), .ptr 0 1 0 0] 3 [(0, some (.refs 1 [[.sl 1 1 0 n]])), (1, some (.refs 1 (tkL (rowsI ll) u k0))), (2, OI ru)] (.fz (.tup [])) [(0, some (.refs 1 [[.sl 1 1 0 n]])), (1, some (.refs 1 (tkL (rowsI (mergeL g.r v ll h)) u k0))), (2, OI ru)] 3 := by
 have hrg := rowsI_get (ll := ll) (v := v) (by omega)
 unfold mergeL capV rowAt'
 generalize ll.getD v [] = row at *
 refine Meets.intro Tryz.func91 rfl (Nat.le_of_ble_eq_true rfl) fun C hC => ?_
 simp only [List.map, argEnv, Nat.reduceAdd]
 refine Next.take 1 v 0 rfl (tk_get huv hrg) rfl rfl ?_
 have hs1 := set_get (tkL (rowsI ll) u k0) v [.sl 3 1 0 (row.map encN).length] (by rw [tk_len, rowsI_len]; omega)
 refine nK ?_
 refine zb ?_
 refine za ?_
 refine zx ?_
 refine zj ?_
 refine zcj ?_
 refine zc ?_
 refine nK ?_
 refine n_cond _ rfl (fun hb => ?_) (fun hb => ?_)
 ·have hq0 : g.r ≤ h := by simpa using hb
  rw [if_pos hq0]
  refine nK ?_
  refine zb ?_
  refine zj ?_
  refine zd ?_
  refine zc ?_
  refine nK ?_
  generalize hqe : (v : Int) = hq at *
  have hbs := bsearchi_c row hq (by omega)
  have hble := bsI_le row hq
  have hiu : insU row hq = if hitI row hq = true then row else insL row (bsI row hq) hq := rfl
  change Pure Tryz.prog 92 [VI row, If .i64 hq] (.tup [If .i64 (bsI row hq : Nat), Bf (hitI row hq)]) at hbs
  rw [hiu]
  generalize bsI row hq = k at *
  generalize hitI row hq = hit at *
  refine nK ?_
  refine zb ?_
  refine zy ?_
  refine zj ?_
  refine rpZ 15 rfl (op_idx_sl0 v rfl (oT rfl) (oT rfl) (by intro _; exact ⟨by omega, by omega⟩)) ?_
  refine rlZ 16 rfl (op_load1_refs rfl (oT rfl) (by intro _; exact ⟨rfl, hs1⟩) rfl) ?_
  refine za ?_
  refine rlZ 18 rfl (op_call_lend [3] (fun _ => hbs) rfl (Opd.func _) (oS (oT rfl) (oS (oT rfl) Opds.nil)) (by exact .cons _ _ _ _ tW (.cons _ _ _ _ tW .nil)) rfl rfl) ?_
  refine za ?_
  refine zi ?_
  refine zi ?_
  refine zd ?_
  refine zd ?_
  refine zc ?_
  refine nK ?_
  refine zb ?_
  refine za ?_
  refine zbj ?_
  refine zc ?_
  refine nK ?_
  refine n_cond _ rfl (fun hb => ?_) (fun hb => ?_)
  ·have hh : hit = false := by simpa using hb
   subst hh
   rw [if_neg (by simp)]
   have hins := inserti_c row hq k (by omega) hble
   have hil := insL_len row k hq hble
   have hle : (row.map encN).length = row.length := List.length_map _
   rw [← hle] at hins
   refine nK ?_
   refine s_draw mixed ?_
   refine zy ?_
   refine zj ?_
   refine zy ?_
   refine zj ?_
   refine rpZ 27 rfl (op_idx_sl0 v rfl (oT rfl) (oT rfl) (by intro _; exact ⟨by omega, by omega⟩)) ?_
   refine rlZ 28 rfl (op_load1_refs rfl (oT rfl) (by intro _; exact ⟨rfl, hs1⟩) rfl) ?_
   refine za ?_
   refine za ?_
   refine zde ?_
   refine Run.effW (dd := some 32) rfl rfl (op_call (n := 2) (n' := 3) [3, 4] (fun _ => hins) rfl (Opd.func _) (oS (oT rfl) (oS (oT rfl) (oS (oT rfl) Opds.nil))) rfl rfl (Lent.of rfl rfl (by exact ⟨⟨rfl, rfl, rfl, trivial⟩, ⟨rfl, rfl, rfl, trivial⟩, trivial⟩) rfl) rfl rfl rfl rfl rfl) (by first | exact ext_call | exact tE) ?_
   refine rpZ 33 rfl (op_idx_sl0 v rfl (oT rfl) (oT rfl) (by intro _; exact ⟨by omega, by omega⟩)) ?_
   refine Run.effW (dd := none) rfl rfl (op_store_refs rfl (oT rfl) (oT rfl) tP rfl rfl hs1 tS) (by first | exact ext_call | exact tE) ?_
   refine zs ?_
   refine Next.untake 1 v 0 rfl (set_get _ _ _ (by rw [List.length_set, tk_len, rowsI_len]; omega)) rfl rfl (by rw [List.length_map, hil, hle]) rfl ?_
   refine Next.weak [0, 1, 2] [] (by rfl) (keepsN hC _ rfl) (G' := []) (H' := [(0, some (.refs 1 [[.sl 1 1 0 n]])), (1, some (.refs 1 (tkL (rowsI (ll.set v (insL row k hq))) u k0))), (2, OI ru)]) trivial (by exact ⟨wS, ⟨ent_tk rfl rfl rfl (by decide) (congrArg (fun r => some (Ob.refs 1 r)) ((tk_back huv).trans (by rw [rowsI_set]))), ⟨wS, trivial⟩⟩⟩) wN ?_
   exact n_out0 rfl
  have hh : hit = true := by simpa using hb
  subst hh
  rw [if_pos rfl]
  refine Next.untake 1 v 0 rfl hs1 rfl rfl (by rw [List.length_map]) rfl ?_
  refine Next.weak [0, 1, 2] [] (by rfl) (keepsN hC _ rfl) (G' := []) (H' := [(0, some (.refs 1 [[.sl 1 1 0 n]])), (1, some (.refs 1 (tkL (rowsI (ll.set v (row))) u k0))), (2, OI ru)]) trivial (by exact ⟨wS, ⟨ent_tk rfl rfl rfl (by decide) (congrArg (fun r => some (Ob.refs 1 r)) ((tk_back2 huv).trans (by rw [rowsI_set]))), ⟨wS, trivial⟩⟩⟩) wN ?_
  refine nK2 ?_
  exact n_out0 rfl
 have hq0 : ¬ g.r ≤ h := by simpa using hb
 rw [if_neg hq0]
 refine nK ?_
 generalize hqe : h = hq at *
 have hbs := bsearchi_c row hq (by omega)
 have hble := bsI_le row hq
 have hiu : insU row hq = if hitI row hq = true then row else insL row (bsI row hq) hq := rfl
 change Pure Tryz.prog 92 [VI row, If .i64 hq] (.tup [If .i64 (bsI row hq : Nat), Bf (hitI row hq)]) at hbs
 rw [hiu]
 generalize bsI row hq = k at *
 generalize hitI row hq = hit at *
 refine nK ?_
 refine zb ?_
 refine zy ?_
 refine zj ?_
 refine rpZ 15 rfl (op_idx_sl0 v rfl (oT rfl) (oT rfl) (by intro _; exact ⟨by omega, by omega⟩)) ?_
 refine rlZ 16 rfl (op_load1_refs rfl (oT rfl) (by intro _; exact ⟨rfl, hs1⟩) rfl) ?_
 refine za ?_
 refine rlZ 18 rfl (op_call_lend [3] (fun _ => hbs) rfl (Opd.func _) (oS (oT rfl) (oS (oT rfl) Opds.nil)) (by exact .cons _ _ _ _ tW (.cons _ _ _ _ tW .nil)) rfl rfl) ?_
 refine za ?_
 refine zi ?_
 refine zi ?_
 refine zd ?_
 refine zd ?_
 refine zc ?_
 refine nK ?_
 refine zb ?_
 refine za ?_
 refine zbj ?_
 refine zc ?_
 refine nK ?_
 refine n_cond _ rfl (fun hb => ?_) (fun hb => ?_)
 ·have hh : hit = false := by simpa using hb
  subst hh
  rw [if_neg (by simp)]
  have hins := inserti_c row hq k (by omega) hble
  have hil := insL_len row k hq hble
  have hle : (row.map encN).length = row.length := List.length_map _
  rw [← hle] at hins
  refine nK ?_
  refine s_draw mixed ?_
  refine zy ?_
  refine zj ?_
  refine zy ?_
  refine zj ?_
  refine rpZ 27 rfl (op_idx_sl0 v rfl (oT rfl) (oT rfl) (by intro _; exact ⟨by omega, by omega⟩)) ?_
  refine rlZ 28 rfl (op_load1_refs rfl (oT rfl) (by intro _; exact ⟨rfl, hs1⟩) rfl) ?_
  refine za ?_
  refine za ?_
  refine zde ?_
  refine Run.effW (dd := some 32) rfl rfl (op_call (n := 2) (n' := 3) [3, 4] (fun _ => hins) rfl (Opd.func _) (oS (oT rfl) (oS (oT rfl) (oS (oT rfl) Opds.nil))) rfl rfl (Lent.of rfl rfl (by exact ⟨⟨rfl, rfl, rfl, trivial⟩, ⟨rfl, rfl, rfl, trivial⟩, trivial⟩) rfl) rfl rfl rfl rfl rfl) (by first | exact ext_call | exact tE) ?_
  refine rpZ 33 rfl (op_idx_sl0 v rfl (oT rfl) (oT rfl) (by intro _; exact ⟨by omega, by omega⟩)) ?_
  refine Run.effW (dd := none) rfl rfl (op_store_refs rfl (oT rfl) (oT rfl) tP rfl rfl hs1 tS) (by first | exact ext_call | exact tE) ?_
  refine zs ?_
  refine Next.untake 1 v 0 rfl (set_get _ _ _ (by rw [List.length_set, tk_len, rowsI_len]; omega)) rfl rfl (by rw [List.length_map, hil, hle]) rfl ?_
  refine Next.weak [0, 1, 2] [] (by rfl) (keepsN hC _ rfl) (G' := []) (H' := [(0, some (.refs 1 [[.sl 1 1 0 n]])), (1, some (.refs 1 (tkL (rowsI (ll.set v (insL row k hq))) u k0))), (2, OI ru)]) trivial (by exact ⟨wS, ⟨ent_tk rfl rfl rfl (by decide) (congrArg (fun r => some (Ob.refs 1 r)) ((tk_back huv).trans (by rw [rowsI_set]))), ⟨wS, trivial⟩⟩⟩) wN ?_
  exact n_out0 rfl
 have hh : hit = true := by simpa using hb
 subst hh
 rw [if_pos rfl]
 refine Next.untake 1 v 0 rfl hs1 rfl rfl (by rw [List.length_map]) rfl ?_
 refine Next.weak [0, 1, 2] [] (by rfl) (keepsN hC _ rfl) (G' := []) (H' := [(0, some (.refs 1 [[.sl 1 1 0 n]])), (1, some (.refs 1 (tkL (rowsI (ll.set v (row))) u k0))), (2, OI ru)]) trivial (by exact ⟨wS, ⟨ent_tk rfl rfl rfl (by decide) (congrArg (fun r => some (Ob.refs 1 r)) ((tk_back2 huv).trans (by rw [rowsI_set]))), ⟨wS, trivial⟩⟩⟩) wN ?_
 refine nK2 ?_
 exact n_out0 rfl
open Go Go.RT Go.Proofs Go.Pl
set_option maxRecDepth 20000
set_option maxHeartbeats 4000000
theorem hops_c (g : Gr) (a n : Nat) (d : List Int) (up : List (List Int)) (l2 : List Nat) (hn : n ≤ 128) (hd : d.length = n) (ha : a < n) (hup : UpOk n up) (hp : l2.Perm (ordA d a n)) (hs : l2.Pairwise (ltHd d)) : Pure Tryz.prog 72 [.agg (encG g), If .i64 a, VI d, VLL up] (VLL (hopsL g.r a n up l2)) := by
 have hl2 : ∀ v ∈ l2, v < n := fun v hv => ordA_lt (hp.mem_iff.1 hv)
 have hso := sorth_c d (ordA d a n) l2 (by omega) (fun v hv => by have := ordA_lt hv; omega) (by have := ordA_len d a n; omega) hp hs
 have hl2l : l2.length = (ordA d a n).length := hp.length_eq
 have hl2n := ordA_len d a n
 refine Meets.intro Tryz.func72 rfl (Nat.le_of_ble_eq_true rfl) fun C hC => ?_
 simp only [List.map, argEnv, Nat.reduceAdd]
 refine nK ?_
 refine zb ?_
 refine zq ?_
 refine zq ?_
 refine ze ?_
 refine zc ?_
 refine nK ?_
 refine zb ?_
 refine ze ?_
 refine zc ?_
 refine nK ?_
 refine Next.weakS [] [4, 6] (by rfl) (keeps0 hC _) (G' := [(1, IV .i64 a), (3, .fz (VLL up)), (4, .fz (.cellp (encG g))), (6, .fz (.cellp [VI d])), (9, .fz (.lit (.slice none 0 0)))]) (H' := []) wF trivial rfl ?_
 refine Next.adopt 9 1 rfl ?_
 refine nK ?_
 refine zb ?_
 refine zj ?_
 refine zo ?_
 refine zbb ?_
 refine zc ?_
 refine nK ?_
 refine n_loop (ι := Nat) (fun i => ([(1, IV .i64 a), (3, .fz (VLL up)), (4, .fz (.cellp (encG g))), (6, .fz (.cellp [VI d])), (9, .sl 0 1 0 (ordA d a i).length), (20, .fz (VI d)), (21, IV .i64 n), (22, IV .i64 i)], [(0, OT (ordA d a i))], 1)) (fun i => i ≤ n) (fun i => n - i) 0 (Nat.zero_le _) ?_ ?_
 ·refine Next.weak [0] [] (by rfl) (keepsN hC _ rfl) (by repeat (first | exact trivial | refine ⟨⟨_, rfl, .inl ⟨rfl, rfl⟩⟩, ?_⟩ | refine ⟨⟨_, rfl, .inl ⟨ivEq (by rw [List.length_map, hd]), rfl⟩⟩, ?_⟩ | refine ⟨⟨_, rfl, .inl ⟨ivEq (by rw [hd]), rfl⟩⟩, ?_⟩)) wR wN rel_intro
 intro i hi K hK
 try dsimp only at hi hK ⊢
 have hol := ordA_len d a i
 refine nK ?_
 refine zb ?_
 refine zp ?_
 refine zc ?_
 refine nK ?_
 refine n_cond _ rfl (fun hb => ?_) (fun hb => ?_)
 ·have hlt : i < n := by simp at hb; omega
  have hri := row_of encN d i 0 (by omega)
  have hgi : d.getD i 0 = gt0 d i := rfl
  rw [hgi] at hri
  have hK1 := hK (i + 1) (by omega) (by omega)
  rw [ordA_succ] at hK1
  refine nK ?_
  refine zb ?_
  refine za ?_
  refine rpZ 25 rfl (op_idx_fz i rfl (oT rfl) (oT rfl) (by intro _; exact ⟨rfl, hri⟩)) ?_
  refine zj ?_
  refine zd ?_
  refine zd ?_
  refine zc ?_
  refine nK ?_
  refine zb ?_
  refine za ?_
  refine zbd ?_
  refine za ?_
  refine zf ?_
  refine zf ?_
  refine zcl ?_
  refine zt ?_
  refine zc ?_
  refine nK ?_
  refine n_cond _ rfl (fun hb => ?_) (fun hb => ?_)
  ·rw [if_pos (show ordP d a i = true from hb)] at hK1
   refine nK ?_
   refine zb ?_
   refine za ?_
   refine za ?_
   refine zbh ?_
   refine zbu ?_
   refine zd ?_
   refine zc ?_
   refine nK ?_
   refine zb ?_
   refine zl ?_
   refine za ?_
   refine zc ?_
   refine nK ?_
   refine Next.weak [1] [] (by rfl) (keepsN hC _ rfl) wG (by exact ⟨ent_same rfl rfl (flEq rfl (by rw [List.map_append]; rfl)) trivial, trivial⟩) wN hK1
  rw [if_neg (show ¬ ordP d a i = true by rw [Bool.not_eq_true]; exact hb), List.append_nil] at hK1
  refine nK ?_
  refine zb ?_
  refine zl ?_
  refine za ?_
  refine zc ?_
  refine nK ?_
  refine Next.weak [0] [] (by rfl) (keepsN hC _ rfl) wG wR wN hK1
 have hie : n = i := by simp at hb; omega
 subst hie
 refine nK ?_
 refine zb ?_
 refine za ?_
 refine rpZ 40 rfl (op_makeFuncF (fs := [.cellp [VI d]]) rfl (oS (oT rfl) Opds.nil)) ?_
 refine Run.eff (dd := some 41) rfl rfl (op_call (n := 1) (n' := 1) [0] (fun _ => hso) rfl (Opd.func _) (oS (oT rfl) (oS (oT rfl) Opds.nil)) rfl rfl (Lent.of rfl rfl (by exact ⟨⟨rfl, rfl, rfl, trivial⟩, trivial⟩) rfl) rfl rfl rfl rfl rfl) ?_
 refine zc ?_
 refine nK ?_
 refine zb ?_
 refine zj ?_
 refine zo ?_
 refine Run.eff (dd := some 44) rfl rfl (op_make (l := n) (c := n) rfl (oT rfl) (oT rfl) rfl rfl rfl rfl (by intro _; rw [hd]; refine ⟨rfl, rfl, ?_⟩; omega)) ?_
 refine zdf ?_
 refine zcp ?_
 refine zc ?_
 refine nK ?_
 refine Next.toOwn 1 1 n rfl ?_
 refine Next.weak [2, 1] [0] (by rfl) (keepsN hC _ rfl) (G' := [(1, IV .i64 a), (3, .fz (VLL up)), (4, .fz (.cellp (encG g))), (9, .fz (.vals 1 (l2.map encT))), (12, .ptr 0 1 0 0)]) (H' := [(0, some (.refs 1 [[.sl 1 1 0 n]])), (1, some (.refs 1 (ownL 1 (rowsI (List.replicate n [])))))]) (by exact ⟨⟨_, rfl, .inl ⟨rfl, rfl⟩⟩, ⟨_, rfl, .inl ⟨rfl, rfl⟩⟩, ⟨_, rfl, .inl ⟨rfl, rfl⟩⟩, ⟨_, rfl, .inr ⟨_, rfl, .sl _ _ _ _ _ _ rfl rfl (take_all0 (by rw [List.length_map]; exact hl2l)) (by rw [List.length_map]; omega)⟩⟩, ⟨_, rfl, .inl ⟨rfl, rfl⟩⟩, trivial⟩) (by exact ⟨wS, ⟨ent_own rfl rfl (by rw [rowsI_nil, ← ownL_rep]; rfl), trivial⟩⟩) (fun id h => by simp at h; subst h; exact ⟨_, rfl⟩) ?_
 refine nK ?_
 refine zb ?_
 refine za ?_
 refine zo ?_
 refine zbb ?_
 refine zc ?_
 refine nK ?_
 refine n_loop (ι := Nat) (fun i => ([(1, IV .i64 a), (3, .fz (VLL up)), (4, .fz (.cellp (encG g))), (12, .ptr 0 1 0 0), (45, .fz (.vals 1 (l2.map encT))), (46, IV .i64 l2.length), (47, IV .i64 i)], [(0, some (.refs 1 [[.sl 1 1 0 n]])), (1, some (.refs 1 (ownL 1 (rowsI ((l2.take i).foldl (hopsV g.r a up) (List.replicate n []))))))], 2)) (fun i => i ≤ l2.length) (fun i => l2.length - i) 0 (Nat.zero_le _) ?_ ?_
 ·refine Next.weak [0, 1] [] (by rfl) (keepsN hC _ rfl) wG (by exact ⟨wS, ⟨ent_own rfl rfl rfl, trivial⟩⟩) wN rel_intro
 intro i hi K2 hK2
 try dsimp only at hi hK2 ⊢
 have hli : LLok n ((l2.take i).foldl (hopsV g.r a up) (List.replicate n [])) := LLok.hops hup _ (LLok.nil n) fun x hx => hl2 x (List.mem_of_mem_take hx)
 refine nK ?_
 refine zb ?_
 refine zp ?_
 refine zc ?_
 refine nK ?_
 refine n_cond _ rfl (fun hb => ?_) (fun hb => ?_)
 ·have hlt : i < l2.length := by simp at hb; omega
  have hri := row_at' encT l2 i hlt
  have hv := hl2 _ (List.getElem_mem hlt)
  have hK3 := hK2 (i + 1) (by omega) (by omega)
  rw [foldl_take_succ _ _ _ _ hlt] at hK3
  generalize (l2.take i).foldl (hopsV g.r a up) (List.replicate n []) = ll0 at *
  generalize l2[i] = v at *
  have hru := row_of encL up v [] (by rw [hup.len]; exact hv)
  obtain ⟨hrl, hrow⟩ := hup.row v hv
  have hhv : hopsV g.r a up ll0 v = (rowAt' up v).foldl (stepU g.r a v) ll0 := rfl
  have hgu : up.getD v [] = rowAt' up v := rfl
  rw [hhv] at hK3
  rw [hgu] at hru
  generalize rowAt' up v = row at *
  refine nK ?_
  refine zb ?_
  refine zz ?_
  refine zj ?_
  refine zu ?_
  refine zr ?_
  refine zc ?_
  refine nK ?_
  refine Next.weak [0, 1] [2] (by rfl) (keepsN hC _ rfl) (G' := [(1, IV .i64 a), (3, .fz (VLL up)), (4, .fz (.cellp (encG g))), (12, .ptr 0 1 0 0), (45, .fz (.vals 1 (l2.map encT))), (46, IV .i64 l2.length), (47, IV .i64 i), (14, .fz (.cellp [If .i64 v]))]) (H' := [(0, some (.refs 1 [[.sl 1 1 0 n]])), (1, some (.refs 1 (ownL 1 (rowsI ll0))))]) (by repeat (first | exact trivial | refine ⟨⟨_, rfl, .inl ⟨rfl, rfl⟩⟩, ?_⟩ | refine ⟨⟨_, rfl, .inr ⟨_, rfl, tW⟩⟩, ?_⟩)) (by exact ⟨wS, ⟨ent_own rfl rfl rfl, trivial⟩⟩) (fun id h => by simp at h; subst h; exact ⟨_, rfl⟩) ?_
  refine nK ?_
  refine zb ?_
  refine rpZ 51 rfl (op_makeFunc rfl Opds.nil (oS (oT rfl) (oS (oT rfl) (oS (oT rfl) Opds.nil)))) ?_
  refine zd ?_
  refine zc ?_
  refine nK ?_
  refine zb ?_
  refine za ?_
  refine zj ?_
  refine rpZ 54 rfl (op_idx_fz v rfl (oT rfl) (oT rfl) (by intro _; exact ⟨rfl, hru⟩)) ?_
  refine zj ?_
  refine zo ?_
  refine zbb ?_
  refine zc ?_
  refine nK ?_
  refine n_loop (ι := Nat) (fun j => ([(1, IV .i64 a), (3, .fz (VLL up)), (4, .fz (.cellp (encG g))), (12, .ptr 0 1 0 0), (45, .fz (.vals 1 (l2.map encT))), (46, IV .i64 l2.length), (47, IV .i64 i), (14, .fz (.cellp [If .i64 v])), (15, .clo 91 [] [.fz (.cellp (encG g)), .fz (.cellp [If .i64 v]), .ptr 0 1 0 0]), (55, .fz (VI row)), (56, IV .i64 row.length), (57, IV .i64 j)], [(0, some (.refs 1 [[.sl 1 1 0 n]])), (1, some (.refs 1 (ownL 1 (rowsI ((row.take j).foldl (stepU g.r a v) ll0)))))], 2)) (fun j => j ≤ row.length) (fun j => row.length - j) 0 (Nat.zero_le _) ?_ ?_
  ·refine Next.weak [0, 1] [] (by rfl) (keepsN hC _ rfl) wG (by exact ⟨wS, ⟨ent_own rfl rfl rfl, trivial⟩⟩) wN rel_intro
  intro j hj K3 hK4
  try dsimp only at hj hK4 ⊢
  have hlj : LLok n ((row.take j).foldl (stepU g.r a v) ll0) := LLok.steps hv _ hli fun x hx => by have := hrow x (List.mem_of_mem_take hx); omega
  refine nK ?_
  refine zb ?_
  refine zp ?_
  refine zc ?_
  refine nK ?_
  refine n_cond _ rfl (fun hb => ?_) (fun hb => ?_)
  ·have hltj : j < row.length := by simp at hb; omega
   have hrj := row_at' encN row j hltj
   obtain ⟨hu0, hu1, huv0⟩ := hrow _ (List.getElem_mem hltj)
   have hK3 := hK4 (j + 1) (by omega) (by omega)
   rw [foldl_take_succ _ _ _ _ hltj] at hK3
   generalize (row.take j).foldl (stepU g.r a v) ll0 = ll at *
   generalize row[j] = u at *
   have huv : u.toNat ≠ v := by omega
   have hrgu := rowsI_get (ll := ll) (v := u.toNat) (by rw [hlj.len]; omega)
   have hruok := (hlj.row u.toNat (by omega)).2
   have hrul := (hlj.row u.toNat (by omega)).len
   have hstp : stepU g.r a v ll u = (rowAt' ll u.toNat).foldl (mergeL g.r v) (if u = (a : Int) then mergeL g.r v ll (v : Int) else ll) := rfl
   have hge : ll.getD u.toNat [] = rowAt' ll u.toNat := rfl
   have hmo := merge_other g.r v ll (v : Int) huv
   have hruq : rowAt' ll u.toNat = rowAt' ll u.toNat := rfl
   rw [hge] at hrgu
   generalize hrue : rowAt' ll u.toNat = ru at *
   have hmv := merge_c g u.toNat v n ru.length ru ll v huv hlj.len hv hn (Nat.le_trans (hlj.row v hv).len (by omega))
   refine nK ?_
   refine zb ?_
   refine rpZ 59 rfl (op_idx_fz j rfl (oT rfl) (oT rfl) (by intro _; exact ⟨rfl, hrj⟩)) ?_
   refine zj ?_
   refine zd ?_
   refine zc ?_
   refine nK ?_
   refine Next.take 1 u.toNat 0 rfl (ownL_get hrgu) rfl (rows' := tkL (rowsI ll) u.toNat ru.length) (by rw [List.length_map]; rfl) ?_
   refine nK ?_
   refine zb ?_
   refine za ?_
   refine za ?_
   refine zbr ?_
   refine zc ?_
   refine nK ?_
   refine n_cond _ rfl (fun hb => ?_) (fun hb => ?_)
   ·have hua : u = (a : Int) := by simpa using hb
    rw [if_pos hua] at hstp
    have hl1 := hlj.merge g.r hv (x := (v : Int)) (by omega)
    refine nK ?_
    refine zb ?_
    refine za ?_
    refine zj ?_
    refine Run.eff (dd := some 66) rfl rfl (op_call (n := 3) (n' := 3) [0, 1, 2] (fun _ => hmv) rfl (oT rfl) (oS (oT rfl) Opds.nil) rfl rfl (Lent.of rfl rfl (by exact ⟨⟨rfl, rfl, rfl, tL⟩, ⟨rfl, rfl, congrArg some (renO_tk rfl _ _ _).symm, ltO_tk (by decide) _ _ _⟩, ⟨rfl, rfl, rfl, trivial⟩, trivial⟩) rfl) rfl rfl rfl rfl rfl) ?_
    refine zc ?_
    refine nK ?_
    refine Next.weak [0, 1, 2] [] (by rfl) (keepsN hC _ rfl) (G' := [(1, IV .i64 a), (3, .fz (VLL up)), (4, .fz (.cellp (encG g))), (12, .ptr 0 1 0 0), (45, .fz (.vals 1 (l2.map encT))), (46, IV .i64 l2.length), (47, IV .i64 i), (14, .fz (.cellp [If .i64 v])), (15, .clo 91 [] [.fz (.cellp (encG g)), .fz (.cellp [If .i64 v]), .ptr 0 1 0 0]), (55, .fz (VI row)), (56, IV .i64 row.length), (57, IV .i64 j), (17, IV .i64 u)]) (H' := [(0, some (.refs 1 [[.sl 1 1 0 n]])), (1, some (.refs 1 (tkL (rowsI (mergeL g.r v ll (v : Int))) u.toNat ru.length))), (2, OI ru)]) wG (by exact ⟨wS, ⟨ent_tk rfl rfl rfl (by decide) (congrArg some (renO_tk rfl _ _ _)), ⟨wS, trivial⟩⟩⟩) wN ?_
    generalize mergeL g.r v ll (v : Int) = ll1 at *
    have hl1 : LLok n ll1 := hl1
    have hru1 : rowAt' ll1 u.toNat = ru := hmo
    have hfin : ru.foldl (mergeL g.r v) ll1 = stepU g.r a v ll u := hstp.symm
    rw [← hfin] at hK3
    clear hfin
    refine nK ?_
    refine zb ?_
    refine zy ?_
    refine za ?_
    refine rpZ 69 rfl (op_idx_sl0 u.toNat rfl (oT rfl) (oT rfl) (by intro _; omega)) ?_
    refine rlZ 70 rfl (op_load1_refs rfl (oT rfl) (by intro _; exact ⟨rfl, set_get (ownL 1 (rowsI ll1)) u.toNat [.sl 2 1 0 ru.length] (by rw [ownL_len, rowsI_len, hl1.len]; omega)⟩) rfl) ?_
    refine zbi ?_
    refine zbb ?_
    refine zc ?_
    refine nK ?_
    refine n_loop (ι := Nat) (fun k => ([(1, IV .i64 a), (3, .fz (VLL up)), (4, .fz (.cellp (encG g))), (12, .ptr 0 1 0 0), (45, .fz (.vals 1 (l2.map encT))), (46, IV .i64 l2.length), (47, IV .i64 i), (14, .fz (.cellp [If .i64 v])), (15, .clo 91 [] [.fz (.cellp (encG g)), .fz (.cellp [If .i64 v]), .ptr 0 1 0 0]), (55, .fz (VI row)), (56, IV .i64 row.length), (57, IV .i64 j), (70, .sl 2 1 0 ru.length), (71, IV .i64 ru.length), (72, IV .i64 k)], [(0, some (.refs 1 [[.sl 1 1 0 n]])), (1, some (.refs 1 (tkL (rowsI ((ru.take k).foldl (mergeL g.r v) ll1)) u.toNat ru.length))), (2, OI ru)], 3)) (fun k => k ≤ ru.length) (fun k => ru.length - k) 0 (Nat.zero_le _) ?_ ?_
    ·refine Next.weak [0, 1, 2] [] (by rfl) (keepsN hC _ rfl) wG (by exact ⟨wS, ⟨ent_tk rfl rfl rfl (by decide) rfl, ⟨wS, trivial⟩⟩⟩) wN rel_intro
    intro k hk K4 hK4
    try dsimp only at hk hK4 ⊢
    have hlk : LLok n ((ru.take k).foldl (mergeL g.r v) ll1) := LLok.fold hv _ hl1 fun x hx => hruok x (List.mem_of_mem_take hx)
    have hok := fold_other (r := g.r) (v := v) (u := u.toNat) huv (ru.take k) ll1
    refine nK ?_
    refine zb ?_
    refine zp ?_
    refine zc ?_
    refine nK ?_
    refine n_cond _ rfl (fun hb => ?_) (fun hb => ?_)
    ·have hkl : k < ru.length := by simp at hb; omega
     have hrk := row_at' encN ru k hkl
     have hxk := hruok _ (List.getElem_mem hkl)
     have hK5 := hK4 (k + 1) (by omega) (by omega)
     rw [foldl_take_succ _ _ _ _ hkl] at hK5
     have hmg := fun x => merge_c g u.toNat v n ru.length ru ((ru.take k).foldl (mergeL g.r v) ll1) x huv hlk.len hv hn (Nat.le_trans (hlk.row v hv).len (by omega))
     generalize (ru.take k).foldl (mergeL g.r v) ll1 = llk at *
     generalize ru[k] = x at *
     refine nK ?_
     refine zb ?_
     refine rpZ 74 rfl (op_idx_sl0 k rfl (oT rfl) (oT rfl) (by intro _; exact ⟨rfl, hkl⟩)) ?_
     refine rlZ 75 rfl (op_load1_flat rfl (oT rfl) (by intro _; exact ⟨rfl, hrk⟩) rfl) ?_
     refine zd ?_
     refine zc ?_
     refine nK ?_
     refine zb ?_
     refine za ?_
     refine za ?_
     refine Run.eff (dd := some 78) rfl rfl (op_call (n := 3) (n' := 3) [0, 1, 2] (fun _ => hmg x) rfl (oT rfl) (oS (oT rfl) Opds.nil) rfl rfl (Lent.of rfl rfl (by exact ⟨⟨rfl, rfl, rfl, tL⟩, ⟨rfl, rfl, congrArg some (renO_tk rfl _ _ _).symm, ltO_tk (by decide) _ _ _⟩, ⟨rfl, rfl, rfl, trivial⟩, trivial⟩) rfl) rfl rfl rfl rfl rfl) ?_
     refine zc ?_
     refine nK ?_
     refine zb ?_
     refine zl ?_
     refine za ?_
     refine zc ?_
     refine nK ?_
     refine Next.weak [0, 1, 2] [] (by rfl) (keepsN hC _ rfl) wG (by exact ⟨wS, ⟨ent_tk rfl rfl rfl (by decide) (congrArg some (renO_tk rfl _ _ _)), ⟨wS, trivial⟩⟩⟩) wN hK5
    have hke : k = ru.length := by simp at hb; omega
    subst hke
    rw [List.take_length] at *
    refine nK ?_
    refine zb ?_
    refine zl ?_
    refine za ?_
    refine zc ?_
    refine nK ?_
    refine Next.untake 1 u.toNat 0 rfl (set_get _ _ _ (by rw [ownL_len, rowsI_len, hlk.len]; omega)) rfl rfl (List.length_map _) (tk_put (by rw [rowsI_get (by rw [hlk.len]; omega)]; exact congrArg (fun r => some (r.map encN)) (hok.trans hru1))) ?_
    refine Next.weak [0, 1] [] (by rfl) (keepsN hC _ rfl) wG (by exact ⟨wS, ⟨ent_own rfl rfl rfl, trivial⟩⟩) wN hK3
   have hua : ¬ u = (a : Int) := by simpa using hb
   rw [if_neg hua] at hstp
   have hl1 : LLok n ll := hlj
   have hru1 : rowAt' ll u.toNat = ru := hrue
   have hfin : ru.foldl (mergeL g.r v) ll = stepU g.r a v ll u := hstp.symm
   rw [← hfin] at hK3
   clear hfin
   refine nK ?_
   refine zb ?_
   refine zy ?_
   refine za ?_
   refine rpZ 69 rfl (op_idx_sl0 u.toNat rfl (oT rfl) (oT rfl) (by intro _; omega)) ?_
   refine rlZ 70 rfl (op_load1_refs rfl (oT rfl) (by intro _; exact ⟨rfl, set_get (ownL 1 (rowsI ll)) u.toNat [.sl 2 1 0 ru.length] (by rw [ownL_len, rowsI_len, hl1.len]; omega)⟩) rfl) ?_
   refine zbi ?_
   refine zbb ?_
   refine zc ?_
   refine nK ?_
   refine n_loop (ι := Nat) (fun k => ([(1, IV .i64 a), (3, .fz (VLL up)), (4, .fz (.cellp (encG g))), (12, .ptr 0 1 0 0), (45, .fz (.vals 1 (l2.map encT))), (46, IV .i64 l2.length), (47, IV .i64 i), (14, .fz (.cellp [If .i64 v])), (15, .clo 91 [] [.fz (.cellp (encG g)), .fz (.cellp [If .i64 v]), .ptr 0 1 0 0]), (55, .fz (VI row)), (56, IV .i64 row.length), (57, IV .i64 j), (70, .sl 2 1 0 ru.length), (71, IV .i64 ru.length), (72, IV .i64 k)], [(0, some (.refs 1 [[.sl 1 1 0 n]])), (1, some (.refs 1 (tkL (rowsI ((ru.take k).foldl (mergeL g.r v) ll)) u.toNat ru.length))), (2, OI ru)], 3)) (fun k => k ≤ ru.length) (fun k => ru.length - k) 0 (Nat.zero_le _) ?_ ?_
   ·refine Next.weak [0, 1, 2] [] (by rfl) (keepsN hC _ rfl) wG (by exact ⟨wS, ⟨ent_tk rfl rfl rfl (by decide) rfl, ⟨wS, trivial⟩⟩⟩) wN rel_intro
   intro k hk K4 hK4
   try dsimp only at hk hK4 ⊢
   have hlk : LLok n ((ru.take k).foldl (mergeL g.r v) ll) := LLok.fold hv _ hl1 fun x hx => hruok x (List.mem_of_mem_take hx)
   have hok := fold_other (r := g.r) (v := v) (u := u.toNat) huv (ru.take k) ll
   refine nK ?_
   refine zb ?_
   refine zp ?_
   refine zc ?_
   refine nK ?_
   refine n_cond _ rfl (fun hb => ?_) (fun hb => ?_)
   ·have hkl : k < ru.length := by simp at hb; omega
    have hrk := row_at' encN ru k hkl
    have hxk := hruok _ (List.getElem_mem hkl)
    have hK5 := hK4 (k + 1) (by omega) (by omega)
    rw [foldl_take_succ _ _ _ _ hkl] at hK5
    have hmg := fun x => merge_c g u.toNat v n ru.length ru ((ru.take k).foldl (mergeL g.r v) ll) x huv hlk.len hv hn (Nat.le_trans (hlk.row v hv).len (by omega))
    generalize (ru.take k).foldl (mergeL g.r v) ll = llk at *
    generalize ru[k] = x at *
    refine nK ?_
    refine zb ?_
    refine rpZ 74 rfl (op_idx_sl0 k rfl (oT rfl) (oT rfl) (by intro _; exact ⟨rfl, hkl⟩)) ?_
    refine rlZ 75 rfl (op_load1_flat rfl (oT rfl) (by intro _; exact ⟨rfl, hrk⟩) rfl) ?_
    refine zd ?_
    refine zc ?_
    refine nK ?_
    refine zb ?_
    refine za ?_
    refine za ?_
    refine Run.eff (dd := some 78) rfl rfl (op_call (n := 3) (n' := 3) [0, 1, 2] (fun _ => hmg x) rfl (oT rfl) (oS (oT rfl) Opds.nil) rfl rfl (Lent.of rfl rfl (by exact ⟨⟨rfl, rfl, rfl, tL⟩, ⟨rfl, rfl, congrArg some (renO_tk rfl _ _ _).symm, ltO_tk (by decide) _ _ _⟩, ⟨rfl, rfl, rfl, trivial⟩, trivial⟩) rfl) rfl rfl rfl rfl rfl) ?_
    refine zc ?_
    refine nK ?_
    refine zb ?_
    refine zl ?_
    refine za ?_
    refine zc ?_
    refine nK ?_
    refine Next.weak [0, 1, 2] [] (by rfl) (keepsN hC _ rfl) wG (by exact ⟨wS, ⟨ent_tk rfl rfl rfl (by decide) (congrArg some (renO_tk rfl _ _ _)), ⟨wS, trivial⟩⟩⟩) wN hK5
   have hke : k = ru.length := by simp at hb; omega
   subst hke
   rw [List.take_length] at *
   refine nK ?_
   refine zb ?_
   refine zl ?_
   refine za ?_
   refine zc ?_
   refine nK ?_
   refine Next.untake 1 u.toNat 0 rfl (set_get _ _ _ (by rw [ownL_len, rowsI_len, hlk.len]; omega)) rfl rfl (List.length_map _) (tk_put (by rw [rowsI_get (by rw [hlk.len]; omega)]; exact congrArg (fun r => some (r.map encN)) (hok.trans hru1))) ?_
   refine Next.weak [0, 1] [] (by rfl) (keepsN hC _ rfl) wG (by exact ⟨wS, ⟨ent_own rfl rfl rfl, trivial⟩⟩) wN hK3
  have hje : j = row.length := by simp at hb; omega
  subst hje
  rw [List.take_length] at *
  refine nK ?_
  refine zb ?_
  refine zl ?_
  refine za ?_
  refine zc ?_
  refine nK ?_
  refine Next.weak [0, 1] [] (by rfl) (keepsN hC _ rfl) wG (by exact ⟨wS, ⟨ent_own rfl rfl rfl, trivial⟩⟩) wN hK3
 have hie : i = l2.length := by simp at hb; omega
 subst hie
 rw [List.take_length] at *
 refine Next.freezeOwn 1 rfl rfl ?_
 refine nK ?_
 refine zb ?_
 refine zy ?_
 refine zd ?_
 refine zc ?_
 refine nK ?_
 have hFl : (fzL 1 (rowsI (hopsL g.r a n up l2))).length = n := by rw [fzL_len, rowsI_len]; exact hli.len
 refine Next.weakS [] [8] (by rfl) (keeps0 hC _) (G' := [(8, .fz (VLL (hopsL g.r a n up l2)))]) (H' := []) ⟨⟨_, rfl, .inr ⟨_, rfl, .sl _ _ _ _ _ _ rfl rfl ((take_all0 hFl).trans (fz_rowsI _)) (by rw [← fz_rowsI, hFl])⟩⟩, trivial⟩ trivial rfl ?_
 exact n_out1 rfl (by rfl) rfl rfl
open Go Go.RT Go.Proofs Go.Pl
set_option maxRecDepth 20000
set_option maxHeartbeats 2000000
theorem run_bad (g : Gr) (a : Int) (hok : okG g) (hg : checkI g ≠ 0) : Pure Tryz.prog 52 [.agg (encG g), If .i64 a] (.tup [.agg (encTr zeroT), If .i64 (checkI g)]) := by
 refine Meets.intro Tryz.func52 rfl (Nat.le_of_ble_eq_true rfl) fun C hC => ?_
 simp only [List.map, argEnv, Nat.reduceAdd]
 refine nK ?_
 refine zb ?_
 refine zq ?_
 refine zu ?_
 refine ze ?_
 refine zc ?_
 refine nK ?_
 refine zb ?_
 refine zk ?_
 refine rpZ 9 rfl (op_call_pure (fun _ => check_c _ (by assumption)) rfl (Opd.func _) (oS (oT rfl) Opds.nil)) ?_
 refine zd ?_
 refine zc ?_
 refine nK ?_
 refine zb ?_
 refine za ?_
 refine zbd ?_
 refine zc ?_
 refine nK ?_
 refine n_cond _ rfl (fun hb => ?_) (fun hb => ?_)
 ·refine nK ?_
  refine zb ?_
  refine zbm ?_
  refine za ?_
  refine zr ?_
  refine zd ?_
  refine zc ?_
  refine nK ?_
  (refine Next.weakS [4] [] (by rfl) (keeps0 hC _) (G' := [(4, .ptr 0 4 0 0), (5, .fz _)]) (H' := [(0, OTr zeroT)]) wG (by exact ⟨⟨rfl, rfl, .fflat _ _ _ rfl tW⟩, trivial⟩) rfl ?_; exact wO hC)
 simp at hb; omega
theorem run_out (g : Gr) (a : Int) (hok : okG g) (hg : checkI g = 0) (ha : a < 0 ∨ g.r ≤ a) : Pure Tryz.prog 52 [.agg (encG g), If .i64 a] (.tup [.agg (encTr zeroT), If .i64 5]) := by
 refine Meets.intro Tryz.func52 rfl (Nat.le_of_ble_eq_true rfl) fun C hC => ?_
 simp only [List.map, argEnv, Nat.reduceAdd]
 refine nK ?_
 refine zb ?_
 refine zq ?_
 refine zu ?_
 refine ze ?_
 refine zc ?_
 refine nK ?_
 refine zb ?_
 refine zk ?_
 refine rpZ 9 rfl (op_call_pure (fun _ => check_c _ (by assumption)) rfl (Opd.func _) (oS (oT rfl) Opds.nil)) ?_
 refine zd ?_
 refine zc ?_
 refine nK ?_
 refine zb ?_
 refine za ?_
 refine zbd ?_
 refine zc ?_
 refine nK ?_
 refine n_cond _ rfl (fun hb => ?_) (fun hb => ?_)
 ·simp at hb; omega
 refine nK ?_
 refine zb ?_
 refine za ?_
 refine zbn ?_
 refine za ?_
 refine zf ?_
 refine zn ?_
 refine zm ?_
 refine zbz ?_
 refine zv ?_
 refine zc ?_
 refine nK ?_
 refine n_cond _ rfl (fun hb => ?_) (fun hb => ?_)
 ·refine nK ?_
  refine zb ?_
  refine zbm ?_
  refine zr ?_
  refine ze ?_
  refine zc ?_
  refine nK ?_
  (refine Next.weakS [4] [] (by rfl) (keeps0 hC _) (G' := [(4, .ptr 0 4 0 0), (5, .fz _)]) (H' := [(0, OTr zeroT)]) wG (by exact ⟨⟨rfl, rfl, .fflat _ _ _ rfl tW⟩, trivial⟩) rfl ?_; exact wO hC)
 simp at hb; omega
theorem run_c (g : Gr) (a : Nat) (t : Tr) (hok : okG g) (h : RunOk g a t) : Pure Tryz.prog 52 [.agg (encG g), If .i64 a] (.tup [.agg (encTr t), If .i64 0]) := by
 obtain ⟨vg, h0, h1⟩ := checkI_vg h.ok
 have hlt := h.lt
 obtain ⟨l2, p, q, hh⟩ := h.hops
 have hd := dist_c g a t.dist h.ok hok (by omega) h.dl h.dist
 have hp := parents_c g a t.dist h.ok h.dl (fun v hv => by have := (h.dist v hv).small vg (by omega) hv; omega)
 have hup := parL_ok vg a t.dist
 rw [← h.par] at hp hup
 have hho := hops_c g a (g.r + g.n).toNat t.dist t.par l2 vg.n128 h.dl (by omega) hup p q
 rw [← hh] at hho
 have hck := h.ok
 obtain ⟨rt, d, hs, pr⟩ := t
 have hrt : rt = a := h.root
 subst hrt
 dsimp only at hd hp hho
 clear hh h hup q p
 refine Meets.intro Tryz.func52 rfl (Nat.le_of_ble_eq_true rfl) fun C hC => ?_
 simp only [List.map, argEnv, Nat.reduceAdd]
 refine nK ?_
 refine zb ?_
 refine zq ?_
 refine zu ?_
 refine ze ?_
 refine zc ?_
 refine nK ?_
 refine zb ?_
 refine zk ?_
 refine rpZ 9 rfl (op_call_pure (fun _ => check_c _ (by assumption)) rfl (Opd.func _) (oS (oT rfl) Opds.nil)) ?_
 refine zd ?_
 refine zc ?_
 refine nK ?_
 refine zb ?_
 refine za ?_
 refine zbd ?_
 refine zc ?_
 refine nK ?_
 refine n_cond _ rfl (fun hb => ?_) (fun hb => ?_)
 ·simp at hb; omega
 refine nK ?_
 refine zb ?_
 refine za ?_
 refine zbn ?_
 refine za ?_
 refine zf ?_
 refine zn ?_
 refine zm ?_
 refine zbz ?_
 refine zv ?_
 refine zc ?_
 refine nK ?_
 refine n_cond _ rfl (fun hb => ?_) (fun hb => ?_)
 ·simp at hb; omega
 refine nK ?_
 refine zb ?_
 refine za ?_
 refine zk ?_
 refine za ?_
 refine rpZ 26 rfl (op_call_pure (fun _ => hd) rfl (Opd.func _) (oS (oT rfl) (oS (oT rfl) Opds.nil))) ?_
 refine rpZ 27 rfl (op_build rfl rfl rfl (FillF.cons _ _ _ _ _ _ _ _ _ _ (by rfl) (oT rfl) tC (by rfl) tR (FillF.cons _ _ _ _ _ _ _ _ _ _ (by rfl) (oT rfl) tC (by rfl) tR (FillF.nil _)))) ?_
 refine zu ?_
 refine zr ?_
 refine zc ?_
 refine nK ?_
 refine zb ?_
 refine zk ?_
 refine za ?_
 refine zg ?_
 refine zh ?_
 refine rpZ 32 rfl (op_call_pure (fun _ => hp) rfl (Opd.func _) (oS (oT rfl) (oS (oT rfl) (oS (oT rfl) Opds.nil)))) ?_
 refine zg ?_
 refine zr ?_
 refine zc ?_
 refine nK ?_
 refine zb ?_
 refine zk ?_
 refine za ?_
 refine zg ?_
 refine zh ?_
 refine zg ?_
 refine zh ?_
 refine rpZ 40 rfl (op_call_pure (fun _ => hho) rfl (Opd.func _) (oS (oT rfl) (oS (oT rfl) (oS (oT rfl) (oS (oT rfl) Opds.nil))))) ?_
 refine zg ?_
 refine zr ?_
 refine zc ?_
 refine nK ?_
 refine zb ?_
 refine zk ?_
 refine zr ?_
 refine ze ?_
 refine zc ?_
 refine nK ?_
 exact wO hC
open Go Go.RT Go.Proofs Go.Pl
set_option maxRecDepth 20000
set_option maxHeartbeats 2000000
theorem wHX19a {α : Prop} (h : α := by repeat (first | exact trivial | refine ⟨⟨_, rfl, .inl ⟨rfl, rfl⟩⟩, ?_⟩)) : α := h
theorem wHX19b {α : Prop} (h : α := by repeat (first | exact trivial | refine ⟨wS, ?_⟩ | refine ⟨ent_same rfl rfl (rfEq rfl tU) tL, ?_⟩ | refine ⟨ent_same rfl rfl (flEq rfl (by first | (simp; done) | (simp; omega) | (simp [encE, encN, encB, encT, encL, encTr]; done) | simp [maxC, minC])) trivial, ?_⟩)) : α := h
def smL (ll : List (List Int)) : Prop := ll.length ≤ 9223372036854775807 ∧ ∀ l ∈ ll, l.length ≤ 9223372036854775807
def smT (t : Tr) : Prop := t.dist.length ≤ 9223372036854775807 ∧ smL t.hops ∧ smL t.par
theorem equali_c (a b : List Int) (ha : a.length ≤ 9223372036854775807) (hb0 : b.length ≤ 9223372036854775807) : Pure Tryz.prog 43 [VI a, VI b] (Bf (decide (a = b))) := by
 refine Meets.intro Tryz.func43 rfl (Nat.le_of_ble_eq_true rfl) fun C hC => ?_
 simp only [List.map, argEnv, Nat.reduceAdd]
 refine nK ?_
 refine zb ?_
 refine ze ?_
 refine zc ?_
 refine nK ?_
 refine zb ?_
 refine za ?_
 refine zo ?_
 refine za ?_
 refine zo ?_
 refine zbg ?_
 refine zc ?_
 refine nK ?_
 refine n_cond _ rfl (fun hb => ?_) (fun hb => ?_)
 ·have e : decide (a = b) = false := by
   rw [decide_eq_false_iff_not]; rintro rfl; simp at hb
  rw [e]
  refine nK ?_
  refine zb ?_
  refine ze ?_
  refine zc ?_
  refine nK ?_
  exact wO hC
 have hl : a.length = b.length := by simp at hb; omega
 refine nK ?_
 refine zb ?_
 refine za ?_
 refine zo ?_
 refine zbb ?_
 refine zc ?_
 refine nK ?_
 refine n_loop (ι := Nat) (fun i => ([(0, .fz (VI a)), (1, .fz (VI b)), (12, IV .i64 a.length), (13, IV .i64 i)], [], 0)) (fun i => i ≤ a.length ∧ (a = b ↔ a.drop i = b.drop i)) (fun i => a.length - i) 0 ⟨Nat.zero_le _, Iff.rfl⟩ ?_ ?_
 ·refine Next.weak [] [] (by rfl) (keeps0 hC _) wHX19a wHX19b wN rel_intro
 intro i ⟨hi, ho⟩ K hK
 refine nK ?_
 refine zb ?_
 refine zp ?_
 refine zc ?_
 refine nK ?_
 refine n_cond _ rfl (fun hb => ?_) (fun hb => ?_)
 ·have hlt : i < a.length := by simp at hb; omega
  have hlt2 : i < b.length := by omega
  rw [same_step hlt hlt2] at ho
  have hr1 := row_at' encN a i hlt
  have hr2 := row_at' encN b i hlt2
  have hK1 := fun h => hK (i + 1) ⟨by omega, h⟩ (by omega)
  generalize a[i] = x at *
  generalize b[i] = y at *
  refine nK ?_
  refine zb ?_
  refine za ?_
  refine zd ?_
  refine zc ?_
  refine nK ?_
  refine s_draw mixed ?_
  refine za ?_
  refine za ?_
  refine zz ?_
  refine zj ?_
  refine za ?_
  refine za ?_
  refine zz ?_
  refine zj ?_
  refine zbg ?_
  refine zs ?_
  refine nK ?_
  refine n_cond _ rfl (fun hb => ?_) (fun hb => ?_)
  ·have e : decide (a = b) = false := by
    rw [decide_eq_false_iff_not, ho]; simp at hb; exact fun h => hb h.1
   rw [e]
   refine nK ?_
   refine zb ?_
   refine ze ?_
   refine zc ?_
   refine nK ?_
   exact wO hC
  refine nK ?_
  refine zb ?_
  refine zl ?_
  refine za ?_
  refine zc ?_
  refine nK ?_
  refine Next.weak [] [] (by rfl) (keeps0 hC _) wHX19a wHX19b wN (hK1 (ho.trans ⟨fun h => h.2, fun h => ⟨by simpa using hb, h⟩⟩))
 have hie : i = a.length := by simp at hb; omega
 have e : decide (a = b) = true := by
  rw [decide_eq_true_iff, ho, hie, List.drop_length, hl, List.drop_length]
 rw [e]
 refine nK ?_
 refine zb ?_
 refine ze ?_
 refine zc ?_
 refine nK ?_
 exact wO hC
theorem same1_c (a b : List Int) (ha : a.length ≤ 9223372036854775807) (hb0 : b.length ≤ 9223372036854775807) : Pure Tryz.prog 73 [VI a, VI b] (Bf (decide (a = b))) := by
 refine Meets.intro Tryz.func73 rfl (Nat.le_of_ble_eq_true rfl) fun C hC => ?_
 simp only [List.map, argEnv, Nat.reduceAdd]
 refine nK ?_
 refine zb ?_
 refine ze ?_
 refine zc ?_
 refine nK ?_
 refine zb ?_
 refine za ?_
 refine za ?_
 refine rpZ 7 rfl (op_call_pure (fun _ => equali_c _ _ (by assumption) (by assumption)) rfl (Opd.func _) (oS (oT rfl) (oS (oT rfl) Opds.nil))) ?_
 refine zd ?_
 refine zc ?_
 refine nK ?_
 exact wO hC
theorem equalF_c (a b : List (List Int)) (ha : smL a) (hb0 : smL b) : Pure Tryz.prog 74 [VLL a, VLL b, .clo 73 []] (Bf (decide (a = b))) := by
 have hal := ha.1
 have hbl := hb0.1
 refine Meets.intro Tryz.func74 rfl (Nat.le_of_ble_eq_true rfl) fun C hC => ?_
 simp only [List.map, argEnv, Nat.reduceAdd]
 refine nK ?_
 refine zb ?_
 refine ze ?_
 refine zc ?_
 refine nK ?_
 refine zb ?_
 refine za ?_
 refine zo ?_
 refine za ?_
 refine zo ?_
 refine zbg ?_
 refine zc ?_
 refine nK ?_
 refine n_cond _ rfl (fun hb => ?_) (fun hb => ?_)
 ·have e : decide (a = b) = false := by
   rw [decide_eq_false_iff_not]; rintro rfl; simp at hb
  rw [e]
  refine nK ?_
  refine zb ?_
  refine ze ?_
  refine zc ?_
  refine nK ?_
  exact wO hC
 have hl : a.length = b.length := by simp at hb; omega
 refine nK ?_
 refine zb ?_
 refine za ?_
 refine zo ?_
 refine zbb ?_
 refine zc ?_
 refine nK ?_
 refine n_loop (ι := Nat) (fun i => ([(0, .fz (VLL a)), (1, .fz (VLL b)), (2, .fz (.clo 73 [])), (15, .fz (VLL a)), (16, IV .i64 a.length), (17, IV .i64 i)], [], 0)) (fun i => i ≤ a.length ∧ (a = b ↔ a.drop i = b.drop i)) (fun i => a.length - i) 0 ⟨Nat.zero_le _, Iff.rfl⟩ ?_ ?_
 ·refine Next.weak [] [] (by rfl) (keeps0 hC _) wHX19a wHX19b wN rel_intro
 intro i ⟨hi, ho⟩ K hK
 refine nK ?_
 refine zb ?_
 refine zp ?_
 refine zc ?_
 refine nK ?_
 refine n_cond _ rfl (fun hb => ?_) (fun hb => ?_)
 ·have hlt : i < a.length := by simp at hb; omega
  have hlt2 : i < b.length := by omega
  rw [same_step hlt hlt2] at ho
  have hr1 := row_at' encL a i hlt
  have hr2 := row_at' encL b i hlt2
  have hK1 := fun h => hK (i + 1) ⟨by omega, h⟩ (by omega)
  have hx := ha.2 _ (List.getElem_mem hlt)
  have hy := hb0.2 _ (List.getElem_mem hlt2)
  generalize a[i] = x at *
  generalize b[i] = y at *
  refine nK ?_
  refine zb ?_
  refine za ?_
  refine zz ?_
  refine zj ?_
  refine zd ?_
  refine zd ?_
  refine zc ?_
  refine nK ?_
  refine zb ?_
  refine za ?_
  refine za ?_
  refine zz ?_
  refine zj ?_
  refine zd ?_
  refine zc ?_
  refine nK ?_
  refine zb ?_
  refine za ?_
  refine za ?_
  refine za ?_
  refine rpZ 29 rfl (op_call_pureC (args := [VI x, VI y]) (caps := []) (fun _ => same1_c x y hx hy) rfl (oT rfl) (oS (oT rfl) (oS (oT rfl) Opds.nil))) ?_
  refine zbj ?_
  refine zc ?_
  refine nK ?_
  refine n_cond _ rfl (fun hb => ?_) (fun hb => ?_)
  ·have e : decide (a = b) = false := by
    rw [decide_eq_false_iff_not, ho]; simp at hb; exact fun h => hb h.1
   rw [e]
   refine nK ?_
   refine zb ?_
   refine ze ?_
   refine zc ?_
   refine nK ?_
   exact wO hC
  refine nK ?_
  refine zb ?_
  refine zl ?_
  refine za ?_
  refine zc ?_
  refine nK ?_
  refine Next.weak [] [] (by rfl) (keeps0 hC _) wHX19a wHX19b wN (hK1 (ho.trans ⟨fun h => h.2, fun h => ⟨by simpa using hb, h⟩⟩))
 have hie : i = a.length := by simp at hb; omega
 have e : decide (a = b) = true := by
  rw [decide_eq_true_iff, ho, hie, List.drop_length, hl, List.drop_length]
 rw [e]
 refine nK ?_
 refine zb ?_
 refine ze ?_
 refine zc ?_
 refine nK ?_
 exact wO hC
theorem samebig_c (a b : List Int) (ha : a.length ≤ 9223372036854775807) (hb0 : b.length ≤ 9223372036854775807) : Pure Tryz.prog 33 [VI a, VI b] (Bf (decide (a = b))) := by
 refine Meets.intro Tryz.func33 rfl (Nat.le_of_ble_eq_true rfl) fun C hC => ?_
 simp only [List.map, argEnv, Nat.reduceAdd]
 refine nK ?_
 refine zb ?_
 refine ze ?_
 refine zc ?_
 refine nK ?_
 refine zb ?_
 refine za ?_
 refine zo ?_
 refine za ?_
 refine zo ?_
 refine zbg ?_
 refine zc ?_
 refine nK ?_
 refine n_cond _ rfl (fun hb => ?_) (fun hb => ?_)
 ·have e : decide (a = b) = false := by
   rw [decide_eq_false_iff_not]; rintro rfl; simp at hb
  rw [e]
  refine nK ?_
  refine zb ?_
  refine ze ?_
  refine zc ?_
  refine nK ?_
  exact wO hC
 have hl : a.length = b.length := by simp at hb; omega
 refine nK ?_
 refine zb ?_
 refine ze ?_
 refine zc ?_
 refine nK ?_
 refine n_loop (ι := Nat) (fun i => ([(0, .fz (VI a)), (1, .fz (VI b)), (5, IV .i64 i)], [], 0)) (fun i => i ≤ a.length ∧ (a = b ↔ a.drop i = b.drop i)) (fun i => a.length - i) 0 ⟨Nat.zero_le _, Iff.rfl⟩ ?_ ?_
 ·refine Next.weak [] [] (by rfl) (keeps0 hC _) wHX19a wHX19b wN rel_intro
 intro i ⟨hi, ho⟩ K hK
 refine nK ?_
 refine zb ?_
 refine za ?_
 refine za ?_
 refine zo ?_
 refine zp ?_
 refine zc ?_
 refine nK ?_
 refine n_cond _ rfl (fun hb => ?_) (fun hb => ?_)
 ·have hlt : i < a.length := by simp at hb; omega
  have hlt2 : i < b.length := by omega
  rw [same_step hlt hlt2] at ho
  have hr1 := row_at' encN a i hlt
  have hr2 := row_at' encN b i hlt2
  have hK1 := fun h => hK (i + 1) ⟨by omega, h⟩ (by omega)
  generalize a[i] = x at *
  generalize b[i] = y at *
  refine nK ?_
  refine s_draw mixed ?_
  refine za ?_
  refine za ?_
  refine zz ?_
  refine zj ?_
  refine za ?_
  refine za ?_
  refine zz ?_
  refine zj ?_
  refine zbg ?_
  refine zs ?_
  refine nK ?_
  refine n_cond _ rfl (fun hb => ?_) (fun hb => ?_)
  ·have e : decide (a = b) = false := by
    rw [decide_eq_false_iff_not, ho]; simp at hb; exact fun h => hb h.1
   rw [e]
   refine nK ?_
   refine zb ?_
   refine ze ?_
   refine zc ?_
   refine nK ?_
   exact wO hC
  refine nK ?_
  refine zb ?_
  refine za ?_
  refine zl ?_
  refine zd ?_
  refine zc ?_
  refine nK ?_
  refine Next.weak [] [] (by rfl) (keeps0 hC _) wHX19a wHX19b wN (hK1 (ho.trans ⟨fun h => h.2, fun h => ⟨by simpa using hb, h⟩⟩))
 have hie : i = a.length := by simp at hb; omega
 have e : decide (a = b) = true := by
  rw [decide_eq_true_iff, ho, hie, List.drop_length, hl, List.drop_length]
 rw [e]
 refine nK ?_
 refine zb ?_
 refine ze ?_
 refine zc ?_
 refine nK ?_
 exact wO hC
theorem rrows_c (a b : List (List Int)) (ha : smL a) (hb0 : smL b) : Pure Tryz.prog 34 [VLL a, VLL b] (Bf (decide (a = b))) := by
 have hal := ha.1
 have hbl := hb0.1
 refine Meets.intro Tryz.func34 rfl (Nat.le_of_ble_eq_true rfl) fun C hC => ?_
 simp only [List.map, argEnv, Nat.reduceAdd]
 refine nK ?_
 refine zb ?_
 refine ze ?_
 refine zc ?_
 refine nK ?_
 refine zb ?_
 refine za ?_
 refine zo ?_
 refine za ?_
 refine zo ?_
 refine zbg ?_
 refine zc ?_
 refine nK ?_
 refine n_cond _ rfl (fun hb => ?_) (fun hb => ?_)
 ·have e : decide (a = b) = false := by
   rw [decide_eq_false_iff_not]; rintro rfl; simp at hb
  rw [e]
  refine nK ?_
  refine zb ?_
  refine ze ?_
  refine zc ?_
  refine nK ?_
  exact wO hC
 have hl : a.length = b.length := by simp at hb; omega
 refine nK ?_
 refine zb ?_
 refine ze ?_
 refine zc ?_
 refine nK ?_
 refine n_loop (ι := Nat) (fun i => ([(0, .fz (VLL a)), (1, .fz (VLL b)), (5, IV .i64 i)], [], 0)) (fun i => i ≤ a.length ∧ (a = b ↔ a.drop i = b.drop i)) (fun i => a.length - i) 0 ⟨Nat.zero_le _, Iff.rfl⟩ ?_ ?_
 ·refine Next.weak [] [] (by rfl) (keeps0 hC _) wHX19a wHX19b wN rel_intro
 intro i ⟨hi, ho⟩ K hK
 refine nK ?_
 refine zb ?_
 refine za ?_
 refine za ?_
 refine zo ?_
 refine zp ?_
 refine zc ?_
 refine nK ?_
 refine n_cond _ rfl (fun hb => ?_) (fun hb => ?_)
 ·have hlt : i < a.length := by simp at hb; omega
  have hlt2 : i < b.length := by omega
  rw [same_step hlt hlt2] at ho
  have hr1 := row_at' encL a i hlt
  have hr2 := row_at' encL b i hlt2
  have hK1 := fun h => hK (i + 1) ⟨by omega, h⟩ (by omega)
  have hx := ha.2 _ (List.getElem_mem hlt)
  have hy := hb0.2 _ (List.getElem_mem hlt2)
  generalize a[i] = x at *
  generalize b[i] = y at *
  refine nK ?_
  refine s_draw mixed ?_
  refine za ?_
  refine za ?_
  refine zz ?_
  refine zj ?_
  refine za ?_
  refine za ?_
  refine zz ?_
  refine zj ?_
  refine rpZ 25 rfl (op_call_pure (fun _ => samebig_c _ _ (by first | omega | (dsimp only; omega)) (by first | omega | (dsimp only; omega))) rfl (Opd.func _) (oS (oT rfl) (oS (oT rfl) Opds.nil))) ?_
  refine zbj ?_
  refine zs ?_
  refine nK ?_
  refine n_cond _ rfl (fun hb => ?_) (fun hb => ?_)
  ·have e : decide (a = b) = false := by
    rw [decide_eq_false_iff_not, ho]; simp at hb; exact fun h => hb h.1
   rw [e]
   refine nK ?_
   refine zb ?_
   refine ze ?_
   refine zc ?_
   refine nK ?_
   exact wO hC
  refine nK ?_
  refine zb ?_
  refine za ?_
  refine zl ?_
  refine zd ?_
  refine zc ?_
  refine nK ?_
  refine Next.weak [] [] (by rfl) (keeps0 hC _) wHX19a wHX19b wN (hK1 (ho.trans ⟨fun h => h.2, fun h => ⟨by simpa using hb, h⟩⟩))
 have hie : i = a.length := by simp at hb; omega
 have e : decide (a = b) = true := by
  rw [decide_eq_true_iff, ho, hie, List.drop_length, hl, List.drop_length]
 rw [e]
 refine nK ?_
 refine zb ?_
 refine ze ?_
 refine zc ?_
 refine nK ?_
 exact wO hC
theorem tr_eq (a b : Tr) : decide (a = b) = (decide (a.root = b.root) && decide (a.dist = b.dist) && decide (a.hops = b.hops) && decide (a.par = b.par)) := by
 cases a; cases b; simp [Bool.decide_and, Bool.and_assoc]
theorem rsame_c (a b : Tr) (ha : smT a) (hb : smT b) : Pure Tryz.prog 14 [.agg (encTr a), .agg (encTr b)] (Bf (decide (a = b))) := by
 rw [tr_eq]
 obtain ⟨a1, a2, a3⟩ := ha
 obtain ⟨b1, b2, b3⟩ := hb
 obtain ⟨r1, d1, h1, p1⟩ := a
 obtain ⟨r2, d2, h2, p2⟩ := b
 dsimp only at *
 refine Meets.intro Tryz.func14 rfl (Nat.le_of_ble_eq_true rfl) fun C hC => ?_
 simp only [List.map, argEnv, Nat.reduceAdd]
 refine nK ?_
 refine zb ?_
 refine zq ?_
 refine zq ?_
 refine ze ?_
 refine zc ?_
 refine nK ?_
 refine zb ?_
 refine zg ?_
 refine zh ?_
 refine zg ?_
 refine zh ?_
 refine zbr ?_
 refine za ?_
 refine zn ?_
 refine zm ?_
 refine zn ?_
 refine zm ?_
 refine rgZ 15 rfl rfl tG (op_call_pure (fun _ => samebig_c _ _ (by first | omega | (dsimp only; omega)) (by first | omega | (dsimp only; omega))) rfl (Opd.func _) (oS (oO rfl tO) (oS (oO rfl tO) Opds.nil))) ?_
 refine zt ?_
 refine za ?_
 refine zn ?_
 refine zm ?_
 refine zn ?_
 refine zm ?_
 refine rgZ 22 rfl rfl tG (op_call_pure (fun _ => rrows_c _ _ (by assumption) (by assumption)) rfl (Opd.func _) (oS (oO rfl tO) (oS (oO rfl tO) Opds.nil))) ?_
 refine zt ?_
 refine za ?_
 refine zn ?_
 refine zm ?_
 refine zn ?_
 refine zm ?_
 refine rgZ 29 rfl rfl tG (op_call_pure (fun _ => rrows_c _ _ (by assumption) (by assumption)) rfl (Opd.func _) (oS (oO rfl tO) (oS (oO rfl tO) Opds.nil))) ?_
 refine zt ?_
 refine zd ?_
 refine zc ?_
 refine nK ?_
 exact wO hC
theorem same_c (a b : Tr) (ha : smT a) (hb : smT b) : Pure Tryz.prog 53 [.agg (encTr a), .agg (encTr b)] (Bf (decide (a = b))) := by
 rw [tr_eq]
 obtain ⟨a1, a2, a3⟩ := ha
 obtain ⟨b1, b2, b3⟩ := hb
 obtain ⟨r1, d1, h1, p1⟩ := a
 obtain ⟨r2, d2, h2, p2⟩ := b
 dsimp only at *
 refine Meets.intro Tryz.func53 rfl (Nat.le_of_ble_eq_true rfl) fun C hC => ?_
 simp only [List.map, argEnv, Nat.reduceAdd]
 refine nK ?_
 refine zb ?_
 refine zq ?_
 refine zq ?_
 refine ze ?_
 refine zc ?_
 refine nK ?_
 refine zb ?_
 refine rpZ 5 rfl (op_assign rfl (Opd.funcF _)) ?_
 refine zc ?_
 refine nK ?_
 refine zb ?_
 refine zg ?_
 refine zh ?_
 refine zg ?_
 refine zh ?_
 refine zbr ?_
 refine za ?_
 refine zn ?_
 refine zm ?_
 refine zn ?_
 refine zm ?_
 refine rgZ 16 rfl rfl tG (op_call_pure (fun _ => equali_c _ _ (by assumption) (by assumption)) rfl (Opd.func _) (oS (oO rfl tO) (oS (oO rfl tO) Opds.nil))) ?_
 refine zt ?_
 refine za ?_
 refine zn ?_
 refine zm ?_
 refine zn ?_
 refine zm ?_
 refine zf ?_
 refine rgZ 24 rfl rfl tG (op_call_pure (fun _ => equalF_c _ _ (by assumption) (by assumption)) rfl (Opd.func _) (oS (oO rfl tO) (oS (oO rfl tO) (oS (oO rfl tO) Opds.nil)))) ?_
 refine zt ?_
 refine za ?_
 refine zn ?_
 refine zm ?_
 refine zn ?_
 refine zm ?_
 refine zf ?_
 refine rgZ 32 rfl rfl tG (op_call_pure (fun _ => equalF_c _ _ (by assumption) (by assumption)) rfl (Opd.func _) (oS (oO rfl tO) (oS (oO rfl tO) (oS (oO rfl tO) Opds.nil)))) ?_
 refine zt ?_
 refine zd ?_
 refine zc ?_
 refine nK ?_
 exact wO hC
open Go Go.RT Go.Proofs Go.Pl
set_option maxRecDepth 20000
set_option maxHeartbeats 2000000
open Go Go.RT Go.Proofs Go.Pl
set_option maxRecDepth 20000
set_option maxHeartbeats 4000000
theorem rdist_c (g : Gr) (hg : checkI g = 0) : Pure Tryz.prog 35 [.agg (encG g)] (VLL (matF g.m (disF g.es g.m))) := by
 obtain ⟨vg, hr0, hn0⟩ := checkI_vg hg
 have hn := vg.n128
 have hel := vg.e1024
 have hrn : g.r + g.n = (g.m : Int) := by unfold Gr.m; omega
 change VG g.es g.r.toNat g.m at vg
 change g.m ≤ 128 at hn
 unfold disF
 generalize g.m = n at *
 refine Meets.intro Tryz.func35 rfl (Nat.le_of_ble_eq_true rfl) fun C hC => ?_
 simp only [List.map, argEnv, Nat.reduceAdd]
 refine nK2 ?_
 refine zb ?_
 refine zq ?_
 refine ze ?_
 refine zc ?_
 refine nK2 ?_
 refine zb ?_
 refine zg ?_
 refine zh ?_
 refine zg ?_
 refine zh ?_
 refine zbc ?_
 refine zd ?_
 refine zc ?_
 refine nK2 ?_
 refine zb ?_
 refine za ?_
 refine Run.eff (dd := some 17) rfl rfl (op_make (l := n) (c := n) rfl (oT rfl) (oT rfl) rfl rfl rfl rfl (by intro _; refine ⟨hrn, hrn, ?_⟩; omega)) ?_
 refine zd ?_
 refine zc ?_
 refine nK2 ?_
 refine Next.toOwn 1 1 n rfl ?_
 refine Next.weak [0, 1] [] (by rfl) (keepsN hC _ rfl) (G' := [(1, .ptr 0 3 0 0), (3, IV .i64 n), (4, .sl 1 1 0 n)]) (H' := [(0, OG g), (1, some (.refs 1 (ownL 1 (rowsI (llA n 0)))))]) wG (by exact ⟨wS, ⟨ent_own rfl rfl (by rw [llA_0, rowsI_nil, ← ownL_rep]; rfl), trivial⟩⟩) wN ?_
 refine nK2 ?_
 refine zb ?_
 refine ze ?_
 refine zc ?_
 refine nK2 ?_
 refine n_loop (ι := Nat) (fun i => ([(1, .ptr 0 3 0 0), (3, IV .i64 n), (4, .sl 1 1 0 n), (5, IV .i64 i)], [(0, OG g), (1, some (.refs 1 (ownL 1 (rowsI (llA n i)))))], 2)) (fun i => i ≤ n) (fun i => n - i) 0 (Nat.zero_le _) ?_ ?_
 ·refine Next.weak [0, 1] [] (by rfl) (keepsN hC _ rfl) wG (by exact ⟨wS, ⟨ent_own rfl rfl rfl, trivial⟩⟩) wN rel_intro
 intro i hi K hK
 try dsimp only at hi hK ⊢
 refine nK2 ?_
 refine zb ?_
 refine za ?_
 refine za ?_
 refine zp ?_
 refine zc ?_
 refine nK2 ?_
 refine n_cond _ rfl (fun hb => ?_) (fun hb => ?_)
 ·have hlt : i < n := by simpa using hb
  have hrA := rowsI_get (ll := llA n i) (v := i) (by rw [llA_len]; exact hlt)
  rw [show (llA n i).getD i [] = [] from llA_at hlt] at hrA
  have hK1 := hK (i + 1) (by omega) (by omega)
  rw [← llA_set, ← rowsI_set] at hK1
  have hll : (rowsI (llA n i)).length = n := by rw [rowsI_len, llA_len]
  generalize rowsI (llA n i) = irs at *
  refine nK2 ?_
  refine Next.take 1 i 0 rfl (ownL_get hrA) rfl rfl ?_
  have hs1 := set_get (ownL 1 irs) i [.sl 2 1 0 0] (by rw [ownL_len, hll]; omega)
  refine nK2 ?_
  refine zb ?_
  refine za ?_
  refine za ?_
  refine za ?_
  refine Run.eff (dd := some 26) rfl rfl (op_make (l := n) (c := n) rfl (oT rfl) (oT rfl) rfl rfl rfl rfl (by intro _; refine ⟨rfl, rfl, ?_⟩; omega)) ?_
  refine rpZ 27 rfl (op_idx_sl0 i rfl (oT rfl) (oT rfl) (by intro _; exact ⟨rfl, hlt⟩)) ?_
  refine Run.eff (dd := none) rfl rfl (op_store_refs rfl (oT rfl) (oT rfl) tP rfl rfl hs1 tS) ?_
  refine zc ?_
  refine nK2 ?_
  refine Next.weak [0, 1, 3] [] (by rfl) (keepsN hC _ rfl) (G' := [(1, .ptr 0 3 0 0), (3, IV .i64 n), (4, .sl 1 1 0 n), (5, IV .i64 i)]) (H' := [(0, OG g), (1, some (.refs 1 (tkL irs i n))), (2, OI (fillN n 0))]) wG (by exact ⟨wS, ⟨ent_tkG rfl rfl (by decide) (congrArg (fun r => some (Ob.refs 1 r)) (List.set_set ..)), ⟨ent_same rfl rfl (flEq rfl (by rw [fillN_0, List.map_replicate]; rfl)) trivial, trivial⟩⟩⟩) wN ?_
  have hs2 := set_get (ownL 1 irs) i [.sl 2 1 0 n] (by rw [ownL_len, hll]; omega)
  refine nK2 ?_
  refine zb ?_
  refine ze ?_
  refine zc ?_
  refine nK2 ?_
  refine n_loop (ι := Nat) (fun k => ([(1, .ptr 0 3 0 0), (3, IV .i64 n), (4, .sl 1 1 0 n), (5, IV .i64 i), (6, IV .i64 k)], [(0, OG g), (1, some (.refs 1 (tkL irs i n))), (2, OI (fillN n k))], 3)) (fun k => k ≤ n) (fun k => n - k) 0 (Nat.zero_le _) ?_ ?_
  ·refine Next.weak [0, 1, 2] [] (by rfl) (keepsN hC _ rfl) wG (by exact ⟨wS, ⟨ent_tk rfl rfl rfl (by decide) rfl, ⟨wS, trivial⟩⟩⟩) wN rel_intro
  intro k hk K2 hK2
  try dsimp only at hk hK2 ⊢
  refine nK2 ?_
  refine zb ?_
  refine za ?_
  refine za ?_
  refine zp ?_
  refine zc ?_
  refine nK2 ?_
  refine n_cond _ rfl (fun hb => ?_) (fun hb => ?_)
  ·have hlk : k < n := by simpa using hb
   have hrow := row_of encN (fillN n k) k 0 (by rw [fillN_len _ _ hk]; exact hlk)
   refine nK2 ?_
   refine zb ?_
   refine za ?_
   refine za ?_
   refine rpZ 35 rfl (op_idx_sl0 i rfl (oT rfl) (oT rfl) (by intro _; exact ⟨rfl, hlt⟩)) ?_
   refine rlZ 36 rfl (op_load1_refs rfl (oT rfl) (by intro _; exact ⟨rfl, hs2⟩) rfl) ?_
   refine za ?_
   refine rpZ 38 rfl (op_idx_sl0 k rfl (oT rfl) (oT rfl) (by intro _; exact ⟨rfl, hlk⟩)) ?_
   refine Run.eff (dd := none) rfl rfl (op_store_flat rfl (oT rfl) oC tC rfl rfl hrow tS) ?_
   refine zc ?_
   refine nK2 ?_
   refine zb ?_
   refine za ?_
   refine zl ?_
   refine zd ?_
   refine zc ?_
   refine nK2 ?_
   refine Next.weak [0, 1, 2] [] (by rfl) (keepsN hC _ rfl) wG (by exact ⟨wS, ⟨ent_tk rfl rfl rfl (by decide) rfl, ⟨ent_same rfl rfl (flEq rfl (by rw [← fillN_set n k hlk, List.map_set]; rfl)) trivial, trivial⟩⟩⟩) wN (hK2 (k + 1) (by omega) (by omega))
  have hke : k = n := by simp at hb; omega
  subst hke
  have hrow := row_of encN (fillN k k) i 0 (by rw [fillN_len _ _ (Nat.le_refl _)]; exact hlt)
  refine nK2 ?_
  refine zb ?_
  refine za ?_
  refine za ?_
  refine rpZ 41 rfl (op_idx_sl0 i rfl (oT rfl) (oT rfl) (by intro _; exact ⟨rfl, hlt⟩)) ?_
  refine rlZ 42 rfl (op_load1_refs rfl (oT rfl) (by intro _; exact ⟨rfl, hs2⟩) rfl) ?_
  refine za ?_
  refine rpZ 44 rfl (op_idx_sl0 i rfl (oT rfl) (oT rfl) (by intro _; exact ⟨rfl, hlt⟩)) ?_
  refine Run.eff (dd := none) rfl rfl (op_store_flat rfl (oT rfl) oC tC rfl rfl hrow tS) ?_
  refine zc ?_
  refine nK2 ?_
  refine zb ?_
  refine za ?_
  refine zl ?_
  refine zd ?_
  refine zc ?_
  refine nK2 ?_
  refine Next.untake 1 i 0 rfl (set_get _ _ _ (by rw [ownL_len, hll]; omega)) rfl rfl (by simp [fillN_len]) rfl ?_
  refine Next.weak [0, 1] [] (by rfl) (keepsN hC _ rfl) wG (by exact ⟨wS, ⟨ent_own rfl rfl (congrArg (fun r => some (Ob.refs 1 r)) ((List.set_set ..).trans ((ownL_set ..).trans (congrArg (fun r => ownL 1 (irs.set i r)) (by rw [← fill_row, List.map_set]; rfl))))), trivial⟩⟩) wN hK1
 have hie : i = n := by simp at hb; omega
 subst hie
 rw [llA_n]
 refine nK2 ?_
 refine zb ?_
 refine ze ?_
 refine zc ?_
 refine nK2 ?_
 refine n_loop (ι := Nat) (fun j => ([(1, .ptr 0 3 0 0), (3, IV .i64 i), (4, .sl 1 1 0 i), (7, IV .i64 j)], [(0, OG g), (1, some (.refs 1 (ownL 1 (rowsI (matF i (iniD (g.es.take j)))))))], 2)) (fun j => j ≤ g.es.length) (fun j => g.es.length - j) 0 (Nat.zero_le _) ?_ ?_
 ·refine Next.weak [0, 1] [] (by rfl) (keepsN hC _ rfl) wG (by exact ⟨wS, ⟨ent_own rfl rfl rfl, trivial⟩⟩) wN rel_intro
 intro j hj K2 hK2
 try dsimp only at hj hK2 ⊢
 refine nK2 ?_
 refine zb ?_
 refine za ?_
 refine zg ?_
 refine zh ?_
 refine zo ?_
 refine zp ?_
 refine zc ?_
 refine nK2 ?_
 refine n_cond _ rfl (fun hb => ?_) (fun hb => ?_)
 ·have hlj : j < g.es.length := by simp at hb; omega
  have hr1 := row_at' encE g.es j hlj
  have hef := vg.f _ (List.getElem_mem hlj)
  have het := vg.t _ (List.getElem_mem hlj)
  have hK3 := hK2 (j + 1) (by omega) (by omega)
  have hput := matF_put (n := i) (f := g.es[j].f.toNat) (t := g.es[j].t.toNat) (c := g.es[j].c) (D := iniD (g.es.take j)) (D' := iniD (g.es.take (j + 1))) (fun a b => iniD_succ vg.asc (fun e he => ⟨vg.ne e he, (vg.f e he).1, (vg.t e he).1⟩) hlj a b)
  rw [← hput, ← rowsI_set] at hK3
  generalize iniD (g.es.take j) = D at *
  clear hput
  have hrA := rowsI_get (ll := matF i D) (v := g.es[j].f.toNat) (by rw [matF_len]; omega)
  rw [show (matF i D).getD g.es[j].f.toNat [] = rowF i (D g.es[j].f.toNat) from matF_get i D (by omega)] at hrA
  have hll : (rowsI (matF i D)).length = i := by rw [rowsI_len, matF_len]
  generalize rowsI (matF i D) = irs at *
  generalize g.es[j] = e at *
  have hrl := rowF_len i (D e.f.toNat)
  generalize rowF i (D e.f.toNat) = row at *
  have hrt := row_of encN row e.t.toNat 0 (by omega)
  refine nK2 ?_
  refine Next.take 1 e.f.toNat 0 rfl (ownL_get hrA) rfl rfl ?_
  have hs1 := set_get (ownL 1 irs) e.f.toNat [.sl 2 1 0 (row.map encN).length] (by rw [ownL_len, hll]; omega)
  refine nK2 ?_
  refine s_draw mixed ?_
  refine za ?_
  refine zg ?_
  refine zh ?_
  refine za ?_
  refine zz ?_
  refine zx ?_
  refine zj ?_
  refine rpZ 59 rfl (op_idx_sl0 e.f.toNat rfl (oT rfl) (oT rfl) (by intro _; omega)) ?_
  refine rlZ 60 rfl (op_load1_refs rfl (oT rfl) (by intro _; exact ⟨rfl, hs1⟩) rfl) ?_
  refine zg ?_
  refine zh ?_
  refine za ?_
  refine zz ?_
  refine zx ?_
  refine zj ?_
  refine zg ?_
  refine zh ?_
  refine za ?_
  refine zz ?_
  refine zx ?_
  refine zj ?_
  refine rpZ 73 rfl (op_idx_sl0 e.t.toNat rfl (oT rfl) (oT rfl) (by intro _; rw [List.length_map]; omega)) ?_
  refine Run.effW (dd := none) rfl rfl (op_store_flat rfl (oT rfl) (oT rfl) tC rfl rfl hrt tS) (by first | exact ext_call | exact tE) ?_
  refine zs ?_
  refine nK2 ?_
  refine zb ?_
  refine za ?_
  refine zl ?_
  refine zd ?_
  refine zc ?_
  refine nK2 ?_
  refine Next.untake 1 e.f.toNat 0 rfl (set_get _ _ _ (by rw [ownL_len, hll]; omega)) rfl rfl (by simp) rfl ?_
  refine Next.weak [0, 1] [] (by rfl) (keepsN hC _ rfl) wG (by exact ⟨wS, ⟨ent_own rfl rfl (congrArg (fun r => some (Ob.refs 1 r)) ((List.set_set ..).trans ((ownL_set ..).trans (congrArg (fun r => ownL 1 (irs.set e.f.toNat r)) (by rw [List.map_set]; rfl))))), trivial⟩⟩) wN hK3
 have hje : j = g.es.length := by simp at hb; omega
 subst hje
 rw [List.take_length]
 refine nK2 ?_
 refine zb ?_
 refine ze ?_
 refine zc ?_
 refine nK2 ?_
 refine n_loop (ι := Nat) (fun m => ([(1, .ptr 0 3 0 0), (3, IV .i64 i), (4, .sl 1 1 0 i), (8, IV .i64 m)], [(0, OG g), (1, some (.refs 1 (ownL 1 (rowsI (matF i (fwN g.es m))))))], 2)) (fun m => m ≤ i) (fun m => i - m) 0 (Nat.zero_le _) ?_ ?_
 ·refine Next.weak [0, 1] [] (by rfl) (keepsN hC _ rfl) wG (by exact ⟨wS, ⟨ent_own rfl rfl rfl, trivial⟩⟩) wN rel_intro
 intro m hm K3 hK3
 try dsimp only at hm hK3 ⊢
 refine nK2 ?_
 refine zb ?_
 refine za ?_
 refine za ?_
 refine zp ?_
 refine zc ?_
 refine nK2 ?_
 refine n_cond _ rfl (fun hb => ?_) (fun hb => ?_)
 ·have hlm : m < i := by simpa using hb
  have hI := fwN_ok vg m hm
  have h00 : fwN g.es m m m = 0 := hI.diag vg hlm
  have hbd := fun a b (ha : a < i) (hb : b < i) => hI.bnd vg ha hb
  have hK4 := hK3 (m + 1) (by omega) (by omega)
  rw [show fwN g.es (m + 1) = fwP m (fwN g.es m) from rfl] at hK4
  rw [← matM_n] at hK4
  rw [← matM_0 i m (fwN g.es m)]
  generalize fwN g.es m = D at *
  clear hI
  refine nK2 ?_
  refine zb ?_
  refine ze ?_
  refine zc ?_
  refine nK2 ?_
  refine n_loop (ι := Nat) (fun a => ([(1, .ptr 0 3 0 0), (3, IV .i64 i), (4, .sl 1 1 0 i), (8, IV .i64 m), (9, IV .i64 a)], [(0, OG g), (1, some (.refs 1 (ownL 1 (rowsI (matM i m D a)))))], 2)) (fun a => a ≤ i) (fun a => i - a) 0 (Nat.zero_le _) ?_ ?_
  ·refine Next.weak [0, 1] [] (by rfl) (keepsN hC _ rfl) wG (by exact ⟨wS, ⟨ent_own rfl rfl rfl, trivial⟩⟩) wN rel_intro
  intro a ha K4 hK5
  try dsimp only at ha hK5 ⊢
  refine nK2 ?_
  refine zb ?_
  refine za ?_
  refine za ?_
  refine zp ?_
  refine zc ?_
  refine nK2 ?_
  refine n_cond _ rfl (fun hb => ?_) (fun hb => ?_)
  ·have hla : a < i := by simpa using hb
   have hK6 := hK5 (a + 1) (by omega) (by omega)
   have hrA := rowsI_get (ll := matM i m D a) (v := a) (by rw [matM_len]; omega)
   rw [show (matM i m D a).getD a [] = rowF i (D a) from matM_at hla] at hrA
   have hrM := rowsI_get (ll := matM i m D a) (v := m) (by rw [matM_len]; omega)
   rw [show (matM i m D a).getD m [] = rowF i (D m) from matM_atm hlm h00] at hrM
   have hll : (rowsI (matM i m D a)).length = i := by rw [rowsI_len, matM_len]
   have hskip := fun h => matM_same (n := i) (m := m) (i := a) (D := D) h
   rw [← matM_set, ← rowsI_set] at hK6
   have hrm := row_of encN (rowF i (D a)) m 0 (by rw [rowF_len]; omega)
   rw [show (rowF i (D a)).getD m 0 = D a m from rowF_get _ _ hlm] at hrm
   refine nK2 ?_
   refine Next.take 1 a 0 rfl (ownL_get hrA) rfl rfl ?_
   generalize rowsI (matM i m D a) = irs at *
   refine Next.weak [0, 1, 2] [] (by rfl) (keepsN hC _ rfl) (G' := [(1, .ptr 0 3 0 0), (3, IV .i64 i), (4, .sl 1 1 0 i), (8, IV .i64 m), (9, IV .i64 a)]) (H' := [(0, OG g), (1, some (.refs 1 (tkL irs a i))), (2, OI (rowF i (D a)))]) wG (by exact ⟨wS, ⟨ent_tkG rfl rfl (by decide) (congrArg (fun x => some (Ob.refs 1 ((ownL 1 irs).set a [PV.sl 2 1 0 x]))) (by simp)), ⟨wS, trivial⟩⟩⟩) wN ?_
   have hs1 := set_get (ownL 1 irs) a [.sl 2 1 0 i] (by rw [ownL_len, hll]; omega)
   refine nK2 ?_
   refine zb ?_
   refine za ?_
   refine za ?_
   refine rpZ 86 rfl (op_idx_sl0 a rfl (oT rfl) (oT rfl) (by intro _; exact ⟨rfl, hla⟩)) ?_
   refine rlZ 87 rfl (op_load1_refs rfl (oT rfl) (by intro _; exact ⟨rfl, hs1⟩) rfl) ?_
   refine za ?_
   refine rpZ 89 rfl (op_idx_sl0 m rfl (oT rfl) (oT rfl) (by intro _; exact ⟨rfl, hlm⟩)) ?_
   refine rlZ 90 rfl (op_load1_flat rfl (oT rfl) (by intro _; exact ⟨rfl, hrm⟩) rfl) ?_
   refine zbn ?_
   refine zc ?_
   refine nK2 ?_
   refine n_cond _ rfl (fun hb => ?_) (fun hb => ?_)
   ·have hneg : D a m < 0 := by simpa using hb
    rw [fwP_skip hneg] at hK6
    refine nK2 ?_
    refine zb ?_
    refine za ?_
    refine zl ?_
    refine zd ?_
    refine zc ?_
    refine nK2 ?_
    refine Next.untake 1 a 0 rfl (set_get _ _ _ (by rw [ownL_len, hll]; omega)) rfl rfl (by simp) rfl ?_
    refine Next.weak [0, 1] [] (by rfl) (keepsN hC _ rfl) wG (by exact ⟨wS, ⟨ent_own rfl rfl (congrArg (fun r => some (Ob.refs 1 r)) ((List.set_set ..).trans (ownL_set ..))), trivial⟩⟩) wN hK6
   have hpos : 0 ≤ D a m := by simpa using hb
   by_cases ham : a = m
   ·subst ham
    rw [show fwP a D a = D a from funext fun k => fwP_row h00] at hK6
    refine nK2 ?_
    refine zb ?_
    refine ze ?_
    refine zc ?_
    refine nK2 ?_
    refine n_loop (ι := Nat) (fun k => ([(1, .ptr 0 3 0 0), (3, IV .i64 i), (4, .sl 1 1 0 i), (8, IV .i64 a), (9, IV .i64 a), (10, IV .i64 k)], [(0, OG g), (1, some (.refs 1 (tkL irs a i))), (2, OI (rowF i (D a)))], 3)) (fun k => k ≤ i) (fun k => i - k) 0 (Nat.zero_le _) ?_ ?_
    ·refine Next.weak [0, 1, 2] [] (by rfl) (keepsN hC _ rfl) wG (by exact ⟨wS, ⟨ent_tk rfl rfl rfl (by decide) rfl, ⟨wS, trivial⟩⟩⟩) wN rel_intro
    intro k hk K5 hK7
    try dsimp only at hk hK7 ⊢
    refine nK2 ?_
    refine zb ?_
    refine za ?_
    refine za ?_
    refine zp ?_
    refine zc ?_
    refine nK2 ?_
    refine n_cond _ rfl (fun hb => ?_) (fun hb => ?_)
    ·have hlk : k < i := by simpa using hb
     have hrk := row_of encN (rowF i (D a)) k 0 (by rw [rowF_len]; omega)
     rw [show (rowF i (D a)).getD k 0 = D a k from rowF_get _ _ hlk] at hrk
     have hb1 := hbd a k hla hlk
     have hb2 := hbd a a hla hla
     refine nK2 ?_
     refine s_draw mixed ?_
     refine za ?_
     refine za ?_
     refine rpZ 99 rfl (op_idx_sl0 a rfl (oT rfl) (oT rfl) (by intro _; exact ⟨rfl, hla⟩)) ?_
     refine rlZ 100 rfl (op_load1_refs rfl (oT rfl) (by intro _; exact ⟨rfl, hs1⟩) rfl) ?_
     refine za ?_
     refine rpZ 102 rfl (op_idx_sl0 k rfl (oT rfl) (oT rfl) (by intro _; exact ⟨rfl, hlk⟩)) ?_
     refine rlZ 103 rfl (op_load1_flat rfl (oT rfl) (by intro _; exact ⟨rfl, hrk⟩) rfl) ?_
     refine zby ?_
     refine za ?_
     refine zf ?_
     refine zf ?_
     refine rgZ 108 rfl rfl tG (op_idx_sl0 a rfl (oO rfl tO) (oO rfl tO) (by intro _; exact ⟨rfl, hla⟩)) ?_
     refine rkZ 109 rfl rfl tG (op_load1_refs rfl (oO rfl tO) (by intro _; exact ⟨rfl, hs1⟩) rfl) ?_
     refine zf ?_
     refine rgZ 111 rfl rfl tG (op_idx_sl0 k rfl (oO rfl tO) (oO rfl tO) (by intro _; exact ⟨rfl, hlk⟩)) ?_
     refine rkZ 112 rfl rfl tG (op_load1_flat rfl (oO rfl tO) (by intro _; exact ⟨rfl, hrk⟩) rfl) ?_
     refine zcc ?_
     refine zbp ?_
     refine zf ?_
     refine zf ?_
     refine rgZ 117 rfl rfl tG (op_idx_sl0 a rfl (oO rfl tO) (oO rfl tO) (by intro _; exact ⟨rfl, hla⟩)) ?_
     refine rkZ 118 rfl rfl tG (op_load1_refs rfl (oO rfl tO) (by intro _; exact ⟨rfl, hs1⟩) rfl) ?_
     refine zf ?_
     refine rgZ 120 rfl rfl tG (op_idx_sl0 a rfl (oO rfl tO) (oO rfl tO) (by intro _; exact ⟨rfl, hla⟩)) ?_
     refine rkZ 121 rfl rfl tG (op_load1_flat rfl (oO rfl tO) (by intro _; exact ⟨rfl, hrm⟩) rfl) ?_
     refine zf ?_
     refine zf ?_
     refine rgZ 124 rfl rfl tG (op_idx_sl0 a rfl (oO rfl tO) (oO rfl tO) (by intro _; exact ⟨rfl, hla⟩)) ?_
     refine rkZ 125 rfl rfl tG (op_load1_refs rfl (oO rfl tO) (by intro _; exact ⟨rfl, hs1⟩) rfl) ?_
     refine zf ?_
     refine rgZ 127 rfl rfl tG (op_idx_sl0 k rfl (oO rfl tO) (oO rfl tO) (by intro _; exact ⟨rfl, hlk⟩)) ?_
     refine rkZ 128 rfl rfl tG (op_load1_flat rfl (oO rfl tO) (by intro _; exact ⟨rfl, hrk⟩) rfl) ?_
     refine zbs ?_
     refine zf ?_
     refine zf ?_
     refine rgZ 132 rfl rfl tG (op_idx_sl0 a rfl (oO rfl tO) (oO rfl tO) (by intro _; exact ⟨rfl, hla⟩)) ?_
     refine rkZ 133 rfl rfl tG (op_load1_refs rfl (oO rfl tO) (by intro _; exact ⟨rfl, hs1⟩) rfl) ?_
     refine zf ?_
     refine rgZ 135 rfl rfl tG (op_idx_sl0 k rfl (oO rfl tO) (oO rfl tO) (by intro _; exact ⟨rfl, hlk⟩)) ?_
     refine rkZ 136 rfl rfl tG (op_load1_flat rfl (oO rfl tO) (by intro _; exact ⟨rfl, hrk⟩) rfl) ?_
     refine zbk ?_
     refine zcd ?_
     refine zt ?_
     refine zs ?_
     refine nK2 ?_
     refine n_cond _ rfl (fun hb => ?_) (fun hb => ?_)
     ·exfalso
      rw [h00] at hb
      simp at hb; omega
     refine nK2 ?_
     refine zb ?_
     refine za ?_
     refine zl ?_
     refine zd ?_
     refine zc ?_
     refine nK2 ?_
     refine Next.weak [0, 1, 2] [] (by rfl) (keepsN hC _ rfl) wG (by exact ⟨wS, ⟨ent_tk rfl rfl rfl (by decide) rfl, ⟨wS, trivial⟩⟩⟩) wN (hK7 (k + 1) (by omega) (by omega))
    have hke : k = i := by simp at hb; omega
    subst hke
    refine nK2 ?_
    refine zb ?_
    refine za ?_
    refine zl ?_
    refine zd ?_
    refine zc ?_
    refine nK2 ?_
    refine Next.untake 1 a 0 rfl (set_get _ _ _ (by rw [ownL_len, hll]; omega)) rfl rfl (by simp) rfl ?_
    refine Next.weak [0, 1] [] (by rfl) (keepsN hC _ rfl) wG (by exact ⟨wS, ⟨ent_own rfl rfl (congrArg (fun r => some (Ob.refs 1 r)) ((List.set_set ..).trans (ownL_set ..))), trivial⟩⟩) wN hK6
   refine Next.take 1 m 0 rfl (tk_get ham hrM) rfl rfl ?_
   refine Next.weak [0, 1, 2, 3] [] (by rfl) (keepsN hC _ rfl) (G' := [(1, .ptr 0 3 0 0), (3, IV .i64 i), (4, .sl 1 1 0 i), (8, IV .i64 m), (9, IV .i64 a)]) (H' := [(0, OG g), (1, some (.refs 1 (tk2 irs a m i i))), (2, OI (rowF i (D a))), (3, OI (rowF i (D m)))]) wG (by exact ⟨wS, ⟨ent_tk2 rfl rfl (by decide) rfl rfl (congrArg (fun x => some (Ob.refs 1 ((tkL irs a i).set m [PV.sl 3 1 0 x]))) (by simp)), ⟨wS, ⟨wS, trivial⟩⟩⟩⟩) wN ?_
   have hsm := set_get (tkL irs a i) m [.sl 3 1 0 i] (by rw [tk_len, hll]; omega)
   have hsa : (tk2 irs a m i i)[a]? = some [PV.sl 2 1 0 i] := by
    unfold tk2
    rw [List.getElem?_set_ne (fun e => ham e.symm)]; exact hs1
   refine nK2 ?_
   refine zb ?_
   refine ze ?_
   refine zc ?_
   refine nK2 ?_
   rw [← rowK_0 i m D a]
   refine n_loop (ι := Nat) (fun k => ([(1, .ptr 0 3 0 0), (3, IV .i64 i), (4, .sl 1 1 0 i), (8, IV .i64 m), (9, IV .i64 a), (10, IV .i64 k)], [(0, OG g), (1, some (.refs 1 (tk2 irs a m i i))), (2, OI (rowK i m D a k)), (3, OI (rowF i (D m)))], 4)) (fun k => k ≤ i) (fun k => i - k) 0 (Nat.zero_le _) ?_ ?_
   ·refine Next.weak [0, 1, 2, 3] [] (by rfl) (keepsN hC _ rfl) wG (by exact ⟨wS, ⟨ent_tk2 rfl rfl (by decide) rfl rfl rfl, ⟨wS, ⟨wS, trivial⟩⟩⟩⟩) wN rel_intro
   intro k hk K5 hK7
   try dsimp only at hk hK7 ⊢
   refine nK2 ?_
   refine zb ?_
   refine za ?_
   refine za ?_
   refine zp ?_
   refine zc ?_
   refine nK2 ?_
   refine n_cond _ rfl (fun hb => ?_) (fun hb => ?_)
   ·have hlk : k < i := by simpa using hb
    have hrk := row_of encN (rowF i (D m)) k 0 (by rw [rowF_len]; omega)
    rw [show (rowF i (D m)).getD k 0 = D m k from rowF_get _ _ hlk] at hrk
    have hK8 := hK7 (k + 1) (by omega) (by omega)
    have hset := fun v h => rowK_set (n := i) (m := m) (i := a) (k := k) (D := D) (v := v) h
    have hsame := fun h => rowK_same (n := i) (m := m) (i := a) (k := k) (D := D) h
    have hrl := rowK_len i m D a k
    have hxk := rowK_at (n := i) (m := m) (i := a) (k := k) (D := D) hlk
    have hxm := rowK_m (n := i) (m := m) (i := a) (k := k) (D := D) hlm h00
    generalize rowK i m D a k = row at *
    have hrak := row_of encN row k 0 (by omega)
    rw [show row.getD k 0 = D a k from hxk] at hrak
    have hram := row_of encN row m 0 (by omega)
    rw [show row.getD m 0 = D a m from hxm] at hram
    have hb1 := hbd a k hla hlk
    have hb2 := hbd a m hla hlm
    have hb3 := hbd m k hlm hlk
    refine nK2 ?_
    refine s_draw mixed ?_
    refine za ?_
    refine za ?_
    refine rpZ 99 rfl (op_idx_sl0 m rfl (oT rfl) (oT rfl) (by intro _; exact ⟨rfl, hlm⟩)) ?_
    refine rlZ 100 rfl (op_load1_refs rfl (oT rfl) (by intro _; exact ⟨rfl, hsm⟩) rfl) ?_
    refine za ?_
    refine rpZ 102 rfl (op_idx_sl0 k rfl (oT rfl) (oT rfl) (by intro _; exact ⟨rfl, hlk⟩)) ?_
    refine rlZ 103 rfl (op_load1_flat rfl (oT rfl) (by intro _; exact ⟨rfl, hrk⟩) rfl) ?_
    refine zby ?_
    refine za ?_
    refine zf ?_
    refine zf ?_
    refine rgZ 108 rfl rfl tG (op_idx_sl0 a rfl (oO rfl tO) (oO rfl tO) (by intro _; exact ⟨rfl, hla⟩)) ?_
    refine rkZ 109 rfl rfl tG (op_load1_refs rfl (oO rfl tO) (by intro _; exact ⟨rfl, hsa⟩) rfl) ?_
    refine zf ?_
    refine rgZ 111 rfl rfl tG (op_idx_sl0 k rfl (oO rfl tO) (oO rfl tO) (by intro _; exact ⟨rfl, hlk⟩)) ?_
    refine rkZ 112 rfl rfl tG (op_load1_flat rfl (oO rfl tO) (by intro _; exact ⟨rfl, hrak⟩) rfl) ?_
    refine zcc ?_
    refine zbp ?_
    refine zf ?_
    refine zf ?_
    refine rgZ 117 rfl rfl tG (op_idx_sl0 a rfl (oO rfl tO) (oO rfl tO) (by intro _; exact ⟨rfl, hla⟩)) ?_
    refine rkZ 118 rfl rfl tG (op_load1_refs rfl (oO rfl tO) (by intro _; exact ⟨rfl, hsa⟩) rfl) ?_
    refine zf ?_
    refine rgZ 120 rfl rfl tG (op_idx_sl0 m rfl (oO rfl tO) (oO rfl tO) (by intro _; exact ⟨rfl, hlm⟩)) ?_
    refine rkZ 121 rfl rfl tG (op_load1_flat rfl (oO rfl tO) (by intro _; exact ⟨rfl, hram⟩) rfl) ?_
    refine zf ?_
    refine zf ?_
    refine rgZ 124 rfl rfl tG (op_idx_sl0 m rfl (oO rfl tO) (oO rfl tO) (by intro _; exact ⟨rfl, hlm⟩)) ?_
    refine rkZ 125 rfl rfl tG (op_load1_refs rfl (oO rfl tO) (by intro _; exact ⟨rfl, hsm⟩) rfl) ?_
    refine zf ?_
    refine rgZ 127 rfl rfl tG (op_idx_sl0 k rfl (oO rfl tO) (oO rfl tO) (by intro _; exact ⟨rfl, hlk⟩)) ?_
    refine rkZ 128 rfl rfl tG (op_load1_flat rfl (oO rfl tO) (by intro _; exact ⟨rfl, hrk⟩) rfl) ?_
    refine zbs ?_
    refine zf ?_
    refine zf ?_
    refine rgZ 132 rfl rfl tG (op_idx_sl0 a rfl (oO rfl tO) (oO rfl tO) (by intro _; exact ⟨rfl, hla⟩)) ?_
    refine rkZ 133 rfl rfl tG (op_load1_refs rfl (oO rfl tO) (by intro _; exact ⟨rfl, hsa⟩) rfl) ?_
    refine zf ?_
    refine rgZ 135 rfl rfl tG (op_idx_sl0 k rfl (oO rfl tO) (oO rfl tO) (by intro _; exact ⟨rfl, hlk⟩)) ?_
    refine rkZ 136 rfl rfl tG (op_load1_flat rfl (oO rfl tO) (by intro _; exact ⟨rfl, hrak⟩) rfl) ?_
    refine zbk ?_
    refine zcd ?_
    refine zt ?_
    refine zs ?_
    refine nK2 ?_
    refine n_cond _ rfl (fun hb => ?_) (fun hb => ?_)
    ·have hc : 0 ≤ D m k ∧ (D a k < 0 ∨ D a m + D m k < D a k) := by simpa using hb
     have hv : D a m + D m k = fwP m D a k := by unfold fwP; rw [if_pos ⟨hpos, hc⟩]
     rw [← hset _ hv] at hK8
     refine nK2 ?_
     refine s_draw mixed ?_
     refine za ?_
     refine za ?_
     refine rpZ 142 rfl (op_idx_sl0 a rfl (oT rfl) (oT rfl) (by intro _; exact ⟨rfl, hla⟩)) ?_
     refine rlZ 143 rfl (op_load1_refs rfl (oT rfl) (by intro _; exact ⟨rfl, hsa⟩) rfl) ?_
     refine za ?_
     refine za ?_
     refine za ?_
     refine rpZ 147 rfl (op_idx_sl0 a rfl (oT rfl) (oT rfl) (by intro _; exact ⟨rfl, hla⟩)) ?_
     refine rlZ 148 rfl (op_load1_refs rfl (oT rfl) (by intro _; exact ⟨rfl, hsa⟩) rfl) ?_
     refine za ?_
     refine rpZ 150 rfl (op_idx_sl0 m rfl (oT rfl) (oT rfl) (by intro _; exact ⟨rfl, hlm⟩)) ?_
     refine rlZ 151 rfl (op_load1_flat rfl (oT rfl) (by intro _; exact ⟨rfl, hram⟩) rfl) ?_
     refine za ?_
     refine za ?_
     refine rpZ 154 rfl (op_idx_sl0 m rfl (oT rfl) (oT rfl) (by intro _; exact ⟨rfl, hlm⟩)) ?_
     refine rlZ 155 rfl (op_load1_refs rfl (oT rfl) (by intro _; exact ⟨rfl, hsm⟩) rfl) ?_
     refine za ?_
     refine rpZ 157 rfl (op_idx_sl0 k rfl (oT rfl) (oT rfl) (by intro _; exact ⟨rfl, hlk⟩)) ?_
     refine rlZ 158 rfl (op_load1_flat rfl (oT rfl) (by intro _; exact ⟨rfl, hrk⟩) rfl) ?_
     refine zbc ?_
     refine rpZ 160 rfl (op_idx_sl0 k rfl (oT rfl) (oT rfl) (by intro _; exact ⟨rfl, hlk⟩)) ?_
     refine Run.effW (dd := none) rfl rfl (op_store_flat rfl (oT rfl) (oT rfl) tC rfl rfl hrak tS) (by first | exact ext_call | exact tE) ?_
     refine zs ?_
     refine nK2 ?_
     refine zb ?_
     refine za ?_
     refine zl ?_
     refine zd ?_
     refine zc ?_
     refine nK2 ?_
     refine Next.weak [0, 1, 2, 3] [] (by rfl) (keepsN hC _ rfl) wG (by exact ⟨wS, ⟨ent_tk2 rfl rfl (by decide) rfl rfl rfl, ⟨ent_same rfl rfl (flEq rfl (by rw [List.map_set]; rfl)) trivial, ⟨wS, trivial⟩⟩⟩⟩) wN hK8
    have hc : ¬ (0 ≤ D m k ∧ (D a k < 0 ∨ D a m + D m k < D a k)) := fun h => by rw [Bool.eq_false_iff] at hb; apply hb; simpa using h
    have hv : fwP m D a k = D a k := by unfold fwP; rw [if_neg (fun h => hc h.2)]
    rw [← hsame hv] at hK8
    refine nK2 ?_
    refine zb ?_
    refine za ?_
    refine zl ?_
    refine zd ?_
    refine zc ?_
    refine nK2 ?_
    refine Next.weak [0, 1, 2, 3] [] (by rfl) (keepsN hC _ rfl) wG (by exact ⟨wS, ⟨ent_tk2 rfl rfl (by decide) rfl rfl rfl, ⟨wS, ⟨wS, trivial⟩⟩⟩⟩) wN hK8
   have hke : k = i := by simp at hb; omega
   subst hke
   rw [rowK_n]
   refine nK2 ?_
   refine zb ?_
   refine za ?_
   refine zl ?_
   refine zd ?_
   refine zc ?_
   refine nK2 ?_
   refine Next.untake 1 m 0 rfl (set_get _ _ _ (by rw [tk_len, hll]; omega)) rfl rfl (by simp) (show _ = tkL irs a k from by
    rw [show (tk2 irs a m k k).set m ([PV.sl 3 1 0 k].set 0 (.own 1 ((rowF k (D m)).map encN))) = (tkL irs a k).set m [PV.own 1 ((rowF k (D m)).map encN)] from List.set_set ..]
    exact set_self (tk_get ham hrM)) ?_
   refine Next.untake 1 a 0 rfl hs1 rfl rfl (by simp) rfl ?_
   refine Next.weak [0, 1] [] (by rfl) (keepsN hC _ rfl) wG (by exact ⟨wS, ⟨ent_own rfl rfl (congrArg (fun r => some (Ob.refs 1 r)) ((List.set_set ..).trans (ownL_set ..))), trivial⟩⟩) wN hK6
  have hae : a = i := by simp at hb; omega
  subst hae
  refine nK2 ?_
  refine zb ?_
  refine za ?_
  refine zl ?_
  refine zd ?_
  refine zc ?_
  refine nK2 ?_
  refine Next.weak [0, 1] [] (by rfl) (keepsN hC _ rfl) wG (by exact ⟨wS, ⟨ent_own rfl rfl rfl, trivial⟩⟩) wN hK4
 have hme : m = i := by simp at hb; omega
 subst hme
 refine Next.freezeOwn 1 rfl rfl ?_
 refine nK2 ?_
 refine zb ?_
 refine za ?_
 refine zd ?_
 refine zc ?_
 refine nK2 ?_
 have hFl : (fzL 1 (rowsI (matF m (fwN g.es m)))).length = m := by rw [fzL_len, rowsI_len, matF_len]
 refine Next.weakS [] [2] (by rfl) (keeps0 hC _) (G' := [(2, .fz (VLL (matF m (fwN g.es m))))]) (H' := []) ⟨⟨_, rfl, .inr ⟨_, rfl, .sl _ _ _ _ _ _ rfl rfl ((take_all0 hFl).trans (fz_rowsI _)) (by rw [← fz_rowsI, hFl])⟩⟩, trivial⟩ trivial rfl ?_
 exact n_out1 rfl (by rfl) rfl rfl
open Go Go.RT Go.Proofs Go.Pl
set_option maxRecDepth 20000
set_option maxHeartbeats 4000000
def dirP (g : Gr) (D : Nat → Nat → Int) (a v w : Nat) : Bool := decide (g.r ≤ (w : Int)) && ((costL a w g.es).2 && (costL w v g.es).2 && decide ((costL a w g.es).1 = D a w) && decide ((costL a w g.es).1 = D a v))
theorem direct_c (g : Gr) (D : Nat → Nat → Int) (a v : Nat) (d : Dst g D) (ha : a < g.m) (hv : v < g.m) : Pure Tryz.prog 36 [.agg (encG g), VLL (matF g.m D), If .i64 a, If .i64 v] (Bf (dirB g D a v)) := by
 have hl : g.es.length ≤ 2000000 := by have := d.vg.e1024; omega
 have hr0 := d.r0
 have h128 := d.vg.n128
 have hle := d.vg.le
 have hr : g.r = (g.r.toNat : Int) := by omega
 have hma := mat_row g.m D ha
 have hrv := row_row g.m (D a) hv
 have hca := rcost_c g a v hl
 have hml := matF_len g.m D
 refine Meets.intro Tryz.func36 rfl (Nat.le_of_ble_eq_true rfl) fun C hC => ?_
 simp only [List.map, argEnv, Nat.reduceAdd]
 refine nK ?_
 refine zb ?_
 refine zq ?_
 refine ze ?_
 refine zc ?_
 refine nK ?_
 refine zb ?_
 refine zk ?_
 refine za ?_
 refine za ?_
 refine rpZ 20 rfl (op_call_pure (fun _ => hca) rfl (Opd.func _) (oS (oT rfl) (oS (oT rfl) (oS (oT rfl) Opds.nil)))) ?_
 refine za ?_
 refine zi ?_
 refine zi ?_
 refine zd ?_
 refine zd ?_
 refine zc ?_
 refine nK ?_
 refine zb ?_
 refine za ?_
 refine za ?_
 refine zf ?_
 refine zf ?_
 refine zf ?_
 refine rgZ 28 rfl rfl tG (op_idx_fz a rfl (oO rfl tO) (oO rfl tO) (by intro _; exact ⟨rfl, hma⟩)) ?_
 refine zw ?_
 refine zf ?_
 refine rgZ 31 rfl rfl tG (op_idx_fz v rfl (oO rfl tO) (oO rfl tO) (by intro _; exact ⟨rfl, hrv⟩)) ?_
 refine zw ?_
 refine zbo ?_
 refine zt ?_
 refine zc ?_
 refine nK ?_
 refine n_cond _ rfl (fun hb => ?_) (fun hb => ?_)
 ·rw [show dirB g D a v = true from by unfold dirB; exact Bool.or_eq_true_iff.2 (.inl hb)]
  refine nK ?_
  refine zb ?_
  refine ze ?_
  refine zc ?_
  refine nK ?_
  exact wO hC
 have hb1 := hb
 refine nK ?_
 refine zb ?_
 refine za ?_
 refine zg ?_
 refine zh ?_
 refine zcj ?_
 refine zc ?_
 refine nK ?_
 refine n_cond _ rfl (fun hb => ?_) (fun hb => ?_)
 ·rw [show dirB g D a v = false from by
   unfold dirB
   have : decide ((v : Int) < g.r) = false := by simp at hb ⊢; omega
   rw [this, Bool.false_and, Bool.or_false]; exact hb1]
  refine nK ?_
  refine zb ?_
  refine ze ?_
  refine zc ?_
  refine nK ?_
  exact wO hC
 have hvr : (v : Int) < g.r := by simp at hb; omega
 have hdir : dirB g D a v = (List.range g.m).any (dirP g D a v) := by
  unfold dirB
  rw [show decide ((v : Int) < g.r) = true by simpa using hvr, Bool.true_and]
  exact (congrArg (fun x => x || _) hb1).trans (Bool.false_or _)
 clear hb hb1
 rw [hdir]
 refine nK ?_
 refine zb ?_
 refine zg ?_
 refine zh ?_
 refine zd ?_
 refine zc ?_
 refine nK ?_
 refine n_loop (ι := Nat) (fun w => ([(1, .fz (VLL (matF g.m D))), (2, IV .i64 a), (3, IV .i64 v), (4, .ptr 0 3 0 0), (11, IV .i64 w)], [(0, OG g)], 1)) (fun w => g.r.toNat ≤ w ∧ w ≤ g.m ∧ ∀ x, x < w → dirP g D a v x = false) (fun w => g.m - w) g.r.toNat ⟨Nat.le_refl _, hle, fun x hx => by
  unfold dirP
  rw [show decide (g.r ≤ (x : Int)) = false by simp; omega, Bool.false_and]⟩ ?_ ?_
 ·refine Next.weak [0] [] (by rfl) (keepsN hC _ rfl) wG wR wN rel_intro
 intro w ⟨hw1, hw2, hno⟩ K hK
 try dsimp only at hw1 hw2 hno hK ⊢
 refine nK ?_
 refine zb ?_
 refine za ?_
 refine za ?_
 refine zo ?_
 refine zp ?_
 refine zc ?_
 refine nK ?_
 refine n_cond _ rfl (fun hb => ?_) (fun hb => ?_)
 ·have hlw : w < g.m := by rw [hml] at hb; have := of_decide_eq_true hb; omega
  have hrw := row_row g.m (D a) hlw
  have hc1 := rcost_c g a w hl
  have hc2 := rcost_c g w v hl
  have hK1 := fun (h : dirP g D a v w = false) => hK (w + 1) ⟨by omega, by omega, fun x hx => by
   rcases Nat.lt_or_ge x w with h1 | h1
   ·exact hno x h1
   rw [show x = w by omega]; exact h⟩ (by omega)
  clear hK hb
  have hgr : decide (g.r ≤ (w : Int)) = true := by simp; omega
  refine nK ?_
  refine zb ?_
  refine zk ?_
  refine za ?_
  refine za ?_
  refine rpZ 51 rfl (op_call_pure (fun _ => hc1) rfl (Opd.func _) (oS (oT rfl) (oS (oT rfl) (oS (oT rfl) Opds.nil)))) ?_
  refine za ?_
  refine zi ?_
  refine zi ?_
  refine zd ?_
  refine zd ?_
  refine zc ?_
  refine nK ?_
  refine zb ?_
  refine zk ?_
  refine za ?_
  refine za ?_
  refine rpZ 58 rfl (op_call_pure (fun _ => hc2) rfl (Opd.func _) (oS (oT rfl) (oS (oT rfl) (oS (oT rfl) Opds.nil)))) ?_
  refine za ?_
  refine zi ?_
  refine zi ?_
  refine zd ?_
  refine zd ?_
  refine zc ?_
  refine nK ?_
  refine zb ?_
  refine za ?_
  refine za ?_
  refine zf ?_
  refine zt ?_
  refine za ?_
  refine zf ?_
  refine zf ?_
  refine zf ?_
  refine rgZ 69 rfl rfl tG (op_idx_fz a rfl (oO rfl tO) (oO rfl tO) (by intro _; exact ⟨rfl, hma⟩)) ?_
  refine zw ?_
  refine zf ?_
  refine rgZ 72 rfl rfl tG (op_idx_fz w rfl (oO rfl tO) (oO rfl tO) (by intro _; exact ⟨rfl, hrw⟩)) ?_
  refine zw ?_
  refine zbo ?_
  refine zt ?_
  refine za ?_
  refine zf ?_
  refine zf ?_
  refine zf ?_
  refine rgZ 80 rfl rfl tG (op_idx_fz a rfl (oO rfl tO) (oO rfl tO) (by intro _; exact ⟨rfl, hma⟩)) ?_
  refine zw ?_
  refine zf ?_
  refine rgZ 83 rfl rfl tG (op_idx_fz v rfl (oO rfl tO) (oO rfl tO) (by intro _; exact ⟨rfl, hrv⟩)) ?_
  refine zw ?_
  refine zbo ?_
  refine zt ?_
  refine zc ?_
  refine nK ?_
  refine n_cond _ rfl (fun hb => ?_) (fun hb => ?_)
  ·rw [show (List.range g.m).any (dirP g D a v) = true from List.any_eq_true.2 ⟨w, List.mem_range.2 hlw, by unfold dirP; rw [hgr]; exact hb⟩]
   refine nK ?_
   refine zb ?_
   refine ze ?_
   refine zc ?_
   refine nK ?_
   exact wO hC
  refine nK ?_
  refine zb ?_
  refine za ?_
  refine zl ?_
  refine zd ?_
  refine zc ?_
  refine nK ?_
  refine Next.weak [0] [] (by rfl) (keepsN hC _ rfl) wG wR wN (hK1 (by unfold dirP; rw [hgr]; exact hb))
 have hwe : w = g.m := by rw [hml] at hb; have := of_decide_eq_false hb; omega
 rw [show (List.range g.m).any (dirP g D a v) = false from by
  rw [List.any_eq_false]
  intro x hx
  rw [hno x (by have := List.mem_range.1 hx; omega)]; simp]
 refine nK ?_
 refine zb ?_
 refine ze ?_
 refine zc ?_
 refine nK ?_
 exact wO hC
open Go Go.RT Go.Proofs Go.Pl
set_option maxRecDepth 20000
set_option maxHeartbeats 4000000
theorem rrun_bad (g : Gr) (a : Int) (hok : okG g) (hg : checkI g ≠ 0) : Pure Tryz.prog 15 [.agg (encG g), If .i64 a] (.tup [.agg (encTr zeroT), If .i64 (checkI g)]) := by
 refine Meets.intro Tryz.func15 rfl (Nat.le_of_ble_eq_true rfl) fun C hC => ?_
 simp only [List.map, argEnv, Nat.reduceAdd]
 refine nK2 ?_
 refine zb ?_
 refine zq ?_
 refine zu ?_
 refine ze ?_
 refine zc ?_
 refine nK2 ?_
 refine zb ?_
 refine zk ?_
 refine rpZ 19 rfl (op_call_pure (fun _ => rcheck_c _ (by assumption)) rfl (Opd.func _) (oS (oT rfl) Opds.nil)) ?_
 refine zd ?_
 refine zc ?_
 refine nK2 ?_
 refine zb ?_
 refine za ?_
 refine zbd ?_
 refine zc ?_
 refine nK2 ?_
 refine n_cond _ rfl (fun hb => ?_) (fun hb => ?_)
 ·refine nK2 ?_
  refine zb ?_
  refine zbm ?_
  refine za ?_
  refine zr ?_
  refine zd ?_
  refine zc ?_
  refine nK2 ?_
  (refine Next.weakS [4] [] (by rfl) (keeps0 hC _) (G' := [(4, .ptr 0 4 0 0), (5, .fz _)]) (H' := [(0, OTr zeroT)]) wG (by exact ⟨⟨rfl, rfl, .fflat _ _ _ rfl tW⟩, trivial⟩) rfl ?_; exact wO hC)
 simp at hb; omega
theorem rrun_out (g : Gr) (a : Int) (hok : okG g) (hg : checkI g = 0) (ha : a < 0 ∨ g.r ≤ a) : Pure Tryz.prog 15 [.agg (encG g), If .i64 a] (.tup [.agg (encTr zeroT), If .i64 5]) := by
 refine Meets.intro Tryz.func15 rfl (Nat.le_of_ble_eq_true rfl) fun C hC => ?_
 simp only [List.map, argEnv, Nat.reduceAdd]
 refine nK2 ?_
 refine zb ?_
 refine zq ?_
 refine zu ?_
 refine ze ?_
 refine zc ?_
 refine nK2 ?_
 refine zb ?_
 refine zk ?_
 refine rpZ 19 rfl (op_call_pure (fun _ => rcheck_c _ (by assumption)) rfl (Opd.func _) (oS (oT rfl) Opds.nil)) ?_
 refine zd ?_
 refine zc ?_
 refine nK2 ?_
 refine zb ?_
 refine za ?_
 refine zbd ?_
 refine zc ?_
 refine nK2 ?_
 refine n_cond _ rfl (fun hb => ?_) (fun hb => ?_)
 ·simp at hb; omega
 refine nK2 ?_
 refine zb ?_
 refine za ?_
 refine zbn ?_
 refine za ?_
 refine zf ?_
 refine zn ?_
 refine zm ?_
 refine zbz ?_
 refine zv ?_
 refine zc ?_
 refine nK2 ?_
 refine n_cond _ rfl (fun hb => ?_) (fun hb => ?_)
 ·refine nK2 ?_
  refine zb ?_
  refine zbm ?_
  refine zr ?_
  refine ze ?_
  refine zc ?_
  refine nK2 ?_
  (refine Next.weakS [4] [] (by rfl) (keeps0 hC _) (G' := [(4, .ptr 0 4 0 0), (5, .fz _)]) (H' := [(0, OTr zeroT)]) wG (by exact ⟨⟨rfl, rfl, .fflat _ _ _ rfl tW⟩, trivial⟩) rfl ?_; exact wO hC)
 simp at hb; omega
/-- rows up to the v-th -/
def preL (n : Nat) (f : Nat → List Int) (v : Nat) : List (List Int) := (List.range n).map fun w => if w < v then f w else []
theorem preL_len (n : Nat) (f : Nat → List Int) (v : Nat) : (preL n f v).length = n := rng_len n _
theorem preL_0 (n : Nat) (f : Nat → List Int) : preL n f 0 = List.replicate n [] := by rw [rng_const]; exact rng_same n _ _ fun w _ => by simp
theorem preL_n (n : Nat) (f : Nat → List Int) : preL n f n = (List.range n).map f := rng_same n _ _ fun w hw => by simp [hw]
theorem preL_set (n : Nat) (f : Nat → List Int) (v : Nat) : (preL n f v).set v (f v) = preL n f (v + 1) := rng_set n _ _ v _ (by simp) (fun w hw => by
  by_cases h : w < v
  ·rw [if_pos h, if_pos (by omega)]
  rw [if_neg h, if_neg (by omega)])
theorem preL_skip {n : Nat} {f : Nat → List Int} {v : Nat} (h : f v = []) : preL n f v = preL n f (v + 1) := rng_same n _ _ fun w _ => by
 by_cases h1 : w < v
 ·rw [if_pos h1, if_pos (by omega)]
 by_cases h2 : w = v
 ·subst h2; rw [if_neg h1, if_pos (by omega), h]
 rw [if_neg h1, if_neg (by omega)]
theorem preL_nil {n : Nat} {f : Nat → List Int} {v : Nat} (h : v < n) : (preL n f v).set v [] = preL n f v := set_self (by simp [preL, h])
theorem set_at {ll : List (List Int)} {v : Nat} {l : List Int} (h : v < ll.length) : (ll.set v l).getD v [] = l := by simp [List.getD_eq_getElem?_getD, h]
theorem setI_set {ll : List (List Int)} {v : Nat} {l l' : List Int} : (rowsI (ll.set v l)).set v (l'.map encN) = rowsI (ll.set v l') := by rw [rowsI_set, List.set_set]
theorem cost_bnd {es : List Edg} {r n : Nat} (vg : VG es r n) (f t : Int) : 0 ≤ (costL f t es).1 ∧ (costL f t es).1 ≤ 65535 := by
 cases h : (costL f t es).2 with
 | true =>
  obtain ⟨e, he, _, _, h3⟩ := (cost_yes vg.asc).1 h
  rw [← h3]; exact vg.c e he
 | false =>
  have : ∀ l : List Edg, (costL f t l).2 = false → (costL f t l).1 = 0 := fun l => by
   induction l with
   | nil => intro _; rfl
   | cons x l ih =>
    simp only [costL]
    split
    ·simp
    exact ih
  rw [this es h]; omega
theorem take_filter {α : Type} (p : α → Bool) (l : List α) (i : Nat) (h : i < l.length) : (l.take (i + 1)).filter p = (l.take i).filter p ++ if p l[i] = true then [l[i]] else [] := by
 rw [List.take_succ_eq_append_getElem h, List.filter_append]
 congr 1
 by_cases h1 : p l[i] = true <;> simp [h1]
theorem rrun_c (g : Gr) (a : Nat) (hok : okG g) (hg : checkI g = 0) (har : (a : Int) < g.r) : Pure Tryz.prog 15 [.agg (encG g), If .i64 a] (.tup [.agg (encTr (refT g (disF g.es g.m) a)), If .i64 0]) := by
 have d := dst_of hg
 have hdc := rdist_c g hg
 have hm : g.m = (g.r + g.n).toNat := rfl
 have hn0 := (checkI_vg hg).2.2
 have hr0 := d.r0
 have h128 := d.vg.n128
 have hel := d.vg.e1024
 have ha : a < g.m := by omega
 generalize hDD : disF g.es g.m = D at *
 clear hDD hm
 have hma := mat_row g.m D ha
 have hml := matF_len g.m D
 have hrl := rowF_len g.m (D a)
 have hcb := fun f t => cost_bnd d.vg f t
 have hdb := fun i k (hi : i < g.m) (hk : k < g.m) => d.bnd hi hk
 have hel2 : g.es.length ≤ 2000000 := by omega
 refine Meets.intro Tryz.func15 rfl (Nat.le_of_ble_eq_true rfl) fun C hC => ?_
 simp only [List.map, argEnv, Nat.reduceAdd]
 refine nK2 ?_
 refine zb ?_
 refine zq ?_
 refine zu ?_
 refine ze ?_
 refine zc ?_
 refine nK2 ?_
 refine zb ?_
 refine zk ?_
 refine rpZ 19 rfl (op_call_pure (fun _ => rcheck_c _ (by assumption)) rfl (Opd.func _) (oS (oT rfl) Opds.nil)) ?_
 refine zd ?_
 refine zc ?_
 refine nK2 ?_
 refine zb ?_
 refine za ?_
 refine zbd ?_
 refine zc ?_
 refine nK2 ?_
 refine n_cond _ rfl (fun hb => ?_) (fun hb => ?_)
 ·simp at hb; omega
 refine nK2 ?_
 refine zb ?_
 refine za ?_
 refine zbn ?_
 refine za ?_
 refine zf ?_
 refine zn ?_
 refine zm ?_
 refine zbz ?_
 refine zv ?_
 refine zc ?_
 refine nK2 ?_
 refine n_cond _ rfl (fun hb => ?_) (fun hb => ?_)
 ·simp at hb; omega
 clear hb
 refine nK2 ?_
 refine zb ?_
 refine zk ?_
 refine rpZ 34 rfl (op_call_pure (fun _ => hdc) rfl (Opd.func _) (oS (oT rfl) Opds.nil)) ?_
 refine zd ?_
 refine zc ?_
 refine nK2 ?_
 refine zb ?_
 refine za ?_
 refine zo ?_
 refine zd ?_
 refine zc ?_
 refine nK2 ?_
 refine Next.weak [0, 1] [] (by rfl) (keepsN hC _ rfl) (G' := [(1, IV .i64 a), (2, .ptr 0 3 0 0), (4, .ptr 1 4 0 0), (7, .fz (VLL (matF g.m D))), (8, IV .i64 g.m)]) (H' := [(0, OG g), (1, OTr zeroT)]) (by exact ⟨⟨_, rfl, .inl ⟨rfl, rfl⟩⟩, ⟨_, rfl, .inl ⟨rfl, rfl⟩⟩, ⟨_, rfl, .inl ⟨rfl, rfl⟩⟩, ⟨_, rfl, .inl ⟨rfl, rfl⟩⟩, ⟨_, rfl, .inl ⟨ivEq (by rw [hml]), rfl⟩⟩, trivial⟩) (by exact ⟨wS, ⟨⟨rfl, rfl, .fflat _ _ _ rfl tW⟩, trivial⟩⟩) wN ?_
 refine nK2 ?_
 refine draw_y [(1, IV .i64 a), (2, .ptr 0 3 0 0), (4, .ptr 1 4 0 0), (7, .fz (VLL (matF g.m D))), (8, IV .i64 g.m), (9, .ptr 2 4 0 0)] [(0, OG g), (1, OTr zeroT), (2, some (.refs 4 [[.fz (If .i64 a), .fz (VI (rowF g.m (D a))), .sl 3 1 0 g.m, .sl 4 1 0 g.m]])), (3, some (.flat 1 (List.replicate g.m [.lit (.slice none 0 0)]))), (4, some (.flat 1 (List.replicate g.m [.lit (.slice none 0 0)])))] 5 mixed (fun hK => ?_) ?_
 ·skip
  refine AnyY.virt (by kernel_rfl) 0 rfl (op_move rfl (oT rfl)) (by kernel_rfl) rfl (fun t h => by cases h; rfl) ?_
  refine AnyY.virt (by kernel_rfl) 1 rfl (op_move rfl (oT rfl)) (by kernel_rfl) rfl (fun t h => by cases h; rfl) ?_
  refine AnyY.virt (by kernel_rfl) 2 rfl (op_move rfl (oT rfl)) (by kernel_rfl) rfl (fun t h => by cases h; rfl) ?_
  refine AnyY.virt (by kernel_rfl) 3 rfl (op_idx_fz a rfl (oT rfl) (oT rfl) (by intro _; exact ⟨rfl, hma⟩)) (by kernel_rfl) rfl (fun t h => by cases h; rfl) ?_
  refine AnyY.virt (by kernel_rfl) 4 rfl (op_load1_fz rfl (oT rfl) rfl) (by kernel_rfl) rfl (fun t h => by cases h; rfl) ?_
  refine AnyY.virt (by kernel_rfl) 5 rfl (op_move rfl (oT rfl)) (by kernel_rfl) rfl (fun t h => by cases h; rfl) ?_
  refine AnyY.virt (by kernel_rfl) 7 rfl (op_move rfl (oT rfl)) (by kernel_rfl) rfl (fun t h => by cases h; rfl) ?_
  refine AnyY.three 6 8 10 (by kernel_rfl) rfl (by kernel_rfl) (StepY.mk rfl (op_make (l := g.m) (c := g.m) rfl (oT rfl) (oT rfl) rfl rfl rfl rfl (by intro _; refine ⟨rfl, rfl, ?_⟩; omega)) (fun t h => by cases h; rfl) ?_) (StepY.mk rfl (op_make (l := g.m) (c := g.m) rfl (oT rfl) (oT rfl) rfl rfl rfl rfl (by intro _; refine ⟨rfl, rfl, ?_⟩; omega)) (fun t h => by cases h; rfl) ?_) (StepY.mk rfl (op_alloc rfl rfl rfl rfl) (fun t h => by cases h; rfl) ?_)
  ·skip
   refine AnyY.two 8 10 (by kernel_rfl) rfl (by kernel_rfl) (StepY.mk rfl (op_make (l := g.m) (c := g.m) rfl (oT rfl) (oT rfl) rfl rfl rfl rfl (by intro _; refine ⟨rfl, rfl, ?_⟩; omega)) (fun t h => by cases h; rfl) ?_) (StepY.mk rfl (op_alloc rfl rfl rfl rfl) (fun t h => by cases h; rfl) ?_)
   ·skip
    refine AnyY.virt (by kernel_rfl) 9 rfl (op_buildP rfl rfl rfl rfl (FillP.cons _ _ _ _ _ _ _ _ _ _ (by rfl) (oT rfl) tP (by rfl) tR (FillP.cons _ _ _ _ _ _ _ _ _ _ (by rfl) (oT rfl) tP (by rfl) tR (FillP.cons _ _ _ _ _ _ _ _ _ _ (by rfl) (oT rfl) tP (by rfl) tR (FillP.cons _ _ _ _ _ _ _ _ _ _ (by rfl) (oT rfl) tP (by rfl) tR (FillP.nil _)))))) (by kernel_rfl) rfl (fun t h => by cases h; rfl) ?_
    refine AnyY.one 10 (by kernel_rfl) rfl (by kernel_rfl) (StepY.mk rfl (op_alloc rfl rfl rfl rfl) (fun t h => by cases h; rfl) ?_)
    refine AnyY.toRefs 4 rfl rfl ?_
    refine AnyY.one 11 (by kernel_rfl) rfl (by kernel_rfl) (StepY.mk rfl (op_store_refs rfl (oT rfl) (oT rfl) tP rfl rfl rfl tS) (fun t h => by cases h) ?_)
    refine AnyY.nil (by kernel_rfl) rfl (by kernel_rfl) ?_
    exact Next.weak [0, 1, 4, 2, 3] [] (by rfl) (keepsN hC _ rfl) wG wR wN hK
   skip
   refine AnyY.one 8 (by kernel_rfl) rfl (by kernel_rfl) (StepY.mk rfl (op_make (l := g.m) (c := g.m) rfl (oT rfl) (oT rfl) rfl rfl rfl rfl (by intro _; refine ⟨rfl, rfl, ?_⟩; omega)) (fun t h => by cases h; rfl) ?_)
   refine AnyY.virt (by kernel_rfl) 9 rfl (op_buildP rfl rfl rfl rfl (FillP.cons _ _ _ _ _ _ _ _ _ _ (by rfl) (oT rfl) tP (by rfl) tR (FillP.cons _ _ _ _ _ _ _ _ _ _ (by rfl) (oT rfl) tP (by rfl) tR (FillP.cons _ _ _ _ _ _ _ _ _ _ (by rfl) (oT rfl) tP (by rfl) tR (FillP.cons _ _ _ _ _ _ _ _ _ _ (by rfl) (oT rfl) tP (by rfl) tR (FillP.nil _)))))) (by kernel_rfl) rfl (fun t h => by cases h; rfl) ?_
   refine AnyY.toRefs 3 rfl rfl ?_
   refine AnyY.one 11 (by kernel_rfl) rfl (by kernel_rfl) (StepY.mk rfl (op_store_refs rfl (oT rfl) (oT rfl) tP rfl rfl rfl tS) (fun t h => by cases h) ?_)
   refine AnyY.nil (by kernel_rfl) rfl (by kernel_rfl) ?_
   exact Next.weak [0, 1, 3, 2, 4] [] (by rfl) (keepsN hC _ rfl) wG wR wN hK
  ·skip
   refine AnyY.two 6 10 (by kernel_rfl) rfl (by kernel_rfl) (StepY.mk rfl (op_make (l := g.m) (c := g.m) rfl (oT rfl) (oT rfl) rfl rfl rfl rfl (by intro _; refine ⟨rfl, rfl, ?_⟩; omega)) (fun t h => by cases h; rfl) ?_) (StepY.mk rfl (op_alloc rfl rfl rfl rfl) (fun t h => by cases h; rfl) ?_)
   ·skip
    refine AnyY.virt (by kernel_rfl) 9 rfl (op_buildP rfl rfl rfl rfl (FillP.cons _ _ _ _ _ _ _ _ _ _ (by rfl) (oT rfl) tP (by rfl) tR (FillP.cons _ _ _ _ _ _ _ _ _ _ (by rfl) (oT rfl) tP (by rfl) tR (FillP.cons _ _ _ _ _ _ _ _ _ _ (by rfl) (oT rfl) tP (by rfl) tR (FillP.cons _ _ _ _ _ _ _ _ _ _ (by rfl) (oT rfl) tP (by rfl) tR (FillP.nil _)))))) (by kernel_rfl) rfl (fun t h => by cases h; rfl) ?_
    refine AnyY.one 10 (by kernel_rfl) rfl (by kernel_rfl) (StepY.mk rfl (op_alloc rfl rfl rfl rfl) (fun t h => by cases h; rfl) ?_)
    refine AnyY.toRefs 4 rfl rfl ?_
    refine AnyY.one 11 (by kernel_rfl) rfl (by kernel_rfl) (StepY.mk rfl (op_store_refs rfl (oT rfl) (oT rfl) tP rfl rfl rfl tS) (fun t h => by cases h) ?_)
    refine AnyY.nil (by kernel_rfl) rfl (by kernel_rfl) ?_
    exact Next.weak [0, 1, 4, 3, 2] [] (by rfl) (keepsN hC _ rfl) wG wR wN hK
   skip
   refine AnyY.one 6 (by kernel_rfl) rfl (by kernel_rfl) (StepY.mk rfl (op_make (l := g.m) (c := g.m) rfl (oT rfl) (oT rfl) rfl rfl rfl rfl (by intro _; refine ⟨rfl, rfl, ?_⟩; omega)) (fun t h => by cases h; rfl) ?_)
   refine AnyY.virt (by kernel_rfl) 9 rfl (op_buildP rfl rfl rfl rfl (FillP.cons _ _ _ _ _ _ _ _ _ _ (by rfl) (oT rfl) tP (by rfl) tR (FillP.cons _ _ _ _ _ _ _ _ _ _ (by rfl) (oT rfl) tP (by rfl) tR (FillP.cons _ _ _ _ _ _ _ _ _ _ (by rfl) (oT rfl) tP (by rfl) tR (FillP.cons _ _ _ _ _ _ _ _ _ _ (by rfl) (oT rfl) tP (by rfl) tR (FillP.nil _)))))) (by kernel_rfl) rfl (fun t h => by cases h; rfl) ?_
   refine AnyY.toRefs 3 rfl rfl ?_
   refine AnyY.one 11 (by kernel_rfl) rfl (by kernel_rfl) (StepY.mk rfl (op_store_refs rfl (oT rfl) (oT rfl) tP rfl rfl rfl tS) (fun t h => by cases h) ?_)
   refine AnyY.nil (by kernel_rfl) rfl (by kernel_rfl) ?_
   exact Next.weak [0, 1, 3, 4, 2] [] (by rfl) (keepsN hC _ rfl) wG wR wN hK
  skip
  refine AnyY.two 6 8 (by kernel_rfl) rfl (by kernel_rfl) (StepY.mk rfl (op_make (l := g.m) (c := g.m) rfl (oT rfl) (oT rfl) rfl rfl rfl rfl (by intro _; refine ⟨rfl, rfl, ?_⟩; omega)) (fun t h => by cases h; rfl) ?_) (StepY.mk rfl (op_make (l := g.m) (c := g.m) rfl (oT rfl) (oT rfl) rfl rfl rfl rfl (by intro _; refine ⟨rfl, rfl, ?_⟩; omega)) (fun t h => by cases h; rfl) ?_)
  ·skip
   refine AnyY.one 8 (by kernel_rfl) rfl (by kernel_rfl) (StepY.mk rfl (op_make (l := g.m) (c := g.m) rfl (oT rfl) (oT rfl) rfl rfl rfl rfl (by intro _; refine ⟨rfl, rfl, ?_⟩; omega)) (fun t h => by cases h; rfl) ?_)
   refine AnyY.virt (by kernel_rfl) 9 rfl (op_buildP rfl rfl rfl rfl (FillP.cons _ _ _ _ _ _ _ _ _ _ (by rfl) (oT rfl) tP (by rfl) tR (FillP.cons _ _ _ _ _ _ _ _ _ _ (by rfl) (oT rfl) tP (by rfl) tR (FillP.cons _ _ _ _ _ _ _ _ _ _ (by rfl) (oT rfl) tP (by rfl) tR (FillP.cons _ _ _ _ _ _ _ _ _ _ (by rfl) (oT rfl) tP (by rfl) tR (FillP.nil _)))))) (by kernel_rfl) rfl (fun t h => by cases h; rfl) ?_
   refine AnyY.toRefs 2 rfl rfl ?_
   refine AnyY.one 11 (by kernel_rfl) rfl (by kernel_rfl) (StepY.mk rfl (op_store_refs rfl (oT rfl) (oT rfl) tP rfl rfl rfl tS) (fun t h => by cases h) ?_)
   refine AnyY.nil (by kernel_rfl) rfl (by kernel_rfl) ?_
   exact Next.weak [0, 1, 2, 3, 4] [] (by rfl) (keepsN hC _ rfl) wG wR wN hK
  skip
  refine AnyY.one 6 (by kernel_rfl) rfl (by kernel_rfl) (StepY.mk rfl (op_make (l := g.m) (c := g.m) rfl (oT rfl) (oT rfl) rfl rfl rfl rfl (by intro _; refine ⟨rfl, rfl, ?_⟩; omega)) (fun t h => by cases h; rfl) ?_)
  refine AnyY.virt (by kernel_rfl) 9 rfl (op_buildP rfl rfl rfl rfl (FillP.cons _ _ _ _ _ _ _ _ _ _ (by rfl) (oT rfl) tP (by rfl) tR (FillP.cons _ _ _ _ _ _ _ _ _ _ (by rfl) (oT rfl) tP (by rfl) tR (FillP.cons _ _ _ _ _ _ _ _ _ _ (by rfl) (oT rfl) tP (by rfl) tR (FillP.cons _ _ _ _ _ _ _ _ _ _ (by rfl) (oT rfl) tP (by rfl) tR (FillP.nil _)))))) (by kernel_rfl) rfl (fun t h => by cases h; rfl) ?_
  refine AnyY.toRefs 2 rfl rfl ?_
  refine AnyY.one 11 (by kernel_rfl) rfl (by kernel_rfl) (StepY.mk rfl (op_store_refs rfl (oT rfl) (oT rfl) tP rfl rfl rfl tS) (fun t h => by cases h) ?_)
  refine AnyY.nil (by kernel_rfl) rfl (by kernel_rfl) ?_
  exact Next.weak [0, 1, 2, 4, 3] [] (by rfl) (keepsN hC _ rfl) wG wR wN hK
 refine Next.toOwn 3 1 g.m rfl ?_
 refine Next.toOwn 4 1 g.m rfl ?_
 refine Next.weak [0, 1, 2, 3, 4] [] (by rfl) (keepsN hC _ rfl) (G' := [(1, IV .i64 a), (2, .ptr 0 3 0 0), (4, .ptr 1 4 0 0), (7, .fz (VLL (matF g.m D))), (8, IV .i64 g.m), (9, .ptr 2 4 0 0)]) (H' := [(0, OG g), (1, OTr zeroT), (2, some (.refs 4 [[.fz (If .i64 a), .fz (VI (rowF g.m (D a))), .sl 3 1 0 g.m, .sl 4 1 0 g.m]])), (3, some (.refs 1 (ownL 1 (rowsI (preL g.m (hopR g D a) 0))))), (4, some (.refs 1 (ownL 1 (rowsI (preL g.m (parR g D a) 0)))))]) wG (by exact ⟨wS, ⟨wS, ⟨wS, ⟨ent_own rfl rfl (by rw [preL_0, rowsI_nil, ← ownL_rep]; rfl), ⟨ent_own rfl rfl (by rw [preL_0, rowsI_nil, ← ownL_rep]; rfl), trivial⟩⟩⟩⟩⟩) wN ?_
 refine nK2 ?_
 refine zb ?_
 refine zct ?_
 refine zd ?_
 refine zc ?_
 refine nK2 ?_
 refine zb ?_
 refine ze ?_
 refine zc ?_
 refine nK2 ?_
 refine n_loop (ι := Nat) (fun i => ([(1, IV .i64 a), (2, .ptr 0 3 0 0), (4, .ptr 1 4 0 0), (7, .fz (VLL (matF g.m D))), (8, IV .i64 g.m), (9, .ptr 2 4 0 0), (10, .sl 5 1 0 (fil (fstB g D a) i).length), (11, IV .i64 i)], [(0, OG g), (1, OTr zeroT), (2, some (.refs 4 [[.fz (If .i64 a), .fz (VI (rowF g.m (D a))), .sl 3 1 0 g.m, .sl 4 1 0 g.m]])), (3, some (.refs 1 (ownL 1 (rowsI (preL g.m (hopR g D a) 0))))), (4, some (.refs 1 (ownL 1 (rowsI (preL g.m (parR g D a) 0))))), (5, OI (fil (fstB g D a) i))], 6)) (fun i => i ≤ g.m) (fun i => g.m - i) 0 (Nat.zero_le _) ?_ ?_
 ·refine Next.weak [0, 1, 2, 3, 4, 5] [] (by rfl) (keepsN hC _ rfl) wG (by exact ⟨wS, ⟨wS, ⟨wS, ⟨ent_own rfl rfl rfl, ⟨ent_own rfl rfl rfl, ⟨wS, trivial⟩⟩⟩⟩⟩⟩) wN rel_intro
 intro i hi K hK
 try dsimp only at hi hK ⊢
 have hfl := fil_len (fstB g D a) i
 refine nK2 ?_
 refine zb ?_
 refine za ?_
 refine za ?_
 refine zp ?_
 refine zc ?_
 refine nK2 ?_
 refine n_cond _ rfl (fun hb => ?_) (fun hb => ?_)
 ·have hlt : i < g.m := by have := of_decide_eq_true hb; omega
  have hri := row_row g.m (D a) hlt
  have hdir := direct_c g D a i d ha hlt
  have hK1 := hK (i + 1) (by omega) (by omega)
  rw [fil_succ] at hK1
  generalize fil (fstB g D a) i = F at *
  refine nK2 ?_
  refine zb ?_
  refine za ?_
  refine za ?_
  refine zbg ?_
  refine za ?_
  refine zf ?_
  refine zf ?_
  refine rgZ 59 rfl rfl tG (op_idx_fz a rfl (oO rfl tO) (oO rfl tO) (by intro _; exact ⟨rfl, hma⟩)) ?_
  refine zw ?_
  refine zf ?_
  refine rgZ 62 rfl rfl tG (op_idx_fz i rfl (oO rfl tO) (oO rfl tO) (by intro _; exact ⟨rfl, hri⟩)) ?_
  refine zw ?_
  refine zck ?_
  refine zt ?_
  refine za ?_
  refine zbe ?_
  refine zf ?_
  refine zf ?_
  refine zf ?_
  refine rgZ 71 rfl rfl tG (op_call_pure (fun _ => hdir) rfl (Opd.func _) (oS (oO rfl tO) (oS (oO rfl tO) (oS (oO rfl tO) (oS (oO rfl tO) Opds.nil))))) ?_
  refine zt ?_
  refine zc ?_
  refine nK2 ?_
  refine n_cond _ rfl (fun hb => ?_) (fun hb => ?_)
  ·have hc : fstB g D a i = true := by unfold fstB; simpa [Int.natCast_inj] using hb
   rw [if_pos hc] at hK1
   refine nK2 ?_
   refine zb ?_
   refine za ?_
   refine za ?_
   refine zbh ?_
   refine zbu ?_
   refine zd ?_
   refine zc ?_
   refine nK2 ?_
   refine zb ?_
   refine za ?_
   refine zl ?_
   refine zd ?_
   refine zc ?_
   refine nK2 ?_
   refine Next.weak [0, 1, 2, 3, 4, 6] [] (by rfl) (keepsN hC _ rfl) wG (by exact ⟨wS, ⟨wS, ⟨wS, ⟨ent_own rfl rfl rfl, ⟨ent_own rfl rfl rfl, ⟨ent_same rfl rfl (flEq rfl (by rw [List.map_append]; rfl)) trivial, trivial⟩⟩⟩⟩⟩⟩) wN hK1
  have hc : ¬ fstB g D a i = true := fun h => by rw [Bool.eq_false_iff] at hb; apply hb; unfold fstB at h; simpa [Int.natCast_inj] using h
  rw [if_neg hc, List.append_nil] at hK1
  refine nK2 ?_
  refine zb ?_
  refine za ?_
  refine zl ?_
  refine zd ?_
  refine zc ?_
  refine nK2 ?_
  refine Next.weak [0, 1, 2, 3, 4, 5] [] (by rfl) (keepsN hC _ rfl) wG (by exact ⟨wS, ⟨wS, ⟨wS, ⟨ent_own rfl rfl rfl, ⟨ent_own rfl rfl rfl, ⟨wS, trivial⟩⟩⟩⟩⟩⟩) wN hK1
 have hie : i = g.m := by have := of_decide_eq_false hb; omega
 subst hie
 have hFm : ∀ x ∈ fil (fstB g D a) g.m, ∃ w : Nat, x = w ∧ w < g.m := fun x hx => by
  obtain ⟨w, h1, h2, _⟩ := fil_mem.1 hx
  exact ⟨w, h1, h2⟩
 have hHR : ∀ v, hopR g D a v = if offB D a v = true then [] else (fil (fstB g D a) g.m).filter fun y => hopB g D a v y.toNat := fun v => rfl
 generalize fil (fstB g D a) g.m = F1 at *
 refine Next.weak [0, 1, 2, 3, 4] [5] (by rfl) (keepsN hC _ rfl) (G' := [(1, IV .i64 a), (2, .ptr 0 3 0 0), (4, .ptr 1 4 0 0), (7, .fz (VLL (matF g.m D))), (8, IV .i64 g.m), (9, .ptr 2 4 0 0), (10, .fz (VI F1))]) (H' := [(0, OG g), (1, OTr zeroT), (2, some (.refs 4 [[.fz (If .i64 a), .fz (VI (rowF g.m (D a))), .sl 3 1 0 g.m, .sl 4 1 0 g.m]])), (3, some (.refs 1 (ownL 1 (rowsI (preL g.m (hopR g D a) 0))))), (4, some (.refs 1 (ownL 1 (rowsI (preL g.m (parR g D a) 0)))))]) (by exact ⟨⟨_, rfl, .inl ⟨rfl, rfl⟩⟩, ⟨⟨_, rfl, .inl ⟨rfl, rfl⟩⟩, ⟨⟨_, rfl, .inl ⟨rfl, rfl⟩⟩, ⟨⟨_, rfl, .inl ⟨rfl, rfl⟩⟩, ⟨⟨_, rfl, .inl ⟨rfl, rfl⟩⟩, ⟨⟨_, rfl, .inl ⟨rfl, rfl⟩⟩, ⟨⟨_, rfl, .inr ⟨_, rfl, .sl _ _ _ _ _ _ rfl rfl (take_all0 (List.length_map _)) (List.length_map _)⟩⟩, trivial⟩⟩⟩⟩⟩⟩⟩) (by exact ⟨wS, ⟨wS, ⟨wS, ⟨ent_own rfl rfl rfl, ⟨ent_own rfl rfl rfl, trivial⟩⟩⟩⟩⟩) (fun id h => by simp at h; subst h; exact ⟨_, rfl⟩) ?_
 refine nK2 ?_
 refine zb ?_
 refine ze ?_
 refine zc ?_
 refine nK2 ?_
 refine n_loop (ι := Nat) (fun v => ([(1, IV .i64 a), (2, .ptr 0 3 0 0), (4, .ptr 1 4 0 0), (7, .fz (VLL (matF g.m D))), (8, IV .i64 g.m), (9, .ptr 2 4 0 0), (10, .fz (VI F1)), (12, IV .i64 v)], [(0, OG g), (1, OTr zeroT), (2, some (.refs 4 [[.fz (If .i64 a), .fz (VI (rowF g.m (D a))), .sl 3 1 0 g.m, .sl 4 1 0 g.m]])), (3, some (.refs 1 (ownL 1 (rowsI (preL g.m (hopR g D a) v))))), (4, some (.refs 1 (ownL 1 (rowsI (preL g.m (parR g D a) v)))))], 5)) (fun v => v ≤ g.m) (fun v => g.m - v) 0 (Nat.zero_le _) ?_ ?_
 ·refine Next.weak [0, 1, 2, 3, 4] [] (by rfl) (keepsN hC _ rfl) wG (by exact ⟨wS, ⟨wS, ⟨wS, ⟨ent_own rfl rfl rfl, ⟨ent_own rfl rfl rfl, trivial⟩⟩⟩⟩⟩) wN rel_intro
 intro v hv K hK
 try dsimp only at hv hK ⊢
 refine nK2 ?_
 refine zb ?_
 refine za ?_
 refine za ?_
 refine zp ?_
 refine zc ?_
 refine nK2 ?_
 refine n_cond _ rfl (fun hb => ?_) (fun hb => ?_)
 ·have hlv : v < g.m := by have := of_decide_eq_true hb; omega
  have hrv := row_row g.m (D a) hlv
  have hK1 := hK (v + 1) (by omega) (by omega)
  clear hK
  refine nK2 ?_
  refine zb ?_
  refine za ?_
  refine za ?_
  refine zbr ?_
  refine za ?_
  refine zf ?_
  refine zf ?_
  refine rgZ 88 rfl rfl tG (op_idx_fz a rfl (oO rfl tO) (oO rfl tO) (by intro _; exact ⟨rfl, hma⟩)) ?_
  refine zw ?_
  refine zf ?_
  refine rgZ 91 rfl rfl tG (op_idx_fz v rfl (oO rfl tO) (oO rfl tO) (by intro _; exact ⟨rfl, hrv⟩)) ?_
  refine zw ?_
  refine zcc ?_
  refine zv ?_
  refine zc ?_
  refine nK2 ?_
  refine n_cond _ rfl (fun hb => ?_) (fun hb => ?_)
  ·have hc : offB D a v = true := by unfold offB; simpa [Int.natCast_inj] using hb
   rw [← preL_skip (f := hopR g D a) (by rw [hHR, if_pos hc]), ← preL_skip (f := parR g D a) (by unfold parR; rw [if_pos hc])] at hK1
   refine nK2 ?_
   refine zb ?_
   refine za ?_
   refine zl ?_
   refine zd ?_
   refine zc ?_
   refine nK2 ?_
   refine Next.weak [0, 1, 2, 3, 4] [] (by rfl) (keepsN hC _ rfl) wG (by exact ⟨wS, ⟨wS, ⟨wS, ⟨ent_own rfl rfl rfl, ⟨ent_own rfl rfl rfl, trivial⟩⟩⟩⟩⟩) wN hK1
  have hc : ¬ offB D a v = true := fun h => by rw [Bool.eq_false_iff] at hb; apply hb; unfold offB at h; simpa [Int.natCast_inj] using h
  have hpr : parR g D a v = fil (parB g D a v) g.m := by unfold parR; rw [if_neg hc]
  have hhr := hHR v
  rw [if_neg hc] at hhr
  have hpl := preL_len g.m (parR g D a) v
  have hhl := preL_len g.m (hopR g D a) v
  have hp0 := preL_nil (f := parR g D a) hlv
  have hh0 := preL_nil (f := hopR g D a) hlv
  rw [← preL_set g.m (hopR g D a) v, ← preL_set g.m (parR g D a) v, hpr, hhr] at hK1
  generalize preL g.m (parR g D a) v = LP at *
  generalize preL g.m (hopR g D a) v = LH at *
  clear hb hpr hhr hHR
  refine nK2 ?_
  refine zb ?_
  refine ze ?_
  refine zc ?_
  refine nK2 ?_
  refine n_loop (ι := Nat) (fun u => ([(1, IV .i64 a), (2, .ptr 0 3 0 0), (4, .ptr 1 4 0 0), (7, .fz (VLL (matF g.m D))), (8, IV .i64 g.m), (9, .ptr 2 4 0 0), (10, .fz (VI F1)), (12, IV .i64 v), (13, IV .i64 u)], [(0, OG g), (1, OTr zeroT), (2, some (.refs 4 [[.fz (If .i64 a), .fz (VI (rowF g.m (D a))), .sl 3 1 0 g.m, .sl 4 1 0 g.m]])), (3, some (.refs 1 (ownL 1 (rowsI LH)))), (4, some (.refs 1 (ownL 1 (rowsI (LP.set v (fil (parB g D a v) u))))))], 5)) (fun u => u ≤ g.m) (fun u => g.m - u) 0 (Nat.zero_le _) ?_ ?_
  ·refine Next.weak [0, 1, 2, 3, 4] [] (by rfl) (keepsN hC _ rfl) wG (by exact ⟨wS, ⟨wS, ⟨wS, ⟨ent_own rfl rfl rfl, ⟨ent_own rfl rfl (congrArg (fun l => some (Ob.refs 1 (ownL 1 (rowsI l)))) hp0.symm), trivial⟩⟩⟩⟩⟩) wN rel_intro
  intro u hu K2 hK2
  try dsimp only at hu hK2 ⊢
  have hfu := fil_len (parB g D a v) u
  refine nK2 ?_
  refine zb ?_
  refine za ?_
  refine za ?_
  refine zp ?_
  refine zc ?_
  refine nK2 ?_
  refine n_cond _ rfl (fun hb => ?_) (fun hb => ?_)
  ·have hlu : u < g.m := by have := of_decide_eq_true hb; omega
   have hru := row_row g.m (D a) hlu
   have hcu := rcost_c g u v hel2
   have hcb1 := hcb u v
   have hdb1 := hdb a u ha hlu
   have hK3 := hK2 (u + 1) (by omega) (by omega)
   clear hK2
   rw [fil_succ] at hK3
   have hPB : parB g D a v u = ((costL u v g.es).2 && decide (0 ≤ D a u) && decide (D a u + (costL u v g.es).1 = D a v)) := rfl
   generalize parB g D a v u = pb at *
   generalize fil (parB g D a v) u = row at *
   have hrg := rowsI_get (ll := LP.set v row) (v := v) (by rw [List.length_set]; omega)
   rw [set_at (by omega)] at hrg
   have hll : (rowsI (LP.set v row)).length = g.m := by rw [rowsI_len, List.length_set]; omega
   refine nK2 ?_
   refine zb ?_
   refine zk ?_
   refine za ?_
   refine za ?_
   refine rpZ 104 rfl (op_call_pure (fun _ => hcu) rfl (Opd.func _) (oS (oT rfl) (oS (oT rfl) (oS (oT rfl) Opds.nil)))) ?_
   refine za ?_
   refine zi ?_
   refine zi ?_
   refine zd ?_
   refine zd ?_
   refine zc ?_
   refine nK2 ?_
   refine s_draw mixed ?_
   refine za ?_
   refine za ?_
   refine zf ?_
   refine zf ?_
   refine rgZ 111 rfl rfl tG (op_idx_fz a rfl (oO rfl tO) (oO rfl tO) (by intro _; exact ⟨rfl, hma⟩)) ?_
   refine zw ?_
   refine zf ?_
   refine rgZ 114 rfl rfl tG (op_idx_fz u rfl (oO rfl tO) (oO rfl tO) (by intro _; exact ⟨rfl, hru⟩)) ?_
   refine zw ?_
   refine zck ?_
   refine zt ?_
   refine za ?_
   refine zf ?_
   refine zf ?_
   refine rgZ 121 rfl rfl tG (op_idx_fz a rfl (oO rfl tO) (oO rfl tO) (by intro _; exact ⟨rfl, hma⟩)) ?_
   refine zw ?_
   refine zf ?_
   refine rgZ 124 rfl rfl tG (op_idx_fz u rfl (oO rfl tO) (oO rfl tO) (by intro _; exact ⟨rfl, hru⟩)) ?_
   refine zw ?_
   refine zf ?_
   refine zbs ?_
   refine zf ?_
   refine zf ?_
   refine rgZ 130 rfl rfl tG (op_idx_fz a rfl (oO rfl tO) (oO rfl tO) (by intro _; exact ⟨rfl, hma⟩)) ?_
   refine zw ?_
   refine zf ?_
   refine rgZ 133 rfl rfl tG (op_idx_fz v rfl (oO rfl tO) (oO rfl tO) (by intro _; exact ⟨rfl, hrv⟩)) ?_
   refine zw ?_
   refine zbo ?_
   refine zt ?_
   refine zs ?_
   refine nK2 ?_
   refine n_cond _ rfl (fun hb => ?_) (fun hb => ?_)
   ·rw [show pb = true from hPB.trans hb, if_pos rfl, ← setI_set (l := row), List.map_append] at hK3
    generalize rowsI (LP.set v row) = irs at *
    refine nK2 ?_
    refine Next.take 4 v 0 rfl (ownL_get hrg) rfl rfl ?_
    have hs1 := set_get (ownL 1 irs) v [.sl 5 1 0 (row.map encN).length] (by rw [ownL_len, hll]; omega)
    refine nK2 ?_
    refine s_draw mixed ?_
    refine zg ?_
    refine zy ?_
    refine za ?_
    refine zg ?_
    refine zy ?_
    refine za ?_
    refine rpZ 143 rfl (op_idx_sl0 v rfl (oT rfl) (oT rfl) (by intro _; exact ⟨rfl, hlv⟩)) ?_
    refine rlZ 144 rfl (op_load1_refs rfl (oT rfl) (by intro _; exact ⟨rfl, hs1⟩) rfl) ?_
    refine za ?_
    refine zbh ?_
    refine zco ?_
    refine rpZ 148 rfl (op_idx_sl0 v rfl (oT rfl) (oT rfl) (by intro _; exact ⟨rfl, hlv⟩)) ?_
    refine Run.effW (dd := none) rfl rfl (op_store_refs rfl (oT rfl) (oT rfl) tP rfl rfl hs1 tS) (by first | exact ext_call | exact tE) ?_
    refine zs ?_
    refine nK2 ?_
    refine zb ?_
    refine za ?_
    refine zl ?_
    refine zd ?_
    refine zc ?_
    refine nK2 ?_
    refine Next.untake 4 v 0 rfl (set_get _ _ _ (by rw [List.length_set, ownL_len, hll]; omega)) rfl rfl (by simp) rfl ?_
    refine Next.weak [0, 1, 2, 3, 4] [] (by rfl) (keepsN hC _ rfl) wG (by exact ⟨wS, ⟨wS, ⟨wS, ⟨ent_own rfl rfl rfl, ⟨ent_own rfl rfl (congrArg (fun r => some (Ob.refs 1 r)) own_back), trivial⟩⟩⟩⟩⟩) wN hK3
   rw [show pb = false from hPB.trans hb, if_neg (by simp), List.append_nil] at hK3
   refine nK2 ?_
   refine zb ?_
   refine za ?_
   refine zl ?_
   refine zd ?_
   refine zc ?_
   refine nK2 ?_
   refine Next.weak [0, 1, 2, 3, 4] [] (by rfl) (keepsN hC _ rfl) wG (by exact ⟨wS, ⟨wS, ⟨wS, ⟨ent_own rfl rfl rfl, ⟨ent_own rfl rfl rfl, trivial⟩⟩⟩⟩⟩) wN hK3
  have hue : u = g.m := by have := of_decide_eq_false hb; omega
  subst hue
  clear hK2
  generalize LP.set v (fil (parB g D a v) g.m) = LP2 at *
  refine nK2 ?_
  refine zb ?_
  refine ze ?_
  refine zc ?_
  refine nK2 ?_
  refine n_loop (ι := Nat) (fun i => ([(1, IV .i64 a), (2, .ptr 0 3 0 0), (4, .ptr 1 4 0 0), (7, .fz (VLL (matF g.m D))), (8, IV .i64 g.m), (9, .ptr 2 4 0 0), (10, .fz (VI F1)), (12, IV .i64 v), (16, IV .i64 i)], [(0, OG g), (1, OTr zeroT), (2, some (.refs 4 [[.fz (If .i64 a), .fz (VI (rowF g.m (D a))), .sl 3 1 0 g.m, .sl 4 1 0 g.m]])), (3, some (.refs 1 (ownL 1 (rowsI (LH.set v ((F1.take i).filter fun y => hopB g D a v y.toNat)))))), (4, some (.refs 1 (ownL 1 (rowsI LP2))))], 5)) (fun i => i ≤ F1.length) (fun i => F1.length - i) 0 (Nat.zero_le _) ?_ ?_
  ·refine Next.weak [0, 1, 2, 3, 4] [] (by rfl) (keepsN hC _ rfl) wG (by exact ⟨wS, ⟨wS, ⟨wS, ⟨ent_own rfl rfl (congrArg (fun l => some (Ob.refs 1 (ownL 1 (rowsI l)))) hh0.symm), ⟨ent_own rfl rfl rfl, trivial⟩⟩⟩⟩⟩) wN rel_intro
  intro i hi K2 hK2
  try dsimp only at hi hK2 ⊢
  refine nK2 ?_
  refine zb ?_
  refine za ?_
  refine za ?_
  refine zo ?_
  refine zp ?_
  refine zc ?_
  refine nK2 ?_
  refine n_cond _ rfl (fun hb => ?_) (fun hb => ?_)
  ·have hli : i < F1.length := by simp at hb; omega
   have hrF := row_at' encN F1 i hli
   obtain ⟨w, hw, hwn⟩ := hFm _ (List.getElem_mem hli)
   have hK3 := hK2 (i + 1) (by omega) (by omega)
   clear hK2
   rw [take_filter _ _ _ hli, hw, Int.toNat_natCast] at hK3
   rw [hw] at hrF
   have hfl : ((F1.take i).filter fun y => hopB g D a v y.toNat).length ≤ g.m := by
    have h1 := List.length_filter_le (fun y => hopB g D a v y.toNat) (F1.take i)
    have h2 : (F1.take i).length ≤ F1.length := List.length_take_le' _ _
    omega
   have hrw := row_row g.m (D w) hlv
   have hraw := row_row g.m (D a) hwn
   have hmw := mat_row g.m D hwn
   have hdb1 := hdb a w ha hwn
   have hdb2 := hdb w v hwn hlv
   have hPB : hopB g D a v w = (decide (w = v) || (decide ((w : Int) < g.r) && decide (0 ≤ D w v) && decide (D a w + D w v = D a v))) := rfl
   generalize hopB g D a v w = pb at *
   generalize (F1.take i).filter (fun y => hopB g D a v y.toNat) = row at *
   have hrg := rowsI_get (ll := LH.set v row) (v := v) (by rw [List.length_set]; omega)
   rw [set_at (by omega)] at hrg
   have hll : (rowsI (LH.set v row)).length = g.m := by rw [rowsI_len, List.length_set]; omega
   refine nK2 ?_
   refine zb ?_
   refine za ?_
   refine za ?_
   refine rpZ 157 rfl (op_idx_fz i rfl (oT rfl) (oT rfl) (by intro _; exact ⟨rfl, hrF⟩)) ?_
   refine zj ?_
   refine zd ?_
   refine zc ?_
   refine nK2 ?_
   refine s_draw mixed ?_
   refine za ?_
   refine za ?_
   refine zbr ?_
   refine za ?_
   refine zf ?_
   refine zn ?_
   refine zm ?_
   refine zbk ?_
   refine zbp ?_
   refine zf ?_
   refine zf ?_
   refine rgZ 170 rfl rfl tG (op_idx_fz w rfl (oO rfl tO) (oO rfl tO) (by intro _; exact ⟨rfl, hmw⟩)) ?_
   refine zw ?_
   refine zf ?_
   refine rgZ 173 rfl rfl tG (op_idx_fz v rfl (oO rfl tO) (oO rfl tO) (by intro _; exact ⟨rfl, hrw⟩)) ?_
   refine zw ?_
   refine zck ?_
   refine zcf ?_
   refine zbp ?_
   refine zf ?_
   refine zf ?_
   refine rgZ 180 rfl rfl tG (op_idx_fz a rfl (oO rfl tO) (oO rfl tO) (by intro _; exact ⟨rfl, hma⟩)) ?_
   refine zw ?_
   refine zf ?_
   refine rgZ 183 rfl rfl tG (op_idx_fz w rfl (oO rfl tO) (oO rfl tO) (by intro _; exact ⟨rfl, hraw⟩)) ?_
   refine zw ?_
   refine zf ?_
   refine zf ?_
   refine rgZ 187 rfl rfl tG (op_idx_fz w rfl (oO rfl tO) (oO rfl tO) (by intro _; exact ⟨rfl, hmw⟩)) ?_
   refine zw ?_
   refine zf ?_
   refine rgZ 190 rfl rfl tG (op_idx_fz v rfl (oO rfl tO) (oO rfl tO) (by intro _; exact ⟨rfl, hrw⟩)) ?_
   refine zw ?_
   refine zbs ?_
   refine zf ?_
   refine zf ?_
   refine rgZ 195 rfl rfl tG (op_idx_fz a rfl (oO rfl tO) (oO rfl tO) (by intro _; exact ⟨rfl, hma⟩)) ?_
   refine zw ?_
   refine zf ?_
   refine rgZ 198 rfl rfl tG (op_idx_fz v rfl (oO rfl tO) (oO rfl tO) (by intro _; exact ⟨rfl, hrv⟩)) ?_
   refine zw ?_
   refine zbo ?_
   refine zcf ?_
   refine zv ?_
   refine zs ?_
   refine nK2 ?_
   refine n_cond _ rfl (fun hb => ?_) (fun hb => ?_)
   ·have hp1 : pb = true := hPB.trans (by simpa [Int.natCast_inj] using hb)
    rw [hp1, if_pos rfl, ← setI_set (l := row), List.map_append] at hK3
    generalize rowsI (LH.set v row) = irs at *
    refine nK2 ?_
    refine Next.take 3 v 0 rfl (ownL_get hrg) rfl rfl ?_
    have hs1 := set_get (ownL 1 irs) v [.sl 5 1 0 (row.map encN).length] (by rw [ownL_len, hll]; omega)
    refine nK2 ?_
    refine s_draw mixed ?_
    refine zg ?_
    refine zy ?_
    refine za ?_
    refine zg ?_
    refine zy ?_
    refine za ?_
    refine rpZ 209 rfl (op_idx_sl0 v rfl (oT rfl) (oT rfl) (by intro _; exact ⟨rfl, hlv⟩)) ?_
    refine rlZ 210 rfl (op_load1_refs rfl (oT rfl) (by intro _; exact ⟨rfl, hs1⟩) rfl) ?_
    refine za ?_
    refine zbh ?_
    refine zco ?_
    refine rpZ 214 rfl (op_idx_sl0 v rfl (oT rfl) (oT rfl) (by intro _; exact ⟨rfl, hlv⟩)) ?_
    refine Run.effW (dd := none) rfl rfl (op_store_refs rfl (oT rfl) (oT rfl) tP rfl rfl hs1 tS) (by first | exact ext_call | exact tE) ?_
    refine zs ?_
    refine nK2 ?_
    refine zb ?_
    refine za ?_
    refine zl ?_
    refine zd ?_
    refine zc ?_
    refine nK2 ?_
    refine Next.untake 3 v 0 rfl (set_get _ _ _ (by rw [List.length_set, ownL_len, hll]; omega)) rfl rfl (by simp) rfl ?_
    refine Next.weak [0, 1, 2, 3, 4] [] (by rfl) (keepsN hC _ rfl) wG (by exact ⟨wS, ⟨wS, ⟨wS, ⟨ent_own rfl rfl (congrArg (fun r => some (Ob.refs 1 r)) own_back), ⟨ent_own rfl rfl rfl, trivial⟩⟩⟩⟩⟩) wN hK3
   have hp1 : ¬ pb = true := fun h => by rw [Bool.eq_false_iff] at hb; apply hb; rw [hPB] at h; simpa [Int.natCast_inj] using h
   rw [if_neg hp1, List.append_nil] at hK3
   refine nK2 ?_
   refine zb ?_
   refine za ?_
   refine zl ?_
   refine zd ?_
   refine zc ?_
   refine nK2 ?_
   refine Next.weak [0, 1, 2, 3, 4] [] (by rfl) (keepsN hC _ rfl) wG (by exact ⟨wS, ⟨wS, ⟨wS, ⟨ent_own rfl rfl rfl, ⟨ent_own rfl rfl rfl, trivial⟩⟩⟩⟩⟩) wN hK3
  have hie : i = F1.length := by simp at hb; omega
  subst hie
  rw [List.take_length]
  refine nK2 ?_
  refine zb ?_
  refine za ?_
  refine zl ?_
  refine zd ?_
  refine zc ?_
  refine nK2 ?_
  refine Next.weak [0, 1, 2, 3, 4] [] (by rfl) (keepsN hC _ rfl) wG (by exact ⟨wS, ⟨wS, ⟨wS, ⟨ent_own rfl rfl rfl, ⟨ent_own rfl rfl rfl, trivial⟩⟩⟩⟩⟩) wN hK1
 have hve : v = g.m := by have := of_decide_eq_false hb; omega
 subst hve
 rw [preL_n, preL_n]
 refine nK2 ?_
 refine Next.freezeOwn 3 rfl rfl ?_
 refine Next.freezeOwn 4 rfl rfl ?_
 have hF3 : (fzL 1 (rowsI ((List.range g.m).map (hopR g D a)))).length = g.m := by rw [fzL_len, rowsI_len]; exact rng_len _ _
 have hF4 : (fzL 1 (rowsI ((List.range g.m).map (parR g D a)))).length = g.m := by rw [fzL_len, rowsI_len]; exact rng_len _ _
 refine Next.weak [0, 1, 2] [3, 4] (by rfl) (keepsN hC _ rfl) (G' := [(2, .ptr 0 3 0 0), (4, .ptr 1 4 0 0), (9, .ptr 2 4 0 0)]) (H' := [(0, OG g), (1, OTr zeroT), (2, OTr (refT g D a))]) wG (by exact ⟨wS, ⟨wS, ⟨⟨rfl, rfl, .flat _ _ _ rfl (AsRs.cons _ _ _ _ (AsR.cons _ _ _ _ (.fz _) (AsR.cons _ _ _ _ (.fz _) (AsR.cons _ _ _ _ (.sl _ _ _ _ _ _ rfl rfl ((take_all0 hF3).trans (fz_rowsI _)) (by rw [← fz_rowsI]; exact hF3)) (AsR.cons _ _ _ _ (.sl _ _ _ _ _ _ rfl rfl ((take_all0 hF4).trans (fz_rowsI _)) (by rw [← fz_rowsI]; exact hF4)) .nil)))) .nil)⟩, trivial⟩⟩⟩) (fun id h => by simp at h; rcases h with rfl | rfl <;> exact ⟨_, rfl⟩) ?_
 refine nK2 ?_
 refine zb ?_
 refine zk ?_
 refine zr ?_
 refine ze ?_
 refine zc ?_
 refine nK2 ?_
 refine Next.weakS [4] [] (by rfl) (keeps0 hC _) (G' := [(4, .ptr 0 4 0 0), (5, .fz _)]) (H' := [(0, OTr (refT g D a))]) wG wR rfl ?_
 exact wO hC
end Go.Proofs.YtcillieggklaaaaGreat
namespace Go.Pl
open Go Go.RT
set_option linter.all false
/- distances as a fixed point that is held up -/
structure Fx (es : List Edg) (n a : Nat) (D : List Int) : Prop where
  root : gt0 D a = 0
  fix : ∀ e ∈ es, 0 ≤ gt0 D e.f.toNat → 0 ≤ gt0 D e.t.toNat ∧ gt0 D e.t.toNat ≤ gt0 D e.f.toNat + e.c
  sup : ∀ v, v < n → v ≠ a → 0 ≤ gt0 D v → ∃ e ∈ es, e.t = (v : Int) ∧ 0 ≤ gt0 D e.f.toNat ∧ gt0 D e.f.toNat + e.c = gt0 D v
  neg : ∀ v, v < n → gt0 D v < 0 → gt0 D v = -1
theorem Fx.walk {es : List Edg} {r n a : Nat} {D : List Int} (vg : VG es r n) (h : Fx es n a D) : ∀ (k v : Nat), v < n → 0 ≤ gt0 D v → (gt0 D v).toNat * 129 + (n - v) ≤ k → Wk es a v (gt0 D v) := by
  intro k
  induction k with
  | zero => intro v hv _ hk; omega
  | succ k ih =>
    intro v hv h0 hk
    by_cases hva : v = a
    · subst hva; rw [h.root]; exact .nil
    · obtain ⟨e, he, ht, hf, hs⟩ := h.sup v hv hva h0
      have hfn := vg.f e he
      have hc := vg.c e he
      have hn := vg.n128
      have w : Wk es a e.f.toNat (gt0 D e.f.toNat) := by
        refine ih e.f.toNat (by omega) hf ?_
        by_cases hc0 : e.c = 0
        · have hr : (r : Int) ≤ e.f := by
            by_cases hlt : e.f < (r : Int)
            · have := vg.rt e he hlt; omega
            · omega
          have := (vg.net e he hr).1
          have e1 : gt0 D e.f.toNat = gt0 D v := by omega
          rw [e1]; omega
        · have e1 : (gt0 D e.f.toNat).toNat + 1 ≤ (gt0 D v).toNat := by omega
          have e2 := Nat.mul_le_mul_right 129 e1
          omega
      have := Wk.snoc w he
      rw [hs, ht, Int.toNat_natCast] at this
      exact this
theorem Fx.isD {es : List Edg} {r n a : Nat} {D : List Int} (vg : VG es r n) (h : Fx es n a D) : ∀ v, v < n → IsD es a v (gt0 D v) :=
  isD_cert h.root h.fix fun v hv => by
    by_cases h0 : 0 ≤ gt0 D v
    · exact .inr (h.walk vg _ v hv h0 (Nat.le_refl _))
    · exact .inl (h.neg v hv (by omega))
theorem fx_of {es : List Edg} {r n a : Nat} {D : List Int} (vg : VG es r n) (ha : a < n) (hD : ∀ v, v < n → IsD es a v (gt0 D v)) : Fx es n a D := by
  have hr : gt0 D a = 0 := by
    rcases (hD a ha).cases vg with ⟨_, h2⟩ | ⟨h1, _, h3⟩
    · exact absurd .nil (h2 0)
    · have := h3 0 .nil; omega
  have hx : ∀ e ∈ es, 0 ≤ gt0 D e.f.toNat → 0 ≤ gt0 D e.t.toNat ∧ gt0 D e.t.toNat ≤ gt0 D e.f.toNat + e.c := fun e he h0 => by
    have hf := vg.f e he; have ht := vg.t e he
    rcases (hD e.f.toNat (by omega)).cases vg with ⟨h1, _⟩ | ⟨_, h2, _⟩
    · omega
    · have w := Wk.snoc h2 he
      rcases (hD e.t.toNat (by omega)).cases vg with ⟨_, h4⟩ | ⟨h3, _, h5⟩
      · exact absurd w (h4 _)
      · exact ⟨h3, h5 _ w⟩
  refine ⟨hr, hx, fun v hv hne h0 => ?_, fun v hv h0 => ?_⟩
  · rcases (hD v hv).cases vg with ⟨h1, _⟩ | ⟨_, w, hm⟩
    · omega
    · generalize hd : gt0 D v = d at w hm
      have key : ∀ {v' : Nat} {d' : Int}, Wk es a v' d' → v' = v → d' = d → ∃ e ∈ es, e.t = (v : Int) ∧ 0 ≤ gt0 D e.f.toNat ∧ gt0 D e.f.toNat + e.c = d := fun {v' d'} w' hv' hd' => by
        cases w' with
        | nil => exact absurd hv'.symm hne
        | @snoc e c w2 he =>
          have hf := vg.f e he; have ht := vg.t e he
          rcases (hD e.f.toNat (by omega)).cases vg with ⟨_, h4⟩ | ⟨h3, _, h5⟩
          · exact absurd w2 (h4 _)
          · have h6 := h5 _ w2
            have h7 := (hx e he h3).2
            rw [hv', hd] at h7
            exact ⟨e, he, by omega, h3, by omega⟩
      exact key w rfl rfl
  · rcases hD v hv with ⟨h1, _⟩ | ⟨w, _⟩
    · exact h1
    · have := w.nn vg; omega
/-- only the root is at distance 0 -/
theorem Fx.pos {es : List Edg} {r n a : Nat} {D : List Int} (vg : VG es r n) (har : a < r) (h : Fx es n a D) {v : Nat} (hv : v < n) (hne : v ≠ a) (h0 : 0 ≤ gt0 D v) : 1 ≤ gt0 D v := by
  obtain ⟨e, he, ht, hf, hs⟩ := h.sup v hv hne h0
  have hfn := vg.f e he
  by_cases hlt : e.f < (r : Int)
  · have := vg.rt e he hlt; omega
  · have hc := vg.c e he
    obtain ⟨e2, he2, ht2, hf2, hs2⟩ := h.sup e.f.toNat (by omega) (by omega) hf
    by_cases hlt2 : e2.f < (r : Int)
    · have := vg.rt e2 he2 hlt2; omega
    · have := (vg.net e2 he2 (by omega)).1; omega
/- one change of a graph -/
structure ChRel (es es' : List Edg) (c : Edg) (old : Int) : Prop where
  out : ∀ e ∈ es', ¬ (e.f = c.f ∧ e.t = c.t) → e ∈ es
  ins : ∀ e ∈ es, ¬ (e.f = c.f ∧ e.t = c.t) → e ∈ es'
  new : 0 ≤ c.c → c ∈ es'
  one : ∀ e ∈ es', e.f = c.f ∧ e.t = c.t → 0 ≤ c.c ∧ e.c = c.c
  had : 0 ≤ old → ⟨c.f, c.t, old⟩ ∈ es
  was : ∀ e ∈ es, e.f = c.f ∧ e.t = c.t → e.c = old
theorem asc_key {l : List Edg} (h : AscK l) {x y : Edg} (hx : x ∈ l) (hy : y ∈ l) (hk : x.f = y.f ∧ x.t = y.t) : x = y := by
  obtain ⟨i, hi, rfl⟩ := List.mem_iff_getElem.1 hx
  obtain ⟨j, hj, rfl⟩ := List.mem_iff_getElem.1 hy
  rcases Nat.lt_trichotomy i j with hlt | rfl | hlt
  · have := asc_get h hlt hj; unfold ltK at this; omega
  · rfl
  · have := asc_get h hlt hi; unfold ltK at this; omega
def oldI (es : List Edg) (c : Edg) : Int := if (costL c.f c.t es).2 = true then (costL c.f c.t es).1 else -1
theorem old_spec {es : List Edg} {r n : Nat} (vg : VG es r n) (c : Edg) : (0 ≤ oldI es c → ⟨c.f, c.t, oldI es c⟩ ∈ es) ∧ ∀ e ∈ es, e.f = c.f ∧ e.t = c.t → e.c = oldI es c := by
  unfold oldI
  by_cases h : (costL c.f c.t es).2 = true
  · rw [if_pos h]
    obtain ⟨e, he, h1, h2, h3⟩ := (cost_yes vg.asc).1 h
    refine ⟨fun _ => ?_, fun e' he' hk => ?_⟩
    · rw [← h3, ← h1, ← h2]; exact he
    · rw [← h3, asc_key vg.asc he' he (by omega)]
  · have h' : (costL c.f c.t es).2 = false := by simpa using h
    rw [if_neg h]
    exact ⟨fun h0 => by omega, fun e' he' hk => absurd hk (cost_none.1 h' e' he')⟩
theorem chg_rel {g : Gr} (hg : checkI g = 0) (c : Edg) (hz : (chgF g c).2 = 0) :
    ∃ es', (chgF g c).1 = ⟨g.r, g.n, es'⟩ ∧ checkI ⟨g.r, g.n, es'⟩ = 0 ∧ ChRel g.es es' c (oldI g.es c) ∧ nodeB g c.f = true ∧ nodeB g c.t = true := by
  have hasc := check_asc hg
  obtain ⟨⟨h1, h2, h3⟩, hlen, hchk⟩ := checkI_ok hg
  have hal := chkL_alw _ _ hchk
  obtain ⟨vg, _, _⟩ := checkI_vg hg
  obtain ⟨hA, hB, hC, _, _⟩ := (chg_eq (c := c) hasc hlen).2 hz
  obtain ⟨o1, o2⟩ := old_spec vg c
  have hck : ∀ es', (∀ e ∈ es', alwI g e = 0) → AscK es' → es'.length ≤ 1024 → checkI ⟨g.r, g.n, es'⟩ = 0 := fun es' ha hs hl => by
    have hs' : sizeI ⟨g.r, g.n, es'⟩ = 0 := by
      unfold sizeI
      rw [if_neg (by dsimp only; omega), if_neg (by dsimp only; omega)]
    unfold checkI
    rw [if_neg (by rw [hs']; simp)]
    exact chkL_of es' none ha hs (fun q hq => by cases hq)
  obtain ⟨bs1, bs2, bs3⟩ := bsAt_spec hasc c
  have hbt := fun h => bsHit_true (l := g.es) c h
  have hbf := fun h => bsHit_false hasc c h
  unfold chgF at hz hB hC ⊢
  by_cases q1 : nodeB g c.f = false ∨ nodeB g c.t = false
  · rw [if_pos q1] at hz; cases hz
  · rw [if_neg q1] at hz hB hC ⊢
    have qn : nodeB g c.f = true ∧ nodeB g c.t = true := by simpa using q1
    by_cases q2 : c.c < 0
    · rw [if_pos q2] at hz hB hC ⊢
      by_cases q3 : bsHit g.es c = false
      · rw [if_pos q3] at hz; cases hz
      · rw [if_neg q3] at hz hB hC ⊢
        obtain ⟨k1, k2, k3⟩ := hbt (by simpa using q3)
        generalize bsAt g.es c = k at *
        have hmem : ∀ e, e ∈ delL g.es k (k + 1) → ∃ j, ∃ hj : j < g.es.length, j ≠ k ∧ g.es[j] = e := fun e he => by
          unfold delL at he
          rcases List.mem_append.1 he with he | he
          · obtain ⟨j, hj, e2⟩ := List.mem_iff_getElem.1 he
            rw [List.getElem_take] at e2
            rw [List.length_take] at hj
            exact ⟨j, by omega, by omega, e2⟩
          · obtain ⟨j, hj, e2⟩ := List.mem_iff_getElem.1 he
            rw [List.getElem_drop] at e2
            rw [List.length_drop] at hj
            exact ⟨k + 1 + j, by omega, by omega, e2⟩
        have hmem2 : ∀ j (hj : j < g.es.length), j ≠ k → g.es[j] ∈ delL g.es k (k + 1) := fun j hj hne => by
          unfold delL
          by_cases hjk : j < k
          · exact List.mem_append.2 (.inl (List.mem_iff_getElem.2 ⟨j, by rw [List.length_take]; omega, by rw [List.getElem_take]⟩))
          · refine List.mem_append.2 (.inr (List.mem_iff_getElem.2 ⟨j - (k + 1), by rw [List.length_drop]; omega, ?_⟩))
            rw [List.getElem_drop]; congr 1; omega
        have hsub : ∀ e ∈ delL g.es k (k + 1), e ∈ g.es := fun e he => by
          obtain ⟨j, hj, _, e2⟩ := hmem e he
          rw [← e2]; exact List.getElem_mem hj
        refine ⟨_, rfl, hck _ (fun e he => hal e (hsub e he)) hB hC, ⟨fun e he _ => hsub e he, fun e he hk => ?_, fun h => by omega, fun e he hk => ?_, o1, o2⟩, qn⟩
        · obtain ⟨j, hj, e2⟩ := List.mem_iff_getElem.1 he
          have hjk : j ≠ k := fun e3 => by subst e3; rw [← e2] at hk; exact hk ⟨k2, k3⟩
          rw [← e2]; exact hmem2 j hj hjk
        · obtain ⟨j, hj, hjk, e2⟩ := hmem e he
          exfalso
          have := asc_key hasc (hsub e he) (List.getElem_mem k1) (by omega)
          rcases Nat.lt_or_gt_of_ne hjk with hlt | hlt
          · have h4 := asc_get hasc hlt k1; rw [e2, this] at h4; unfold ltK at h4; omega
          · have h4 := asc_get hasc hlt hj; rw [e2, this] at h4; unfold ltK at h4; omega
    · rw [if_neg q2] at hz hB hC ⊢
      by_cases q3 : alwI g c ≠ 0
      · rw [if_pos q3] at hz; exact absurd hz q3
      · rw [if_neg q3] at hz hB hC ⊢
        have ha0 : alwI g c = 0 := by simpa using q3
        by_cases q4 : bsHit g.es c = true
        · rw [if_pos q4] at hz hB hC ⊢
          obtain ⟨k1, k2, k3⟩ := hbt q4
          generalize bsAt g.es c = k at *
          have hcm : c ∈ g.es.set k c := List.mem_iff_getElem.2 ⟨k, by simpa using k1, by simp⟩
          refine ⟨_, rfl, hck _ (fun e he => ?_) hB hC, ⟨fun e he hk => ?_, fun e he hk => ?_, fun _ => hcm, fun e he hk => ⟨by omega, ?_⟩, o1, o2⟩, qn⟩
          · rcases List.mem_or_eq_of_mem_set he with h | rfl
            · exact hal e h
            · exact ha0
          · rcases List.mem_or_eq_of_mem_set he with h | rfl
            · exact h
            · exact absurd ⟨rfl, rfl⟩ hk
          · obtain ⟨j, hj, e2⟩ := List.mem_iff_getElem.1 he
            have hjk : k ≠ j := fun e3 => by subst e3; rw [← e2] at hk; exact hk ⟨k2, k3⟩
            exact List.mem_iff_getElem.2 ⟨j, by simpa using hj, by rw [List.getElem_set, if_neg hjk]; exact e2⟩
          · rw [asc_key hB he hcm hk]
        · rw [if_neg q4] at hz hB hC ⊢
          by_cases q5 : g.es.length = 1024
          · rw [if_pos q5] at hz; cases hz
          · rw [if_neg q5] at hz hB hC ⊢
            have hno := hbf (by simpa using q4)
            generalize bsAt g.es c = k at *
            have hm : ∀ e, e ∈ insL g.es k c ↔ e = c ∨ e ∈ g.es := fun e => by
              unfold insL
              have : e ∈ g.es ↔ e ∈ g.es.take k ++ g.es.drop k := by rw [List.take_append_drop]
              rw [this]
              simp only [List.mem_append, List.mem_cons]
              constructor
              · rintro (h | h | h)
                · exact .inr (.inl h)
                · exact .inl h
                · exact .inr (.inr h)
              · rintro (h | h | h)
                · exact .inr (.inl h)
                · exact .inl h
                · exact .inr (.inr h)
            refine ⟨_, rfl, hck _ (fun e he => ?_) hB hC, ⟨fun e he hk => ?_, fun e he hk => (hm e).2 (.inr he), fun _ => (hm c).2 (.inl rfl), fun e he hk => ⟨by omega, ?_⟩, o1, o2⟩, qn⟩
            · rcases (hm e).1 he with rfl | h
              · exact ha0
              · exact hal e h
            · rcases (hm e).1 he with rfl | h
              · exact absurd ⟨rfl, rfl⟩ hk
              · exact h
            · rcases (hm e).1 he with rfl | h
              · rfl
              · exact absurd hk (hno e h)
open Go Go.RT
/- settling from distances that are upper bounds -/
def relE (d : List Int) (k : Int) (h : Hq) (e : Edg) : Hq := if (gt0 d e.t.toNat < 0 ∨ k + e.c < gt0 d e.t.toNat) ∧ (h.place e.t.toNat < 0 ∨ k + e.c < h.key e.t.toNat) then setH h e.t.toNat (k + e.c) else h
def setF (es : List Edg) : Nat → List Int → Hq → List Int × Hq
  | 0, d, h => (d, h)
  | f + 1, d, h => if h.it.length = 0 then (d, h) else setF es f (d.set (h.item 0) (h.key (h.item 0))) ((outE es (h.item 0)).foldl (relE (d.set (h.item 0) (h.key (h.item 0))) (h.key (h.item 0))) (dropH h (h.item 0)))
structure SJ (es : List Edg) (n a : Nat) (B : Int) (d : List Int) (h : Hq) (S : List Nat) (b : Int) (todo : List Edg) : Prop where
  hg : HG h
  hl : h.pl.length = n
  dl : d.length = n
  root : gt0 d a = 0
  neg : ∀ v, v < n → gt0 d v < 0 → gt0 d v = -1
  sup : ∀ v, v < n → v ≠ a → 0 ≤ gt0 d v → 0 ≤ h.place v ∨ ∃ e ∈ es, e.t = (v : Int) ∧ 0 ≤ gt0 d e.f.toNat ∧ gt0 d e.f.toNat + e.c ≤ gt0 d v
  q : ∀ v, v < n → 0 ≤ h.place v → v ≠ a ∧ 0 ≤ h.key v ∧ (gt0 d v < 0 ∨ h.key v < gt0 d v) ∧ b ≤ h.key v ∧ h.key v ≤ B + 65535 * S.length ∧ v ∉ S ∧ ∃ e ∈ es, e.t = (v : Int) ∧ 0 ≤ gt0 d e.f.toNat ∧ gt0 d e.f.toNat + e.c ≤ h.key v
  rel : ∀ e ∈ es, 0 ≤ gt0 d e.f.toNat → e ∈ todo ∨ (0 ≤ gt0 d e.t.toNat ∧ gt0 d e.t.toNat ≤ gt0 d e.f.toNat + e.c) ∨ (0 ≤ h.place e.t.toNat ∧ h.key e.t.toNat ≤ gt0 d e.f.toNat + e.c)
  nd : S.Nodup
  slt : ∀ v ∈ S, v < n
  sset : ∀ v ∈ S, 0 ≤ gt0 d v ∧ gt0 d v ≤ b
  bd : ∀ v, v < n → gt0 d v ≤ B + 65535 * S.length
  b0 : 0 ≤ B
theorem SJ.done {es : List Edg} {n a : Nat} {B : Int} {d : List Int} {h : Hq} {S : List Nat} {b : Int} (vt : ∀ e ∈ es, 0 ≤ e.t ∧ e.t < n) (o : SJ es n a B d h S b []) (he : h.it.length = 0) : Fx es n a d := by
  have hno : ∀ v, v < n → ¬ 0 ≤ h.place v := fun v hv hp => by
    have := (o.hg.hi.at_ v (by rw [o.hl]; exact hv) hp).1
    omega
  have hfix : ∀ e ∈ es, 0 ≤ gt0 d e.f.toNat → 0 ≤ gt0 d e.t.toNat ∧ gt0 d e.t.toNat ≤ gt0 d e.f.toNat + e.c := fun e hm h0 => by
    have := vt e hm
    rcases o.rel e hm h0 with h1 | h1 | h1
    · cases h1
    · exact h1
    · exact absurd h1.1 (hno _ (by omega))
  refine ⟨o.root, hfix, fun v hv hne h0 => ?_, o.neg⟩
  rcases o.sup v hv hne h0 with h1 | ⟨e, hm, ht, hf, hs⟩
  · exact absurd h1 (hno v hv)
  · have := (hfix e hm hf).2
    rw [ht, Int.toNat_natCast] at this
    exact ⟨e, hm, ht, hf, by omega⟩
theorem SJ.pop {es : List Edg} {n a : Nat} {B : Int} {d : List Int} {h : Hq} {S : List Nat} {b : Int} (vf : ∀ e ∈ es, 0 ≤ e.f ∧ e.f < n) (vt : ∀ e ∈ es, 0 ≤ e.t ∧ e.t < n) (vn : ∀ e ∈ es, e.f ≠ e.t) (o : SJ es n a B d h S b []) (hne : 0 < h.it.length) :
    h.item 0 < n ∧ 0 ≤ h.key (h.item 0) ∧ h.key (h.item 0) ≤ B + 65535 * S.length ∧ S.length < n ∧
    SJ es n a B (d.set (h.item 0) (h.key (h.item 0))) (dropH h (h.item 0)) (h.item 0 :: S) (h.key (h.item 0)) (outE es (h.item 0)) := by
  have hx : h.item 0 < n := by rw [← o.hl]; exact o.hg.hi.ok.item hne
  have hp : 0 ≤ h.place (h.item 0) := by rw [o.hg.hi.inv 0 hne]; decide
  have hmin := fun w hw hp => o.hg.min (w := w) (by rw [o.hl]; exact hw) hp
  obtain ⟨d1, d2, d3, d4, d5⟩ := o.hg.drop (by rw [o.hl]; exact hx) hp
  obtain ⟨q1, q2, q3, q4, q5, q6, q7⟩ := o.q _ hx hp
  unfold Hq.kk at hmin
  generalize h.item 0 = x at *
  have hkey : ∀ w, (dropH h x).key w = h.key w := fun w => by unfold Hq.key; rw [d4]
  generalize hkx : h.key x = k at *
  have hget : ∀ v, gt0 (d.set x k) v = if x = v then k else gt0 d v := fun v => getD_set _ _ _ _ _ (by rw [o.dl]; exact hx)
  have hnd : (x :: S).Nodup := List.nodup_cons.2 ⟨q6, o.nd⟩
  have hlt' : ∀ v ∈ x :: S, v < n := fun v hv => by
    rcases List.mem_cons.1 hv with rfl | hv
    · exact hx
    · exact o.slt v hv
  have hln := nodup_len n _ hnd hlt'
  have hle : ∀ v, 0 ≤ gt0 d v → 0 ≤ gt0 (d.set x k) v ∧ gt0 (d.set x k) v ≤ gt0 d v := fun v hv => by
    rw [hget]
    by_cases e : x = v
    · subst e; rw [if_pos rfl]; omega
    · rw [if_neg e]; exact ⟨hv, Int.le_refl _⟩
  simp only [List.length_cons] at hln
  refine ⟨hx, q2, q5, hln, d1, by rw [d3, o.hl], by rw [List.length_set, o.dl], ?_, fun v hv h0 => ?_, fun v hv hva h0 => ?_, fun v hv h0 => ?_, fun e he h0 => ?_, hnd, hlt', fun v hv => ?_, fun v hv => ?_, o.b0⟩
  · rw [hget, if_neg q1]; exact o.root
  · rw [hget] at h0 ⊢
    by_cases e : x = v
    · rw [if_pos e] at h0; omega
    · rw [if_neg e] at h0 ⊢; exact o.neg v hv h0
  · rw [hget] at h0
    by_cases e : x = v
    · subst e
      obtain ⟨ed, e1, e2, e3, e4⟩ := q7
      refine .inr ⟨ed, e1, e2, (hle _ e3).1, ?_⟩
      rw [hget x, if_pos rfl]
      have := (hle _ e3).2; omega
    · rw [if_neg e] at h0
      rcases o.sup v hv hva h0 with h1 | ⟨ed, e1, e2, e3, e4⟩
      · exact .inl ((d5 v).2 ⟨fun e2 => e e2.symm, h1⟩)
      · refine .inr ⟨ed, e1, e2, (hle _ e3).1, ?_⟩
        rw [hget v, if_neg e]
        have := (hle _ e3).2; omega
  · obtain ⟨e1, e2⟩ := (d5 v).1 h0
    obtain ⟨s1, s2, s3, s4, s5, s6, ed, t1, t2, t3, t4⟩ := o.q v hv e2
    have hm := hmin v hv e2
    unfold le2 at hm; simp only at hm
    rw [hkey, hget, if_neg (fun e => e1 e.symm)]
    refine ⟨s1, s2, s3, by omega, by simp only [List.length_cons]; omega, fun e => ?_, ed, t1, t2, (hle _ t3).1, ?_⟩
    · rcases List.mem_cons.1 e with e | e
      · exact e1 e
      · exact s6 e
    · have := (hle _ t3).2; omega
  · rw [hget] at h0
    have hef := vf e he
    have het := vt e he
    by_cases e1 : x = e.f.toNat
    · refine .inl (List.mem_filter.2 ⟨he, ?_⟩)
      rw [decide_eq_true_eq]; omega
    · rw [if_neg e1] at h0
      rw [hget (e.f.toNat), if_neg e1]
      rcases o.rel e he h0 with h3 | ⟨h3, h4⟩ | ⟨h3, h4⟩
      · cases h3
      · have := hle _ h3
        exact .inr (.inl ⟨this.1, by omega⟩)
      · by_cases e2 : x = e.t.toNat
        · refine .inr (.inl ?_)
          rw [hget, if_pos e2]
          rw [← e2, hkx] at h4
          exact ⟨q2, h4⟩
        · refine .inr (.inr ⟨(d5 _).2 ⟨fun e => e2 e.symm, h3⟩, ?_⟩)
          rw [hkey]; exact h4
  · rw [hget]
    by_cases e : x = v
    · rw [if_pos e]; omega
    · rw [if_neg e]
      rcases List.mem_cons.1 hv with h1 | h1
      · exact absurd h1.symm e
      · have := o.sset v h1; omega
  · rw [hget]
    have := o.bd v hv
    simp only [List.length_cons]
    by_cases e : x = v
    · rw [if_pos e]; omega
    · rw [if_neg e]; omega
theorem SJ.step {es : List Edg} {n a : Nat} {B : Int} {d : List Int} {h : Hq} {S : List Nat} {x : Nat} {b : Int} {e : Edg} {todo : List Edg} (vt : ∀ e ∈ es, 0 ≤ e.t ∧ e.t < n) (vc : ∀ e ∈ es, 0 ≤ e.c ∧ e.c ≤ 65535) (he : e ∈ es) (o : SJ es n a B d h S b (e :: todo)) (hf : gt0 d e.f.toNat = b) (hb0 : 0 ≤ b) (hb : b + 65535 ≤ B + 65535 * S.length) :
    SJ es n a B d (relE d b h e) S b todo := by
  have het := vt e he
  have hec := vc e he
  unfold relE
  by_cases hc : (gt0 d e.t.toNat < 0 ∨ b + e.c < gt0 d e.t.toNat) ∧ (h.place e.t.toNat < 0 ∨ b + e.c < h.key e.t.toNat)
  · rw [if_pos hc]
    have htl : e.t.toNat < h.pl.length := by rw [o.hl]; omega
    obtain ⟨s1, s2, s3, s4⟩ := o.hg.set htl (b + e.c)
    have hkey := key_set (by rw [← o.hg.hi.ok.len]; exact htl) s3
    refine ⟨s1, by rw [s2, o.hl], o.dl, o.root, o.neg, fun v hv hva h0 => ?_, fun v hv h0 => ?_, fun e' he' h0 => ?_, o.nd, o.slt, o.sset, o.bd, o.b0⟩
    · rcases o.sup v hv hva h0 with h1 | h1
      · exact .inl ((s4 v).2 (.inr h1))
      · exact .inr h1
    · rw [hkey]
      by_cases e1 : e.t.toNat = v
      · rw [if_pos e1]; subst e1
        refine ⟨fun e2 => ?_, by omega, hc.1, by omega, by omega, fun e2 => ?_, e, he, by omega, by omega, by omega⟩
        · have := o.root; rw [e2] at hc; omega
        · have := o.sset _ e2; omega
      · rw [if_neg e1]
        rcases (s4 v).1 h0 with h1 | h1
        · exact absurd h1.symm e1
        · exact o.q v hv h1
    · rcases o.rel e' he' h0 with h3 | h3 | ⟨h3, h4⟩
      · rcases List.mem_cons.1 h3 with rfl | h3
        · refine .inr (.inr ⟨(s4 _).2 (.inl rfl), ?_⟩)
          rw [hkey, if_pos rfl]; omega
        · exact .inl h3
      · exact .inr (.inl h3)
      · refine .inr (.inr ⟨(s4 _).2 (.inr h3), ?_⟩)
        rw [hkey]
        by_cases e1 : e.t.toNat = e'.t.toNat
        · rw [if_pos e1]
          rcases hc.2 with h5 | h5
          · rw [← e1] at h3; omega
          · rw [← e1] at h4; omega
        · rw [if_neg e1]; exact h4
  · rw [if_neg hc]
    refine ⟨o.hg, o.hl, o.dl, o.root, o.neg, o.sup, o.q, fun e' he' h0 => ?_, o.nd, o.slt, o.sset, o.bd, o.b0⟩
    rcases o.rel e' he' h0 with h3 | h3
    · rcases List.mem_cons.1 h3 with rfl | h3
      · refine .inr ?_
        rw [hf] at h0 ⊢
        by_cases h5 : gt0 d e'.t.toNat < 0 ∨ b + e'.c < gt0 d e'.t.toNat
        · have h6 : ¬ (h.place e'.t.toNat < 0 ∨ b + e'.c < h.key e'.t.toNat) := fun h6 => hc ⟨h5, h6⟩
          exact .inr (by omega)
        · exact .inl (by omega)
      · exact .inl h3
    · exact .inr h3
theorem SJ.steps {es : List Edg} {n a : Nat} {B : Int} {d : List Int} {S : List Nat} {b : Int} (vt : ∀ e ∈ es, 0 ≤ e.t ∧ e.t < n) (vc : ∀ e ∈ es, 0 ≤ e.c ∧ e.c ≤ 65535) (hb0 : 0 ≤ b) (hb : b + 65535 ≤ B + 65535 * S.length) : ∀ (todo : List Edg) {h : Hq}, (∀ e ∈ todo, e ∈ es ∧ gt0 d e.f.toNat = b) → SJ es n a B d h S b todo → SJ es n a B d (todo.foldl (relE d b) h) S b []
  | [], h, _, o => o
  | e :: todo, h, ht, o => SJ.steps vt vc hb0 hb todo (fun e' h' => ht e' (by simp [h'])) (o.step (x := 0) vt vc (ht e (by simp)).1 (ht e (by simp)).2 hb0 hb)
theorem SJ.round {es : List Edg} {r n a : Nat} {B : Int} {d : List Int} {h : Hq} {S : List Nat} {b : Int} (vg : VG es r n) (o : SJ es n a B d h S b []) (hne : 0 < h.it.length) :
    S.length < n ∧ SJ es n a B (d.set (h.item 0) (h.key (h.item 0))) ((outE es (h.item 0)).foldl (relE (d.set (h.item 0) (h.key (h.item 0))) (h.key (h.item 0))) (dropH h (h.item 0))) (h.item 0 :: S) (h.key (h.item 0)) [] := by
  obtain ⟨p1, p2, p3, p4, p5⟩ := o.pop vg.f vg.t vg.ne hne
  refine ⟨p4, SJ.steps vg.t vg.c p2 (by simp only [List.length_cons]; omega) _ (fun e he => ?_) p5⟩
  obtain ⟨h1, h2⟩ : e ∈ es ∧ e.f = (h.item 0 : Nat) := by simpa [outE] using he
  refine ⟨h1, ?_⟩
  rw [h2, Int.toNat_natCast, gt0, getD_set _ _ _ _ _ (by rw [o.dl]; exact p1), if_pos rfl]
theorem SJ.run {es : List Edg} {r n a : Nat} {B : Int} (vg : VG es r n) : ∀ (f : Nat) {d : List Int} {h : Hq} {S : List Nat} {b : Int}, n < f + S.length → SJ es n a B d h S b [] → Fx es n a (setF es f d h).1 ∧ (setF es f d h).1.length = n
  | 0, d, h, S, b, hf, o => by have := nodup_len n S o.nd o.slt; omega
  | f + 1, d, h, S, b, hf, o => by
    simp only [setF]
    by_cases he : h.it.length = 0
    · rw [if_pos he]; exact ⟨o.done vg.t he, o.dl⟩
    · rw [if_neg he]
      obtain ⟨p1, p2⟩ := o.round vg (by omega)
      exact SJ.run vg f (by simp only [List.length_cons]; omega) p2
end Go.Pl
