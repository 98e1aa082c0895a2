/- A part of the proof: X205, GP12, IP9, IP10, IP11, X120, X206, IP12, X207, X208, X209, X210, X211, IP13, X212, X213, LX. -/
import Derived.Test.YtcillieggklaaaaGreatZF
set_option linter.all false
namespace Go.Proofs.YtcillieggklaaaaGreat
open Go Go.RT Go.Proofs Go.Pl
set_option linter.all false
set_option maxRecDepth 20000
set_option maxHeartbeats 4000000
theorem tcmp_c (g : Gr) (d : List Int) (x y : Nat) (hx : x < d.length) (hy : y < d.length) : Pure Tryz.prog 63 [If .i64 x, If .i64 y, .cellp [VI d], .cellp (encG g)] (If .i64 (ordT g.r d x y)) := by
 have rx := row_of encN d x 0 hx
 have ry := row_of encN d y 0 hy
 have hgx : d.getD x 0 = gt0 d x := rfl
 have hgy : d.getD y 0 = gt0 d y := rfl
 rw [hgx] at rx; rw [hgy] at ry
 unfold ordT
 refine Meets.intro Tryz.func63 rfl (Nat.le_of_ble_eq_true rfl) fun C hC => ?_
 simp only [List.map, argEnv, Nat.reduceAdd]
 refine nK2 ?_
 refine zb ?_
 refine ze ?_
 refine zc ?_
 refine nK2 ?_
 refine s_draw mixed ?_
 refine zj ?_
 refine za ?_
 refine rpZ 9 rfl (op_idx_fz x rfl (oT rfl) (oT rfl) (by intro _; exact ⟨rfl, rx⟩)) ?_
 refine zj ?_
 refine zj ?_
 refine za ?_
 refine rpZ 13 rfl (op_idx_fz y rfl (oT rfl) (oT rfl) (by intro _; exact ⟨rfl, ry⟩)) ?_
 refine zj ?_
 refine rpZ 15 rfl (op_call_pure (fun _ => cmp_c _ _) rfl (Opd.func _) (oS (oT rfl) (oS (oT rfl) Opds.nil))) ?_
 refine za ?_
 refine zx ?_
 refine zj ?_
 refine rpZ 19 rfl (op_min rfl (oT rfl) (oT rfl)) ?_
 refine za ?_
 refine zx ?_
 refine zj ?_
 refine rpZ 23 rfl (op_min rfl (oT rfl) (oT rfl)) ?_
 refine rpZ 24 rfl (op_call_pure (fun _ => cmp_c _ _) rfl (Opd.func _) (oS (oT rfl) (oS (oT rfl) Opds.nil))) ?_
 refine zcs ?_
 refine rpZ 26 rfl (op_call_pure (fun _ => or_c [_, _] (by simp)) rfl (Opd.func _) (oS (oT rfl) Opds.nil)) ?_
 refine zd ?_
 refine zs ?_
 refine nK2 ?_
 exact wO hC
theorem tree_c (g : Gr) (hg : checkI g = 0) (a : Nat) (har : (a : Int) < g.r) (d : List Int) (dl : d.length = g.m) (hD : ∀ v, v < g.m → -1 ≤ gt0 d v ∧ gt0 d v ≤ 8388480) : Pure Tryz.prog 30 [.agg (encG g), If .i64 a, VI d] (.agg (encTr ⟨a, d, hopT g.r a g.m (parL g.es a d g.m) (topL g.r g.m d), parL g.es a d g.m⟩)) := by
 obtain ⟨vg, hr0, hn0⟩ := checkI_vg hg
 have hn := vg.n128
 have hel := vg.e1024
 have hmm : g.m = (g.r + g.n).toNat := rfl
 rw [← hmm] at vg hn
 have hup := parL_ok vg a d
 have hTlt : ∀ v ∈ topL g.r g.m d, v < g.m := fun v hv => topL_lt hv
 have hTl := topL_len g.r g.m d
 have hso := sortS_c 63 [.cellp [VI d], .cellp (encG g)] (ordF g.r d g.m) (sw_ordF g.r d g.m) (fun x y => tcmp_c g d x.val y.val (by have := x.isLt; omega) (by have := y.isLt; omega)) (List.finRange g.m) (by rw [List.length_finRange]; omega)
 rw [List.length_finRange] at hso
 have hTF : (srtS (ltS (ordF g.r d g.m)) (List.finRange g.m)).map encF = (topL g.r g.m d).map encT := by unfold topL topF; rw [List.map_map]; rfl
 have hFF := fillL_n g.m
 clear hmm
 generalize g.m = n at *
 subst dl
 refine Meets.intro Tryz.func30 rfl (Nat.le_of_ble_eq_true rfl) fun C hC => ?_
 simp only [List.map, argEnv, Nat.reduceAdd]
 refine nK2 ?_
 refine zb ?_
 refine zq ?_
 refine zq ?_
 refine zu ?_
 refine zc ?_
 refine nK2 ?_
 refine Next.weakS [6] [3, 5] (by rfl) (keepsN hC _ rfl) (G' := [(1, IV .i64 a), (3, .fz (.cellp (encG g))), (5, .fz (.cellp [VI d])), (6, .ptr 0 4 0 0)]) (H' := [(0, OTr zeroT)]) wF (by exact ⟨⟨rfl, rfl, .fflat _ _ _ rfl tW⟩, trivial⟩) rfl ?_
 refine nK2 ?_
 refine draw_y [(1, IV .i64 a), (3, .fz (.cellp (encG g))), (5, .fz (.cellp [VI d])), (6, .ptr 0 4 0 0), (7, .ptr 1 4 0 0)] [(0, OTr zeroT), (1, some (.refs 4 [[.fz (If .i64 a), .fz (VI d), .sl 2 1 0 d.length, .sl 3 1 0 d.length]])), (2, some (.flat 1 (List.replicate d.length [.lit (.slice none 0 0)]))), (3, some (.flat 1 (List.replicate d.length [.lit (.slice none 0 0)])))] 4 mixed (fun hK => ?_) ?_
 ·skip
  refine AnyY.virt (by kernel_rfl) 0 rfl (op_move rfl (oT rfl)) (by kernel_rfl) rfl (fun t h => by cases h; rfl) ?_
  refine AnyY.virt (by kernel_rfl) 1 rfl (op_load1_fz rfl (oT rfl) rfl) (by kernel_rfl) rfl (fun t h => by cases h; rfl) ?_
  refine AnyY.virt (by kernel_rfl) 2 rfl (op_load1_fz rfl (oT rfl) rfl) (by kernel_rfl) rfl (fun t h => by cases h; rfl) ?_
  refine AnyY.virt (by kernel_rfl) 3 rfl (op_len_fz rfl (oT rfl) (List.length_map _)) (by kernel_rfl) rfl (fun t h => by cases h; rfl) ?_
  refine AnyY.virt (by kernel_rfl) 5 rfl (op_load1_fz rfl (oT rfl) rfl) (by kernel_rfl) rfl (fun t h => by cases h; rfl) ?_
  refine AnyY.virt (by kernel_rfl) 6 rfl (op_len_fz rfl (oT rfl) (List.length_map _)) (by kernel_rfl) rfl (fun t h => by cases h; rfl) ?_
  refine AnyY.three 4 7 9 (by kernel_rfl) rfl (by kernel_rfl) (StepY.mk rfl (op_make (l := d.length) (c := d.length) rfl (oT rfl) (oT rfl) rfl rfl rfl rfl (by intro _; refine ⟨rfl, rfl, ?_⟩; omega)) (fun t h => by cases h; rfl) ?_) (StepY.mk rfl (op_make (l := d.length) (c := d.length) rfl (oT rfl) (oT rfl) rfl rfl rfl rfl (by intro _; refine ⟨rfl, rfl, ?_⟩; omega)) (fun t h => by cases h; rfl) ?_) (StepY.mk rfl (op_alloc rfl rfl rfl rfl) (fun t h => by cases h; rfl) ?_)
  ·skip
   refine AnyY.two 7 9 (by kernel_rfl) rfl (by kernel_rfl) (StepY.mk rfl (op_make (l := d.length) (c := d.length) rfl (oT rfl) (oT rfl) rfl rfl rfl rfl (by intro _; refine ⟨rfl, rfl, ?_⟩; omega)) (fun t h => by cases h; rfl) ?_) (StepY.mk rfl (op_alloc rfl rfl rfl rfl) (fun t h => by cases h; rfl) ?_)
   ·skip
    refine AnyY.virt (by kernel_rfl) 8 rfl (op_buildP rfl rfl rfl rfl (FillP.cons _ _ _ _ _ _ _ _ _ _ (by rfl) (oT rfl) tP (by rfl) tR (FillP.cons _ _ _ _ _ _ _ _ _ _ (by rfl) (oT rfl) tP (by rfl) tR (FillP.cons _ _ _ _ _ _ _ _ _ _ (by rfl) (oT rfl) tP (by rfl) tR (FillP.cons _ _ _ _ _ _ _ _ _ _ (by rfl) (oT rfl) tP (by rfl) tR (FillP.nil _)))))) (by kernel_rfl) rfl (fun t h => by cases h; rfl) ?_
    refine AnyY.one 9 (by kernel_rfl) rfl (by kernel_rfl) (StepY.mk rfl (op_alloc rfl rfl rfl rfl) (fun t h => by cases h; rfl) ?_)
    refine AnyY.toRefs 3 rfl rfl ?_
    refine AnyY.one 10 (by kernel_rfl) rfl (by kernel_rfl) (StepY.mk rfl (op_store_refs rfl (oT rfl) (oT rfl) tP rfl rfl rfl tS) (fun t h => by cases h) ?_)
    refine AnyY.nil (by kernel_rfl) rfl (by kernel_rfl) ?_
    exact Next.weak [0, 3, 1, 2] [] (by rfl) (keepsN hC _ rfl) wG wR wN hK
   skip
   refine AnyY.one 7 (by kernel_rfl) rfl (by kernel_rfl) (StepY.mk rfl (op_make (l := d.length) (c := d.length) rfl (oT rfl) (oT rfl) rfl rfl rfl rfl (by intro _; refine ⟨rfl, rfl, ?_⟩; omega)) (fun t h => by cases h; rfl) ?_)
   refine AnyY.virt (by kernel_rfl) 8 rfl (op_buildP rfl rfl rfl rfl (FillP.cons _ _ _ _ _ _ _ _ _ _ (by rfl) (oT rfl) tP (by rfl) tR (FillP.cons _ _ _ _ _ _ _ _ _ _ (by rfl) (oT rfl) tP (by rfl) tR (FillP.cons _ _ _ _ _ _ _ _ _ _ (by rfl) (oT rfl) tP (by rfl) tR (FillP.cons _ _ _ _ _ _ _ _ _ _ (by rfl) (oT rfl) tP (by rfl) tR (FillP.nil _)))))) (by kernel_rfl) rfl (fun t h => by cases h; rfl) ?_
   refine AnyY.toRefs 2 rfl rfl ?_
   refine AnyY.one 10 (by kernel_rfl) rfl (by kernel_rfl) (StepY.mk rfl (op_store_refs rfl (oT rfl) (oT rfl) tP rfl rfl rfl tS) (fun t h => by cases h) ?_)
   refine AnyY.nil (by kernel_rfl) rfl (by kernel_rfl) ?_
   exact Next.weak [0, 2, 1, 3] [] (by rfl) (keepsN hC _ rfl) wG wR wN hK
  ·skip
   refine AnyY.two 4 9 (by kernel_rfl) rfl (by kernel_rfl) (StepY.mk rfl (op_make (l := d.length) (c := d.length) rfl (oT rfl) (oT rfl) rfl rfl rfl rfl (by intro _; refine ⟨rfl, rfl, ?_⟩; omega)) (fun t h => by cases h; rfl) ?_) (StepY.mk rfl (op_alloc rfl rfl rfl rfl) (fun t h => by cases h; rfl) ?_)
   ·skip
    refine AnyY.virt (by kernel_rfl) 8 rfl (op_buildP rfl rfl rfl rfl (FillP.cons _ _ _ _ _ _ _ _ _ _ (by rfl) (oT rfl) tP (by rfl) tR (FillP.cons _ _ _ _ _ _ _ _ _ _ (by rfl) (oT rfl) tP (by rfl) tR (FillP.cons _ _ _ _ _ _ _ _ _ _ (by rfl) (oT rfl) tP (by rfl) tR (FillP.cons _ _ _ _ _ _ _ _ _ _ (by rfl) (oT rfl) tP (by rfl) tR (FillP.nil _)))))) (by kernel_rfl) rfl (fun t h => by cases h; rfl) ?_
    refine AnyY.one 9 (by kernel_rfl) rfl (by kernel_rfl) (StepY.mk rfl (op_alloc rfl rfl rfl rfl) (fun t h => by cases h; rfl) ?_)
    refine AnyY.toRefs 3 rfl rfl ?_
    refine AnyY.one 10 (by kernel_rfl) rfl (by kernel_rfl) (StepY.mk rfl (op_store_refs rfl (oT rfl) (oT rfl) tP rfl rfl rfl tS) (fun t h => by cases h) ?_)
    refine AnyY.nil (by kernel_rfl) rfl (by kernel_rfl) ?_
    exact Next.weak [0, 3, 2, 1] [] (by rfl) (keepsN hC _ rfl) wG wR wN hK
   skip
   refine AnyY.one 4 (by kernel_rfl) rfl (by kernel_rfl) (StepY.mk rfl (op_make (l := d.length) (c := d.length) rfl (oT rfl) (oT rfl) rfl rfl rfl rfl (by intro _; refine ⟨rfl, rfl, ?_⟩; omega)) (fun t h => by cases h; rfl) ?_)
   refine AnyY.virt (by kernel_rfl) 8 rfl (op_buildP rfl rfl rfl rfl (FillP.cons _ _ _ _ _ _ _ _ _ _ (by rfl) (oT rfl) tP (by rfl) tR (FillP.cons _ _ _ _ _ _ _ _ _ _ (by rfl) (oT rfl) tP (by rfl) tR (FillP.cons _ _ _ _ _ _ _ _ _ _ (by rfl) (oT rfl) tP (by rfl) tR (FillP.cons _ _ _ _ _ _ _ _ _ _ (by rfl) (oT rfl) tP (by rfl) tR (FillP.nil _)))))) (by kernel_rfl) rfl (fun t h => by cases h; rfl) ?_
   refine AnyY.toRefs 2 rfl rfl ?_
   refine AnyY.one 10 (by kernel_rfl) rfl (by kernel_rfl) (StepY.mk rfl (op_store_refs rfl (oT rfl) (oT rfl) tP rfl rfl rfl tS) (fun t h => by cases h) ?_)
   refine AnyY.nil (by kernel_rfl) rfl (by kernel_rfl) ?_
   exact Next.weak [0, 2, 3, 1] [] (by rfl) (keepsN hC _ rfl) wG wR wN hK
  skip
  refine AnyY.two 4 7 (by kernel_rfl) rfl (by kernel_rfl) (StepY.mk rfl (op_make (l := d.length) (c := d.length) rfl (oT rfl) (oT rfl) rfl rfl rfl rfl (by intro _; refine ⟨rfl, rfl, ?_⟩; omega)) (fun t h => by cases h; rfl) ?_) (StepY.mk rfl (op_make (l := d.length) (c := d.length) rfl (oT rfl) (oT rfl) rfl rfl rfl rfl (by intro _; refine ⟨rfl, rfl, ?_⟩; omega)) (fun t h => by cases h; rfl) ?_)
  ·skip
   refine AnyY.one 7 (by kernel_rfl) rfl (by kernel_rfl) (StepY.mk rfl (op_make (l := d.length) (c := d.length) rfl (oT rfl) (oT rfl) rfl rfl rfl rfl (by intro _; refine ⟨rfl, rfl, ?_⟩; omega)) (fun t h => by cases h; rfl) ?_)
   refine AnyY.virt (by kernel_rfl) 8 rfl (op_buildP rfl rfl rfl rfl (FillP.cons _ _ _ _ _ _ _ _ _ _ (by rfl) (oT rfl) tP (by rfl) tR (FillP.cons _ _ _ _ _ _ _ _ _ _ (by rfl) (oT rfl) tP (by rfl) tR (FillP.cons _ _ _ _ _ _ _ _ _ _ (by rfl) (oT rfl) tP (by rfl) tR (FillP.cons _ _ _ _ _ _ _ _ _ _ (by rfl) (oT rfl) tP (by rfl) tR (FillP.nil _)))))) (by kernel_rfl) rfl (fun t h => by cases h; rfl) ?_
   refine AnyY.toRefs 1 rfl rfl ?_
   refine AnyY.one 10 (by kernel_rfl) rfl (by kernel_rfl) (StepY.mk rfl (op_store_refs rfl (oT rfl) (oT rfl) tP rfl rfl rfl tS) (fun t h => by cases h) ?_)
   refine AnyY.nil (by kernel_rfl) rfl (by kernel_rfl) ?_
   exact Next.weak [0, 1, 2, 3] [] (by rfl) (keepsN hC _ rfl) wG wR wN hK
  skip
  refine AnyY.one 4 (by kernel_rfl) rfl (by kernel_rfl) (StepY.mk rfl (op_make (l := d.length) (c := d.length) rfl (oT rfl) (oT rfl) rfl rfl rfl rfl (by intro _; refine ⟨rfl, rfl, ?_⟩; omega)) (fun t h => by cases h; rfl) ?_)
  refine AnyY.virt (by kernel_rfl) 8 rfl (op_buildP rfl rfl rfl rfl (FillP.cons _ _ _ _ _ _ _ _ _ _ (by rfl) (oT rfl) tP (by rfl) tR (FillP.cons _ _ _ _ _ _ _ _ _ _ (by rfl) (oT rfl) tP (by rfl) tR (FillP.cons _ _ _ _ _ _ _ _ _ _ (by rfl) (oT rfl) tP (by rfl) tR (FillP.cons _ _ _ _ _ _ _ _ _ _ (by rfl) (oT rfl) tP (by rfl) tR (FillP.nil _)))))) (by kernel_rfl) rfl (fun t h => by cases h; rfl) ?_
  refine AnyY.toRefs 1 rfl rfl ?_
  refine AnyY.one 10 (by kernel_rfl) rfl (by kernel_rfl) (StepY.mk rfl (op_store_refs rfl (oT rfl) (oT rfl) tP rfl rfl rfl tS) (fun t h => by cases h) ?_)
  refine AnyY.nil (by kernel_rfl) rfl (by kernel_rfl) ?_
  exact Next.weak [0, 1, 3, 2] [] (by rfl) (keepsN hC _ rfl) wG wR wN hK
 refine Next.toOwn 3 1 d.length rfl ?_
 have hLN := LLok.nil d.length
 refine Next.weak [0, 1, 2, 3] [] (by rfl) (keepsN hC _ rfl) (G' := [(1, IV .i64 a), (3, .fz (.cellp (encG g))), (5, .fz (.cellp [VI d])), (6, .ptr 0 4 0 0), (7, .ptr 1 4 0 0)]) (H' := [(0, OTr zeroT), (1, some (.refs 4 [[.fz (If .i64 a), .fz (VI d), .sl 2 1 0 d.length, .sl 3 1 0 d.length]])), (2, some (.flat 1 ((List.replicate d.length []).map encL))), (3, some (.refs 1 (ownL 1 (rowsI (parL [] a d d.length)))))]) wG (by exact ⟨wS, ⟨wS, ⟨⟨rfl, rfl, .fflat _ _ _ rfl (nil_rows _)⟩, ⟨ent_own rfl rfl (by rw [parL_nil, rowsI_nil, ← ownL_rep]; rfl), trivial⟩⟩⟩⟩) wN ?_
 refine nK2 ?_
 refine zb ?_
 refine zx ?_
 refine zj ?_
 refine zo ?_
 refine zbb ?_
 refine zc ?_
 refine nK2 ?_
 refine n_loop (ι := Nat) (fun i => ([(1, IV .i64 a), (3, .fz (.cellp (encG g))), (5, .fz (.cellp [VI d])), (6, .ptr 0 4 0 0), (7, .ptr 1 4 0 0), (29, .fz (VE g.es)), (30, IV .i64 g.es.length), (31, IV .i64 i)], [(0, OTr zeroT), (1, some (.refs 4 [[.fz (If .i64 a), .fz (VI d), .sl 2 1 0 d.length, .sl 3 1 0 d.length]])), (2, some (.flat 1 ((List.replicate d.length []).map encL))), (3, some (.refs 1 (ownL 1 (rowsI (parL (g.es.take i) a d d.length)))))], 4)) (fun i => i ≤ g.es.length) (fun i => g.es.length - i) 0 (Nat.zero_le _) ?_ ?_
 ·refine Next.weak [0, 1, 2, 3] [] (by rfl) (keepsN hC _ rfl) wG (by exact ⟨wS, ⟨wS, ⟨wS, ⟨ent_own rfl rfl rfl, trivial⟩⟩⟩⟩) wN rel_intro
 intro i hi K hK
 try dsimp only at hi ⊢
 refine nK2 ?_
 refine zb ?_
 refine zp ?_
 refine zc ?_
 refine nK2 ?_
 refine n_cond _ rfl (fun hb => ?_) (fun hb => ?_)
 ·have hlt : i < g.es.length := by simp at hb; omega
  have hr1 := row_at' encE g.es i hlt
  have hef := vg.f _ (List.getElem_mem hlt)
  have het := vg.t _ (List.getElem_mem hlt)
  have hec := vg.c _ (List.getElem_mem hlt)
  have hyes := parL_yes (n := d.length) (a := a) (d := d) hlt het.1
  have hno := parL_no (n := d.length) (a := a) (d := d) hlt
  have hgt := parL_get (g.es.take i) a d (n := d.length) (v := g.es[i].t.toNat) (by omega)
  have hpl := parL_len (g.es.take i) a d d.length
  have hlen : (parE (g.es.take i) a d g.es[i].t.toNat).length ≤ 1024 := by
   have h1 : (parE (g.es.take i) a d g.es[i].t.toNat).length ≤ (g.es.take i).length := by unfold parE; rw [List.length_map]; exact List.length_filter_le _ _
   have h2 : (g.es.take i).length ≤ g.es.length := List.length_take_le' _ _
   omega
  have hK1 := hK (i + 1) (by omega) (by omega)
  generalize parL (g.es.take (i + 1)) a d d.length = ll2 at *
  generalize parL (g.es.take i) a d d.length = ll at *
  have hrg := rowsI_get (ll := ll) (v := g.es[i].t.toNat) (by omega)
  rw [hgt] at hrg
  generalize parE (g.es.take i) a d g.es[i].t.toNat = row at *
  generalize g.es[i] = e at *
  have hrf := row_of encN d e.f.toNat 0 (by omega)
  have hrt := row_of encN d e.t.toNat 0 (by omega)
  have hDf := hD e.f.toNat (by omega)
  have hgf : d.getD e.f.toNat 0 = gt0 d e.f.toNat := rfl
  have hgt2 : d.getD e.t.toNat 0 = gt0 d e.t.toNat := rfl
  rw [hgf] at hrf; rw [hgt2] at hrt
  have hcc : parC a d e = ((!decide (e.t = (a : Int)) && decide (0 ≤ gt0 d e.f.toNat)) && decide (gt0 d e.f.toNat + e.c = gt0 d e.t.toNat)) := by
   unfold parC
   rw [Bool.eq_iff_iff]; simp only [Bool.and_eq_true, decide_eq_true_eq, Bool.not_eq_true', decide_eq_false_iff_not]; omega
  refine nK2 ?_
  refine zb ?_
  refine zz ?_
  refine zbf ?_
  refine zu ?_
  refine zr ?_
  refine zc ?_
  refine nK2 ?_
  refine s_draw mixed ?_
  refine zg ?_
  refine zh ?_
  refine za ?_
  refine zbg ?_
  refine za ?_
  refine zcu ?_
  refine zn ?_
  refine zm ?_
  refine rgZ 43 rfl rfl tG (op_idx_fz e.f.toNat rfl (oO rfl tO) (oO rfl tO) (by intro _; exact ⟨by omega, hrf⟩)) ?_
  refine zw ?_
  refine zck ?_
  refine zt ?_
  refine za ?_
  refine zcu ?_
  refine zn ?_
  refine zm ?_
  refine rgZ 51 rfl rfl tG (op_idx_fz e.f.toNat rfl (oO rfl tO) (oO rfl tO) (by intro _; exact ⟨by omega, hrf⟩)) ?_
  refine zw ?_
  refine zn ?_
  refine zm ?_
  refine zbs ?_
  refine zcu ?_
  refine zn ?_
  refine zm ?_
  refine rgZ 59 rfl rfl tG (op_idx_fz e.t.toNat rfl (oO rfl tO) (oO rfl tO) (by intro _; exact ⟨by omega, hrt⟩)) ?_
  refine zw ?_
  refine zbo ?_
  refine zt ?_
  refine zs ?_
  refine nK2 ?_
  refine n_cond _ rfl (fun hb => ?_) (fun hb => ?_)
  ·have hpc : parC a d e = true := by
    rw [hcc]; simp only [Bool.and_eq_true, decide_eq_true_eq, Bool.not_eq_true', decide_eq_false_iff_not] at hb ⊢; omega
   rw [← hyes hpc] at hK1
   refine nK2 ?_
   refine Next.take 3 e.t.toNat 0 rfl (ownL_get hrg) rfl rfl ?_
   have hs1 := set_get (ownL 1 (rowsI ll)) e.t.toNat [.sl 5 1 0 (row.map encN).length] (by rw [ownL_len, rowsI_len, hpl]; omega)
   refine nK2 ?_
   refine s_draw mixed ?_
   refine zg ?_
   refine zy ?_
   refine zg ?_
   refine zh ?_
   refine zg ?_
   refine zy ?_
   refine zg ?_
   refine zh ?_
   refine rpZ 71 rfl (op_idx_sl0 e.t.toNat rfl (oT rfl) (oT rfl) (by intro _; omega)) ?_
   refine rlZ 72 rfl (op_load1_refs rfl (oT rfl) (by intro _; exact ⟨rfl, hs1⟩) rfl) ?_
   refine zg ?_
   refine zh ?_
   refine zbh ?_
   refine zco ?_
   refine rpZ 77 rfl (op_idx_sl0 e.t.toNat rfl (oT rfl) (oT rfl) (by intro _; omega)) ?_
   refine Run.effW (dd := none) rfl rfl (op_store_refs rfl (oT rfl) (oT rfl) tP rfl rfl hs1 tS) (by first | exact ext_call | exact tE) ?_
   refine zs ?_
   refine nK2 ?_
   refine zb ?_
   refine zl ?_
   refine za ?_
   refine zc ?_
   refine nK2 ?_
   refine Next.untake 3 e.t.toNat 0 rfl (set_get _ _ _ (by rw [List.length_set, ownL_len, rowsI_len, hpl]; omega)) rfl rfl (by simp) rfl ?_
   refine Next.weak [0, 1, 2, 3] [] (by rfl) (keepsN hC _ rfl) wG (by exact ⟨wS, ⟨wS, ⟨wS, ⟨ent_own rfl rfl (congrArg (fun r => some (Ob.refs 1 r)) (own_back.trans (congrArg _ (by rw [← rowsI_set, List.map_append]; rfl)))), trivial⟩⟩⟩⟩) wN hK1
  have hpc : ¬ parC a d e = true := fun h => by
   rw [hcc] at h; rw [Bool.eq_false_iff] at hb; apply hb
   simp only [Bool.and_eq_true, decide_eq_true_eq, Bool.not_eq_true', decide_eq_false_iff_not] at h ⊢; omega
  rw [← hno hpc] at hK1
  refine nK2 ?_
  refine zb ?_
  refine zl ?_
  refine za ?_
  refine zc ?_
  refine nK2 ?_
  refine Next.weak [0, 1, 2, 3] [] (by rfl) (keepsN hC _ rfl) wG (by exact ⟨wS, ⟨wS, ⟨wS, ⟨ent_own rfl rfl rfl, trivial⟩⟩⟩⟩) wN hK1
 have hge : i = g.es.length := by simp at hb; omega
 subst hge
 rw [List.take_length]
 have hpl := hup.len
 generalize parL g.es a d d.length = par at *
 refine Next.freezeOwn 3 rfl rfl ?_
 refine Next.weak [0, 1, 2, 3] [] (by rfl) (keepsN hC _ rfl) (G' := [(1, IV .i64 a), (3, .fz (.cellp (encG g))), (5, .fz (.cellp [VI d])), (6, .ptr 0 4 0 0), (7, .ptr 1 4 0 0)]) (H' := [(0, OTr zeroT), (1, some (.refs 4 [[.fz (If .i64 a), .fz (VI d), .sl 2 1 0 d.length, .sl 3 1 0 d.length]])), (2, some (.flat 1 ((List.replicate d.length []).map encL))), (3, some (.flat 1 (par.map encL)))]) wG (by exact ⟨wS, ⟨wS, ⟨wS, ⟨ent_same rfl rfl (flEq rfl (fz_rowsI _)) trivial, trivial⟩⟩⟩⟩) wN ?_
 refine nK2 ?_
 refine zb ?_
 refine zj ?_
 refine zo ?_
 refine Run.eff (dd := some 81) rfl rfl (op_make (l := d.length) (c := d.length) rfl (oT rfl) (oT rfl) rfl rfl rfl rfl (by intro _; refine ⟨rfl, rfl, ?_⟩; omega)) ?_
 refine zd ?_
 refine zc ?_
 refine nK2 ?_
 refine Next.weak [0, 1, 2, 3, 4] [] (by rfl) (keepsN hC _ rfl) (G' := [(1, IV .i64 a), (3, .fz (.cellp (encG g))), (5, .fz (.cellp [VI d])), (6, .ptr 0 4 0 0), (7, .ptr 1 4 0 0), (10, .sl 4 1 0 d.length)]) (H' := [(0, OTr zeroT), (1, some (.refs 4 [[.fz (If .i64 a), .fz (VI d), .sl 2 1 0 d.length, .sl 3 1 0 d.length]])), (2, some (.flat 1 ((List.replicate d.length []).map encL))), (3, some (.flat 1 (par.map encL))), (4, OI (fillL d.length 0))]) wG (by exact ⟨wS, ⟨wS, ⟨wS, ⟨wS, ⟨ent_same rfl rfl (flEq rfl (by rw [← fillL_0, List.map_replicate]; rfl)) trivial, trivial⟩⟩⟩⟩⟩) wN ?_
 refine nK2 ?_
 refine zb ?_
 refine za ?_
 refine zbi ?_
 refine zbb ?_
 refine zc ?_
 refine nK2 ?_
 refine n_loop (ι := Nat) (fun i => ([(1, IV .i64 a), (3, .fz (.cellp (encG g))), (5, .fz (.cellp [VI d])), (6, .ptr 0 4 0 0), (7, .ptr 1 4 0 0), (10, .sl 4 1 0 d.length), (83, IV .i64 d.length), (84, IV .i64 i)], [(0, OTr zeroT), (1, some (.refs 4 [[.fz (If .i64 a), .fz (VI d), .sl 2 1 0 d.length, .sl 3 1 0 d.length]])), (2, some (.flat 1 ((List.replicate d.length []).map encL))), (3, some (.flat 1 (par.map encL))), (4, OI (fillL d.length i))], 5)) (fun i => i ≤ d.length) (fun i => d.length - i) 0 (Nat.zero_le _) ?_ ?_
 ·refine Next.weak [0, 1, 2, 3, 4] [] (by rfl) (keepsN hC _ rfl) wG wR wN rel_intro
 intro i hi K2 hK2
 try dsimp only at hi hK2 ⊢
 refine nK2 ?_
 refine zb ?_
 refine zp ?_
 refine zc ?_
 refine nK2 ?_
 refine n_cond _ rfl (fun hb => ?_) (fun hb => ?_)
 ·have hlt : i < d.length := by simp at hb; omega
  have hfl := fillL_len d.length i
  have hri := row_of encN (fillL d.length i) i 0 (by omega)
  have hK3 := hK2 (i + 1) (by omega) (by omega)
  rw [← fillL_set] at hK3
  generalize fillL d.length i = F at *
  refine nK2 ?_
  refine zb ?_
  refine za ?_
  refine zd ?_
  refine zc ?_
  refine nK2 ?_
  refine zb ?_
  refine za ?_
  refine za ?_
  refine za ?_
  refine rpZ 90 rfl (op_idx_sl0 i rfl (oT rfl) (oT rfl) (by intro _; exact ⟨rfl, by omega⟩)) ?_
  refine Run.eff (dd := none) rfl rfl (op_store_flat rfl (oT rfl) (oT rfl) tC rfl rfl hri tS) ?_
  refine zc ?_
  refine nK2 ?_
  refine zb ?_
  refine zl ?_
  refine za ?_
  refine zc ?_
  refine nK2 ?_
  refine Next.weak [0, 1, 2, 3, 4] [] (by rfl) (keepsN hC _ rfl) wG (by exact ⟨wS, ⟨wS, ⟨wS, ⟨wS, ⟨ent_same rfl rfl (flEq rfl (by rw [List.map_set]; rfl)) trivial, trivial⟩⟩⟩⟩⟩) wN hK3
 have hie : i = d.length := by simp at hb; omega
 subst hie
 refine Next.weak [0, 1, 2, 3, 4] [] (by rfl) (keepsN hC _ rfl) (G' := [(1, IV .i64 a), (3, .fz (.cellp (encG g))), (5, .fz (.cellp [VI d])), (6, .ptr 0 4 0 0), (7, .ptr 1 4 0 0), (10, .sl 4 1 0 d.length)]) (H' := [(0, OTr zeroT), (1, some (.refs 4 [[.fz (If .i64 a), .fz (VI d), .sl 2 1 0 d.length, .sl 3 1 0 d.length]])), (2, some (.flat 1 ((List.replicate d.length []).map encL))), (3, some (.flat 1 (par.map encL))), (4, OF (List.finRange d.length))]) wG (by exact ⟨wS, ⟨wS, ⟨wS, ⟨wS, ⟨ent_same rfl rfl (flEq rfl (by rw [hFF, List.map_map]; rfl)) trivial, trivial⟩⟩⟩⟩⟩) wN ?_
 refine nK2 ?_
 refine zb ?_
 refine za ?_
 refine rpZ 93 rfl (op_makeFuncF (fs := [.cellp [VI d], .cellp (encG g)]) rfl (oS (oT rfl) (oS (oT rfl) Opds.nil))) ?_
 refine Run.eff (dd := some 94) rfl rfl (op_call (n := 1) (n' := 1) [4] (fun _ => hso) rfl (Opd.func _) (oS (oT rfl) (oS (oT rfl) Opds.nil)) rfl rfl (Lent.of rfl rfl (by exact ⟨⟨rfl, rfl, rfl, trivial⟩, trivial⟩) rfl) rfl rfl rfl rfl rfl) ?_
 refine zc ?_
 refine nK2 ?_
 generalize topL g.r d.length d = L at *
 refine Next.weak [0, 1, 2, 3] [4] (by rfl) (keepsN hC _ rfl) (G' := [(1, IV .i64 a), (3, .fz (.cellp (encG g))), (5, .fz (.cellp [VI d])), (6, .ptr 0 4 0 0), (7, .ptr 1 4 0 0), (10, .fz (.vals 1 (L.map encT)))]) (H' := [(0, OTr zeroT), (1, some (.refs 4 [[.fz (If .i64 a), .fz (VI d), .sl 2 1 0 d.length, .sl 3 1 0 d.length]])), (2, some (.flat 1 ((List.replicate d.length []).map encL))), (3, some (.flat 1 (par.map encL)))]) (by exact ⟨⟨_, rfl, .inl ⟨rfl, rfl⟩⟩, ⟨⟨_, rfl, .inl ⟨rfl, rfl⟩⟩, ⟨⟨_, rfl, .inl ⟨rfl, rfl⟩⟩, ⟨⟨_, rfl, .inl ⟨rfl, rfl⟩⟩, ⟨⟨_, rfl, .inl ⟨rfl, rfl⟩⟩, ⟨⟨_, rfl, .inr ⟨_, rfl, .sl _ _ _ _ _ _ rfl rfl ((take_all0 ((congrArg List.length hTF).trans ((List.length_map _).trans hTl))).trans hTF) ((List.length_map _).trans hTl)⟩⟩, trivial⟩⟩⟩⟩⟩⟩) wR (fun id h => by simp at h; subst h; exact ⟨_, rfl⟩) ?_
 clear hso hTF hFF hK hK2 hD
 refine nK2 ?_
 refine zb ?_
 refine za ?_
 refine zo ?_
 refine zbb ?_
 refine zc ?_
 refine nK2 ?_
 refine n_loop (ι := Nat) (fun i => ([(1, IV .i64 a), (3, .fz (.cellp (encG g))), (5, .fz (.cellp [VI d])), (6, .ptr 0 4 0 0), (7, .ptr 1 4 0 0), (95, .fz (.vals 1 (L.map encT))), (96, IV .i64 L.length), (97, IV .i64 i)], [(0, OTr zeroT), (1, some (.refs 4 [[.fz (If .i64 a), .fz (VI d), .sl 2 1 0 d.length, .sl 3 1 0 d.length]])), (2, some (.flat 1 (((L.take i).foldl (hopN g.r a par) (List.replicate d.length [])).map encL))), (3, some (.flat 1 (par.map encL)))], 4)) (fun i => i ≤ L.length) (fun i => L.length - i) 0 (Nat.zero_le _) ?_ ?_
 ·refine Next.weak [0, 1, 2, 3] [] (by rfl) (keepsN hC _ rfl) wG wR wN rel_intro
 intro i hi K hK
 try dsimp only at hi hK ⊢
 have hli : LLok d.length ((L.take i).foldl (hopN g.r a par) (List.replicate d.length [])) := LLok.hopT hup _ hLN fun x hx => hTlt x (List.mem_of_mem_take hx)
 refine nK2 ?_
 refine zb ?_
 refine zp ?_
 refine zc ?_
 refine nK2 ?_
 refine n_cond _ rfl (fun hb => ?_) (fun hb => ?_)
 ·have hlt : i < L.length := by simp at hb; omega
  have hri := row_at' encT L i hlt
  have hv := hTlt _ (List.getElem_mem hlt)
  have hK1 := hK (i + 1) (by omega) (by omega)
  rw [foldl_take_succ _ _ _ _ hlt] at hK1
  generalize (L.take i).foldl (hopN g.r a par) (List.replicate d.length []) = ll at *
  generalize L[i] = v at *
  have hrp := row_of encL par v [] (by omega)
  obtain ⟨hrl, hrow⟩ := hup.row v hv
  have hhv : hopN g.r a par ll v = ll.set v (compL eqI (srtI (rawH g.r a v ll (rowAt' par v)))) := rfl
  have hgu : par.getD v [] = rowAt' par v := rfl
  rw [hhv] at hK1
  rw [hgu] at hrp
  have hrh := row_of encL ll v [] (by rw [hli.len]; exact hv)
  generalize rowAt' par v = row at *
  clear hK hhv
  refine nK2 ?_
  refine zb ?_
  refine zz ?_
  refine zj ?_
  refine zd ?_
  refine zc ?_
  refine nK2 ?_
  refine zb ?_
  refine zct ?_
  refine zd ?_
  refine zc ?_
  refine nK2 ?_
  refine zb ?_
  refine zg ?_
  refine zy ?_
  refine za ?_
  refine rpZ 105 rfl (op_idx_sl0 v rfl (oT rfl) (oT rfl) (by intro _; exact ⟨rfl, by omega⟩)) ?_
  refine rlZ 106 rfl (op_load1_flat rfl (oT rfl) (by intro _; exact ⟨rfl, hrp⟩) rfl) ?_
  refine zo ?_
  refine zbb ?_
  refine zc ?_
  refine nK2 ?_
  refine n_loop (ι := Nat) (fun j => ([(1, IV .i64 a), (3, .fz (.cellp (encG g))), (5, .fz (.cellp [VI d])), (6, .ptr 0 4 0 0), (7, .ptr 1 4 0 0), (95, .fz (.vals 1 (L.map encT))), (96, IV .i64 L.length), (97, IV .i64 i), (13, IV .i64 v), (14, .sl 4 1 0 (rawH g.r a v ll (row.take j)).length), (106, .fz (VI row)), (107, IV .i64 row.length), (108, IV .i64 j)], [(0, OTr zeroT), (1, some (.refs 4 [[.fz (If .i64 a), .fz (VI d), .sl 2 1 0 d.length, .sl 3 1 0 d.length]])), (2, some (.flat 1 (ll.map encL))), (3, some (.flat 1 (par.map encL))), (4, OI (rawH g.r a v ll (row.take j)))], 5)) (fun j => j ≤ row.length) (fun j => row.length - j) 0 (Nat.zero_le _) ?_ ?_
  ·refine Next.weak [0, 1, 2, 3, 4] [] (by rfl) (keepsN hC _ rfl) wG wR wN rel_intro
  intro j hj K2 hK2
  try dsimp only at hj hK2 ⊢
  have hrw := (rawH_ok (r := g.r) (a := a) hli hv (row.take j) fun u hu => by have := hrow u (List.mem_of_mem_take hu); omega).1
  have hrw2 : (row.take j).length ≤ 2000 := Nat.le_trans (List.length_take_le' _ _) hrl
  have hrw3 : (rawH g.r a v ll (row.take j)).length ≤ 258000 := by
   have : (row.take j).length * (d.length + 1) ≤ 2000 * 129 := Nat.mul_le_mul hrw2 (by omega)
   omega
  refine nK2 ?_
  refine zb ?_
  refine zp ?_
  refine zc ?_
  refine nK2 ?_
  refine n_cond _ rfl (fun hb => ?_) (fun hb => ?_)
  ·have hltj : j < row.length := by simp at hb; omega
   have hrj := row_at' encN row j hltj
   obtain ⟨hu0, hu1, huv0⟩ := hrow _ (List.getElem_mem hltj)
   have hK3 := hK2 (j + 1) (by omega) (by omega)
   rw [rawH_succ _ _ _ _ hltj] at hK3
   generalize rawH g.r a v ll (row.take j) = R at *
   generalize row[j] = u at *
   have hru := row_of encL ll u.toNat [] (by rw [hli.len]; omega)
   have hgu2 : ll.getD u.toNat [] = rowAt' ll u.toNat := rfl
   rw [hgu2] at hru
   have hul := (hli.row u.toNat (by omega)).len
   have hrU : rawU g.r a v ll u = (if u = (a : Int) then [(v : Int)] else []) ++ (rowAt' ll u.toNat).map (capV g.r v) := rfl
   rw [hrU] at hK3
   generalize rowAt' ll u.toNat = hu at *
   clear hK2 hrU hgu2
   have hRl : (R ++ (if u = (a : Int) then [(v : Int)] else [])).length ≤ 258001 := by rw [List.length_append]; split <;> simp <;> omega
   refine nK2 ?_
   refine zb ?_
   refine rpZ 110 rfl (op_idx_fz j rfl (oT rfl) (oT rfl) (by intro _; exact ⟨rfl, hrj⟩)) ?_
   refine zj ?_
   refine zd ?_
   refine zc ?_
   refine nK2 ?_
   refine zb ?_
   refine za ?_
   refine za ?_
   refine zbr ?_
   refine zc ?_
   refine nK2 ?_
   refine n_join [(1, IV .i64 a), (3, .fz (.cellp (encG g))), (5, .fz (.cellp [VI d])), (6, .ptr 0 4 0 0), (7, .ptr 1 4 0 0), (95, .fz (.vals 1 (L.map encT))), (96, IV .i64 L.length), (97, IV .i64 i), (13, IV .i64 v), (14, .sl 4 1 0 (R ++ (if u = (a : Int) then [(v : Int)] else [])).length), (106, .fz (VI row)), (107, IV .i64 row.length), (108, IV .i64 j), (16, IV .i64 u)] [(0, OTr zeroT), (1, some (.refs 4 [[.fz (If .i64 a), .fz (VI d), .sl 2 1 0 d.length, .sl 3 1 0 d.length]])), (2, some (.flat 1 (ll.map encL))), (3, some (.flat 1 (par.map encL))), (4, OI (R ++ (if u = (a : Int) then [(v : Int)] else [])))] 5 ?_ ?_
   ·refine nK2 ?_
    refine n_cond _ rfl (fun hb => ?_) (fun hb => ?_)
    ·have hua : u = (a : Int) := by simpa using hb
     rw [if_pos hua]
     refine nK2 ?_
     refine zb ?_
     refine za ?_
     refine za ?_
     refine zbh ?_
     refine zbu ?_
     refine zd ?_
     refine zc ?_
     refine nK2 ?_
     refine Next.weak [0, 1, 2, 3, 5] [] (by rfl) (keepsN hC _ rfl) wG (by exact ⟨wS, ⟨wS, ⟨wS, ⟨wS, ⟨ent_same rfl rfl (flEq rfl (by rw [List.map_append]; rfl)) trivial, trivial⟩⟩⟩⟩⟩) wN rel_intro
    have hua : ¬ u = (a : Int) := by simpa using hb
    rw [if_neg hua, List.append_nil]
    refine nK2 ?_
    refine Next.weak [0, 1, 2, 3, 4] [] (by rfl) (keepsN hC _ rfl) wG wR wN rel_intro
   rw [← List.append_assoc] at hK3
   generalize R ++ (if u = (a : Int) then [(v : Int)] else []) = R1 at *
   refine nK2 ?_
   refine zb ?_
   refine zg ?_
   refine zy ?_
   refine za ?_
   refine rpZ 122 rfl (op_idx_sl0 u.toNat rfl (oT rfl) (oT rfl) (by intro _; have := hli.len; omega)) ?_
   refine rlZ 123 rfl (op_load1_flat rfl (oT rfl) (by intro _; exact ⟨rfl, hru⟩) rfl) ?_
   refine zo ?_
   refine zbb ?_
   refine zc ?_
   refine nK2 ?_
   refine n_loop (ι := Nat) (fun k => ([(1, IV .i64 a), (3, .fz (.cellp (encG g))), (5, .fz (.cellp [VI d])), (6, .ptr 0 4 0 0), (7, .ptr 1 4 0 0), (95, .fz (.vals 1 (L.map encT))), (96, IV .i64 L.length), (97, IV .i64 i), (13, IV .i64 v), (14, .sl 4 1 0 (R1 ++ (hu.take k).map (capV g.r v)).length), (106, .fz (VI row)), (107, IV .i64 row.length), (108, IV .i64 j), (123, .fz (VI hu)), (124, IV .i64 hu.length), (125, IV .i64 k)], [(0, OTr zeroT), (1, some (.refs 4 [[.fz (If .i64 a), .fz (VI d), .sl 2 1 0 d.length, .sl 3 1 0 d.length]])), (2, some (.flat 1 (ll.map encL))), (3, some (.flat 1 (par.map encL))), (4, OI (R1 ++ (hu.take k).map (capV g.r v)))], 5)) (fun k => k ≤ hu.length) (fun k => hu.length - k) 0 (Nat.zero_le _) ?_ ?_
   ·refine Next.weak [0, 1, 2, 3, 4] [] (by rfl) (keepsN hC _ rfl) wG (by exact ⟨wS, ⟨wS, ⟨wS, ⟨wS, ⟨ent_same rfl rfl (flEq rfl (by rw [List.take_zero, List.map_nil, List.append_nil])) trivial, trivial⟩⟩⟩⟩⟩) wN rel_intro
   intro k hk K4 hK4
   try dsimp only at hk hK4 ⊢
   have htk : ((hu.take k).map (capV g.r v)).length ≤ 128 := by rw [List.length_map]; have : (hu.take k).length ≤ hu.length := List.length_take_le' _ _; omega
   have hRk : (R1 ++ (hu.take k).map (capV g.r v)).length ≤ 258200 := by rw [List.length_append]; omega
   refine nK2 ?_
   refine zb ?_
   refine zp ?_
   refine zc ?_
   refine nK2 ?_
   refine n_cond _ rfl (fun hb => ?_) (fun hb => ?_)
   ·have hkl : k < hu.length := by simp at hb; omega
    have hrk := row_at' encN hu k hkl
    have hK5 := hK4 (k + 1) (by omega) (by omega)
    rw [List.take_succ_eq_append_getElem hkl, List.map_append, ← List.append_assoc] at hK5
    generalize R1 ++ (hu.take k).map (capV g.r v) = R2 at *
    generalize hu[k] = y at *
    refine nK2 ?_
    refine zb ?_
    refine rpZ 127 rfl (op_idx_fz k rfl (oT rfl) (oT rfl) (by intro _; exact ⟨rfl, hrk⟩)) ?_
    refine zj ?_
    refine zd ?_
    refine zc ?_
    refine nK2 ?_
    refine zb ?_
    refine za ?_
    refine zx ?_
    refine zj ?_
    refine zcj ?_
    refine zc ?_
    refine nK2 ?_
    refine n_cond _ rfl (fun hb => ?_) (fun hb => ?_)
    ·have hc : capV g.r v y = (v : Int) := by unfold capV; rw [if_pos (by simpa using hb)]
     rw [List.map_cons, List.map_nil, hc] at hK5
     refine nK2 ?_
     refine zb ?_
     refine za ?_
     refine zd ?_
     refine zc ?_
     refine nK2 ?_
     refine zb ?_
     refine za ?_
     refine za ?_
     refine zbh ?_
     refine zbu ?_
     refine zd ?_
     refine zc ?_
     refine nK2 ?_
     refine zb ?_
     refine zl ?_
     refine za ?_
     refine zc ?_
     refine nK2 ?_
     refine Next.weak [0, 1, 2, 3, 5] [] (by rfl) (keepsN hC _ rfl) wG (by exact ⟨wS, ⟨wS, ⟨wS, ⟨wS, ⟨ent_same rfl rfl (flEq rfl (by rw [List.map_append]; rfl)) trivial, trivial⟩⟩⟩⟩⟩) wN hK5
    have hc : capV g.r v y = y := by unfold capV; rw [if_neg (by simpa using hb)]
    rw [List.map_cons, List.map_nil, hc] at hK5
    refine nK2 ?_
    refine zb ?_
    refine za ?_
    refine za ?_
    refine zbh ?_
    refine zbu ?_
    refine zd ?_
    refine zc ?_
    refine nK2 ?_
    refine zb ?_
    refine zl ?_
    refine za ?_
    refine zc ?_
    refine nK2 ?_
    refine Next.weak [0, 1, 2, 3, 5] [] (by rfl) (keepsN hC _ rfl) wG (by exact ⟨wS, ⟨wS, ⟨wS, ⟨wS, ⟨ent_same rfl rfl (flEq rfl (by rw [List.map_append]; rfl)) trivial, trivial⟩⟩⟩⟩⟩) wN hK5
   have hke : k = hu.length := by simp at hb; omega
   subst hke
   rw [List.take_length]
   clear hK4
   refine nK2 ?_
   refine zb ?_
   refine zl ?_
   refine za ?_
   refine zc ?_
   refine nK2 ?_
   refine Next.weak [0, 1, 2, 3, 4] [] (by rfl) (keepsN hC _ rfl) wG wR wN hK3
  have hje : j = row.length := by simp at hb; omega
  subst hje
  rw [List.take_length] at *
  clear hK2
  generalize rawH g.r a v ll row = R at *
  have hsr := sorti_c R (by omega)
  have hsl := srtI_len R
  have hcr := compact_c (srtI R) (by omega)
  rw [hsl] at hcr
  generalize srtI R = R2 at *
  generalize compL eqI R2 = R3 at *
  refine nK2 ?_
  refine zb ?_
  refine za ?_
  refine Run.eff (dd := some 141) rfl rfl (op_call (n := 1) (n' := 1) [4] (fun _ => hsr) rfl (Opd.func _) (oS (oT rfl) Opds.nil) rfl rfl (Lent.of rfl rfl (by exact ⟨⟨rfl, rfl, rfl, trivial⟩, trivial⟩) rfl) rfl rfl rfl rfl rfl) ?_
  refine zc ?_
  refine nK2 ?_
  refine s_draw mixed ?_
  refine zg ?_
  refine zy ?_
  refine za ?_
  refine za ?_
  refine Run.effW (dd := some 146) rfl rfl (op_call (n := 1) (n' := 1) [4] (fun _ => hcr) rfl (Opd.func _) (oS (oT rfl) Opds.nil) rfl rfl (Lent.of rfl rfl (by exact ⟨⟨rfl, rfl, rfl, trivial⟩, trivial⟩) rfl) rfl rfl rfl rfl rfl) (by first | exact ext_call | exact tE) ?_
  refine rpZ 147 rfl (op_idx_sl0 v rfl (oT rfl) (oT rfl) (by intro _; exact ⟨rfl, hv⟩)) ?_
  refine Run.effW (dd := none) rfl rfl (op_store_flat rfl (oT rfl) (oT rfl) tC rfl rfl hrh tS) (by first | exact ext_call | exact tE) ?_
  refine zs ?_
  refine nK2 ?_
  refine zb ?_
  refine zl ?_
  refine za ?_
  refine zc ?_
  refine nK2 ?_
  refine Next.weak [0, 1, 2, 3] [] (by rfl) (keepsN hC _ rfl) wG (by exact ⟨wS, ⟨wS, ⟨ent_same rfl rfl (flEq rfl (by rw [List.map_set]; rfl)) trivial, ⟨wS, trivial⟩⟩⟩⟩) wN hK1
 have hie : i = L.length := by simp at hb; omega
 subst hie
 rw [List.take_length] at *
 have hhT : hopT g.r a d.length par L = L.foldl (hopN g.r a par) (List.replicate d.length []) := rfl
 rw [hhT]
 have hhl := hli.len
 generalize L.foldl (hopN g.r a par) (List.replicate d.length []) = hops at *
 have hF2 : (hops.map encL).length = d.length := by rw [List.length_map]; exact hhl
 have hF3 : (par.map encL).length = d.length := by rw [List.length_map]; exact hpl
 clear hK
 refine nK2 ?_
 refine Next.weak [0, 1] [2, 3] (by rfl) (keepsN hC _ rfl) (G' := [(6, .ptr 0 4 0 0), (7, .ptr 1 4 0 0)]) (H' := [(0, OTr zeroT), (1, OTr ⟨a, d, hops, par⟩)]) wG (by exact ⟨wS, ⟨⟨rfl, rfl, .flat _ _ _ rfl (AsRs.cons _ _ _ _ (AsR.cons _ _ _ _ (.fz _) (AsR.cons _ _ _ _ (.fz _) (AsR.cons _ _ _ _ (.sl _ _ _ _ _ _ rfl rfl (take_all0 hF2) hF2) (AsR.cons _ _ _ _ (.sl _ _ _ _ _ _ rfl rfl (take_all0 hF3) hF3) .nil)))) .nil)⟩, trivial⟩⟩) (fun id h => by simp at h; rcases h with rfl | rfl <;> exact ⟨_, rfl⟩) ?_
 refine nK2 ?_
 refine zb ?_
 refine zk ?_
 refine zr ?_
 refine zc ?_
 refine nK2 ?_
 refine Next.weakS [6] [] (by rfl) (keeps0 hC _) (G' := [(6, .ptr 0 4 0 0)]) (H' := [(0, OTr ⟨a, d, hops, par⟩)]) wG wR rfl ?_
 exact wO hC
end Go.Proofs.YtcillieggklaaaaGreat
namespace Go.Pl
open Go.RT
set_option linter.all false
theorem appL_len : ∀ (cs : List Edg) (g : Gr), AscK g.es → g.es.length ≤ 1024 → (appL g cs).1.es.length ≤ 1024
  | [], g, _, h => h
  | c :: cs, g, ha, h => by
    simp only [appL]
    by_cases hz : (chgF g c).2 = 0
    · rw [if_neg (by simp [hz])]
      obtain ⟨_, a, b, _, _⟩ := (chg_eq (c := c) ha h).2 hz
      exact appL_len cs _ a b
    · rw [if_pos hz]; simp [zeroG]
theorem applyF_len (g : Gr) (cs : List Edg) : (applyF g cs).1.es.length ≤ 1024 := by
  unfold applyF
  by_cases h : checkI g = 0
  · rw [if_neg (by simp [h])]; exact appL_len cs g (check_asc h) (checkI_ok h).2.1
  · rw [if_pos h]; simp [zeroG]
/-- the search comes to an edge that is there -/
theorem bs_mem {l : List Edg} (h : AscK l) {k : Nat} (hk : k < l.length) (x : Edg) (hf : x.f = l[k].f) (ht : x.t = l[k].t) : bsAt l x = k ∧ bsHit l x = true := by
  obtain ⟨h1, h2, h3⟩ := bsAt_spec h x
  have e : bsAt l x = k := by
    rcases Nat.lt_trichotomy (bsAt l x) k with h4 | h4 | h4
    · have a := h3 (bsAt l x) (Nat.le_refl _) (by omega)
      have b := asc_get h h4 hk
      unfold ltK at *; omega
    · exact h4
    · have a := h2 k h4 hk
      unfold ltK at *; omega
  refine ⟨e, ?_⟩
  unfold bsHit hitAt
  rw [e, List.getElem?_eq_getElem hk]
  simp [ordE_zero, hf, ht]
theorem alw_cost {g : Gr} {e : Edg} (h : alwI g e = 0) : 0 ≤ e.c := by
  unfold alwI at h
  split at h
  · cases h
  · split at h
    · cases h
    · rename_i h1 h2
      omega
theorem alw_nodes {g : Gr} {e : Edg} (h : alwI g e = 0) : ¬ (nodeB g e.f = false ∨ nodeB g e.t = false) := by
  unfold alwI at h
  split at h
  · cases h
  · assumption
theorem chg_gone {g : Gr} (ha : AscK g.es) {k : Nat} (hk : k < g.es.length) (hn : ¬ (nodeB g g.es[k].f = false ∨ nodeB g g.es[k].t = false)) : chgF g ⟨g.es[k].f, g.es[k].t, -1⟩ = (⟨g.r, g.n, delL g.es k (k + 1)⟩, 0) := by
  obtain ⟨b1, b2⟩ := bs_mem ha hk ⟨g.es[k].f, g.es[k].t, -1⟩ rfl rfl
  unfold chgF
  rw [if_neg hn, if_pos (show (-1 : Int) < 0 by decide), b2, if_neg (by simp), b1]
theorem app_gone {g : Gr} (hc : checkI g = 0) {k : Nat} (hk : k < g.es.length) : applyF g [⟨g.es[k].f, g.es[k].t, -1⟩] = (⟨g.r, g.n, delL g.es k (k + 1)⟩, 0) := by
  have ha := check_asc hc
  have h0 := chkL_alw _ _ (checkI_ok hc).2.2 _ (List.getElem_mem hk)
  have e := chg_gone ha hk (alw_nodes h0)
  unfold applyF
  rw [if_neg (by simp [hc])]
  simp [appL, e]
open Go Go.RT
/- the tree that Run returns -/
def trOf (g : Gr) (a : Nat) : Tr := refT g (disF g.es g.m) a
theorem trOf_ok {g : Gr} {a : Nat} (h : checkI g = 0) (ha : (a : Int) < g.r) : RunOk g a (trOf g a) := by
  obtain ⟨t, ht⟩ := run_exists h ha
  have e := ht.refT (dst_of h)
  unfold trOf; rw [← e]; exact ht
theorem trOf_uniq {g : Gr} {a : Nat} {t : Tr} (h : RunOk g a t) : t = trOf g a := h.refT (dst_of h.ok)
theorem applyF_one {g : Gr} (hg : checkI g = 0) (c : Edg) : applyF g [c] = if (chgF g c).2 ≠ 0 then (zeroG, (chgF g c).2) else ((chgF g c).1, 0) := by
  unfold applyF
  rw [if_neg (by simp [hg])]
  simp only [appL]
theorem applyF_nil {g : Gr} (hg : checkI g = 0) : applyF g [] = (g, 0) := by
  unfold applyF; rw [if_neg (by simp [hg])]; simp only [appL]
theorem one_ok {g : Gr} (hg : checkI g = 0) {c : Edg} (hz : (applyF g [c]).2 = 0) : ∃ es', applyF g [c] = (⟨g.r, g.n, es'⟩, 0) ∧ chgF g c = (⟨g.r, g.n, es'⟩, 0) ∧ checkI ⟨g.r, g.n, es'⟩ = 0 ∧ ChRel g.es es' c (oldI g.es c) ∧ nodeB g c.f = true ∧ nodeB g c.t = true := by
  rw [applyF_one hg] at hz
  have hc : (chgF g c).2 = 0 := by
    by_cases h : (chgF g c).2 = 0
    · exact h
    · rw [if_pos h] at hz; exact hz
  obtain ⟨es', h1, h2, h3, h4, h5⟩ := chg_rel hg c hc
  exact ⟨es', by rw [applyF_one hg, if_neg (by simp [hc]), h1], Prod.ext h1 hc, h2, h3, h4, h5⟩
theorem applyF_cons {g : Gr} (hg : checkI g = 0) (c : Edg) (cs : List Edg) : applyF g (c :: cs) = if (applyF g [c]).2 ≠ 0 then applyF g [c] else applyF (applyF g [c]).1 cs := by
  by_cases hz : (applyF g [c]).2 = 0
  · rw [if_neg (by simp [hz])]
    obtain ⟨es', h1, h2, h3, _⟩ := one_ok hg hz
    rw [h1]
    unfold applyF
    rw [if_neg (by simp [hg]), if_neg (by simp [h3])]
    simp only [appL]
    rw [h2]; simp
  · rw [if_pos hz]
    have hc : (chgF g c).2 ≠ 0 := fun h => hz (by rw [applyF_one hg, if_neg (by simp [h])])
    rw [applyF_one hg, if_pos hc]
    unfold applyF
    rw [if_neg (by simp [hg])]
    simp only [appL]
    rw [if_pos hc]
theorem okG_of {g : Gr} (hg : checkI g = 0) : okG g := by
  obtain ⟨vg, h0, h1⟩ := checkI_vg hg
  have hn := vg.n128
  refine ⟨by simp only [inr]; omega, by simp only [inr]; omega, fun e he => ?_⟩
  have a1 := vg.f e he
  have a2 := vg.t e he
  have a3 := vg.c e he
  exact ⟨by simp only [inr]; omega, by simp only [inr]; omega, by simp only [inr]; omega⟩
/- how many distances differ -/
def cntI (d D : List Int) (i : Nat) : Nat := ((List.range i).filter fun v => decide (gt0 D v ≠ gt0 d v)).length
theorem cntI_succ (d D : List Int) (i : Nat) : cntI d D (i + 1) = cntI d D i + if gt0 D i ≠ gt0 d i then 1 else 0 := by
  unfold cntI
  rw [List.range_succ, List.filter_append, List.length_append]
  congr 1
  rw [List.filter_cons, List.filter_nil]
  by_cases h : gt0 D i ≠ gt0 d i
  · rw [if_pos (decide_eq_true h), if_pos h]; rfl
  · rw [if_neg (by rw [decide_eq_false h]; simp), if_neg h]; rfl
theorem cntI_le (d D : List Int) (i : Nat) : cntI d D i ≤ i := by
  have := List.length_filter_le (fun v => decide (gt0 D v ≠ gt0 d v)) (List.range i)
  rw [List.length_range] at this
  exact this
def updF (a : Nat) : Gr → List Edg → Nat → Gr × Tr × Nat × Int
  | g, [], k => (g, trOf g a, k, 0)
  | g, c :: cs, k => if (applyF g [c]).2 ≠ 0 then (zeroG, zeroT, 0, (applyF g [c]).2) else updF a (applyF g [c]).1 cs (k + cntI (trOf g a).dist (trOf (applyF g [c]).1 a).dist g.m)
def updT (g : Gr) (t : Tr) (cs : List Edg) : Gr × Tr × Nat × Int :=
  if checkI g ≠ 0 then (zeroG, zeroT, 0, checkI g) else if 0 ≤ t.root ∧ t.root < g.r ∧ t = trOf g t.root.toNat then updF t.root.toNat g cs 0 else (zeroG, zeroT, 0, 1)
theorem updF_no {a : Nat} {g : Gr} {c : Edg} {cs : List Edg} {k : Nat} (h : (applyF g [c]).2 ≠ 0) : updF a g (c :: cs) k = (zeroG, zeroT, 0, (applyF g [c]).2) := by
  simp only [updF]; rw [if_pos h]
theorem updF_yes {a : Nat} {g : Gr} {c : Edg} {cs : List Edg} {k : Nat} (h : (applyF g [c]).2 = 0) : updF a g (c :: cs) k = updF a (applyF g [c]).1 cs (k + cntI (trOf g a).dist (trOf (applyF g [c]).1 a).dist g.m) := by
  simp only [updF]; rw [if_neg (by simp [h])]
/-- Update follows Apply -/
theorem updF_apply {a : Nat} : ∀ (cs : List Edg) {g : Gr} {k : Nat}, checkI g = 0 → ((applyF g cs).2 ≠ 0 → updF a g cs k = (zeroG, zeroT, 0, (applyF g cs).2)) ∧
    ((applyF g cs).2 = 0 → ∃ k', k ≤ k' ∧ updF a g cs k = ((applyF g cs).1, trOf (applyF g cs).1 a, k', 0) ∧ checkI (applyF g cs).1 = 0 ∧ (applyF g cs).1.r = g.r ∧ (applyF g cs).1.n = g.n)
  | [], g, k, hg => by
    rw [applyF_nil hg]
    exact ⟨fun h => absurd rfl h, fun _ => ⟨k, Nat.le_refl _, rfl, hg, rfl, rfl⟩⟩
  | c :: cs, g, k, hg => by
    rw [applyF_cons hg]
    by_cases hz : (applyF g [c]).2 = 0
    · rw [if_neg (by simp [hz]), updF_yes hz]
      obtain ⟨es', h1, h2, h3, _⟩ := one_ok hg hz
      rw [h1]
      obtain ⟨i1, i2⟩ := updF_apply cs (g := ⟨g.r, g.n, es'⟩) (k := k + cntI (trOf g a).dist (trOf ⟨g.r, g.n, es'⟩ a).dist g.m) h3
      refine ⟨i1, fun hz2 => ?_⟩
      obtain ⟨k', l1, l2, l3, l4, l5⟩ := i2 hz2
      exact ⟨k', by omega, l2, l3, l4, l5⟩
    · rw [if_pos hz, updF_no hz]
      exact ⟨fun _ => rfl, fun h => absurd h hz⟩
theorem trOf_root (g : Gr) (a : Nat) : (trOf g a).root = a := rfl
theorem trOf_dl {g : Gr} {a : Nat} : (trOf g a).dist.length = g.m := rowF_len _ _
theorem updT_run {g : Gr} {a : Nat} (hg : checkI g = 0) (ha : (a : Int) < g.r) (cs : List Edg) : updT g (trOf g a) cs = updF a g cs 0 := by
  unfold updT
  rw [if_neg (by simp [hg]), trOf_root, if_pos ⟨by omega, ha, by rw [Int.toNat_natCast]⟩, Int.toNat_natCast]
theorem updT_bad {g : Gr} (hg : checkI g ≠ 0) (t : Tr) (cs : List Edg) : updT g t cs = (zeroG, zeroT, 0, checkI g) := by
  unfold updT; rw [if_pos hg]
theorem updT_not {g : Gr} (hg : checkI g = 0) {t : Tr} (h : ¬ (0 ≤ t.root ∧ t.root < g.r ∧ t = trOf g t.root.toNat)) (cs : List Edg) : updT g t cs = (zeroG, zeroT, 0, 1) := by
  unfold updT; rw [if_neg (by simp [hg]), if_neg h]
open Go Go.RT
/- the changes between two graphs -/
def chM : List Edg → List Edg → List Edg
  | [], [] => []
  | x :: A, [] => ⟨x.f, x.t, -1⟩ :: chM A []
  | [], y :: B => y :: chM [] B
  | x :: A, y :: B => if ordE x y < 0 then ⟨x.f, x.t, -1⟩ :: chM A (y :: B) else if 0 < ordE x y then y :: chM (x :: A) B else (if x.c ≠ y.c then [y] else []) ++ chM A B
termination_by A B => A.length + B.length
theorem ordE_pos (a b : Edg) : 0 < ordE a b ↔ ltK b a := by
  have h1 := ordE_neg a b
  have h2 := ordE_zero a b
  unfold ltK
  omega
theorem ordE_neg' (a b : Edg) : ordE a b < 0 ↔ ltK a b := ordE_neg a b
abbrev sameK (x y : Edg) : Prop := x.f = y.f ∧ x.t = y.t
def ChMem (A B : List Edg) (p : Edg) : Prop := (p ∈ B ∧ p ∉ A) ∨ (p.c = -1 ∧ (∃ x ∈ A, sameK x p) ∧ ∀ y ∈ B, ¬ sameK y p)
theorem ltK_ne {x y : Edg} (h : ltK x y) : ¬ sameK x y ∧ ¬ sameK y x ∧ x ≠ y ∧ y ≠ x := by
  unfold ltK at h
  refine ⟨fun h2 => by obtain ⟨a, b⟩ := h2; omega, fun h2 => by obtain ⟨a, b⟩ := h2; omega, fun e => by rw [e] at h; omega, fun e => by rw [e] at h; omega⟩
theorem ltK_tr {x y z : Edg} (h : ltK x y) (h2 : ltK y z) : ltK x z := by unfold ltK at *; omega
theorem chM_mem : ∀ (k : Nat) (A B : List Edg), A.length + B.length ≤ k → AscK A → AscK B → ∀ p, p ∈ chM A B ↔ ChMem A B p
  | _, [], [], _, _, _, p => by simp [chM, ChMem]
  | 0, x :: A, B, h, _, _, _ => by simp at h
  | 0, [], y :: B, h, _, _, _ => by simp at h
  | k + 1, x :: A, [], h, hA, hB, p => by
    have ih := chM_mem k A [] (by simp at h ⊢; omega) (List.pairwise_cons.1 hA).2 hB p
    rw [chM, List.mem_cons, ih]
    unfold ChMem
    constructor
    · rintro (h1 | ⟨h1, h2⟩ | ⟨h1, ⟨z, h2, h3⟩, h4⟩)
      · subst h1; exact .inr ⟨rfl, ⟨x, by simp, rfl, rfl⟩, fun y hy => by cases hy⟩
      · cases h1
      · exact .inr ⟨h1, ⟨z, by simp [h2], h3⟩, h4⟩
    · rintro (⟨h1, h2⟩ | ⟨h1, ⟨z, h2, h3⟩, h4⟩)
      · cases h1
      · rcases List.mem_cons.1 h2 with e | h2
        · subst e; left; cases p; simp only [sameK] at h1 h3; simp [h1, h3]
        · exact .inr (.inr ⟨h1, ⟨z, h2, h3⟩, h4⟩)
  | k + 1, [], y :: B, h, hA, hB, p => by
    have ih := chM_mem k [] B (by simp at h ⊢; omega) hA (List.pairwise_cons.1 hB).2 p
    rw [chM, List.mem_cons, ih]
    unfold ChMem
    simp
  | k + 1, x :: A, y :: B, h, hA, hB, p => by
    obtain ⟨a1, a2⟩ := List.pairwise_cons.1 hA
    obtain ⟨b1, b2⟩ := List.pairwise_cons.1 hB
    rw [chM]
    by_cases c1 : ordE x y < 0
    · rw [if_pos c1, List.mem_cons, chM_mem k A (y :: B) (by simp at h ⊢; omega) a2 hB p]
      have hxy := (ordE_neg' x y).1 c1
      have hxB : ∀ z ∈ y :: B, ltK x z := fun z hz => by
        rcases List.mem_cons.1 hz with rfl | hz
        · exact hxy
        · exact ltK_tr hxy (b1 z hz)
      unfold ChMem
      constructor
      · rintro (h1 | ⟨h1, h2⟩ | ⟨h1, ⟨z, h2, h3⟩, h4⟩)
        · subst h1; exact .inr ⟨rfl, ⟨x, by simp, rfl, rfl⟩, fun z hz => (ltK_ne (hxB z hz)).2.1⟩
        · refine .inl ⟨h1, fun h3 => ?_⟩
          rcases List.mem_cons.1 h3 with e | h3
          · exact (ltK_ne (hxB p h1)).2.2.2 e
          · exact h2 h3
        · exact .inr ⟨h1, ⟨z, by simp [h2], h3⟩, h4⟩
      · rintro (⟨h1, h2⟩ | ⟨h1, ⟨z, h2, h3⟩, h4⟩)
        · exact .inr (.inl ⟨h1, fun h3 => h2 (by simp [h3])⟩)
        · rcases List.mem_cons.1 h2 with e | h2
          · subst e; left; cases p; simp only [sameK] at h1 h3; simp [h1, h3]
          · exact .inr (.inr ⟨h1, ⟨z, h2, h3⟩, h4⟩)
    · rw [if_neg c1]
      by_cases c2 : 0 < ordE x y
      · rw [if_pos c2, List.mem_cons, chM_mem k (x :: A) B (by simp at h ⊢; omega) hA b2 p]
        have hyx := (ordE_pos x y).1 c2
        have hyA : ∀ z ∈ x :: A, ltK y z := fun z hz => by
          rcases List.mem_cons.1 hz with rfl | hz
          · exact hyx
          · exact ltK_tr hyx (a1 z hz)
        unfold ChMem
        constructor
        · rintro (h1 | ⟨h1, h2⟩ | ⟨h1, ⟨z, h2, h3⟩, h4⟩)
          · subst h1; exact .inl ⟨by simp, fun h3 => (ltK_ne (hyA p h3)).2.2.1 rfl⟩
          · exact .inl ⟨by simp [h1], h2⟩
          · refine .inr ⟨h1, ⟨z, h2, h3⟩, fun w hw hk => ?_⟩
            rcases List.mem_cons.1 hw with rfl | hw
            · exact (ltK_ne (hyA z h2)).2.1 ⟨h3.1.trans hk.1.symm, h3.2.trans hk.2.symm⟩
            · exact h4 w hw hk
        · rintro (⟨h1, h2⟩ | ⟨h1, ⟨z, h2, h3⟩, h4⟩)
          · rcases List.mem_cons.1 h1 with e | h1
            · exact .inl e
            · exact .inr (.inl ⟨h1, h2⟩)
          · exact .inr (.inr ⟨h1, ⟨z, h2, h3⟩, fun w hw => h4 w (by simp [hw])⟩)
      · rw [if_neg c2, List.mem_append, chM_mem k A B (by simp at h ⊢; omega) a2 b2 p]
        have hs : sameK x y := (ordE_zero x y).1 (by omega)
        have hxB : ∀ z ∈ B, ltK x z := fun z hz => by have := b1 z hz; unfold ltK at *; obtain ⟨q1, q2⟩ := hs; omega
        have hyA : ∀ z ∈ A, ltK y z := fun z hz => by have := a1 z hz; unfold ltK at *; obtain ⟨q1, q2⟩ := hs; omega
        have hm : p ∈ (if x.c ≠ y.c then [y] else []) ↔ p = y ∧ x ≠ y := by
          by_cases hc : x.c = y.c
          · rw [if_neg (by simp [hc])]
            have : x = y := by cases x; cases y; simp only [sameK] at hs; simp_all
            simp [this]
          · rw [if_pos hc]
            have : x ≠ y := fun e => hc (by rw [e])
            simp [this]
        rw [hm]
        unfold ChMem
        constructor
        · rintro (⟨h1, h2⟩ | ⟨h1, h2⟩ | ⟨h1, ⟨z, h2, h3⟩, h4⟩)
          · subst h1; refine .inl ⟨by simp, fun h3 => ?_⟩
            rcases List.mem_cons.1 h3 with e | h3
            · exact h2 e.symm
            · exact (ltK_ne (hyA p h3)).2.2.1 rfl
          · refine .inl ⟨by simp [h1], fun h3 => ?_⟩
            rcases List.mem_cons.1 h3 with e | h3
            · exact (ltK_ne (hxB p h1)).2.2.1 e.symm
            · exact h2 h3
          · refine .inr ⟨h1, ⟨z, by simp [h2], h3⟩, fun w hw hk => ?_⟩
            rcases List.mem_cons.1 hw with rfl | hw
            · exact (ltK_ne (hyA z h2)).2.1 ⟨h3.1.trans hk.1.symm, h3.2.trans hk.2.symm⟩
            · exact h4 w hw hk
        · rintro (⟨h1, h2⟩ | ⟨h1, ⟨z, h2, h3⟩, h4⟩)
          · rcases List.mem_cons.1 h1 with e | h1
            · exact .inl ⟨e, fun e2 => h2 (by rw [e, e2]; simp)⟩
            · exact .inr (.inl ⟨h1, fun h3 => h2 (by simp [h3])⟩)
          · rcases List.mem_cons.1 h2 with e | h2
            · subst e
              exact absurd ⟨hs.1.symm.trans h3.1, hs.2.symm.trans h3.2⟩ (h4 y (by simp))
            · exact .inr (.inr ⟨h1, ⟨z, h2, h3⟩, fun w hw => h4 w (by simp [hw])⟩)
theorem chM_len : ∀ (k : Nat) (A B : List Edg), A.length + B.length ≤ k → (chM A B).length ≤ A.length + B.length
  | _, [], [], _ => by simp [chM]
  | 0, x :: A, B, h => by simp at h
  | 0, [], y :: B, h => by simp at h
  | k + 1, x :: A, [], h => by
    have := chM_len k A [] (by simp at h ⊢; omega)
    rw [chM]; simp at this ⊢; omega
  | k + 1, [], y :: B, h => by
    have := chM_len k [] B (by simp at h ⊢; omega)
    rw [chM]; simp at this ⊢; omega
  | k + 1, x :: A, y :: B, h => by
    rw [chM]
    split
    · have := chM_len k A (y :: B) (by simp at h ⊢; omega)
      simp at this ⊢; omega
    · split
      · have := chM_len k (x :: A) B (by simp at h ⊢; omega)
        simp at this ⊢; omega
      · have := chM_len k A B (by simp at h ⊢; omega)
        split <;> simp at this ⊢ <;> omega
open Go Go.RT
theorem edg_ext {x y : Edg} (h : sameK x y) (hc : x.c = y.c) : x = y := by
  cases x; cases y
  obtain ⟨h1, h2⟩ := h
  dsimp only at h1 h2 hc
  rw [h1, h2, hc]
theorem check_mk {r n : Int} {es : List Edg} (hr : 0 ≤ r) (hn : 0 ≤ n) (hm : r + n ≤ 128) (hl : es.length ≤ 1024) (ha : ∀ e ∈ es, alwI ⟨r, n, []⟩ e = 0) (hs : AscK es) : checkI ⟨r, n, es⟩ = 0 := by
  have hs' : sizeI ⟨r, n, es⟩ = 0 := by
    unfold sizeI
    rw [if_neg (by dsimp only; omega), if_neg (by dsimp only; omega)]
  unfold checkI
  rw [if_neg (by rw [hs']; simp)]
  exact chkL_of es none ha hs (fun q hq => by cases hq)
theorem asc_cons {P A : List Edg} {y : Edg} (h1 : AscK (P ++ A)) (h2 : ∀ z ∈ P, ltK z y) (h3 : ∀ z ∈ A, ltK y z) : AscK (P ++ y :: A) := by
  obtain ⟨a, b, c⟩ := List.pairwise_append.1 h1
  refine List.pairwise_append.2 ⟨a, List.pairwise_cons.2 ⟨h3, b⟩, fun z hz w hw => ?_⟩
  rcases List.mem_cons.1 hw with rfl | hw
  · exact h2 z hz
  · exact c z hz w hw
theorem get_len {α : Type} {P A : List α} {x : α} (h : P.length < (P ++ x :: A).length) : (P ++ x :: A)[P.length] = x := by simp
theorem ins_back {r n : Int} {P A : List Edg} {y : Edg} (hc : checkI ⟨r, n, P ++ A⟩ = 0) (hl : (P ++ A).length < 1024) (hy : alwI ⟨r, n, []⟩ y = 0) (h2 : ∀ z ∈ P, ltK z y) (h3 : ∀ z ∈ A, ltK y z) : applyF ⟨r, n, P ++ A⟩ [y] = (⟨r, n, P ++ y :: A⟩, 0) := by
  have ha : AscK (P ++ A) := check_asc hc
  have hhit : bsHit (P ++ A) y = false := by
    cases hb : bsHit (P ++ A) y with
    | false => rfl
    | true =>
      obtain ⟨hk, e1, e2⟩ := bsHit_true y hb
      have hm := List.getElem_mem hk
      exfalso
      rcases List.mem_append.1 hm with hm | hm
      · have := h2 _ hm; unfold ltK at this; omega
      · have := h3 _ hm; unfold ltK at this; omega
  have hp := put_ins ha y hhit
  rw [putR_split y P A (fun x hx => befF (fun h => by have := h2 x hx; unfold ltK at *; omega)) (fun x hx => by have := h3 x hx; unfold ltK at this; unfold befB; simp only [Bool.or_eq_true, Bool.and_eq_true, decide_eq_true_eq]; omega)] at hp
  have e : chgF ⟨r, n, P ++ A⟩ y = (⟨r, n, P ++ y :: A⟩, 0) := by
    unfold chgF
    rw [if_neg (alw_nodes (g := ⟨r, n, P ++ A⟩) (e := y) hy), if_neg (by have := alw_cost (g := ⟨r, n, []⟩) hy; omega), if_neg (show ¬ alwI ⟨r, n, P ++ A⟩ y ≠ 0 from fun h => h hy), if_neg (by rw [hhit]; simp), if_neg (by dsimp only; omega)]
    dsimp only
    rw [← hp]
  rw [applyF_one hc, e]
  simp
theorem set_back {r n : Int} {P A : List Edg} {x y : Edg} (hc : checkI ⟨r, n, P ++ x :: A⟩ = 0) (hy : alwI ⟨r, n, []⟩ y = 0) (hs : sameK x y) : applyF ⟨r, n, P ++ x :: A⟩ [y] = (⟨r, n, P ++ y :: A⟩, 0) := by
  have ha : AscK (P ++ x :: A) := check_asc hc
  have hk : P.length < (P ++ x :: A).length := by simp
  obtain ⟨b1, b2⟩ := bs_mem ha hk y (by rw [get_len]; exact hs.1.symm) (by rw [get_len]; exact hs.2.symm)
  have e : chgF ⟨r, n, P ++ x :: A⟩ y = (⟨r, n, P ++ y :: A⟩, 0) := by
    unfold chgF
    rw [if_neg (alw_nodes (g := ⟨r, n, P ++ x :: A⟩) (e := y) hy), if_neg (by have := alw_cost (g := ⟨r, n, []⟩) hy; omega), if_neg (show ¬ alwI ⟨r, n, P ++ x :: A⟩ y ≠ 0 from fun h => h hy), if_pos b2, b1]
    dsimp only
    rw [set_at_len]
  rw [applyF_one hc, e]
  simp
theorem del_back {r n : Int} {P A : List Edg} {x : Edg} (hc : checkI ⟨r, n, P ++ x :: A⟩ = 0) : applyF ⟨r, n, P ++ x :: A⟩ [⟨x.f, x.t, -1⟩] = (⟨r, n, P ++ A⟩, 0) := by
  have hk : P.length < (P ++ x :: A).length := by simp
  have := app_gone (g := ⟨r, n, P ++ x :: A⟩) hc hk
  simp only [get_len] at this
  rw [this]
  simp [delL]
theorem back_go {r n : Int} (hr : 0 ≤ r) (hn : 0 ≤ n) (hm : r + n ≤ 128) : ∀ (k : Nat) (P A B : List Edg), A.length + B.length ≤ k → P.length + A.length + B.length ≤ 1024 → (∀ e ∈ P ++ A, alwI ⟨r, n, []⟩ e = 0) → (∀ e ∈ P ++ B, alwI ⟨r, n, []⟩ e = 0) → AscK (P ++ A) → AscK (P ++ B) → applyF ⟨r, n, P ++ A⟩ (chM A B) = (⟨r, n, P ++ B⟩, 0)
  | k, P, [], [], hk, hl, wA, wB, sA, sB => by
    rw [show chM [] [] = [] by simp [chM]]
    exact applyF_nil (check_mk hr hn hm (by simp at hl ⊢; omega) wA sA)
  | 0, P, x :: A, B, hk, _, _, _, _, _ => by simp at hk
  | 0, P, [], y :: B, hk, _, _, _, _, _ => by simp at hk
  | k + 1, P, x :: A, [], hk, hl, wA, wB, sA, sB => by
    have hc := check_mk hr hn hm (by simp at hl ⊢; omega) wA sA
    rw [chM, applyF_cons hc, del_back hc]
    dsimp only
    rw [if_neg (by simp)]
    obtain ⟨a, b, c⟩ := List.pairwise_append.1 sA
    refine back_go hr hn hm k P A [] (by simp at hk ⊢; omega) (by simp at hl ⊢; omega) (fun e he => wA e ?_) wB (List.pairwise_append.2 ⟨a, (List.pairwise_cons.1 b).2, fun z hz w hw => c z hz w (by simp [hw])⟩) sB
    rcases List.mem_append.1 he with he | he <;> simp [he]
  | k + 1, P, [], y :: B, hk, hl, wA, wB, sA, sB => by
    have hc := check_mk hr hn hm (by simp at hl ⊢; omega) wA sA
    obtain ⟨a, b, c⟩ := List.pairwise_append.1 sB
    have hPy : ∀ z ∈ P, ltK z y := fun z hz => c z hz y (by simp)
    rw [chM, applyF_cons hc, ins_back hc (by simp at hl ⊢; omega) (wB y (by simp)) hPy (fun z hz => by cases hz)]
    dsimp only
    rw [if_neg (by simp)]
    have e1 : P ++ y :: ([] : List Edg) = (P ++ [y]) ++ [] := by simp
    have e2 : P ++ y :: B = (P ++ [y]) ++ B := by simp
    rw [e1, e2]
    refine back_go hr hn hm k (P ++ [y]) [] B (by simp at hk ⊢; omega) (by simp at hl ⊢; omega) (fun e he => wB e ?_) (by rw [← e2]; exact wB) ?_ (by rw [← e2]; exact sB)
    · rw [List.append_nil] at he
      rcases List.mem_append.1 he with he | he
      · simp [he]
      · simp at he; simp [he]
    · rw [← e1]
      exact asc_cons sA hPy fun z hz => by cases hz
  | k + 1, P, x :: A, y :: B, hk, hl, wA, wB, sA, sB => by
    have hc := check_mk hr hn hm (by simp at hl ⊢; omega) wA sA
    obtain ⟨a, b, c⟩ := List.pairwise_append.1 sA
    obtain ⟨a', b', c'⟩ := List.pairwise_append.1 sB
    have hPy : ∀ z ∈ P, ltK z y := fun z hz => c' z hz y (by simp)
    have e2 : P ++ y :: B = (P ++ [y]) ++ B := by simp
    rw [chM]
    by_cases c1 : ordE x y < 0
    · rw [if_pos c1, applyF_cons hc, del_back hc]
      dsimp only
      rw [if_neg (by simp)]
      refine back_go hr hn hm k P A (y :: B) (by simp at hk ⊢; omega) (by simp at hl ⊢; omega) (fun e he => wA e ?_) wB (List.pairwise_append.2 ⟨a, (List.pairwise_cons.1 b).2, fun z hz w hw => c z hz w (by simp [hw])⟩) sB
      rcases List.mem_append.1 he with he | he <;> simp [he]
    · rw [if_neg c1]
      by_cases c2 : 0 < ordE x y
      · rw [if_pos c2]
        have hyx := (ordE_pos x y).1 c2
        have hyA : ∀ z ∈ x :: A, ltK y z := fun z hz => by
          rcases List.mem_cons.1 hz with rfl | hz
          · exact hyx
          · exact ltK_tr hyx ((List.pairwise_cons.1 b).1 z hz)
        rw [applyF_cons hc, ins_back hc (by simp at hl ⊢; omega) (wB y (by simp)) hPy hyA]
        dsimp only
        rw [if_neg (by simp)]
        have e1 : P ++ y :: x :: A = (P ++ [y]) ++ x :: A := by simp
        rw [e1, e2]
        refine back_go hr hn hm k (P ++ [y]) (x :: A) B (by simp at hk ⊢; omega) (by simp at hl ⊢; omega) (fun e he => ?_) (by rw [← e2]; exact wB) ?_ (by rw [← e2]; exact sB)
        · rw [← e1] at he
          rcases List.mem_append.1 he with he | he
          · exact wA e (by simp [he])
          · rcases List.mem_cons.1 he with rfl | he
            · exact wB e (by simp)
            · exact wA e (List.mem_append_right _ he)
        · rw [← e1]
          exact asc_cons sA hPy hyA
      · rw [if_neg c2]
        have hs : sameK x y := (ordE_zero x y).1 (by omega)
        have hyA : ∀ z ∈ A, ltK y z := fun z hz => by
          have := (List.pairwise_cons.1 b).1 z hz
          unfold ltK at *; obtain ⟨q1, q2⟩ := hs; omega
        have sPA : AscK (P ++ A) := List.pairwise_append.2 ⟨a, (List.pairwise_cons.1 b).2, fun z hz w hw => c z hz w (by simp [hw])⟩
        have e1 : P ++ y :: A = (P ++ [y]) ++ A := by simp
        have ih := back_go hr hn hm k (P ++ [y]) A B (by simp at hk ⊢; omega) (by simp at hl ⊢; omega) (fun e he => by
          rw [← e1] at he
          rcases List.mem_append.1 he with he | he
          · exact wA e (by simp [he])
          · rcases List.mem_cons.1 he with rfl | he
            · exact wB e (by simp)
            · exact wA e (by simp [he])) (by rw [← e2]; exact wB) (by rw [← e1]; exact asc_cons sPA hPy hyA) (by rw [← e2]; exact sB)
        by_cases hcc : x.c ≠ y.c
        · rw [if_pos hcc]
          show applyF ⟨r, n, P ++ x :: A⟩ (y :: chM A B) = _
          rw [applyF_cons hc, set_back hc (wB y (by simp)) hs]
          dsimp only
          rw [if_neg (by simp), e1, e2]
          exact ih
        · rw [if_neg hcc, List.nil_append, e2]
          have hxy : x = y := edg_ext hs (Decidable.not_not.1 hcc)
          rw [hxy, e1]; exact ih
theorem back {a b : Gr} (ha : checkI a = 0) (hb : checkI b = 0) (hr : a.r = b.r) (hn : a.n = b.n) (hl : a.es.length + b.es.length ≤ 1024) : applyF a (chM a.es b.es) = (b, 0) := by
  obtain ⟨⟨h1, h2, h3⟩, hlen, hchk⟩ := checkI_ok ha
  obtain ⟨_, _, hchkb⟩ := checkI_ok hb
  have hal := chkL_alw _ _ hchk
  have hbl := chkL_alw _ _ hchkb
  cases a with
  | mk r n A =>
  cases b with
  | mk r' n' B =>
  dsimp only at *
  subst hr hn
  exact back_go h1 h2 h3 _ [] A B (Nat.le_refl _) (by simpa using hl) hal hbl (check_asc ha) (check_asc hb)
end Go.Pl
namespace Go.Proofs.YtcillieggklaaaaGreat
open Go Go.RT Go.Proofs Go.Pl
set_option linter.all false
set_option maxRecDepth 20000
set_option maxHeartbeats 4000000
theorem wHX120a {α : Prop} (h : α := by repeat (first | exact trivial | refine ⟨wS, ?_⟩ | refine ⟨ent_same rfl rfl (rfEq rfl tU) tL, ?_⟩ | refine ⟨ent_same rfl rfl (flEq rfl (by first | (simp; done) | (simp; omega) | (simp [encE, encN, encB]; done) | simp [maxC, minC])) trivial, ?_⟩)) : α := h
theorem but_f (l : List Edg) (a : Int) (hn : l.length ≤ 2000000) : Meets Tryz.prog 38 ([VE l, If .i64 a].map PV.fz) 0 [] (.sl 0 3 0 (butR a 0 l).length) [(0, OE (butR a 0 l))] 1 := by
 have hlen := butR_len a l 0
 refine Meets.intro Tryz.func38 rfl (Nat.le_of_ble_eq_true rfl) fun C hC => ?_
 simp only [List.map, argEnv, Nat.reduceAdd]
 refine nK ?_
 refine zb ?_
 refine ze ?_
 refine zc ?_
 refine nK ?_
 refine zb ?_
 refine zct ?_
 refine zd ?_
 refine zc ?_
 refine nK ?_
 refine zb ?_
 refine ze ?_
 refine zc ?_
 refine nK ?_
 refine n_loop (ι := Nat × List Edg) (fun s => ([(0, .fz (VE l)), (1, IV .i64 a), (5, .sl 0 3 0 s.2.length), (6, IV .i64 s.1)], [(0, OE s.2)], 1)) (fun s => s.1 ≤ l.length ∧ s.2 ++ butR a s.1 (l.drop s.1) = butR a 0 l) (fun s => l.length - s.1) (0, []) ⟨Nat.zero_le _, rfl⟩ ?_ ?_
 ·refine Next.weakS [5] [] (by rfl) (wK hC) wG wHX120a rfl (rel_intro)
 intro ⟨i, out⟩ ⟨hi, ho⟩ K hK
 dsimp only at hi ho ⊢
 have hol : out.length ≤ l.length := by rw [← ho] at hlen; simp at hlen; omega
 refine nK ?_
 refine zb ?_
 refine za ?_
 refine za ?_
 refine zo ?_
 refine zp ?_
 refine zc ?_
 refine nK ?_
 refine n_cond _ rfl (fun hb => ?_) (fun hb => ?_)
 ·have hlt : i < l.length := by simp at hb; omega
  have hr1 := row_at' encE l i hlt
  have hKn := fun out' h => hK (i + 1, out') ⟨by dsimp only; omega, h⟩ (by dsimp only; omega)
  rw [List.drop_eq_getElem_cons hlt] at ho
  simp only [butR] at ho
  generalize l[i] = e at *
  refine nK ?_
  refine zb ?_
  refine za ?_
  refine za ?_
  refine zbg ?_
  refine zc ?_
  refine nK ?_
  refine n_cond _ rfl (fun hb => ?_) (fun hb => ?_)
  ·have hne : (i : Int) ≠ a := by simpa using hb
   rw [if_pos hne] at ho
   have h2 := hKn (out ++ [e]) (by simpa using ho)
   dsimp only at h2
   have e4 : (out ++ [e]).length = out.length + 1 := by simp
   rw [e4, show OE (out ++ [e]) = some (.flat 3 (out.map encE ++ [encE e])) by simp] at h2
   refine nK ?_
   refine zb ?_
   refine za ?_
   refine za ?_
   refine za ?_
   refine zz ?_
   refine zbf ?_
   refine zbh ?_
   refine zbu ?_
   refine zd ?_
   refine zc ?_
   refine nK ?_
   refine zb ?_
   refine za ?_
   refine zl ?_
   refine zd ?_
   refine zc ?_
   refine nK ?_
   refine Next.weakS [5] [] (by rfl) (wK hC) wG wHX120a rfl (h2)
  have hne : ¬ ((i : Int) ≠ a) := by simpa using hb
  rw [if_neg hne] at ho
  refine nK ?_
  refine zb ?_
  refine za ?_
  refine zl ?_
  refine zd ?_
  refine zc ?_
  refine nK ?_
  refine Next.weakS [5] [] (by rfl) (wK hC) wG wHX120a rfl ((hKn out (by simpa using ho)))
 have hie : i = l.length := by simp at hb; omega
 rw [hie, List.drop_length] at ho
 simp only [butR, List.append_nil] at ho
 rw [← ho]
 refine nK ?_
 refine zb ?_
 refine za ?_
 refine zd ?_
 refine zc ?_
 refine nK ?_
 exact wO hC
theorem but_c (l : List Edg) (a : Int) (hn : l.length ≤ 2000000) : Pure Tryz.prog 38 [VE l, If .i64 a] (VE (butR a 0 l)) := (but_f l a hn).freeze (by simp)
theorem put_c (l : List Edg) (e : Edg) (hn : l.length ≤ 2000000) : Pure Tryz.prog 42 [VE l, .agg (encE e)] (VE (putR e false l)) := (put_f l e hn).freeze (by simp)
theorem rapply_c (g : Gr) (cs : List Edg) (hg : okG g) (hl : cs.length ≤ 9223372036854775807) (hc : okEs cs) : Pure Tryz.prog 16 [.agg (encG g), VE cs] (.tup [.agg (encG (applyF g cs).1), If .i64 (applyF g cs).2]) := by
 rw [applyF_eq]
 refine Meets.intro Tryz.func16 rfl (Nat.le_of_ble_eq_true rfl) fun C hC => ?_
 simp only [List.map, argEnv, Nat.reduceAdd]
 refine nK ?_
 refine zb ?_
 refine zq ?_
 refine zu ?_
 refine ze ?_
 refine zc ?_
 refine nK ?_
 refine zb ?_
 refine zk ?_
 refine rpZ 14 rfl (op_call_pure (fun _ => rcheck_c _ (by assumption)) rfl (Opd.func _) (oS (oT rfl) Opds.nil)) ?_
 refine zd ?_
 refine zc ?_
 refine nK ?_
 refine zb ?_
 refine za ?_
 refine zbd ?_
 refine zc ?_
 refine nK ?_
 refine n_cond _ rfl (fun hb => ?_) (fun hb => ?_)
 ·rw [if_pos (by simpa using hb)]
  refine nK ?_
  refine zb ?_
  refine zbm ?_
  refine za ?_
  refine zr ?_
  refine zd ?_
  refine zc ?_
  refine nK ?_
  refine Next.weakS [4] [] (by rfl) (keeps0 hC _) (G' := [(4, .ptr 0 3 0 0), (5, IV .i64 (checkI g))]) (H' := [(0, OG zeroG)]) wG (by exact ⟨⟨rfl, rfl, .fflat _ _ _ rfl tW⟩, trivial⟩) rfl ?_
  exact wO hC
 have hz : checkI g = 0 := by simpa using hb
 obtain ⟨hs, hlen, _⟩ := checkI_ok hz
 have hasc := check_asc hz
 rw [if_neg (by simp [hz])]
 refine nK ?_
 refine s_draw mixed ?_
 refine zg ?_
 refine zh ?_
 refine zg ?_
 refine zh ?_
 refine zg ?_
 refine zh ?_
 refine rpZ 25 rfl (op_call_pure (fun _ => but_c _ _ (by first | omega | (dsimp only; omega))) rfl (Opd.func _) (oS (oT rfl) (oS oC Opds.nil))) ?_
 refine zdb ?_
 refine Run.effW (dd := some 7) rfl rfl (op_alloc rfl rfl rfl rfl) (by first | exact ext_call | exact tE) ?_
 refine zch ?_
 refine zs ?_
 refine nK ?_
 refine zb ?_
 refine ze ?_
 refine zc ?_
 refine nK ?_
 refine n_loop (ι := Nat × List Edg) (fun s => ([(1, .fz (VE cs)), (2, .ptr 0 3 0 0), (4, .ptr 1 3 0 0), (7, .ptr 2 3 0 0), (8, IV .i64 s.1)], [(0, OG g), (1, OG zeroG), (2, OG ⟨g.r, g.n, s.2⟩)], 3)) (fun s => s.1 ≤ cs.length ∧ s.2.length ≤ 1024 ∧ AscK s.2 ∧ rappL ⟨g.r, g.n, s.2⟩ (cs.drop s.1) = rappL g cs) (fun s => cs.length - s.1) (0, g.es) ⟨Nat.zero_le _, hlen, hasc, rfl⟩ ?_ ?_
 ·have hbn : butR (-1) 0 g.es = g.es := butR_neg _ _ _ (by decide)
  refine Next.weakS [2, 4, 7] [] (by rfl) (keeps0 hC _) wG (by exact ⟨wS, ⟨⟨rfl, rfl, .fflat _ _ _ rfl tW⟩, ⟨ent_same rfl rfl (flEq rfl (by rw [hbn]; rfl)) trivial, trivial⟩⟩⟩) rfl rel_intro
 intro ⟨i, es⟩ ⟨hi, hel, hea, hap⟩ K hK
 dsimp only at hi hel hea hap ⊢
 refine nK ?_
 refine zb ?_
 refine za ?_
 refine za ?_
 refine zo ?_
 refine zp ?_
 refine zc ?_
 refine nK ?_
 refine n_cond _ rfl (fun hb => ?_) (fun hb => ?_)
 ·have hlt : i < cs.length := by simp at hb; omega
  have hr1 := row_at' encE cs i hlt
  have hKn := fun es' a b h => hK (i + 1, es') ⟨by dsimp only; omega, a, b, h⟩ (by dsimp only; omega)
  have hco := hc cs[i] (List.getElem_mem hlt)
  rw [List.drop_eq_getElem_cons hlt] at hap
  simp only [rappL] at hap
  generalize cs[i] = c at *
  obtain ⟨hc1, hc2, hc3⟩ := hco
  obtain ⟨hq1, hq2⟩ := chg_eq (g := ⟨g.r, g.n, es⟩) (c := c) hea hel
  have hcf : rchgF ⟨g.r, g.n, es⟩ c = if nodeB g c.f = false ∨ nodeB g c.t = false then (zeroG, 5)
   else if c.c < 0 ∧ fndI es c.f c.t < 0 then (zeroG, 6)
   else if 0 ≤ c.c ∧ alwI g c ≠ 0 then (zeroG, alwI g c)
   else if 0 ≤ c.c ∧ fndI es c.f c.t < 0 ∧ 1024 ≤ es.length then (zeroG, 4)
   else (⟨g.r, g.n, if 0 ≤ c.c then putR c false (butR (fndI es c.f c.t) 0 es) else butR (fndI es c.f c.t) 0 es⟩, 0) := rfl
  have hf := find_c ⟨g.r, g.n, es⟩ c.f c.t (by dsimp only; omega)
  have hal := rallowed_c g c hs ⟨hc1, hc2, hc3⟩
  have hbl := butR_len (fndI es c.f c.t) es 0
  have hf2 : fndI (Gr.mk g.r g.n es).es c.f c.t = fndI es c.f c.t := rfl
  rw [hf2] at hf
  have hnx : (rchgF ⟨g.r, g.n, es⟩ c).2 = 0 → AscK (rchgF ⟨g.r, g.n, es⟩ c).1.es ∧ (rchgF ⟨g.r, g.n, es⟩ c).1.es.length ≤ 1024 := fun h => by
   obtain ⟨e1, e2, e3, _, _⟩ := hq2 (hq1.trans h)
   rw [← e1]; exact ⟨e2, e3⟩
  generalize fndI es c.f c.t = at_ at *
  refine nK ?_
  refine zb ?_
  refine za ?_
  refine za ?_
  refine zz ?_
  refine zbf ?_
  refine zu ?_
  refine zr ?_
  refine zc ?_
  refine nK ?_
  refine zb ?_
  refine zk ?_
  refine zg ?_
  refine zh ?_
  refine rpZ 40 rfl (op_call_pure (fun _ => rnode_c _ _ (by assumption) (by assumption)) rfl (Opd.func _) (oS (oT rfl) (oS (oT rfl) Opds.nil))) ?_
  refine zbj ?_
  refine za ?_
  refine zbe ?_
  refine zn ?_
  refine zm ?_
  refine rgZ 46 rfl rfl tG (op_call_pure (fun _ => rnode_c _ _ (by assumption) (by assumption)) rfl (Opd.func _) (oS (oO rfl tO) (oS (oO rfl tO) Opds.nil))) ?_
  refine zbl ?_
  refine zv ?_
  refine zc ?_
  refine nK ?_
  refine n_cond _ rfl (fun hb => ?_) (fun hb => ?_)
  ·rw [if_pos (show nodeB g c.f = false ∨ nodeB g c.t = false by simpa using hb)] at hcf
   rw [hcf, if_pos (by decide)] at hap
   rw [← hap]
   refine nK ?_
   refine zb ?_
   refine zbm ?_
   refine zr ?_
   refine ze ?_
   refine zc ?_
   refine nK ?_
   (refine Next.weak [1] [] (by rfl) (keeps0 hC _) (G' := [(4, .ptr 0 3 0 0), (5, .fz _)]) (H' := [(0, OG zeroG)]) wG (by exact ⟨⟨rfl, rfl, .fflat _ _ _ rfl tW⟩, trivial⟩) wN ?_; exact wO hC)
  rw [if_neg (show ¬ (nodeB g c.f = false ∨ nodeB g c.t = false) by simpa using hb)] at hcf
  refine nK ?_
  refine zb ?_
  refine zk ?_
  refine zg ?_
  refine zh ?_
  refine zg ?_
  refine zh ?_
  refine rpZ 55 rfl (op_call_pure (fun _ => hf) rfl (Opd.func _) (oS (oT rfl) (oS (oT rfl) (oS (oT rfl) Opds.nil)))) ?_
  refine zd ?_
  refine zc ?_
  refine nK ?_
  refine zb ?_
  refine zg ?_
  refine zh ?_
  refine zbn ?_
  refine za ?_
  refine zf ?_
  refine zcc ?_
  refine zt ?_
  refine zc ?_
  refine nK ?_
  refine n_cond _ rfl (fun hb => ?_) (fun hb => ?_)
  ·rw [if_pos (show c.c < 0 ∧ at_ < 0 by simpa using hb)] at hcf
   rw [hcf, if_pos (by decide)] at hap
   rw [← hap]
   refine nK ?_
   refine zb ?_
   refine zbm ?_
   refine zr ?_
   refine ze ?_
   refine zc ?_
   refine nK ?_
   (refine Next.weak [1] [] (by rfl) (keeps0 hC _) (G' := [(4, .ptr 0 3 0 0), (5, .fz _)]) (H' := [(0, OG zeroG)]) wG (by exact ⟨⟨rfl, rfl, .fflat _ _ _ rfl tW⟩, trivial⟩) wN ?_; exact wO hC)
  rw [if_neg (show ¬ (c.c < 0 ∧ at_ < 0) by simpa using hb)] at hcf
  refine nK ?_
  refine zb ?_
  refine zg ?_
  refine zh ?_
  refine zg ?_
  refine zh ?_
  refine zg ?_
  refine zh ?_
  refine zdb ?_
  refine zu ?_
  refine zr ?_
  refine zc ?_
  refine nK ?_
  refine zb ?_
  refine zg ?_
  refine zh ?_
  refine zby ?_
  refine zc ?_
  refine nK ?_
  refine n_cond _ rfl (fun hb => ?_) (fun hb => ?_)
  ·have h0 : 0 ≤ c.c := by simpa using hb
   refine nK ?_
   refine zb ?_
   refine zk ?_
   refine zk ?_
   refine rpZ 76 rfl (op_call_pure (fun _ => hal) rfl (Opd.func _) (oS (oT rfl) (oS (oT rfl) Opds.nil))) ?_
   refine zd ?_
   refine zc ?_
   refine nK ?_
   refine zb ?_
   refine za ?_
   refine zbd ?_
   refine zc ?_
   refine nK ?_
   refine n_cond _ rfl (fun hb => ?_) (fun hb => ?_)
   ·have h3 : alwI g c ≠ 0 := by simpa using hb
    rw [if_pos (show 0 ≤ c.c ∧ alwI g c ≠ 0 from ⟨h0, h3⟩)] at hcf
    rw [hcf, if_pos h3] at hap
    rw [← hap]
    refine nK ?_
    refine zb ?_
    refine zbm ?_
    refine za ?_
    refine zr ?_
    refine zd ?_
    refine zc ?_
    refine nK ?_
    (refine Next.weak [1] [] (by rfl) (keeps0 hC _) (G' := [(4, .ptr 0 3 0 0), (5, .fz _)]) (H' := [(0, OG zeroG)]) wG (by exact ⟨⟨rfl, rfl, .fflat _ _ _ rfl tW⟩, trivial⟩) wN ?_; exact wO hC)
   have h3 : ¬ (alwI g c ≠ 0) := by simpa using hb
   rw [if_neg (show ¬ (0 ≤ c.c ∧ alwI g c ≠ 0) from fun h => h3 h.2)] at hcf
   refine nK ?_
   refine zb ?_
   refine za ?_
   refine zbn ?_
   refine za ?_
   refine zn ?_
   refine zm ?_
   refine zbt ?_
   refine zck ?_
   refine zt ?_
   refine zc ?_
   refine nK ?_
   refine n_cond _ rfl (fun hb => ?_) (fun hb => ?_)
   ·have h4 : at_ < 0 ∧ 1024 ≤ es.length := by simp at hb; omega
    rw [if_pos (show 0 ≤ c.c ∧ at_ < 0 ∧ 1024 ≤ es.length from ⟨h0, h4⟩)] at hcf
    rw [hcf, if_pos (by decide)] at hap
    rw [← hap]
    refine nK ?_
    refine zb ?_
    refine zbm ?_
    refine zr ?_
    refine ze ?_
    refine zc ?_
    refine nK ?_
    (refine Next.weak [1] [] (by rfl) (keeps0 hC _) (G' := [(4, .ptr 0 3 0 0), (5, .fz _)]) (H' := [(0, OG zeroG)]) wG (by exact ⟨⟨rfl, rfl, .fflat _ _ _ rfl tW⟩, trivial⟩) wN ?_; exact wO hC)
   have h4 : ¬ (at_ < 0 ∧ 1024 ≤ es.length) := by simp at hb; omega
   rw [if_neg (show ¬ (0 ≤ c.c ∧ at_ < 0 ∧ 1024 ≤ es.length) from fun h => h4 h.2), if_pos h0] at hcf
   rw [hcf] at hnx
   rw [hcf, if_neg (by simp)] at hap
   obtain ⟨n1, n2⟩ := hnx rfl
   have hpc := put_c (butR at_ 0 es) c (by omega)
   refine nK ?_
   refine zb ?_
   refine zg ?_
   refine zh ?_
   refine za ?_
   refine rpZ 93 rfl (op_call_pure (fun _ => but_c _ _ (by first | omega | (dsimp only; omega))) rfl (Opd.func _) (oS (oT rfl) (oS (oT rfl) Opds.nil))) ?_
   refine zg ?_
   refine zr ?_
   refine zc ?_
   refine nK ?_
   refine zb ?_
   refine zg ?_
   refine zh ?_
   refine zby ?_
   refine zc ?_
   refine nK ?_
   refine n_cond _ rfl (fun hb => ?_) (fun hb => ?_)
   ·refine nK ?_
    refine zb ?_
    refine zg ?_
    refine zh ?_
    refine zk ?_
    refine rpZ 101 rfl (op_call_pure (fun _ => hpc) rfl (Opd.func _) (oS (oT rfl) (oS (oT rfl) Opds.nil))) ?_
    refine zg ?_
    refine zr ?_
    refine zc ?_
    refine nK ?_
    refine zb ?_
    refine za ?_
    refine zl ?_
    refine zd ?_
    refine zc ?_
    refine nK ?_
    refine Next.weakS [2, 4, 7] [] (by rfl) (wK hC) wG wHX120a rfl ((hKn _ n2 n1 hap))
   exfalso; simp at hb; omega
  have h0 : ¬ (0 ≤ c.c) := by simpa using hb
  rw [if_neg (show ¬ (0 ≤ c.c ∧ alwI g c ≠ 0) from fun h => h0 h.1), if_neg (show ¬ (0 ≤ c.c ∧ at_ < 0 ∧ 1024 ≤ es.length) from fun h => h0 h.1), if_neg h0] at hcf
  rw [hcf] at hnx
  rw [hcf, if_neg (by simp)] at hap
  obtain ⟨n1, n2⟩ := hnx rfl
  refine nK ?_
  refine zb ?_
  refine zg ?_
  refine zh ?_
  refine za ?_
  refine rpZ 93 rfl (op_call_pure (fun _ => but_c _ _ (by first | omega | (dsimp only; omega))) rfl (Opd.func _) (oS (oT rfl) (oS (oT rfl) Opds.nil))) ?_
  refine zg ?_
  refine zr ?_
  refine zc ?_
  refine nK ?_
  refine zb ?_
  refine zg ?_
  refine zh ?_
  refine zby ?_
  refine zc ?_
  refine nK ?_
  refine n_cond _ rfl (fun hb => ?_) (fun hb => ?_)
  ·exfalso; simp at hb; omega
  refine nK ?_
  refine zb ?_
  refine za ?_
  refine zl ?_
  refine zd ?_
  refine zc ?_
  refine nK ?_
  refine Next.weakS [2, 4, 7] [] (by rfl) (wK hC) wG wHX120a rfl ((hKn _ n2 n1 hap))
 have hie : i = cs.length := by simp at hb; omega
 rw [hie, List.drop_length] at hap
 rw [← hap]
 refine nK ?_
 refine zb ?_
 refine zk ?_
 refine zr ?_
 refine ze ?_
 refine zc ?_
 refine nK ?_
 exact wO hC
open Go Go.RT Go.Proofs Go.Pl
set_option maxRecDepth 20000
set_option maxHeartbeats 4000000
theorem smT_run {g : Gr} {a : Nat} {t : Tr} (h : RunOk g a t) : smT t := by
 have hm := h.vg.n128
 have hl := h.dl
 have hmm : g.m = (g.r + g.n).toNat := rfl
 have hk := h.hopInv.ok
 have hu := h.up
 have rowm : ∀ {ll : List (List Int)} {l : List Int}, l ∈ ll → ∃ v, v < ll.length ∧ l = rowAt' ll v := fun {ll l} hm => by
  obtain ⟨v, hv, rfl⟩ := List.mem_iff_getElem.1 hm
  exact ⟨v, hv, by simp [rowAt', List.getD_eq_getElem?_getD, hv]⟩
 refine ⟨by rw [hl]; omega, ⟨by rw [hk.len]; omega, fun l hl => ?_⟩, ⟨by rw [hu.len]; omega, fun l hl => ?_⟩⟩
 ·obtain ⟨v, hv, rfl⟩ := rowm hl
  rw [hk.len] at hv
  have := (hk.row v hv).len
  omega
 obtain ⟨v, hv, rfl⟩ := rowm hl
 rw [hu.len] at hv
 have := (hu.row v hv).1
 omega
theorem smT_zero : smT zeroT := ⟨by decide, ⟨by decide, fun l hl => by cases hl⟩, ⟨by decide, fun l hl => by cases hl⟩⟩
theorem runs_c (g : Gr) (a : Int) (hok : okG g) : ∃ (t : Tr) (e : Int), smT t ∧ (e = 0 ↔ checkI g = 0 ∧ 0 ≤ a ∧ a < g.r) ∧ (e = 0 → t = trOf g a.toNat) ∧
  Pure Tryz.prog 52 [.agg (encG g), If .i64 a] (.tup [.agg (encTr t), If .i64 e]) ∧ Pure Tryz.prog 15 [.agg (encG g), If .i64 a] (.tup [.agg (encTr t), If .i64 e]) := by
 by_cases hg : checkI g = 0
 ·by_cases ha : a < 0 ∨ g.r ≤ a
  ·exact ⟨zeroT, 5, smT_zero, by simp; omega, by simp, run_out g a hok hg ha, rrun_out g a hok hg ha⟩
  obtain ⟨n, rfl⟩ : ∃ n : Nat, a = n := ⟨a.toNat, by omega⟩
  have ht := trOf_ok hg (a := n) (by omega)
  have hr := run_c g n _ hok ht
  have hr2 := rrun_c g n hok hg (by omega)
  exact ⟨trOf g n, 0, smT_run ht, by simp [hg]; omega, fun _ => by rw [Int.toNat_natCast], hr, hr2⟩
 exact ⟨zeroT, checkI g, smT_zero, by simp [hg], fun h => absurd h hg, run_bad g a hok hg, rrun_bad g a hok hg⟩
theorem scheck_c (g : Gr) (t u : Tr) (e : Int) (ht : smT t) (hu : smT u) (hr : Pure Tryz.prog 52 [.agg (encG g), If .i64 t.root] (.tup [.agg (encTr u), If .i64 e])) : Pure Tryz.prog 25 [.agg (encG g), .agg (encTr t)] (Bf (decide (e = 0) && decide (u = t))) := by
 have hs := same_c u t hu ht
 refine Meets.intro Tryz.func25 rfl (Nat.le_of_ble_eq_true rfl) fun C hC => ?_
 simp only [List.map, argEnv, Nat.reduceAdd]
 refine nK2 ?_
 refine zb ?_
 refine zq ?_
 refine zq ?_
 refine ze ?_
 refine zc ?_
 refine nK2 ?_
 refine zb ?_
 refine zk ?_
 refine zg ?_
 refine zh ?_
 refine rpZ 11 rfl (op_call_pure (fun _ => hr) rfl (Opd.func _) (oS (oT rfl) (oS (oT rfl) Opds.nil))) ?_
 refine za ?_
 refine zi ?_
 refine zi ?_
 refine zu ?_
 refine zr ?_
 refine zd ?_
 refine zc ?_
 refine nK2 ?_
 refine zb ?_
 refine za ?_
 refine zci ?_
 refine za ?_
 refine zbe ?_
 refine zbe ?_
 refine rgZ 19 rfl rfl tG (op_call_pure (fun _ => hs) rfl (Opd.func _) (oS (oO rfl tO) (oS (oO rfl tO) Opds.nil))) ?_
 refine zt ?_
 refine zd ?_
 refine zc ?_
 refine nK2 ?_
 exact wO hC
theorem stp_c (g : Gr) (hg : checkI g = 0) (a : Nat) (har : (a : Int) < g.r) (c : Edg) (hc : okE c) (hz : (applyF g [c]).2 = 0) : Pure Tryz.prog 29 [.agg (encG (applyF g [c]).1), If .i64 (a : Int), VI (trOf g a).dist, .agg (encE c), If .i64 (oldI g.es c)] (VI (trOf (applyF g [c]).1 a).dist) := by
 obtain ⟨es', h1, h2, h3, hR, nf, nt⟩ := one_ok hg hz
 rw [h1]
 have hk := trOf_ok hg har
 have hk2 := trOf_ok (g := ⟨g.r, g.n, es'⟩) h3 (a := a) har
 obtain ⟨vg, v1, v2⟩ := checkI_vg hg
 obtain ⟨vg', _, _⟩ := checkI_vg h3
 have hb := cost_bnd vg c.f c.t
 have ham : a < g.m := hk.am
 have hm : (g.m : Int) = g.r + g.n := by unfold Gr.m; omega
 unfold nodeB at nf nt
 simp only [Bool.and_eq_true, decide_eq_true_eq] at nf nt
 refine step_c ⟨g.r, g.n, es'⟩ h3 g.es g.r.toNat a _ _ c _ (by omega) ham hR vg vg' hk.dl (fun v hv => (hk.dist v hv).small vg ham hv) (fx_of vg ham hk.dist) ⟨nf.1, ?_⟩ ⟨nt.1, ?_⟩ ⟨hc.2.2, ?_⟩ ?_ hk2.dl hk2.dist
 ·show c.f < (g.m : Int); omega
 ·show c.t < (g.m : Int); omega
 ·by_cases h0 : 0 ≤ c.c
  ·exact (vg'.c c (hR.new h0)).2
  omega
 unfold oldI; split
 ·omega
 omega
theorem tre_c (g : Gr) (hg : checkI g = 0) (a : Nat) (har : (a : Int) < g.r) : Pure Tryz.prog 30 [.agg (encG g), If .i64 a, VI (trOf g a).dist] (.agg (encTr (trOf g a))) := by
 have hk := trOf_ok hg har
 obtain ⟨vg, v1, v2⟩ := checkI_vg hg
 have h := tree_c g hg a har (trOf g a).dist hk.dl (fun v hv => (hk.dist v hv).small vg hk.am hv)
 have hp : parL g.es a (trOf g a).dist g.m = (trOf g a).par := hk.par.symm
 rw [hp, hopT_eq hk (topL_ok g.r g.m _)] at h
 exact h
theorem update_bad (g : Gr) (t : Tr) (cs : List Edg) (hok : okG g) (hg : checkI g ≠ 0) : Pure Tryz.prog 11 [.agg (encG g), .agg (encTr t), VE cs] (.tup [.agg (encG zeroG), .agg (encTr zeroT), If .i64 0, If .i64 (checkI g)]) := by
 refine Meets.intro Tryz.func11 rfl (Nat.le_of_ble_eq_true rfl) fun C hC => ?_
 simp only [List.map, argEnv, Nat.reduceAdd]
 refine nK2 ?_
 refine zb ?_
 refine zq ?_
 refine zq ?_
 refine zu ?_
 refine zu ?_
 refine ze ?_
 refine ze ?_
 refine zc ?_
 refine nK2 ?_
 refine zb ?_
 refine zk ?_
 refine rpZ 22 rfl (op_call_pure (fun _ => check_c _ (by assumption)) rfl (Opd.func _) (oS (oT rfl) Opds.nil)) ?_
 refine zd ?_
 refine zc ?_
 refine nK2 ?_
 refine zb ?_
 refine za ?_
 refine zbd ?_
 refine zc ?_
 refine nK2 ?_
 refine n_cond _ rfl (fun hb => ?_) (fun hb => ?_)
 ·refine nK2 ?_
  refine zb ?_
  refine zbm ?_
  refine zbm ?_
  refine za ?_
  refine zr ?_
  refine zr ?_
  refine ze ?_
  refine zd ?_
  refine zc ?_
  refine nK2 ?_
  (refine Next.weakS [6, 7] [] (by rfl) (keeps0 hC _) (G' := [(6, .ptr 0 3 0 0), (7, .ptr 1 4 0 0), (8, .fz _), (9, .fz _)]) (H' := [(0, OG zeroG), (1, OTr zeroT)]) wG (by exact ⟨⟨rfl, rfl, .fflat _ _ _ rfl tW⟩, ⟨⟨rfl, rfl, .fflat _ _ _ rfl tW⟩, trivial⟩⟩) rfl ?_; exact s_o4 hC rfl tV tV tV tV)
 simp at hb; omega
theorem update_not (g : Gr) (t : Tr) (cs : List Edg) (hok : okG g) (hg : checkI g = 0) (hs : Pure Tryz.prog 25 [.agg (encG g), .agg (encTr t)] (Bf false)) : Pure Tryz.prog 11 [.agg (encG g), .agg (encTr t), VE cs] (.tup [.agg (encG zeroG), .agg (encTr zeroT), If .i64 0, If .i64 1]) := by
 refine Meets.intro Tryz.func11 rfl (Nat.le_of_ble_eq_true rfl) fun C hC => ?_
 simp only [List.map, argEnv, Nat.reduceAdd]
 refine nK2 ?_
 refine zb ?_
 refine zq ?_
 refine zq ?_
 refine zu ?_
 refine zu ?_
 refine ze ?_
 refine ze ?_
 refine zc ?_
 refine nK2 ?_
 refine zb ?_
 refine zk ?_
 refine rpZ 22 rfl (op_call_pure (fun _ => check_c _ (by assumption)) rfl (Opd.func _) (oS (oT rfl) Opds.nil)) ?_
 refine zd ?_
 refine zc ?_
 refine nK2 ?_
 refine zb ?_
 refine za ?_
 refine zbd ?_
 refine zc ?_
 refine nK2 ?_
 refine n_cond _ rfl (fun hb => ?_) (fun hb => ?_)
 ·simp at hb; omega
 refine nK2 ?_
 refine zb ?_
 refine zk ?_
 refine zk ?_
 refine rpZ 30 rfl (op_call_pure (fun _ => hs) rfl (Opd.func _) (oS (oT rfl) (oS (oT rfl) Opds.nil))) ?_
 refine zbj ?_
 refine zc ?_
 refine nK2 ?_
 refine n_cond _ rfl (fun hb => ?_) (fun hb => ?_)
 ·refine nK2 ?_
  refine zb ?_
  refine zbm ?_
  refine zbm ?_
  refine zr ?_
  refine zr ?_
  refine ze ?_
  refine ze ?_
  refine zc ?_
  refine nK2 ?_
  (refine Next.weakS [6, 7] [] (by rfl) (keeps0 hC _) (G' := [(6, .ptr 0 3 0 0), (7, .ptr 1 4 0 0), (8, .fz _), (9, .fz _)]) (H' := [(0, OG zeroG), (1, OTr zeroT)]) wG (by exact ⟨⟨rfl, rfl, .fflat _ _ _ rfl tW⟩, ⟨⟨rfl, rfl, .fflat _ _ _ rfl tW⟩, trivial⟩⟩) rfl ?_; exact s_o4 hC rfl tV tV tV tV)
 simp at hb
theorem update_run (g : Gr) (a : Nat) (cs : List Edg) (hg : checkI g = 0) (har : (a : Int) < g.r) (hcs : okEs cs) (hl : cs.length ≤ 1000000) (hs : Pure Tryz.prog 25 [.agg (encG g), .agg (encTr (trOf g a))] (Bf true)) : Pure Tryz.prog 11 [.agg (encG g), .agg (encTr (trOf g a)), VE cs] (.tup [.agg (encG (updF a g cs 0).1), .agg (encTr (updF a g cs 0).2.1), If .i64 ((updF a g cs 0).2.2.1 : Nat), If .i64 (updF a g cs 0).2.2.2]) := by
 have hok := okG_of hg
 have hm128 : g.m ≤ 128 := (checkI_vg hg).1.n128
 have hdl0 : (trOf g a).dist.length = g.m := trOf_dl
 have hcl := clonei_c (trOf g a).dist (by omega)
 have hap := apply_c g [] hok (by simp)
 rw [applyF_nil hg] at hap
 have hroot : (encTr (trOf g a))[0]? = some (If .i64 (a : Int)) := rfl
 generalize hRR : updF a g cs 0 = RR at *
 refine Meets.intro Tryz.func11 rfl (Nat.le_of_ble_eq_true rfl) fun C hC => ?_
 simp only [List.map, argEnv, Nat.reduceAdd]
 refine nK2 ?_
 refine zb ?_
 refine zq ?_
 refine zq ?_
 refine zu ?_
 refine zu ?_
 refine ze ?_
 refine ze ?_
 refine zc ?_
 refine nK2 ?_
 refine zb ?_
 refine zk ?_
 refine rpZ 22 rfl (op_call_pure (fun _ => check_c _ (by assumption)) rfl (Opd.func _) (oS (oT rfl) Opds.nil)) ?_
 refine zd ?_
 refine zc ?_
 refine nK2 ?_
 refine zb ?_
 refine za ?_
 refine zbd ?_
 refine zc ?_
 refine nK2 ?_
 refine n_cond _ rfl (fun hb => ?_) (fun hb => ?_)
 ·simp at hb; omega
 refine nK2 ?_
 refine zb ?_
 refine zk ?_
 refine zk ?_
 refine rpZ 30 rfl (op_call_pure (fun _ => hs) rfl (Opd.func _) (oS (oT rfl) (oS (oT rfl) Opds.nil))) ?_
 refine zbj ?_
 refine zc ?_
 refine nK2 ?_
 refine n_cond _ rfl (fun hb => ?_) (fun hb => ?_)
 ·simp at hb
 refine nK2 ?_
 refine zb ?_
 refine zk ?_
 refine rpZ 36 rfl (op_call_pure (fun _ => hap) rfl (Opd.func _) (oS (oT rfl) (oS (Opd.nil _ _ oC) Opds.nil))) ?_
 refine za ?_
 refine zi ?_
 refine zi ?_
 refine zu ?_
 refine zr ?_
 refine zd ?_
 refine zc ?_
 refine nK2 ?_
 refine Next.weakS [6, 7, 11] [4] (by rfl) (keepsN hC _ rfl) (G' := [(4, .fz (.cellp (encTr (trOf g a)))), (6, .ptr 0 3 0 0), (7, .ptr 1 4 0 0), (2, .fz (VE cs)), (11, .ptr 2 3 0 0), (12, IV .i64 0)]) (H' := [(0, OG zeroG), (1, OTr zeroT), (2, OG g)]) wF (by exact ⟨⟨rfl, rfl, .fflat _ _ _ rfl tW⟩, ⟨⟨rfl, rfl, .fflat _ _ _ rfl tW⟩, ⟨wS, trivial⟩⟩⟩) rfl ?_
 refine nK2 ?_
 refine zb ?_
 refine za ?_
 refine zbd ?_
 refine zc ?_
 refine nK2 ?_
 refine n_cond _ rfl (fun hb => ?_) (fun hb => ?_)
 ·simp at hb
 refine nK2 ?_
 refine zb ?_
 refine zx ?_
 refine zj ?_
 refine Run.eff (dd := some 46) rfl rfl (op_call_fresh (fun _ => hcl) rfl (Opd.func _) (oS (oT rfl) Opds.nil)) ?_
 refine zd ?_
 refine ze ?_
 refine zc ?_
 refine nK2 ?_
 refine Next.weakS [6, 7, 11] [13] (by rfl) (keepsN hC _ rfl) (G' := [(4, .fz (.cellp (encTr (trOf g a)))), (6, .ptr 0 3 0 0), (7, .ptr 1 4 0 0), (2, .fz (VE cs)), (11, .ptr 2 3 0 0), (13, .fz (VI (trOf g a).dist)), (14, IV .i64 0)]) (H' := [(0, OG zeroG), (1, OTr zeroT), (2, OG g)]) (by exact ⟨⟨_, rfl, .inl ⟨rfl, rfl⟩⟩, ⟨⟨_, rfl, .inl ⟨rfl, rfl⟩⟩, ⟨⟨_, rfl, .inl ⟨rfl, rfl⟩⟩, ⟨⟨_, rfl, .inl ⟨rfl, rfl⟩⟩, ⟨⟨_, rfl, .inl ⟨rfl, rfl⟩⟩, ⟨⟨_, rfl, .inr ⟨_, rfl, .sl _ _ _ _ _ _ rfl rfl (take_all0 (List.length_map _)) (List.length_map _)⟩⟩, ⟨⟨_, rfl, .inl ⟨rfl, rfl⟩⟩, trivial⟩⟩⟩⟩⟩⟩⟩) wR rfl ?_
 clear hok hcl hap hs
 refine nK2 ?_
 refine zb ?_
 refine za ?_
 refine zo ?_
 refine zbb ?_
 refine zc ?_
 refine nK2 ?_
 refine n_loop (ι := Gr × Nat × Nat) (fun s => ([(4, .fz (.cellp (encTr (trOf g a)))), (6, .ptr 0 3 0 0), (7, .ptr 1 4 0 0), (11, .ptr 2 3 0 0), (13, .fz (VI (trOf s.1 a).dist)), (14, IV .i64 (s.2.1 : Nat)), (47, .fz (VE cs)), (48, IV .i64 cs.length), (49, IV .i64 (s.2.2 : Nat))], [(0, OG zeroG), (1, OTr zeroT), (2, OG s.1)], 3)) (fun s => s.2.2 ≤ cs.length ∧ checkI s.1 = 0 ∧ (a : Int) < s.1.r ∧ s.1.m = g.m ∧ s.2.1 ≤ 128 * s.2.2 ∧ updF a s.1 (cs.drop s.2.2) s.2.1 = RR) (fun s => cs.length - s.2.2) (g, 0, 0) ⟨Nat.zero_le _, hg, har, rfl, Nat.zero_le _, hRR⟩ ?_ ?_
 ·refine Next.weak [0, 1, 2] [] (by rfl) (keepsN hC _ rfl) wG wR wN rel_intro
 intro ⟨now, k, i⟩ ⟨hi, hnow, hnr, hnm, hk, hR⟩ K hK
 try dsimp only at hi hnow hnr hnm hk hR hK ⊢
 refine nK2 ?_
 refine zb ?_
 refine zp ?_
 refine zc ?_
 refine nK2 ?_
 refine n_cond _ rfl (fun hb => ?_) (fun hb => ?_)
 ·have hlt : i < cs.length := by simp at hb; omega
  have hr1 := row_at' encE cs i hlt
  have hce := hcs _ (List.getElem_mem hlt)
  rw [List.drop_eq_getElem_cons hlt] at hR
  have hK1 := fun now' k' h1 h2 h3 h4 h5 => hK (now', k', i + 1) ⟨by dsimp only; omega, h1, h2, h3, h4, h5⟩ (by dsimp only; omega)
  dsimp only at hK1
  generalize cs[i] = c at *
  have hoN := okG_of hnow
  have stp := fun hz => stp_c now hnow a hnr c hce hz
  have hco := cost_c now c.f c.t (by have := (checkI_ok hnow).2.1; omega)
  have hap := apply_c now [c] hoN (by simp)
  have hold1 := cost_old now.es c
  have hold2 := cost_old2 now.es c
  have hol : inr .i64 (oldI now.es c) := by
   have := cost_bnd (checkI_vg hnow).1 c.f c.t
   unfold oldI; simp only [inr]; split <;> omega
  refine nK2 ?_
  refine zb ?_
  refine zz ?_
  refine zbf ?_
  refine zu ?_
  refine zr ?_
  refine zc ?_
  refine nK2 ?_
  refine Next.weakS [6, 7, 11] [16] (by rfl) (keepsN hC _ rfl) (G' := [(4, .fz (.cellp (encTr (trOf g a)))), (6, .ptr 0 3 0 0), (7, .ptr 1 4 0 0), (11, .ptr 2 3 0 0), (13, .fz (VI (trOf now a).dist)), (14, IV .i64 (k : Nat)), (47, .fz (VE cs)), (48, IV .i64 cs.length), (49, IV .i64 (i : Nat)), (16, .fz (.cellp (encE c)))]) (H' := [(0, OG zeroG), (1, OTr zeroT), (2, OG now)]) wF wR rfl ?_
  refine nK2 ?_
  refine zb ?_
  refine zk ?_
  refine zx ?_
  refine zj ?_
  refine zx ?_
  refine zj ?_
  refine rpZ 59 rfl (op_call_pure (fun _ => hco) rfl (Opd.func _) (oS (oT rfl) (oS (oT rfl) (oS (oT rfl) Opds.nil)))) ?_
  refine za ?_
  refine zi ?_
  refine zi ?_
  refine zd ?_
  refine zd ?_
  refine zc ?_
  refine nK2 ?_
  refine zb ?_
  refine za ?_
  refine zbj ?_
  refine zc ?_
  refine nK2 ?_
  refine n_join [(4, .fz (.cellp (encTr (trOf g a)))), (6, .ptr 0 3 0 0), (7, .ptr 1 4 0 0), (11, .ptr 2 3 0 0), (13, .fz (VI (trOf now a).dist)), (14, IV .i64 (k : Nat)), (47, .fz (VE cs)), (48, IV .i64 cs.length), (49, IV .i64 (i : Nat)), (16, .fz (.cellp (encE c))), (17, IV .i64 (oldI now.es c))] [(0, OG zeroG), (1, OTr zeroT), (2, OG now)] 3 ?_ ?_
  ·refine nK2 ?_
   refine n_cond _ rfl (fun hb => ?_) (fun hb => ?_)
   ·rw [hold2 (by simpa using hb)]
    refine nK2 ?_
    refine zb ?_
    refine ze ?_
    refine zc ?_
    refine nK2 ?_
    refine Next.weak [0, 1, 2] [] (by rfl) (keepsN hC _ rfl) wG wR wN rel_intro
   rw [hold1 (by simpa using hb)]
   refine nK2 ?_
   refine Next.weak [0, 1, 2] [] (by rfl) (keepsN hC _ rfl) wG wR wN rel_intro
  clear hco hold1 hold2 hK
  generalize oldI now.es c = old at *
  refine nK2 ?_
  refine zb ?_
  refine zk ?_
  refine zbf ?_
  refine zbh ?_
  refine rpZ 68 rfl (op_call_pure (fun _ => hap) rfl (Opd.func _) (oS (oT rfl) (oS (oT rfl) Opds.nil))) ?_
  refine za ?_
  refine zi ?_
  refine zi ?_
  refine zr ?_
  refine zd ?_
  refine zc ?_
  refine nK2 ?_
  refine zb ?_
  refine za ?_
  refine zbd ?_
  refine zc ?_
  refine nK2 ?_
  refine n_cond _ rfl (fun hb => ?_) (fun hb => ?_)
  ·have hz : (applyF now [c]).2 ≠ 0 := by simpa using hb
   rw [updF_no hz] at hR
   subst hR
   refine nK2 ?_
   refine zb ?_
   refine zbm ?_
   refine zbm ?_
   refine za ?_
   refine zr ?_
   refine zr ?_
   refine ze ?_
   refine zd ?_
   refine zc ?_
   refine nK2 ?_
   (refine Next.weakS [6, 7] [] (by rfl) (keeps0 hC _) (G' := [(6, .ptr 0 3 0 0), (7, .ptr 1 4 0 0), (8, .fz _), (9, .fz _)]) (H' := [(0, OG zeroG), (1, OTr zeroT)]) wG (by exact ⟨⟨rfl, rfl, .fflat _ _ _ rfl tW⟩, ⟨⟨rfl, rfl, .fflat _ _ _ rfl tW⟩, trivial⟩⟩) rfl ?_; exact s_o4 hC rfl tV tV tV tV)
  have hz : (applyF now [c]).2 = 0 := by simpa using hb
  obtain ⟨es', h1, h2, h3, _⟩ := one_ok hnow hz
  have hst := stp hz
  have hK2 := fun k' h4 h5 => hK1 (applyF now [c]).1 k' (by rw [h1]; exact h3) (by rw [h1]; exact hnr) (by rw [h1]; exact hnm) h4 h5
  rw [updF_yes hz] at hR
  have hdl := trOf_dl (g := now) (a := a)
  have hDl := trOf_dl (g := (applyF now [c]).1) (a := a)
  have hm2 : (applyF now [c]).1.m = g.m := by rw [h1]; exact hnm
  rw [hm2] at hDl
  rw [hnm] at hdl hR
  clear stp hap hK1 h1 h2 h3
  generalize (applyF now [c]).1 = nw at *
  generalize (trOf now a).dist = d at *
  generalize (trOf nw a).dist = D at *
  rw [← hDl] at hR
  refine nK2 ?_
  refine zb ?_
  refine zk ?_
  refine zx ?_
  refine zj ?_
  refine za ?_
  refine zbf ?_
  refine za ?_
  refine rpZ 82 rfl (op_call_pure (fun _ => hst) rfl (Opd.func _) (oS (oT rfl) (oS (oT rfl) (oS (oT rfl) (oS (oT rfl) (oS (oT rfl) Opds.nil)))))) ?_
  refine zd ?_
  refine zc ?_
  refine nK2 ?_
  refine zb ?_
  refine za ?_
  refine zo ?_
  refine zbb ?_
  refine zc ?_
  refine nK2 ?_
  refine n_loop (ι := Nat) (fun j => ([(4, .fz (.cellp (encTr (trOf g a)))), (6, .ptr 0 3 0 0), (7, .ptr 1 4 0 0), (11, .ptr 2 3 0 0), (13, .fz (VI d)), (14, IV .i64 (k + cntI d D j : Nat)), (47, .fz (VE cs)), (48, IV .i64 cs.length), (49, IV .i64 (i : Nat)), (19, .fz (VI D)), (84, IV .i64 D.length), (85, IV .i64 (j : Nat))], [(0, OG zeroG), (1, OTr zeroT), (2, OG nw)], 3)) (fun j => j ≤ D.length) (fun j => D.length - j) 0 (Nat.zero_le _) ?_ ?_
  ·refine Next.weak [0, 1, 2] [] (by rfl) (keepsN hC _ rfl) wG wR wN rel_intro
  intro j hj K3 hK3
  try dsimp only at hj hK3 ⊢
  have hcl := cntI_le d D j
  refine nK2 ?_
  refine zb ?_
  refine zp ?_
  refine zc ?_
  refine nK2 ?_
  refine n_cond _ rfl (fun hb => ?_) (fun hb => ?_)
  ·have hlt : j < D.length := by simp at hb; omega
   have hrD := row_of encN D j 0 hlt
   have hrd := row_of encN d j 0 (by omega)
   have hgD : D.getD j 0 = gt0 D j := rfl
   have hgd : d.getD j 0 = gt0 d j := rfl
   rw [hgD] at hrD; rw [hgd] at hrd
   have hK4 := hK3 (j + 1) (by omega) (by omega)
   rw [cntI_succ, ← Nat.add_assoc] at hK4
   generalize cntI d D j = cn at *
   refine nK2 ?_
   refine zb ?_
   refine za ?_
   refine zd ?_
   refine zc ?_
   refine nK2 ?_
   refine s_draw mixed ?_
   refine za ?_
   refine za ?_
   refine rpZ 90 rfl (op_idx_fz j rfl (oT rfl) (oT rfl) (by intro _; exact ⟨rfl, hrD⟩)) ?_
   refine zj ?_
   refine za ?_
   refine za ?_
   refine rpZ 94 rfl (op_idx_fz j rfl (oT rfl) (oT rfl) (by intro _; exact ⟨rfl, hrd⟩)) ?_
   refine zj ?_
   refine zbg ?_
   refine zs ?_
   refine nK2 ?_
   refine n_cond _ rfl (fun hb => ?_) (fun hb => ?_)
   ·rw [if_pos (by simpa using hb)] at hK4
    refine nK2 ?_
    refine zb ?_
    refine za ?_
    refine zl ?_
    refine zd ?_
    refine zc ?_
    refine nK2 ?_
    refine zb ?_
    refine zl ?_
    refine za ?_
    refine zc ?_
    refine nK2 ?_
    refine Next.weak [0, 1, 2] [] (by rfl) (keepsN hC _ rfl) wG wR wN hK4
   rw [if_neg (by simpa using hb)] at hK4
   refine nK2 ?_
   refine zb ?_
   refine zl ?_
   refine za ?_
   refine zc ?_
   refine nK2 ?_
   refine Next.weak [0, 1, 2] [] (by rfl) (keepsN hC _ rfl) wG wR wN hK4
  have hje : j = D.length := by simp at hb; omega
  subst hje
  have hK5 := hK2 (k + cntI d D D.length) (by omega) hR
  refine nK2 ?_
  refine zb ?_
  refine za ?_
  refine zd ?_
  refine zc ?_
  refine nK2 ?_
  refine zb ?_
  refine zl ?_
  refine za ?_
  refine zc ?_
  refine nK2 ?_
  refine Next.weak [0, 1, 2] [] (by rfl) (keepsN hC _ rfl) wG wR wN hK5
 have hie : i = cs.length := by simp at hb; omega
 subst hie
 rw [List.drop_length] at hR
 have hT := tre_c now hnow a hnr
 simp only [updF] at hR
 subst hR
 refine nK2 ?_
 refine s_draw mixed ?_
 refine zk ?_
 refine zk ?_
 refine zx ?_
 refine zj ?_
 refine za ?_
 refine rpZ 107 rfl (op_call_pure (fun _ => hT) rfl (Opd.func _) (oS (oT rfl) (oS (oT rfl) (oS (oT rfl) Opds.nil)))) ?_
 refine za ?_
 refine zch ?_
 refine zch ?_
 refine zd ?_
 refine ze ?_
 refine zs ?_
 refine nK2 ?_
 refine Next.weakS [6, 7] [] (by rfl) (keeps0 hC _) (G' := [(6, .ptr 0 3 0 0), (7, .ptr 1 4 0 0), (8, IV .i64 (k : Nat)), (9, IV .i64 0)]) (H' := [(0, OG now), (1, OTr (trOf now a))]) wG wR rfl ?_
 exact s_o4 hC rfl tV tV tV tV
end Go.Proofs.YtcillieggklaaaaGreat
namespace Go.Pl
open Go Go.RT
set_option linter.all false
/- two lists of edges, one step -/
def ordV : List Edg → List Edg → Int
  | _, [] => -1
  | [], _ => 1
  | x :: _, y :: _ => ordE x y
def headC : List Edg → List Edg → List Edg
  | [], [] => []
  | x :: _, [] => [⟨x.f, x.t, -1⟩]
  | [], y :: _ => [y]
  | x :: _, y :: _ => if ordE x y < 0 then [⟨x.f, x.t, -1⟩] else if 0 < ordE x y ∨ x.c ≠ y.c then [y] else []
theorem headC_len (A B : List Edg) : (headC A B).length ≤ 1 := by
  unfold headC
  split
  · simp
  · simp
  · simp
  · split
    · simp
    · split <;> simp
theorem chM_drop {A B : List Edg} {i j : Nat} (hi : i ≤ A.length) (hj : j ≤ B.length) (h : i < A.length ∨ j < B.length) :
    chM (A.drop i) (B.drop j) = headC (A.drop i) (B.drop j) ++ chM (A.drop (i + if ordV (A.drop i) (B.drop j) ≤ 0 then 1 else 0)) (B.drop (j + if 0 ≤ ordV (A.drop i) (B.drop j) then 1 else 0)) := by
  have dA : ∀ (h1 : i < A.length), A.drop i = A[i] :: A.drop (i + 1) := fun h1 => List.drop_eq_getElem_cons h1
  have dB : ∀ (h2 : j < B.length), B.drop j = B[j] :: B.drop (j + 1) := fun h2 => List.drop_eq_getElem_cons h2
  have key : ∀ (P Q : List Edg) (P' Q' : List Edg), (P = [] ∧ P' = [] ∨ ∃ x, P = x :: P') → (Q = [] ∧ Q' = [] ∨ ∃ y, Q = y :: Q') → ¬ (P = [] ∧ Q = []) → chM P Q = headC P Q ++ chM (if ordV P Q ≤ 0 then P' else P) (if 0 ≤ ordV P Q then Q' else Q) := fun P Q P' Q' hP hQ hPQ => by
    rcases hP with ⟨rfl, rfl⟩ | ⟨x, rfl⟩
    · rcases hQ with ⟨rfl, rfl⟩ | ⟨y, rfl⟩
      · exact absurd ⟨rfl, rfl⟩ hPQ
      · simp [ordV, headC, chM]
    · rcases hQ with ⟨rfl, rfl⟩ | ⟨y, rfl⟩
      · simp [ordV, headC, chM]
      · have eo : ordV (x :: P') (y :: Q') = ordE x y := rfl
        have eh : headC (x :: P') (y :: Q') = if ordE x y < 0 then [⟨x.f, x.t, -1⟩] else if 0 < ordE x y ∨ x.c ≠ y.c then [y] else [] := rfl
        rw [eo, eh, chM]
        by_cases c1 : ordE x y < 0
        · rw [if_pos c1, if_pos c1, if_pos (by omega), if_neg (by omega)]; rfl
        · rw [if_neg c1, if_neg c1]
          by_cases c2 : 0 < ordE x y
          · rw [if_pos c2, if_pos (.inl c2), if_neg (by omega), if_pos (by omega)]; rfl
          · have l1 : ordE x y ≤ 0 := by omega
            have l2 : 0 ≤ ordE x y := by omega
            rw [if_neg c2, if_pos l1, if_pos l2]
            by_cases c3 : x.c ≠ y.c
            · rw [if_pos c3, if_pos (.inr c3)]
            · rw [if_neg c3, if_neg (fun q => q.elim c2 c3)]
  have hp := key (A.drop i) (B.drop j) (A.drop (i + 1)) (B.drop (j + 1)) (by
    by_cases h1 : i < A.length
    · exact .inr ⟨_, dA h1⟩
    · exact .inl ⟨List.drop_of_length_le (by omega), List.drop_of_length_le (by omega)⟩) (by
    by_cases h2 : j < B.length
    · exact .inr ⟨_, dB h2⟩
    · exact .inl ⟨List.drop_of_length_le (by omega), List.drop_of_length_le (by omega)⟩) (fun q => by
    have q1 := List.drop_eq_nil_iff.1 q.1
    have q2 := List.drop_eq_nil_iff.1 q.2
    omega)
  rw [hp]
  congr 2
  · split <;> simp
  · split <;> simp
/-- how far each side goes -/
theorem ordV_le {A B : List Edg} {i j : Nat} (hi : i ≤ A.length) (hj : j ≤ B.length) (h : i < A.length ∨ j < B.length) : (ordV (A.drop i) (B.drop j) ≤ 0 → i < A.length) ∧ (0 ≤ ordV (A.drop i) (B.drop j) → j < B.length) := by
  by_cases h1 : i < A.length
  · by_cases h2 : j < B.length
    · exact ⟨fun _ => h1, fun _ => h2⟩
    · have : B.drop j = [] := List.drop_of_length_le (by omega)
      rw [this]
      refine ⟨fun _ => h1, fun q => ?_⟩
      cases A.drop i <;> simp [ordV] at q
  · have e : A.drop i = [] := List.drop_of_length_le (by omega)
    rw [e]
    by_cases h2 : j < B.length
    · rw [List.drop_eq_getElem_cons h2]
      exact ⟨fun q => by simp [ordV] at q, fun _ => h2⟩
    · omega
theorem ordV_end {A B : List Edg} {i j : Nat} (hj : j = B.length) : ordV (A.drop i) (B.drop j) = -1 := by
  have : B.drop j = [] := List.drop_of_length_le (by omega)
  rw [this]
  cases A.drop i <;> rfl
theorem ordV_one {A B : List Edg} {i j : Nat} (hi : ¬ i < A.length) (h2 : j < B.length) : ordV (A.drop i) (B.drop j) = 1 := by
  have : A.drop i = [] := List.drop_of_length_le (by omega)
  rw [this, List.drop_eq_getElem_cons h2]; rfl
theorem ordV_both {A B : List Edg} {i j : Nat} (h1 : i < A.length) (h2 : j < B.length) : ordV (A.drop i) (B.drop j) = ordE A[i] B[j] := by
  rw [List.drop_eq_getElem_cons h1, List.drop_eq_getElem_cons h2]; rfl
/-- what is put out -/
theorem headC_neg {A B : List Edg} {i j : Nat} (h1 : i < A.length) (h : ordV (A.drop i) (B.drop j) < 0) : headC (A.drop i) (B.drop j) = [⟨A[i].f, A[i].t, -1⟩] := by
  rw [List.drop_eq_getElem_cons h1] at h ⊢
  by_cases h2 : j < B.length
  · rw [List.drop_eq_getElem_cons h2] at h ⊢
    simp only [ordV, headC] at h ⊢
    rw [if_pos h]
  · have : B.drop j = [] := List.drop_of_length_le (by omega)
    rw [this]; rfl
theorem headC_put {A B : List Edg} {i j : Nat} (h2 : j < B.length) (h : 0 < ordV (A.drop i) (B.drop j) ∨ ordV (A.drop i) (B.drop j) = 0 ∧ ∀ h1 : i < A.length, A[i].c ≠ B[j].c) : headC (A.drop i) (B.drop j) = [B[j]] := by
  rw [List.drop_eq_getElem_cons h2] at h ⊢
  by_cases h1 : i < A.length
  · rw [List.drop_eq_getElem_cons h1] at h ⊢
    simp only [ordV, headC] at h ⊢
    rw [if_neg (by omega), if_pos]
    rcases h with h | h
    · exact .inl h
    · exact .inr (h.2 h1)
  · have : A.drop i = [] := List.drop_of_length_le (by omega)
    rw [this]; rfl
theorem headC_no {A B : List Edg} {i j : Nat} (h1 : i < A.length) (h2 : j < B.length) (h : ordV (A.drop i) (B.drop j) = 0) (hc : A[i].c = B[j].c) : headC (A.drop i) (B.drop j) = [] := by
  rw [List.drop_eq_getElem_cons h2, List.drop_eq_getElem_cons h1] at h ⊢
  simp only [ordV, headC] at h ⊢
  rw [if_neg (by omega), if_neg]
  rintro (q | q)
  · omega
  · exact q hc
end Go.Pl
namespace Go.Proofs.YtcillieggklaaaaGreat
open Go Go.RT Go.Proofs Go.Pl
set_option linter.all false
set_option maxRecDepth 20000
set_option maxHeartbeats 4000000
open Go Go.RT Go.Proofs Go.Pl
set_option maxRecDepth 20000
set_option maxHeartbeats 4000000
theorem wHX208a {α : Prop} (h : α := by repeat (first | exact trivial | refine ⟨⟨_, rfl, .inl ⟨rfl, rfl⟩⟩, ?_⟩)) : α := h
theorem wHX208b {α : Prop} (h : α := by repeat (first | exact trivial | refine ⟨wS, ?_⟩ | refine ⟨ent_same rfl rfl (rfEq rfl tU) tL, ?_⟩ | refine ⟨ent_same rfl rfl (flEq rfl (by first | (simp; done) | (simp; omega) | (simp [encE, encN, encB, encT, encL]; done) | simp [maxC, minC])) trivial, ?_⟩)) : α := h
theorem same3_c (a b : List Int) (ha : a.length ≤ 9223372036854775807) (hb0 : b.length ≤ 9223372036854775807) : Pure Tryz.prog 17 [VI a, VI b] (Bf (decide (a = b))) := by
 refine Meets.intro Tryz.func17 rfl (Nat.le_of_ble_eq_true rfl) fun C hC => ?_
 simp only [List.map, argEnv, Nat.reduceAdd]
 refine nK ?_
 refine zb ?_
 refine ze ?_
 refine zc ?_
 refine nK ?_
 refine zb ?_
 refine za ?_
 refine zo ?_
 refine za ?_
 refine zo ?_
 refine zbg ?_
 refine zc ?_
 refine nK ?_
 refine n_cond _ rfl (fun hb => ?_) (fun hb => ?_)
 ·have e : decide (a = b) = false := by
   rw [decide_eq_false_iff_not]; rintro rfl; simp at hb
  rw [e]
  refine nK ?_
  refine zb ?_
  refine ze ?_
  refine zc ?_
  refine nK ?_
  exact wO hC
 have hl : a.length = b.length := by simp at hb; omega
 refine nK ?_
 refine zb ?_
 refine za ?_
 refine zo ?_
 refine zbb ?_
 refine zc ?_
 refine nK ?_
 refine n_loop (ι := Nat) (fun i => ([(1, .fz (VI b)), (12, .fz (VI a)), (13, IV .i64 a.length), (14, IV .i64 i)], [], 0)) (fun i => i ≤ a.length ∧ (a = b ↔ a.drop i = b.drop i)) (fun i => a.length - i) 0 ⟨Nat.zero_le _, Iff.rfl⟩ ?_ ?_
 ·refine Next.weak [] [] (by rfl) (keeps0 hC _) wHX208a wHX208b wN rel_intro
 intro i ⟨hi, ho⟩ K hK
 refine nK ?_
 refine zb ?_
 refine zp ?_
 refine zc ?_
 refine nK ?_
 refine n_cond _ rfl (fun hb => ?_) (fun hb => ?_)
 ·have hlt : i < a.length := by simp at hb; omega
  have hlt2 : i < b.length := by omega
  rw [same_step hlt hlt2] at ho
  have hr1 := row_at' encN a i hlt
  have hr2 := row_at' encN b i hlt2
  have hK1 := fun h => hK (i + 1) ⟨by omega, h⟩ (by omega)
  generalize a[i] = x at *
  generalize b[i] = y at *
  refine nK ?_
  refine zb ?_
  refine za ?_
  refine zz ?_
  refine zj ?_
  refine zd ?_
  refine zd ?_
  refine zc ?_
  refine nK ?_
  refine zb ?_
  refine za ?_
  refine za ?_
  refine za ?_
  refine zz ?_
  refine zj ?_
  refine zbg ?_
  refine zc ?_
  refine nK ?_
  refine n_cond _ rfl (fun hb => ?_) (fun hb => ?_)
  ·have e : decide (a = b) = false := by
    rw [decide_eq_false_iff_not, ho]; simp at hb; exact fun h => hb h.1
   rw [e]
   refine nK ?_
   refine zb ?_
   refine ze ?_
   refine zc ?_
   refine nK ?_
   exact wO hC
  refine nK ?_
  refine zb ?_
  refine zl ?_
  refine za ?_
  refine zc ?_
  refine nK ?_
  refine Next.weak [] [] (by rfl) (keeps0 hC _) wHX208a wHX208b wN (hK1 (ho.trans ⟨fun h => h.2, fun h => ⟨by simpa using hb, h⟩⟩))
 have hie : i = a.length := by simp at hb; omega
 have e : decide (a = b) = true := by
  rw [decide_eq_true_iff, ho, hie, List.drop_length, hl, List.drop_length]
 rw [e]
 refine nK ?_
 refine zb ?_
 refine ze ?_
 refine zc ?_
 refine nK ?_
 exact wO hC
theorem sameE_c (a b : List Edg) (ha : a.length ≤ 9223372036854775807) (hb0 : b.length ≤ 9223372036854775807) : Pure Tryz.prog 32 [VE a, VE b] (Bf (decide (a = b))) := by
 refine Meets.intro Tryz.func32 rfl (Nat.le_of_ble_eq_true rfl) fun C hC => ?_
 simp only [List.map, argEnv, Nat.reduceAdd]
 refine nK ?_
 refine zb ?_
 refine ze ?_
 refine zc ?_
 refine nK ?_
 refine zb ?_
 refine za ?_
 refine zo ?_
 refine za ?_
 refine zo ?_
 refine zbg ?_
 refine zc ?_
 refine nK ?_
 refine n_cond _ rfl (fun hb => ?_) (fun hb => ?_)
 ·have e : decide (a = b) = false := by
   rw [decide_eq_false_iff_not]; rintro rfl; simp at hb
  rw [e]
  refine nK ?_
  refine zb ?_
  refine ze ?_
  refine zc ?_
  refine nK ?_
  exact wO hC
 have hl : a.length = b.length := by simp at hb; omega
 refine nK ?_
 refine zb ?_
 refine za ?_
 refine zo ?_
 refine zbb ?_
 refine zc ?_
 refine nK ?_
 refine n_loop (ι := Nat) (fun i => ([(1, .fz (VE b)), (12, .fz (VE a)), (13, IV .i64 a.length), (14, IV .i64 i)], [], 0)) (fun i => i ≤ a.length ∧ (a = b ↔ a.drop i = b.drop i)) (fun i => a.length - i) 0 ⟨Nat.zero_le _, Iff.rfl⟩ ?_ ?_
 ·refine Next.weak [] [] (by rfl) (keeps0 hC _) wHX208a wHX208b wN rel_intro
 intro i ⟨hi, ho⟩ K hK
 refine nK ?_
 refine zb ?_
 refine zp ?_
 refine zc ?_
 refine nK ?_
 refine n_cond _ rfl (fun hb => ?_) (fun hb => ?_)
 ·have hlt : i < a.length := by simp at hb; omega
  have hlt2 : i < b.length := by omega
  rw [same_step hlt hlt2] at ho
  have hr1 := row_at' encE a i hlt
  have hr2 := row_at' encE b i hlt2
  have hK1 := fun h => hK (i + 1) ⟨by omega, h⟩ (by omega)
  generalize a[i] = x at *
  generalize b[i] = y at *
  refine nK ?_
  refine zb ?_
  refine za ?_
  refine zz ?_
  refine zbf ?_
  refine zu ?_
  refine zd ?_
  refine zr ?_
  refine zc ?_
  refine nK ?_
  refine s_draw mixed ?_
  refine zk ?_
  refine za ?_
  refine za ?_
  refine zz ?_
  refine zbf ?_
  refine rpZ 24 rfl (op_neS rfl (oT rfl) (oT rfl) (by kernel_rfl)) ?_
  refine zs ?_
  refine nK ?_
  refine n_cond _ rfl (fun hb => ?_) (fun hb => ?_)
  ·have e : decide (a = b) = false := by
    rw [decide_eq_false_iff_not, ho]; rw [eqFs_encE] at hb; simp at hb; exact fun h => hb h.1
   rw [e]
   refine nK ?_
   refine zb ?_
   refine ze ?_
   refine zc ?_
   refine nK ?_
   exact wO hC
  rw [eqFs_encE] at hb
  refine nK ?_
  refine zb ?_
  refine zl ?_
  refine za ?_
  refine zc ?_
  refine nK ?_
  refine Next.weak [] [] (by rfl) (keeps0 hC _) wHX208a wHX208b wN (hK1 (ho.trans ⟨fun h => h.2, fun h => ⟨by simpa using hb, h⟩⟩))
 have hie : i = a.length := by simp at hb; omega
 have e : decide (a = b) = true := by
  rw [decide_eq_true_iff, ho, hie, List.drop_length, hl, List.drop_length]
 rw [e]
 refine nK ?_
 refine zb ?_
 refine ze ?_
 refine zc ?_
 refine nK ?_
 exact wO hC
open Go Go.RT Go.Proofs Go.Pl
set_option maxRecDepth 20000
set_option maxHeartbeats 4000000
theorem wHX209a {α : Prop} (h : α := by repeat (first | exact trivial | refine ⟨⟨_, rfl, .inl ⟨rfl, rfl⟩⟩, ?_⟩)) : α := h
theorem wHX209b {α : Prop} (h : α := by repeat (first | exact trivial | refine ⟨wS, ?_⟩ | refine ⟨ent_same rfl rfl (rfEq rfl tU) tL, ?_⟩ | refine ⟨ent_same rfl rfl (flEq rfl (by first | (simp; done) | (simp; omega) | (simp [encE, encN, encB, encT, encL]; done) | simp [maxC, minC])) trivial, ?_⟩)) : α := h
theorem ore_c (l : List Int) (hn : l.length ≤ 1000000) : Pure Tryz.prog 46 [VI l] (If .i64 (orI l)) := by
 refine Meets.intro Tryz.func46 rfl (Nat.le_of_ble_eq_true rfl) fun C hC => ?_
 simp only [List.map, argEnv, Nat.reduceAdd]
 refine nK ?_
 refine zb ?_
 refine ze ?_
 refine zc ?_
 refine nK ?_
 refine zb ?_
 refine ze ?_
 refine zc ?_
 refine nK ?_
 refine zb ?_
 refine za ?_
 refine zo ?_
 refine zbb ?_
 refine zc ?_
 refine nK ?_
 refine n_loop (ι := Nat) (fun i => ([(3, IV .i64 0), (6, .fz (VI l)), (7, IV .i64 l.length), (8, IV .i64 i)], [], 0)) (fun i => i ≤ l.length ∧ orI (l.drop i) = orI l) (fun i => l.length - i) 0 ⟨Nat.zero_le _, rfl⟩ ?_ ?_
 ·refine Next.weak [] [] (by rfl) (keeps0 hC _) wHX209a wHX209b wN rel_intro
 intro i ⟨hi, ho⟩ K hK
 refine nK ?_
 refine zb ?_
 refine zp ?_
 refine zc ?_
 refine nK ?_
 refine n_cond _ rfl (fun hb => ?_) (fun hb => ?_)
 ·have hlt : i < l.length := by simp at hb; omega
  have hr1 := row_at' encN l i hlt
  rw [List.drop_eq_getElem_cons hlt] at ho
  simp only [orI] at ho
  have hK1 := fun h => hK (i + 1) ⟨by omega, h⟩ (by omega)
  generalize l[i] = x at *
  refine nK ?_
  refine zb ?_
  refine zz ?_
  refine zj ?_
  refine zd ?_
  refine zc ?_
  refine nK ?_
  refine zb ?_
  refine za ?_
  refine za ?_
  refine zbg ?_
  refine zc ?_
  refine nK ?_
  refine n_cond _ rfl (fun hb => ?_) (fun hb => ?_)
  ·rw [if_pos (by simpa using hb)] at ho
   rw [← ho]
   refine nK ?_
   refine zb ?_
   refine za ?_
   refine zd ?_
   refine zc ?_
   refine nK ?_
   exact wO hC
  rw [if_neg (by simpa using hb)] at ho
  refine nK ?_
  refine zb ?_
  refine zl ?_
  refine za ?_
  refine zc ?_
  refine nK ?_
  refine Next.weak [] [] (by rfl) (keeps0 hC _) wHX209a wHX209b wN (hK1 ho)
 have hie : i = l.length := by simp at hb; omega
 rw [hie, List.drop_length] at ho
 rw [← ho]
 refine nK ?_
 refine zb ?_
 refine za ?_
 refine zd ?_
 refine zc ?_
 refine nK ?_
 exact wO hC
theorem or2_eq (x y : Int) : orI [x, y] = if x ≠ 0 then x else y := by
 simp only [orI]
 by_cases h : x = 0 <;> by_cases h2 : y = 0 <;> simp [h, h2]
theorem changes_ok (a b : Gr) (ha : checkI a = 0) (hb0 : checkI b = 0) (hr : a.r = b.r) (hn : a.n = b.n) : Pure Tryz.prog 20 [.agg (encG a), .agg (encG b)] (.tup [VE (chM a.es b.es), If .i64 0]) := by
 have oka := okG_of ha
 have okb := okG_of hb0
 have hla := (checkI_ok ha).2.1
 have hlb := (checkI_ok hb0).2.1
 have hO : orI [checkI a, checkI b] = 0 := by rw [or2_eq, ha, hb0]; rfl
 refine Meets.intro Tryz.func20 rfl (Nat.le_of_ble_eq_true rfl) fun C hC => ?_
 simp only [List.map, argEnv, Nat.reduceAdd]
 refine nK ?_
 refine zb ?_
 refine zq ?_
 refine zq ?_
 refine ze ?_
 refine ze ?_
 refine zc ?_
 refine nK ?_
 refine s_draw mixed ?_
 refine zk ?_
 refine rpZ 12 rfl (op_call_pure (fun _ => check_c _ (by assumption)) rfl (Opd.func _) (oS (oT rfl) Opds.nil)) ?_
 refine zk ?_
 refine rpZ 14 rfl (op_call_pure (fun _ => check_c _ (by assumption)) rfl (Opd.func _) (oS (oT rfl) Opds.nil)) ?_
 refine zcs ?_
 refine rpZ 16 rfl (op_call_pure (fun _ => ore_c [_, _] (by simp)) rfl (Opd.func _) (oS (oT rfl) Opds.nil)) ?_
 refine zd ?_
 refine zs ?_
 refine nK ?_
 rw [hO]
 refine Next.weakS [] [2, 3] (by rfl) (keepsN hC _ rfl) (G' := [(2, .fz (.cellp (encG a))), (3, .fz (.cellp (encG b))), (6, IV .i64 0)]) (H' := []) wF trivial rfl ?_
 refine nK ?_
 refine zb ?_
 refine za ?_
 refine zbd ?_
 refine zc ?_
 refine nK ?_
 refine n_cond _ rfl (fun hb => ?_) (fun hb => ?_)
 ·simp at hb
 refine nK ?_
 refine zb ?_
 refine zx ?_
 refine zj ?_
 refine zx ?_
 refine zj ?_
 refine zbg ?_
 refine za ?_
 refine zbq ?_
 refine zw ?_
 refine zbq ?_
 refine zw ?_
 refine zcl ?_
 refine zv ?_
 refine zc ?_
 refine nK ?_
 refine n_cond _ rfl (fun hb => ?_) (fun hb => ?_)
 ·exfalso; simp at hb; omega
 clear hb
 refine nK ?_
 refine zb ?_
 refine ze ?_
 refine zc ?_
 refine nK ?_
 refine zb ?_
 refine ze ?_
 refine ze ?_
 refine zc ?_
 refine nK ?_
 refine Next.weakS [] [] (by rfl) (keepsN hC _ rfl) (G' := [(2, .fz (.cellp (encG a))), (3, .fz (.cellp (encG b))), (7, .fz (.lit (.slice none 0 0))), (8, IV .i64 0), (9, IV .i64 0)]) (H' := []) wF trivial rfl ?_
 refine Next.adopt 7 3 rfl ?_
 refine nK ?_
 generalize hRR : chM a.es b.es = RR at *
 refine n_loop (ι := List Edg × Nat × Nat) (fun s => ([(2, .fz (.cellp (encG a))), (3, .fz (.cellp (encG b))), (7, .sl 0 3 0 s.1.length), (8, IV .i64 (s.2.1 : Nat)), (9, IV .i64 (s.2.2 : Nat))], [(0, OE s.1)], 1)) (fun s => s.2.1 ≤ a.es.length ∧ s.2.2 ≤ b.es.length ∧ s.1.length ≤ s.2.1 + s.2.2 ∧ s.1 ++ chM (a.es.drop s.2.1) (b.es.drop s.2.2) = RR) (fun s => (a.es.length - s.2.1) + (b.es.length - s.2.2)) ([], 0, 0) ⟨Nat.zero_le _, Nat.zero_le _, Nat.le_refl _, by simpa using hRR⟩ ?_ ?_
 ·refine Next.weak [0] [] (by rfl) (keepsN hC _ rfl) wG wR wN rel_intro
 intro ⟨out, i, j⟩ ⟨hi, hj, hol, hR⟩ K hK
 try dsimp only at hi hj hol hR hK ⊢
 refine nK ?_
 refine zb ?_
 refine za ?_
 refine zx ?_
 refine zj ?_
 refine zo ?_
 refine zp ?_
 refine za ?_
 refine zf ?_
 refine zbq ?_
 refine zw ?_
 refine zbt ?_
 refine zbk ?_
 refine zv ?_
 refine zc ?_
 refine nK ?_
 refine n_cond _ rfl (fun hb => ?_) (fun hb => ?_)
 ·have hij : i < a.es.length ∨ j < b.es.length := by
   simp only [Bool.or_eq_true, decide_eq_true_eq] at hb; omega
  have hst := chM_drop hi hj hij
  have hle := ordV_le hi hj hij
  have hrA := fun h => row_of encE a.es i zE h
  have hrB := fun h => row_of encE b.es j zE h
  have hxA : ∀ h : i < a.es.length, a.es[i] = a.es.getD i zE := fun h => by simp [List.getD_eq_getElem?_getD, h]
  have hyB : ∀ h : j < b.es.length, b.es[j] = b.es.getD j zE := fun h => by simp [List.getD_eq_getElem?_getD, h]
  have vE : i < a.es.length → j < b.es.length → ordV (a.es.drop i) (b.es.drop j) = ordE (a.es.getD i zE) (b.es.getD j zE) := fun h1 h2 => by rw [ordV_both h1 h2, hxA h1, hyB h2]
  have hN : i < a.es.length → ordV (a.es.drop i) (b.es.drop j) < 0 → headC (a.es.drop i) (b.es.drop j) = [⟨(a.es.getD i zE).f, (a.es.getD i zE).t, -1⟩] := fun h1 h2 => by rw [headC_neg h1 h2, hxA h1]
  have hP : j < b.es.length → (0 < ordV (a.es.drop i) (b.es.drop j) ∨ ordV (a.es.drop i) (b.es.drop j) = 0 ∧ (a.es.getD i zE).c ≠ (b.es.getD j zE).c) → headC (a.es.drop i) (b.es.drop j) = [b.es.getD j zE] := fun h1 h2 => by
   rw [headC_put h1 (h2.imp id fun q => ⟨q.1, fun h3 => by rw [hxA h3, hyB h1]; exact q.2⟩), hyB h1]
  have hQ : i < a.es.length → j < b.es.length → ordV (a.es.drop i) (b.es.drop j) = 0 → (a.es.getD i zE).c = (b.es.getD j zE).c → headC (a.es.drop i) (b.es.drop j) = [] := fun h1 h2 h3 h4 => headC_no h1 h2 h3 (by rw [hxA h1, hyB h2]; exact h4)
  have hO1 : ¬ i < a.es.length → j < b.es.length → ordV (a.es.drop i) (b.es.drop j) = 1 := fun h1 h2 => ordV_one h1 h2
  have hO2 : j = b.es.length → ordV (a.es.drop i) (b.es.drop j) = -1 := fun h => ordV_end h
  have hhl := headC_len (a.es.drop i) (b.es.drop j)
  rw [hst] at hR
  clear hst hxA hyB hb
  generalize a.es.getD i zE = x at *
  generalize b.es.getD j zE = y at *
  have hor : ordE x y = orI [cmpI x.f y.f, cmpI x.t y.t] := by
   rw [or2_eq]; rfl
  generalize ordV (a.es.drop i) (b.es.drop j) = o at *
  generalize headC (a.es.drop i) (b.es.drop j) = hd at *
  have hK1 := hK (out ++ hd, i + (if o ≤ 0 then 1 else 0), j + (if 0 ≤ o then 1 else 0)) ⟨by dsimp only; have := hle.1; split <;> omega, by dsimp only; have := hle.2; split <;> omega, by dsimp only; rw [List.length_append]; split <;> split <;> omega, by dsimp only; rw [List.append_assoc]; exact hR⟩ (by dsimp only; have h1 := hle.1; have h2 := hle.2; split <;> split <;> omega)
  dsimp only at hK1
  clear hK hR
  refine nK ?_
  refine zb ?_
  refine ze ?_
  refine zc ?_
  refine nK ?_
  refine zb ?_
  refine za ?_
  refine zx ?_
  refine zj ?_
  refine zo ?_
  refine zbr ?_
  refine zd ?_
  refine zc ?_
  refine nK ?_
  refine n_joinB [(2, .fz (.cellp (encG a))), (3, .fz (.cellp (encG b))), (7, .sl 0 3 0 out.length), (8, IV .i64 (i : Nat)), (9, IV .i64 (j : Nat)), (10, IV .i64 o)] [(0, OE out)] 1 ?_ ?_
  ·refine nK ?_
   refine n_cond _ rfl (fun hb => ?_) (fun hb => ?_)
   ·have hjl : j = b.es.length := by simp at hb; omega
    rw [hO2 hjl]
    refine nK ?_
    refine zb ?_
    refine ze ?_
    refine zc ?_
    refine nK ?_
    refine Next.weak [0] [] (by rfl) (keepsN hC _ rfl) wG wR wN rel_intro
   have hjl : j < b.es.length := by simp at hb; omega
   refine nK ?_
   refine zb ?_
   refine za ?_
   refine zx ?_
   refine zj ?_
   refine zo ?_
   refine zp ?_
   refine zd ?_
   refine zc ?_
   refine nK ?_
   refine n_cond _ rfl (fun hb => ?_) (fun hb => ?_)
   ·have hil : i < a.es.length := by simp at hb; omega
    have hxr := hrA hil
    have hyr := hrB hjl
    rw [vE hil hjl, hor]
    refine nK ?_
    refine s_draw mixed ?_
    refine zx ?_
    refine zj ?_
    refine za ?_
    refine rpZ 59 rfl (op_idx_fz i rfl (oT rfl) (oT rfl) (by intro _; exact ⟨rfl, hxr⟩)) ?_
    refine zx ?_
    refine zj ?_
    refine zx ?_
    refine zj ?_
    refine za ?_
    refine rpZ 65 rfl (op_idx_fz j rfl (oT rfl) (oT rfl) (by intro _; exact ⟨rfl, hyr⟩)) ?_
    refine zx ?_
    refine zj ?_
    refine rpZ 68 rfl (op_call_pure (fun _ => cmp_c _ _) rfl (Opd.func _) (oS (oT rfl) (oS (oT rfl) Opds.nil))) ?_
    refine zx ?_
    refine zj ?_
    refine za ?_
    refine rpZ 72 rfl (op_idx_fz i rfl (oT rfl) (oT rfl) (by intro _; exact ⟨rfl, hxr⟩)) ?_
    refine zx ?_
    refine zj ?_
    refine zx ?_
    refine zj ?_
    refine za ?_
    refine rpZ 78 rfl (op_idx_fz j rfl (oT rfl) (oT rfl) (by intro _; exact ⟨rfl, hyr⟩)) ?_
    refine zx ?_
    refine zj ?_
    refine rpZ 81 rfl (op_call_pure (fun _ => cmp_c _ _) rfl (Opd.func _) (oS (oT rfl) (oS (oT rfl) Opds.nil))) ?_
    refine zcs ?_
    refine rpZ 83 rfl (op_call_pure (fun _ => or_c [_, _] (by simp)) rfl (Opd.func _) (oS (oT rfl) Opds.nil)) ?_
    refine zd ?_
    refine zs ?_
    refine nK ?_
    refine Next.weak [0] [] (by rfl) (keepsN hC _ rfl) wG wR wN rel_intro
   have hil : ¬ i < a.es.length := by simp at hb; omega
   rw [hO1 hil hjl]
   refine nK ?_
   refine Next.weak [0] [] (by rfl) (keepsN hC _ rfl) wG wR wN rel_intro
  clear hO1 hO2 vE hor
  refine nK ?_
  refine zb ?_
  refine za ?_
  refine zbn ?_
  refine zd ?_
  refine zc ?_
  refine nK ?_
  refine n_joinB [(2, .fz (.cellp (encG a))), (3, .fz (.cellp (encG b))), (7, .sl 0 3 0 (out ++ hd).length), (8, IV .i64 (i : Nat)), (9, IV .i64 (j : Nat)), (10, IV .i64 o)] [(0, OE (out ++ hd))] 1 ?_ ?_
  ·refine nK ?_
   refine n_cond _ rfl (fun hb => ?_) (fun hb => ?_)
   ·have ho : o < 0 := by simpa using hb
    have hil := hle.1 (by omega)
    have hxr := hrA hil
    rw [hN hil ho]
    refine nK ?_
    refine s_draw mixed ?_
    refine za ?_
    refine zx ?_
    refine zj ?_
    refine za ?_
    refine rpZ 91 rfl (op_idx_fz i rfl (oT rfl) (oT rfl) (by intro _; exact ⟨rfl, hxr⟩)) ?_
    refine zx ?_
    refine zj ?_
    refine zx ?_
    refine zj ?_
    refine za ?_
    refine rpZ 97 rfl (op_idx_fz i rfl (oT rfl) (oT rfl) (by intro _; exact ⟨rfl, hxr⟩)) ?_
    refine zx ?_
    refine zj ?_
    refine zdj ?_
    refine zbh ?_
    refine zco ?_
    refine zd ?_
    refine zs ?_
    refine nK ?_
    refine Next.weak [1] [] (by rfl) (keepsN hC _ rfl) wG (by exact ⟨ent_same rfl rfl (flEq rfl (by rw [List.map_append]; rfl)) trivial, trivial⟩) wN rel_intro
   have ho : 0 ≤ o := by simpa using hb
   have hjl := hle.2 ho
   have hyr := hrB hjl
   refine nK ?_
   refine s_draw mixed ?_
   refine za ?_
   refine zcg ?_
   refine za ?_
   refine zbq ?_
   refine zw ?_
   refine zf ?_
   refine rgZ 110 rfl rfl tG (op_idx_fz i rfl (oO rfl tO) (oO rfl tO) (by intro hg; simp at hg; exact ⟨rfl, hrA (hle.1 (by omega))⟩)) ?_
   refine zdg ?_
   refine zw ?_
   refine zbq ?_
   refine zw ?_
   refine zf ?_
   refine rgZ 116 rfl rfl tG (op_idx_fz j rfl (oO rfl tO) (oO rfl tO) (by intro _; exact ⟨rfl, hyr⟩)) ?_
   refine zdg ?_
   refine zw ?_
   refine zcl ?_
   refine zv ?_
   refine zd ?_
   refine zs ?_
   refine nK ?_
   refine n_cond _ rfl (fun hb => ?_) (fun hb => ?_)
   ·have hc : 0 < o ∨ o = 0 ∧ x.c ≠ y.c := by
     simp only [Bool.or_eq_true, decide_eq_true_eq, Bool.not_eq_true', decide_eq_false_iff_not] at hb
     rcases hb with h | h
     ·left; omega
     by_cases h0 : 0 < o
     ·exact .inl h0
     exact .inr ⟨by omega, h⟩
    rw [hP hjl hc]
    refine nK ?_
    refine zb ?_
    refine za ?_
    refine zx ?_
    refine zj ?_
    refine za ?_
    refine rpZ 125 rfl (op_idx_fz j rfl (oT rfl) (oT rfl) (by intro _; exact ⟨rfl, hyr⟩)) ?_
    refine zbf ?_
    refine zbh ?_
    refine zbu ?_
    refine zd ?_
    refine zc ?_
    refine nK ?_
    refine Next.weak [1] [] (by rfl) (keepsN hC _ rfl) wG (by exact ⟨ent_same rfl rfl (flEq rfl (by rw [List.map_append]; rfl)) trivial, trivial⟩) wN rel_intro
   have hc : o = 0 ∧ x.c = y.c := by
    simp at hb
    exact ⟨by omega, hb.2⟩
   rw [hQ (hle.1 (by omega)) hjl hc.1 hc.2, List.append_nil]
   refine nK ?_
   refine Next.weak [0] [] (by rfl) (keepsN hC _ rfl) wG wR wN rel_intro
  generalize out ++ hd = out2 at *
  refine nK ?_
  refine zb ?_
  refine za ?_
  refine rpZ 130 rfl (op_leq rfl (oT rfl) oC) ?_
  refine zc ?_
  refine nK ?_
  refine n_join [(2, .fz (.cellp (encG a))), (3, .fz (.cellp (encG b))), (7, .sl 0 3 0 out2.length), (8, IV .i64 (i + (if o ≤ 0 then 1 else 0) : Nat)), (9, IV .i64 (j : Nat)), (10, IV .i64 o)] [(0, OE out2)] 1 ?_ ?_
  ·refine nK ?_
   refine n_cond _ rfl (fun hb => ?_) (fun hb => ?_)
   ·rw [if_pos (by simpa using hb)]
    refine nK ?_
    refine zb ?_
    refine za ?_
    refine zl ?_
    refine zd ?_
    refine zc ?_
    refine nK ?_
    refine Next.weak [0] [] (by rfl) (keepsN hC _ rfl) wG wR wN rel_intro
   rw [if_neg (by simpa using hb), Nat.add_zero]
   refine nK ?_
   refine Next.weak [0] [] (by rfl) (keepsN hC _ rfl) wG wR wN rel_intro
  generalize i + (if o ≤ 0 then 1 else 0) = i2 at *
  refine nK ?_
  refine zb ?_
  refine za ?_
  refine zby ?_
  refine zc ?_
  refine nK ?_
  refine n_cond _ rfl (fun hb => ?_) (fun hb => ?_)
  ·rw [if_pos (by simpa using hb)] at hK1
   refine nK ?_
   refine zb ?_
   refine za ?_
   refine zl ?_
   refine zd ?_
   refine zc ?_
   refine nK ?_
   refine Next.weak [0] [] (by rfl) (keepsN hC _ rfl) wG wR wN hK1
  rw [if_neg (by simpa using hb), Nat.add_zero] at hK1
  refine nK ?_
  refine Next.weak [0] [] (by rfl) (keepsN hC _ rfl) wG wR wN hK1
 have hie : i = a.es.length ∧ j = b.es.length := by
  simp at hb; omega
 obtain ⟨rfl, rfl⟩ := hie
 rw [List.drop_length, List.drop_length, show chM [] [] = [] by simp [chM], List.append_nil] at hR
 subst hR
 refine nK ?_
 refine zb ?_
 refine za ?_
 refine zd ?_
 refine ze ?_
 refine zc ?_
 refine nK ?_
 refine Next.weakS [] [4] (by rfl) (keeps0 hC _) (G' := [(4, .fz (VE out)), (5, IV .i64 0)]) (H' := []) (by exact ⟨⟨_, rfl, .inr ⟨_, rfl, .sl _ _ _ _ _ _ rfl rfl (take_all0 (List.length_map _)) (List.length_map _)⟩⟩, ⟨⟨_, rfl, .inl ⟨rfl, rfl⟩⟩, trivial⟩⟩) trivial rfl ?_
 exact wO hC
open Go Go.RT Go.Proofs Go.Pl
set_option maxRecDepth 20000
set_option maxHeartbeats 4000000
open Go Go.RT Go.Proofs Go.Pl
set_option maxRecDepth 20000
set_option maxHeartbeats 4000000
theorem rupdate_bad (g : Gr) (t : Tr) (cs : List Edg) (hok : okG g) (hg : checkI g ≠ 0) : Pure Tryz.prog 12 [.agg (encG g), .agg (encTr t), VE cs] (.tup [.agg (encG zeroG), .agg (encTr zeroT), If .i64 0, If .i64 (checkI g)]) := by
 refine Meets.intro Tryz.func12 rfl (Nat.le_of_ble_eq_true rfl) fun C hC => ?_
 simp only [List.map, argEnv, Nat.reduceAdd]
 refine nK2 ?_
 refine zb ?_
 refine zq ?_
 refine zq ?_
 refine zu ?_
 refine zu ?_
 refine ze ?_
 refine ze ?_
 refine zc ?_
 refine nK2 ?_
 refine zb ?_
 refine zk ?_
 refine rpZ 23 rfl (op_call_pure (fun _ => rcheck_c _ (by assumption)) rfl (Opd.func _) (oS (oT rfl) Opds.nil)) ?_
 refine zd ?_
 refine zc ?_
 refine nK2 ?_
 refine zb ?_
 refine za ?_
 refine zbd ?_
 refine zc ?_
 refine nK2 ?_
 refine n_cond _ rfl (fun hb => ?_) (fun hb => ?_)
 ·refine nK2 ?_
  refine zb ?_
  refine zbm ?_
  refine zbm ?_
  refine za ?_
  refine zr ?_
  refine zr ?_
  refine ze ?_
  refine zd ?_
  refine zc ?_
  refine nK2 ?_
  (refine Next.weakS [6, 7] [] (by rfl) (keeps0 hC _) (G' := [(6, .ptr 0 3 0 0), (7, .ptr 1 4 0 0), (8, .fz _), (9, .fz _)]) (H' := [(0, OG zeroG), (1, OTr zeroT)]) wG (by exact ⟨⟨rfl, rfl, .fflat _ _ _ rfl tW⟩, ⟨⟨rfl, rfl, .fflat _ _ _ rfl tW⟩, trivial⟩⟩) rfl ?_; exact s_o4 hC rfl tV tV tV tV)
 simp at hb; omega
theorem rupdate_not (g : Gr) (t u : Tr) (e : Int) (cs : List Edg) (hok : okG g) (hg : checkI g = 0) (ht : smT t) (hu : smT u) (hr : Pure Tryz.prog 15 [.agg (encG g), If .i64 t.root] (.tup [.agg (encTr u), If .i64 e])) (hne : ¬ (e = 0 ∧ u = t)) : Pure Tryz.prog 12 [.agg (encG g), .agg (encTr t), VE cs] (.tup [.agg (encG zeroG), .agg (encTr zeroT), If .i64 0, If .i64 1]) := by
 have hs := rsame_c u t hu ht
 refine Meets.intro Tryz.func12 rfl (Nat.le_of_ble_eq_true rfl) fun C hC => ?_
 simp only [List.map, argEnv, Nat.reduceAdd]
 refine nK2 ?_
 refine zb ?_
 refine zq ?_
 refine zq ?_
 refine zu ?_
 refine zu ?_
 refine ze ?_
 refine ze ?_
 refine zc ?_
 refine nK2 ?_
 refine zb ?_
 refine zk ?_
 refine rpZ 23 rfl (op_call_pure (fun _ => rcheck_c _ (by assumption)) rfl (Opd.func _) (oS (oT rfl) Opds.nil)) ?_
 refine zd ?_
 refine zc ?_
 refine nK2 ?_
 refine zb ?_
 refine za ?_
 refine zbd ?_
 refine zc ?_
 refine nK2 ?_
 refine n_cond _ rfl (fun hb => ?_) (fun hb => ?_)
 ·simp at hb; omega
 refine nK2 ?_
 refine zb ?_
 refine zk ?_
 refine zg ?_
 refine zh ?_
 refine rpZ 33 rfl (op_call_pure (fun _ => hr) rfl (Opd.func _) (oS (oT rfl) (oS (oT rfl) Opds.nil))) ?_
 refine za ?_
 refine zi ?_
 refine zi ?_
 refine zu ?_
 refine zr ?_
 refine zd ?_
 refine zc ?_
 refine nK2 ?_
 refine zb ?_
 refine za ?_
 refine zbd ?_
 refine za ?_
 refine zbe ?_
 refine zbe ?_
 refine rgZ 41 rfl rfl tG (op_call_pure (fun _ => hs) rfl (Opd.func _) (oS (oO rfl tO) (oS (oO rfl tO) Opds.nil))) ?_
 refine zbl ?_
 refine zv ?_
 refine zc ?_
 refine nK2 ?_
 refine n_cond _ rfl (fun hb => ?_) (fun hb => ?_)
 ·refine nK2 ?_
  refine zb ?_
  refine zbm ?_
  refine zbm ?_
  refine zr ?_
  refine zr ?_
  refine ze ?_
  refine ze ?_
  refine zc ?_
  refine nK2 ?_
  (refine Next.weakS [6, 7] [] (by rfl) (keeps0 hC _) (G' := [(6, .ptr 0 3 0 0), (7, .ptr 1 4 0 0), (8, .fz _), (9, .fz _)]) (H' := [(0, OG zeroG), (1, OTr zeroT)]) wG (by exact ⟨⟨rfl, rfl, .fflat _ _ _ rfl tW⟩, ⟨⟨rfl, rfl, .fflat _ _ _ rfl tW⟩, trivial⟩⟩) rfl ?_; exact s_o4 hC rfl tV tV tV tV)
 exfalso; simp at hb; exact hne hb
theorem rupdate_run (g : Gr) (a : Nat) (cs : List Edg) (hg : checkI g = 0) (har : (a : Int) < g.r) (hcs : okEs cs) (hl : cs.length ≤ 1000000) : Pure Tryz.prog 12 [.agg (encG g), .agg (encTr (trOf g a)), VE cs] (.tup [.agg (encG (updF a g cs 0).1), .agg (encTr (updF a g cs 0).2.1), If .i64 ((updF a g cs 0).2.2.1 : Nat), If .i64 (updF a g cs 0).2.2.2]) := by
 have hok := okG_of hg
 have hm128 : g.m ≤ 128 := (checkI_vg hg).1.n128
 have hsm := smT_run (trOf_ok hg har)
 have hs := rsame_c (trOf g a) (trOf g a) hsm hsm
 rw [decide_eq_true rfl] at hs
 have hr0 : RT.Pure Tryz.prog 15 [.agg (encG g), If .i64 (a : Int)] (.tup [.agg (encTr (trOf g a)), If .i64 0]) := rrun_c g a hok hg har
 have hroot : (encTr (trOf g a))[0]? = some (If .i64 (a : Int)) := rfl
 have hrt : (trOf g a).root = (a : Int) := rfl
 generalize hRR : updF a g cs 0 = RR at *
 refine Meets.intro Tryz.func12 rfl (Nat.le_of_ble_eq_true rfl) fun C hC => ?_
 simp only [List.map, argEnv, Nat.reduceAdd]
 refine nK2 ?_
 refine zb ?_
 refine zq ?_
 refine zq ?_
 refine zu ?_
 refine zu ?_
 refine ze ?_
 refine ze ?_
 refine zc ?_
 refine nK2 ?_
 refine zb ?_
 refine zk ?_
 refine rpZ 23 rfl (op_call_pure (fun _ => rcheck_c _ (by assumption)) rfl (Opd.func _) (oS (oT rfl) Opds.nil)) ?_
 refine zd ?_
 refine zc ?_
 refine nK2 ?_
 refine zb ?_
 refine za ?_
 refine zbd ?_
 refine zc ?_
 refine nK2 ?_
 refine n_cond _ rfl (fun hb => ?_) (fun hb => ?_)
 ·simp at hb; omega
 refine nK2 ?_
 refine zb ?_
 refine zk ?_
 refine zg ?_
 refine zh ?_
 refine rpZ 33 rfl (op_call_pure (fun _ => hr0) rfl (Opd.func _) (oS (oT rfl) (oS (oT rfl) Opds.nil))) ?_
 refine za ?_
 refine zi ?_
 refine zi ?_
 refine zu ?_
 refine zr ?_
 refine zd ?_
 refine zc ?_
 refine nK2 ?_
 refine zb ?_
 refine za ?_
 refine zbd ?_
 refine za ?_
 refine zbe ?_
 refine zbe ?_
 refine rgZ 41 rfl rfl tG (op_call_pure (fun _ => hs) rfl (Opd.func _) (oS (oO rfl tO) (oS (oO rfl tO) Opds.nil))) ?_
 refine zbl ?_
 refine zv ?_
 refine zc ?_
 refine nK2 ?_
 refine nK2 ?_
 refine n_cond _ rfl (fun hb => ?_) (fun hb => ?_)
 ·simp at hb
 clear hok hs hr0 hsm
 refine nK2 ?_
 refine zb ?_
 refine ze ?_
 refine zc ?_
 refine nK2 ?_
 refine Next.weakS [6, 7, 3, 11] [4] (by rfl) (keepsN hC _ rfl) (G' := [(4, .fz (.cellp (encTr (trOf g a)))), (6, .ptr 0 3 0 0), (7, .ptr 1 4 0 0), (3, .ptr 2 3 0 0), (11, .ptr 3 4 0 0), (2, .fz (VE cs)), (13, IV .i64 0)]) (H' := [(0, OG zeroG), (1, OTr zeroT), (2, OG g), (3, OTr (trOf g a))]) wF (by exact ⟨⟨rfl, rfl, .fflat _ _ _ rfl tW⟩, ⟨⟨rfl, rfl, .fflat _ _ _ rfl tW⟩, ⟨wS, ⟨wS, trivial⟩⟩⟩⟩) rfl ?_
 refine nK2 ?_
 refine zb ?_
 refine za ?_
 refine zo ?_
 refine zbb ?_
 refine zc ?_
 refine nK2 ?_
 refine n_loop (ι := Gr × Nat × Nat) (fun s => ([(4, .fz (.cellp (encTr (trOf g a)))), (6, .ptr 0 3 0 0), (7, .ptr 1 4 0 0), (3, .ptr 2 3 0 0), (11, .ptr 3 4 0 0), (13, IV .i64 (s.2.1 : Nat)), (46, .fz (VE cs)), (47, IV .i64 cs.length), (48, IV .i64 (s.2.2 : Nat))], [(0, OG zeroG), (1, OTr zeroT), (2, OG s.1), (3, OTr (trOf s.1 a))], 4)) (fun s => s.2.2 ≤ cs.length ∧ checkI s.1 = 0 ∧ (a : Int) < s.1.r ∧ s.1.m = g.m ∧ s.2.1 ≤ 128 * s.2.2 ∧ updF a s.1 (cs.drop s.2.2) s.2.1 = RR) (fun s => cs.length - s.2.2) (g, 0, 0) ⟨Nat.zero_le _, hg, har, rfl, Nat.zero_le _, hRR⟩ ?_ ?_
 ·refine Next.weak [0, 1, 2, 3] [] (by rfl) (keepsN hC _ rfl) wG wR wN rel_intro
 intro ⟨now, k, i⟩ ⟨hi, hnow, hnr, hnm, hk, hR⟩ K hK
 try dsimp only at hi hnow hnr hnm hk hR hK ⊢
 refine nK2 ?_
 refine zb ?_
 refine zp ?_
 refine zc ?_
 refine nK2 ?_
 refine n_cond _ rfl (fun hb => ?_) (fun hb => ?_)
 ·have hlt : i < cs.length := by simp at hb; omega
  have hr1 := row_at' encE cs i hlt
  have hce := hcs _ (List.getElem_mem hlt)
  rw [List.drop_eq_getElem_cons hlt] at hR
  have hK1 := fun now' k' h1 h2 h3 h4 h5 => hK (now', k', i + 1) ⟨by dsimp only; omega, h1, h2, h3, h4, h5⟩ (by dsimp only; omega)
  dsimp only at hK1
  generalize cs[i] = c at *
  have hoN := okG_of hnow
  have hap := rapply_c now [c] hoN (by simp) (by simpa [okEs] using hce)
  refine nK2 ?_
  refine zb ?_
  refine zz ?_
  refine zbf ?_
  refine zu ?_
  refine zr ?_
  refine zc ?_
  refine nK2 ?_
  refine zb ?_
  refine zk ?_
  refine zk ?_
  refine zbh ?_
  refine rpZ 56 rfl (op_call_pure (fun _ => hap) rfl (Opd.func _) (oS (oT rfl) (oS (oT rfl) Opds.nil))) ?_
  refine za ?_
  refine zi ?_
  refine zi ?_
  refine zu ?_
  refine zr ?_
  refine zd ?_
  refine zc ?_
  refine nK2 ?_
  refine zb ?_
  refine za ?_
  refine zbd ?_
  refine zc ?_
  refine nK2 ?_
  refine n_cond _ rfl (fun hb => ?_) (fun hb => ?_)
  ·have hz : (applyF now [c]).2 ≠ 0 := by simpa using hb
   rw [updF_no hz] at hR
   subst hR
   refine nK2 ?_
   refine zb ?_
   refine zbm ?_
   refine zbm ?_
   refine za ?_
   refine zr ?_
   refine zr ?_
   refine ze ?_
   refine zd ?_
   refine zc ?_
   refine nK2 ?_
   (refine Next.weakS [6, 7] [] (by rfl) (keeps0 hC _) (G' := [(6, .ptr 0 3 0 0), (7, .ptr 1 4 0 0), (8, .fz _), (9, .fz _)]) (H' := [(0, OG zeroG), (1, OTr zeroT)]) wG (by exact ⟨⟨rfl, rfl, .fflat _ _ _ rfl tW⟩, ⟨⟨rfl, rfl, .fflat _ _ _ rfl tW⟩, trivial⟩⟩) rfl ?_; exact s_o4 hC rfl tV tV tV tV)
  have hz : (applyF now [c]).2 = 0 := by simpa using hb
  obtain ⟨es', h1, h2, h3, _⟩ := one_ok hnow hz
  have hK2 := fun k' h4 h5 => hK1 (applyF now [c]).1 k' (by rw [h1]; exact h3) (by rw [h1]; exact hnr) (by rw [h1]; exact hnm) h4 h5
  rw [updF_yes hz] at hR
  have hdl := trOf_dl (g := now) (a := a)
  have hDl := trOf_dl (g := (applyF now [c]).1) (a := a)
  have hm2 : (applyF now [c]).1.m = g.m := by rw [h1]; exact hnm
  have hnw : checkI (applyF now [c]).1 = 0 := by rw [h1]; exact h3
  have hnwr : (a : Int) < (applyF now [c]).1.r := by rw [h1]; exact hnr
  have hrN : RT.Pure Tryz.prog 15 [.agg (encG (applyF now [c]).1), If .i64 (a : Int)] (.tup [.agg (encTr (trOf (applyF now [c]).1 a)), If .i64 0]) := rrun_c _ a (okG_of hnw) hnw hnwr
  rw [hm2] at hDl
  rw [hnm] at hdl hR
  clear hap hK1 h1 h2 h3
  generalize (applyF now [c]).1 = nw at *
  refine nK2 ?_
  refine zb ?_
  refine zk ?_
  refine zx ?_
  refine zj ?_
  refine rpZ 68 rfl (op_call_pure (fun _ => hrN) rfl (Opd.func _) (oS (oT rfl) (oS (oT rfl) Opds.nil))) ?_
  refine za ?_
  refine zi ?_
  refine zi ?_
  refine zu ?_
  refine zr ?_
  refine zd ?_
  refine zc ?_
  refine nK2 ?_
  refine Next.weakS [6, 7, 3, 11, 16, 18] [] (by rfl) (keepsN hC _ rfl) (G' := [(4, .fz (.cellp (encTr (trOf g a)))), (6, .ptr 0 3 0 0), (7, .ptr 1 4 0 0), (3, .ptr 2 3 0 0), (11, .ptr 3 4 0 0), (13, IV .i64 (k : Nat)), (46, .fz (VE cs)), (47, IV .i64 cs.length), (48, IV .i64 (i : Nat)), (16, .ptr 4 3 0 0), (18, .ptr 5 4 0 0)]) (H' := [(0, OG zeroG), (1, OTr zeroT), (2, OG now), (3, OTr (trOf now a)), (4, OG nw), (5, OTr (trOf nw a))]) wG wR rfl ?_
  generalize trOf now a = T at *
  generalize trOf nw a = U at *
  rw [← hDl] at hR
  refine nK2 ?_
  refine zb ?_
  refine zg ?_
  refine zh ?_
  refine zo ?_
  refine zbb ?_
  refine zc ?_
  refine nK2 ?_
  refine n_loop (ι := Nat) (fun j => ([(4, .fz (.cellp (encTr (trOf g a)))), (6, .ptr 0 3 0 0), (7, .ptr 1 4 0 0), (3, .ptr 2 3 0 0), (11, .ptr 3 4 0 0), (13, IV .i64 (k + cntI T.dist U.dist j : Nat)), (46, .fz (VE cs)), (47, IV .i64 cs.length), (48, IV .i64 (i : Nat)), (16, .ptr 4 3 0 0), (18, .ptr 5 4 0 0), (72, .fz (VI U.dist)), (73, IV .i64 U.dist.length), (74, IV .i64 (j : Nat))], [(0, OG zeroG), (1, OTr zeroT), (2, OG now), (3, OTr T), (4, OG nw), (5, OTr U)], 6)) (fun j => j ≤ U.dist.length) (fun j => U.dist.length - j) 0 (Nat.zero_le _) ?_ ?_
  ·refine Next.weak [0, 1, 2, 3, 4, 5] [] (by rfl) (keepsN hC _ rfl) wG wR wN rel_intro
  intro j hj K3 hK3
  try dsimp only at hj hK3 ⊢
  have hcl := cntI_le T.dist U.dist j
  refine nK2 ?_
  refine zb ?_
  refine zp ?_
  refine zc ?_
  refine nK2 ?_
  refine n_cond _ rfl (fun hb => ?_) (fun hb => ?_)
  ·have hlt : j < U.dist.length := by simp at hb; omega
   have hrD := row_of encN U.dist j 0 hlt
   have hrd := row_of encN T.dist j 0 (by omega)
   have hgD : U.dist.getD j 0 = gt0 U.dist j := rfl
   have hgd : T.dist.getD j 0 = gt0 T.dist j := rfl
   rw [hgD] at hrD; rw [hgd] at hrd
   have hK4 := hK3 (j + 1) (by omega) (by omega)
   rw [cntI_succ, ← Nat.add_assoc] at hK4
   generalize cntI T.dist U.dist j = cn at *
   refine nK2 ?_
   refine zb ?_
   refine za ?_
   refine rpZ 77 rfl (op_idx_fz j rfl (oT rfl) (oT rfl) (by intro _; exact ⟨rfl, hrD⟩)) ?_
   refine zj ?_
   refine zd ?_
   refine zd ?_
   refine zc ?_
   refine nK2 ?_
   refine zb ?_
   refine za ?_
   refine zg ?_
   refine zh ?_
   refine za ?_
   refine rpZ 83 rfl (op_idx_fz j rfl (oT rfl) (oT rfl) (by intro _; exact ⟨rfl, hrd⟩)) ?_
   refine zj ?_
   refine zbg ?_
   refine zc ?_
   refine nK2 ?_
   refine n_cond _ rfl (fun hb => ?_) (fun hb => ?_)
   ·rw [if_pos (by simpa using hb)] at hK4
    refine nK2 ?_
    refine zb ?_
    refine za ?_
    refine zl ?_
    refine zd ?_
    refine zc ?_
    refine nK2 ?_
    refine zb ?_
    refine zl ?_
    refine za ?_
    refine zc ?_
    refine nK2 ?_
    refine Next.weak [0, 1, 2, 3, 4, 5] [] (by rfl) (keepsN hC _ rfl) wG wR wN hK4
   rw [if_neg (by simpa using hb)] at hK4
   refine nK2 ?_
   refine zb ?_
   refine zl ?_
   refine za ?_
   refine zc ?_
   refine nK2 ?_
   refine Next.weak [0, 1, 2, 3, 4, 5] [] (by rfl) (keepsN hC _ rfl) wG wR wN hK4
  have hje : j = U.dist.length := by simp at hb; omega
  subst hje
  have hK5 := hK2 (k + cntI T.dist U.dist U.dist.length) (by omega) hR
  refine nK2 ?_
  refine s_draw mixed ?_
  refine zk ?_
  refine zk ?_
  refine zch ?_
  refine zch ?_
  refine zs ?_
  refine nK2 ?_
  refine zb ?_
  refine zl ?_
  refine za ?_
  refine zc ?_
  refine nK2 ?_
  refine Next.weak [0, 1, 2, 3] [] (by rfl) (keepsN hC _ rfl) wG wR wN hK5
 have hie : i = cs.length := by simp at hb; omega
 subst hie
 rw [List.drop_length] at hR
 simp only [updF] at hR
 subst hR
 generalize trOf now a = T at *
 refine nK2 ?_
 refine s_draw mixed ?_
 refine zk ?_
 refine zk ?_
 refine za ?_
 refine zch ?_
 refine zch ?_
 refine zd ?_
 refine ze ?_
 refine zs ?_
 refine nK2 ?_
 refine Next.weakS [6, 7] [] (by rfl) (keeps0 hC _) (G' := [(6, .ptr 0 3 0 0), (7, .ptr 1 4 0 0), (8, IV .i64 (k : Nat)), (9, IV .i64 0)]) (H' := [(0, OG now), (1, OTr T)]) wG wR rfl ?_
 exact s_o4 hC rfl tV tV tV tV
end Go.Proofs.YtcillieggklaaaaGreat
namespace Go.Pl
open Go Go.RT
set_option linter.all false
/- the example -/
def gL : Gr := ⟨3, 0, [⟨0, 1, 1⟩, ⟨1, 0, 1⟩, ⟨1, 2, 1⟩, ⟨2, 1, 1⟩]⟩
def gL1 : Gr := ⟨3, 0, [⟨0, 1, 1⟩, ⟨0, 2, 2⟩, ⟨1, 0, 1⟩, ⟨1, 2, 1⟩, ⟨2, 1, 1⟩]⟩
def gL2 : Gr := ⟨3, 0, [⟨0, 1, 1⟩, ⟨0, 2, 1⟩, ⟨1, 0, 1⟩, ⟨1, 2, 1⟩, ⟨2, 1, 1⟩]⟩
def tL : Tr := ⟨0, [0, 1, 2], [[], [1], [1]], [[], [0], [1]]⟩
def tL1 : Tr := ⟨0, [0, 1, 2], [[], [1], [1, 2]], [[], [0], [0, 1]]⟩
def tL2 : Tr := ⟨0, [0, 1, 1], [[], [1], [2]], [[], [0], [0]]⟩
theorem runL : RunOk gL 0 tL := by
  refine ⟨by decide, by decide, rfl, rfl, isD_cert (by decide) (by decide) fun v hv => ?_, by decide, [1, 2], by decide, ?_, by decide +kernel⟩
  · have hv4 : v < 3 := hv
    have w1 : Wk gL.es 0 1 1 := Wk.one .nil 0 1 rfl rfl (k := 1) (by decide)
    match v, hv4 with
    | 0, _ => exact .inr .nil
    | 1, _ => exact .inr w1
    | 2, _ => exact .inr (Wk.one w1 1 2 rfl rfl (k := 1) (by decide))
  · simp [ltHd, tL, gt0]
theorem runL1 : RunOk gL1 0 tL1 := by
  refine ⟨by decide, by decide, rfl, rfl, isD_cert (by decide) (by decide) fun v hv => ?_, by decide, [1, 2], by decide, ?_, by decide +kernel⟩
  · have hv4 : v < 3 := hv
    have w1 : Wk gL1.es 0 1 1 := Wk.one .nil 0 1 rfl rfl (k := 1) (by decide)
    match v, hv4 with
    | 0, _ => exact .inr .nil
    | 1, _ => exact .inr w1
    | 2, _ => exact .inr (Wk.one w1 1 2 rfl rfl (k := 1) (by decide))
  · simp [ltHd, tL1, gt0]
theorem runL2 : RunOk gL2 0 tL2 := by
  refine ⟨by decide, by decide, rfl, rfl, isD_cert (by decide) (by decide) fun v hv => ?_, by decide, [2, 1], by decide, ?_, by decide +kernel⟩
  · have hv4 : v < 3 := hv
    match v, hv4 with
    | 0, _ => exact .inr .nil
    | 1, _ => exact .inr (Wk.one .nil 0 1 rfl rfl (k := 1) (by decide))
    | 2, _ => exact .inr (Wk.one .nil 0 2 rfl rfl (k := 1) (by decide))
  · simp [ltHd, tL2, gt0]
theorem appL1 : applyF gL [⟨0, 2, 2⟩] = (gL1, 0) := by decide +kernel
theorem appL2 : applyF gL1 [⟨0, 2, 1⟩] = (gL2, 0) := by decide +kernel
theorem updL1 : updT gL tL [⟨0, 2, 2⟩] = (gL1, tL1, 0, 0) := by
  have e1 := trOf_uniq runL
  have e2 := trOf_uniq runL1
  rw [e1, updT_run runL.ok runL.lt, updF_yes (by rw [appL1])]
  rw [appL1]
  dsimp only
  rw [← e1, ← e2]
  simp only [updF]
  rw [← e2]
  decide +kernel
theorem updL2 : updT gL1 tL1 [⟨0, 2, 1⟩] = (gL2, tL2, 1, 0) := by
  have e1 := trOf_uniq runL1
  have e2 := trOf_uniq runL2
  rw [e1, updT_run runL1.ok runL1.lt, updF_yes (by rw [appL2])]
  rw [appL2]
  dsimp only
  rw [← e1, ← e2]
  simp only [updF]
  rw [← e2]
  decide +kernel
theorem zeroG_len : zeroG.es.length ≤ 1024 := by decide
theorem updT_len {g : Gr} (t : Tr) (cs : List Edg) : (updT g t cs).1.es.length ≤ 1024 := by
  by_cases hg : checkI g = 0
  · by_cases hv : 0 ≤ t.root ∧ t.root < g.r ∧ t = trOf g t.root.toNat
    · unfold updT
      rw [if_neg (by simp [hg]), if_pos hv]
      obtain ⟨h1, h2⟩ := updF_apply (a := t.root.toNat) cs (k := 0) hg
      by_cases hz : (applyF g cs).2 = 0
      · obtain ⟨k', _, h3, _⟩ := h2 hz
        rw [h3]; exact applyF_len g cs
      · rw [h1 hz]; exact zeroG_len
    · rw [updT_not hg hv]; exact zeroG_len
  · rw [updT_bad hg]; exact zeroG_len
def largeB (g : Gr) : Bool := decide (24 < g.r) || decide (12 < g.n) || decide (120 < (g.es.length : Int))
/-- counting back -/
theorem cntI_sub (d D : List Int) {i : Nat} (n : Nat) (h : i ≤ n) : cntI d D i ≤ cntI d D n := by
  induction n with
  | zero => have : i = 0 := by omega
            subst this; omega
  | succ n ih =>
    by_cases e : i = n + 1
    · subst e; omega
    · have := ih (by omega)
      rw [cntI_succ]; omega
end Go.Pl
namespace Go.Proofs.YtcillieggklaaaaGreat
open Go Go.RT Go.Proofs Go.Pl
set_option linter.all false
set_option maxRecDepth 20000
set_option maxHeartbeats 4000000
theorem upds_c (g : Gr) (t : Tr) (cs : List Edg) (hok : okG g) (ht : smT t) (hcs : okEs cs) (hl : cs.length ≤ 1000000) : smT (updT g t cs).2.1 ∧ Pure Tryz.prog 11 [.agg (encG g), .agg (encTr t), VE cs] (.tup [.agg (encG (updT g t cs).1), .agg (encTr (updT g t cs).2.1), If .i64 ((updT g t cs).2.2.1 : Nat), If .i64 (updT g t cs).2.2.2]) ∧ Pure Tryz.prog 12 [.agg (encG g), .agg (encTr t), VE cs] (.tup [.agg (encG (updT g t cs).1), .agg (encTr (updT g t cs).2.1), If .i64 ((updT g t cs).2.2.1 : Nat), If .i64 (updT g t cs).2.2.2]) := by
 by_cases hg : checkI g = 0
 ·obtain ⟨u, e, hu, he, het, hr1, hr2⟩ := runs_c g t.root hok
  have hsc := scheck_c g t u e ht hu hr1
  by_cases hv : e = 0 ∧ u = t
  ·obtain ⟨h0, hut⟩ := hv
   obtain ⟨_, h1, h2⟩ := he.1 h0
   have h3 := het h0
   rw [hut] at h3
   rw [decide_eq_true h0, decide_eq_true hut] at hsc
   obtain ⟨n, hn⟩ : ∃ n : Nat, t.root = n := ⟨t.root.toNat, by omega⟩
   rw [hn, Int.toNat_natCast] at h3
   rw [hn] at h2
   rw [h3] at hsc ⊢
   rw [updT_run hg h2]
   refine ⟨?_, update_run g n cs hg h2 hcs hl hsc, rupdate_run g n cs hg h2 hcs hl⟩
   obtain ⟨q1, q2⟩ := updF_apply (a := n) cs (k := 0) hg
   by_cases hz : (applyF g cs).2 = 0
   ·obtain ⟨k', _, q3, q4, q5, _⟩ := q2 hz
    rw [q3]
    exact smT_run (trOf_ok q4 (by rw [q5]; exact h2))
   rw [q1 hz]; exact smT_zero
  have hne : ¬ (0 ≤ t.root ∧ t.root < g.r ∧ t = trOf g t.root.toNat) := fun q => hv (by
   have h0 : e = 0 := he.2 ⟨hg, q.1, q.2.1⟩
   exact ⟨h0, (het h0).trans q.2.2.symm⟩)
  rw [updT_not hg hne]
  have hf : (decide (e = 0) && decide (u = t)) = false := by
   rw [Bool.and_eq_false_iff]
   by_cases h0 : e = 0
   ·right; rw [decide_eq_false_iff_not]; exact fun h => hv ⟨h0, h⟩
   left; exact decide_eq_false h0
  rw [hf] at hsc
  exact ⟨smT_zero, update_not g t cs hok hg hsc, rupdate_not g t u e cs hok hg ht hu hr2 hv⟩
 rw [updT_bad hg]
 exact ⟨smT_zero, update_bad g t cs hok hg, rupdate_bad g t cs hok hg⟩
theorem updp_c (g : Gr) (n : Nat) (t : Tr) (cs : List Edg) (hg : checkI g = 0) (hn : (n : Int) < g.r) (et : t = trOf g n) (hcs : okEs cs) (hl : cs.length ≤ 1000000) : Pure Tryz.prog 11 [.agg (encG g), .agg (encTr t), VE cs] (.tup [.agg (encG (updT g t cs).1), .agg (encTr (updT g t cs).2.1), If .i64 ((updT g t cs).2.2.1 : Nat), If .i64 (updT g t cs).2.2.2]) := by
 have hk := trOf_ok hg hn
 have hsm := smT_run hk
 have hr := run_c g n _ (okG_of hg) hk
 have hck := scheck_c g (trOf g n) (trOf g n) 0 hsm hsm hr
 rw [decide_eq_true rfl, decide_eq_true rfl] at hck
 subst et
 rw [updT_run hg hn]
 exact update_run g n cs hg hn hcs hl hck
theorem large_c (g : Gr) : Pure Tryz.prog 9 [.agg (encG g)] (Bf (largeB g)) := by
 unfold largeB
 refine Meets.intro Tryz.func9 rfl (Nat.le_of_ble_eq_true rfl) fun C hC => ?_
 simp only [List.map, argEnv, Nat.reduceAdd]
 refine nK2 ?_
 refine zb ?_
 refine zq ?_
 refine ze ?_
 refine zc ?_
 refine nK2 ?_
 refine zb ?_
 refine zg ?_
 refine zh ?_
 refine zcg ?_
 refine za ?_
 refine zn ?_
 refine zm ?_
 refine zcb ?_
 refine zv ?_
 refine za ?_
 refine zn ?_
 refine zm ?_
 refine zbt ?_
 refine zcb ?_
 refine zv ?_
 refine zd ?_
 refine zc ?_
 refine nK2 ?_
 exact wO hC
theorem gr_dec (a b : Gr) : decide (a = b) = (decide (a.r = b.r) && decide (a.n = b.n) && decide (a.es = b.es)) := by
 cases a; cases b
 rw [Bool.eq_iff_iff]; simp [and_assoc]
theorem same12_c (a b : Gr) (ha : a.es.length ≤ 9223372036854775807) (hb0 : b.es.length ≤ 9223372036854775807) : Pure Tryz.prog 13 [.agg (encG a), .agg (encG b)] (Bf (decide (a = b))) := by
 rw [gr_dec]
 have hs := sameE_c a.es b.es ha hb0
 refine Meets.intro Tryz.func13 rfl (Nat.le_of_ble_eq_true rfl) fun C hC => ?_
 simp only [List.map, argEnv, Nat.reduceAdd]
 refine nK2 ?_
 refine zb ?_
 refine zq ?_
 refine zq ?_
 refine ze ?_
 refine zc ?_
 refine nK2 ?_
 refine zb ?_
 refine zg ?_
 refine zh ?_
 refine zg ?_
 refine zh ?_
 refine zbr ?_
 refine za ?_
 refine zn ?_
 refine zm ?_
 refine zn ?_
 refine zm ?_
 refine zbo ?_
 refine zt ?_
 refine za ?_
 refine zn ?_
 refine zm ?_
 refine zn ?_
 refine zm ?_
 refine rgZ 22 rfl rfl tG (op_call_pure (fun _ => hs) rfl (Opd.func _) (oS (oO rfl tO) (oS (oO rfl tO) Opds.nil))) ?_
 refine zt ?_
 refine zd ?_
 refine zc ?_
 refine nK2 ?_
 exact wO hC
theorem line_c : Pure Tryz.prog 23 [] (.agg (encG gL)) := by
 refine Meets.intro Tryz.func23 rfl (Nat.le_of_ble_eq_true rfl) fun C hC => ?_
 simp only [List.map, argEnv, Nat.reduceAdd]
 refine nK2 ?_
 refine zb ?_
 refine zu ?_
 refine zc ?_
 refine nK2 ?_
 refine zb ?_
 refine zcy ?_
 refine zcy ?_
 refine zcy ?_
 refine zcy ?_
 refine rpZ 5 rfl (op_buildSlice_fz rfl (RowsF.cons _ _ _ _ _ _ (oT rfl) tC (by rfl) (RowsF.cons _ _ _ _ _ _ (oT rfl) tC (by rfl) (RowsF.cons _ _ _ _ _ _ (oT rfl) tC (by rfl) (RowsF.cons _ _ _ _ _ _ (oT rfl) tC (by rfl) (RowsF.nil _))))) rfl rfl) ?_
 refine rpZ 6 rfl (op_build rfl rfl rfl (FillF.cons _ _ _ _ _ _ _ _ _ _ (by rfl) oC tC (by rfl) tR (FillF.cons _ _ _ _ _ _ _ _ _ _ (by rfl) (oT rfl) tC (by rfl) tR (FillF.nil _)))) ?_
 refine zr ?_
 refine zc ?_
 refine nK2 ?_
 exact wO hC
theorem awake_c : Pure Tryz.prog 10 [] (Bf true) := by
 have smL : smT tL := smT_run runL
 have smL1 : smT tL1 := smT_run runL1
 have k1 := updp_c gL 0 tL [⟨0, 2, 2⟩] runL.ok runL.lt (trOf_uniq runL) (by unfold okEs okE; decide) (by decide)
 have k2 := updp_c gL1 0 tL1 [⟨0, 2, 1⟩] runL1.ok runL1.lt (trOf_uniq runL1) (by unfold okEs okE; decide) (by decide)
 rw [updL1] at k1
 rw [updL2] at k2
 have s := fun a b ha hb => same3_c a b ha hb
 refine Meets.intro Tryz.func10 rfl (Nat.le_of_ble_eq_true rfl) fun C hC => ?_
 simp only [List.map, argEnv, Nat.reduceAdd]
 refine nK2 ?_
 refine zb ?_
 refine ze ?_
 refine zc ?_
 refine nK2 ?_
 refine zb ?_
 refine rpZ 10 rfl (op_buildSlice_fz rfl (RowsF.cons _ _ _ _ _ _ oC tC (by rfl) (RowsF.cons _ _ _ _ _ _ oC tC (by rfl) (RowsF.cons _ _ _ _ _ _ oC tC (by rfl) (RowsF.nil _)))) rfl rfl) ?_
 refine zdc ?_
 refine zdc ?_
 refine zdk ?_
 refine zdc ?_
 refine zdc ?_
 refine zdk ?_
 refine rpZ 17 rfl (op_buildP rfl rfl rfl rfl (FillP.cons _ _ _ _ _ _ _ _ _ _ (by rfl) (oT rfl) tP (by rfl) tR (FillP.cons _ _ _ _ _ _ _ _ _ _ (by rfl) (oT rfl) tP (by rfl) tR (FillP.cons _ _ _ _ _ _ _ _ _ _ (by rfl) (oT rfl) tP (by rfl) tR (FillP.nil _))))) ?_
 refine zdf ?_
 refine zcp ?_
 refine zc ?_
 refine nK2 ?_
 refine Next.weak [0, 1, 2] [] (by rfl) (keepsN hC _ rfl) (G' := [(1, .ptr 2 4 0 0)]) (H' := [(0, some (.flat 1 (tL.hops.map encL))), (1, some (.flat 1 (tL.par.map encL))), (2, some (.refs 4 [[.fz (If .i64 0), .fz (VI tL.dist), .sl 0 1 0 3, .sl 1 1 0 3]]))]) wG (by exact ⟨⟨rfl, rfl, .fflat _ _ _ rfl (.cons _ _ _ _ (.cons _ _ _ _ (.nil 1) .nil) (.cons _ _ _ _ (.cons _ _ _ _ (.fz _) .nil) (.cons _ _ _ _ (.cons _ _ _ _ (.fz _) .nil) .nil)))⟩, ⟨⟨rfl, rfl, .fflat _ _ _ rfl (.cons _ _ _ _ (.cons _ _ _ _ (.nil 1) .nil) (.cons _ _ _ _ (.cons _ _ _ _ (.fz _) .nil) (.cons _ _ _ _ (.cons _ _ _ _ (.fz _) .nil) .nil)))⟩, ⟨wS, trivial⟩⟩⟩) wN ?_
 refine Next.weak [2] [0, 1] (by rfl) (keepsN hC _ rfl) (G' := [(1, .ptr 0 4 0 0)]) (H' := [(0, OTr tL)]) wG (by exact ⟨⟨rfl, rfl, .flat _ _ _ rfl (AsRs.cons _ _ _ _ (AsR.cons _ _ _ _ (.fz _) (AsR.cons _ _ _ _ (.fz _) (AsR.cons _ _ _ _ (.sl _ _ _ _ _ _ rfl rfl (take_all0 rfl) rfl) (AsR.cons _ _ _ _ (.sl _ _ _ _ _ _ rfl rfl (take_all0 rfl) rfl) .nil)))) .nil)⟩, trivial⟩) (fun id h => by simp at h; rcases h with rfl | rfl <;> exact ⟨_, rfl⟩) ?_
 refine Next.weakS [] [1] (by rfl) (keepsN hC _ rfl) (G' := [(1, .fz (.cellp (encTr tL)))]) (H' := []) wF trivial rfl ?_
 refine nK2 ?_
 refine draw_y [(2, .ptr 0 3 0 0), (3, .ptr 1 4 0 0), (4, IV .i64 0), (5, IV .i64 0)] [(0, OG gL1), (1, OTr tL1)] 2 mixed (fun hK => ?_) ?_
 ·skip
  refine AnyY.virt (by kernel_rfl) 0 rfl (op_call_pure (fun _ => line_c) rfl (Opd.func _) Opds.nil) (by kernel_rfl) rfl (fun t h => by cases h; rfl) ?_
  refine AnyY.virt (by kernel_rfl) 1 rfl (op_loadn_fz rfl (oT rfl) tR) (by kernel_rfl) rfl (fun t h => by cases h; rfl) ?_
  refine AnyY.virt (by kernel_rfl) 2 rfl (op_build rfl rfl rfl (FillF.cons _ _ _ _ _ _ _ _ _ _ (by rfl) oC tC (by rfl) tR (FillF.cons _ _ _ _ _ _ _ _ _ _ (by rfl) oC tC (by rfl) tR (FillF.cons _ _ _ _ _ _ _ _ _ _ (by rfl) oC tC (by rfl) tR (FillF.nil _))))) (by kernel_rfl) rfl (fun t h => by cases h; rfl) ?_
  refine AnyY.virt (by kernel_rfl) 3 rfl (op_buildSlice_fz rfl (RowsF.cons _ _ _ _ _ _ (oT rfl) tC (by rfl) (RowsF.nil _)) rfl rfl) (by kernel_rfl) rfl (fun t h => by cases h; rfl) ?_
  refine AnyY.virt (by kernel_rfl) 4 rfl (op_call_pure (fun _ => k1) rfl (Opd.func _) (oS (oT rfl) (oS (oT rfl) (oS (oT rfl) Opds.nil)))) (by kernel_rfl) rfl (fun t h => by cases h; rfl) ?_
  refine AnyY.virt (by kernel_rfl) 5 rfl (op_move rfl (oT rfl)) (by kernel_rfl) rfl (fun t h => by cases h; rfl) ?_
  refine AnyY.virt (by kernel_rfl) 6 rfl (op_extract_fz rfl (oT rfl) rfl) (by kernel_rfl) rfl (fun t h => by cases h; rfl) ?_
  refine AnyY.virt (by kernel_rfl) 7 rfl (op_extract_fz rfl (oT rfl) rfl) (by kernel_rfl) rfl (fun t h => by cases h; rfl) ?_
  refine AnyY.virt (by kernel_rfl) 8 rfl (op_extract_fz rfl (oT rfl) rfl) (by kernel_rfl) rfl (fun t h => by cases h; rfl) ?_
  refine AnyY.virt (by kernel_rfl) 9 rfl (op_extract_fz rfl (oT rfl) rfl) (by kernel_rfl) rfl (fun t h => by cases h; rfl) ?_
  refine AnyY.two 10 11 (by kernel_rfl) rfl (by kernel_rfl) (StepY.mk rfl (op_alloc rfl rfl rfl rfl) (fun t h => by cases h; rfl) ?_) (StepY.mk rfl (op_alloc rfl rfl rfl rfl) (fun t h => by cases h; rfl) ?_)
  ·skip
   refine AnyY.one 11 (by kernel_rfl) rfl (by kernel_rfl) (StepY.mk rfl (op_alloc rfl rfl rfl rfl) (fun t h => by cases h; rfl) ?_)
   refine AnyY.one 12 (by kernel_rfl) rfl (by kernel_rfl) (StepY.mk rfl (op_store_flat rfl (oT rfl) (oT rfl) tC rfl rfl rfl tS) (fun t h => by cases h) ?_)
   refine AnyY.one 13 (by kernel_rfl) rfl (by kernel_rfl) (StepY.mk rfl (op_store_flat rfl (oT rfl) (oT rfl) tC rfl rfl rfl tS) (fun t h => by cases h) ?_)
   refine AnyY.virt (by kernel_rfl) 14 rfl (op_assign rfl (oT rfl)) (by kernel_rfl) rfl (fun t h => by cases h; rfl) ?_
   refine AnyY.virt (by kernel_rfl) 15 rfl (op_assign rfl (oT rfl)) (by kernel_rfl) rfl (fun t h => by cases h; rfl) ?_
   refine AnyY.nil (by kernel_rfl) rfl (by kernel_rfl) ?_
   exact Next.weak [0, 1] [] (by rfl) (keepsN hC _ rfl) wG wR wN hK
  skip
  refine AnyY.one 10 (by kernel_rfl) rfl (by kernel_rfl) (StepY.mk rfl (op_alloc rfl rfl rfl rfl) (fun t h => by cases h; rfl) ?_)
  refine AnyY.one 12 (by kernel_rfl) rfl (by kernel_rfl) (StepY.mk rfl (op_store_flat rfl (oT rfl) (oT rfl) tC rfl rfl rfl tS) (fun t h => by cases h) ?_)
  refine AnyY.one 13 (by kernel_rfl) rfl (by kernel_rfl) (StepY.mk rfl (op_store_flat rfl (oT rfl) (oT rfl) tC rfl rfl rfl tS) (fun t h => by cases h) ?_)
  refine AnyY.virt (by kernel_rfl) 14 rfl (op_assign rfl (oT rfl)) (by kernel_rfl) rfl (fun t h => by cases h; rfl) ?_
  refine AnyY.virt (by kernel_rfl) 15 rfl (op_assign rfl (oT rfl)) (by kernel_rfl) rfl (fun t h => by cases h; rfl) ?_
  refine AnyY.nil (by kernel_rfl) rfl (by kernel_rfl) ?_
  exact Next.weak [1, 0] [] (by rfl) (keepsN hC _ rfl) wG wR wN hK
 skip
 refine nK2 ?_
 refine zb ?_
 refine zk ?_
 refine zk ?_
 refine zcy ?_
 refine zbh ?_
 refine rpZ 33 rfl (op_call_pure (fun _ => k2) rfl (Opd.func _) (oS (oT rfl) (oS (oT rfl) (oS (oT rfl) Opds.nil)))) ?_
 refine za ?_
 refine zi ?_
 refine zi ?_
 refine zi ?_
 refine zi ?_
 refine zu ?_
 refine zu ?_
 refine zr ?_
 refine zr ?_
 refine zd ?_
 refine zd ?_
 refine zc ?_
 refine nK2 ?_
 refine Next.weakS [2, 3, 6, 7] [] (by rfl) (keepsN hC _ rfl) (G' := [(2, .ptr 0 3 0 0), (3, .ptr 1 4 0 0), (4, IV .i64 0), (5, IV .i64 0), (7, .ptr 3 4 0 0), (8, IV .i64 1), (9, IV .i64 0)]) (H' := [(0, OG gL1), (1, OTr tL1), (2, OG gL2), (3, OTr tL2)]) wG wR rfl ?_
 refine nK2 ?_
 refine zb ?_
 refine za ?_
 refine zci ?_
 refine za ?_
 refine zf ?_
 refine zce ?_
 refine zt ?_
 refine za ?_
 refine zf ?_
 refine zce ?_
 refine zt ?_
 refine za ?_
 refine zf ?_
 refine zce ?_
 refine zt ?_
 refine za ?_
 refine zn ?_
 refine zm ?_
 refine zbt ?_
 refine zce ?_
 refine zt ?_
 refine za ?_
 refine zn ?_
 refine zm ?_
 refine zdl ?_
 refine rgZ 62 rfl rfl tG (op_call_pure (fun _ => s [0, 1, 2] [0, 1, 2] (by decide) (by decide)) rfl (Opd.func _) (oS (oO rfl tO) (oS (oO rfl tO) Opds.nil))) ?_
 refine zt ?_
 refine za ?_
 refine zn ?_
 refine zm ?_
 refine zbt ?_
 refine zce ?_
 refine zt ?_
 refine za ?_
 refine zn ?_
 refine zm ?_
 refine rgZ 73 rfl rfl tG (op_idx_fz 2 rfl (oO rfl tO) oC (by intro _; exact ⟨rfl, rfl⟩)) ?_
 refine zw ?_
 refine rgZ 75 rfl rfl tG (op_buildSlice_fz rfl (RowsF.cons _ _ _ _ _ _ oC tC (by rfl) (RowsF.cons _ _ _ _ _ _ oC tC (by rfl) (RowsF.nil _))) rfl rfl) ?_
 refine rgZ 76 rfl rfl tG (op_call_pure (fun _ => s [1, 2] [1, 2] (by decide) (by decide)) rfl (Opd.func _) (oS (oO rfl tO) (oS (oO rfl tO) Opds.nil))) ?_
 refine zt ?_
 refine za ?_
 refine zn ?_
 refine zm ?_
 refine zdl ?_
 refine rgZ 82 rfl rfl tG (op_call_pure (fun _ => s [0, 1, 1] [0, 1, 1] (by decide) (by decide)) rfl (Opd.func _) (oS (oO rfl tO) (oS (oO rfl tO) Opds.nil))) ?_
 refine zt ?_
 refine zd ?_
 refine zc ?_
 refine nK2 ?_
 refine s_oB hC rfl rfl ?_
 decide
open Go Go.RT Go.Proofs Go.Pl
set_option maxRecDepth 20000
set_option maxHeartbeats 4000000
theorem updates_law (g : Gr) (t : Tr) (cs : List Edg) (hok : okG g) (ht : smT t) (hcs : okEs cs) : Pure Tryz.prog 3 [.agg (encG g), .agg (encTr t), VE cs] (Bf true) := by
 refine Meets.intro Tryz.func3 rfl (Nat.le_of_ble_eq_true rfl) fun C hC => ?_
 simp only [List.map, argEnv, Nat.reduceAdd]
 refine nK2 ?_
 refine zb ?_
 refine zq ?_
 refine zq ?_
 refine ze ?_
 refine zc ?_
 refine nK2 ?_
 refine zb ?_
 refine zk ?_
 refine rpZ 16 rfl (op_call_pure (fun _ => large_c _) rfl (Opd.func _) (oS (oT rfl) Opds.nil)) ?_
 refine za ?_
 refine zf ?_
 refine zbt ?_
 refine zcb ?_
 refine zv ?_
 refine za ?_
 refine zn ?_
 refine zm ?_
 refine zbt ?_
 refine zcb ?_
 refine zv ?_
 refine za ?_
 refine zn ?_
 refine zm ?_
 refine zbt ?_
 refine zcb ?_
 refine zv ?_
 refine za ?_
 refine zn ?_
 refine zm ?_
 refine zbt ?_
 refine zcb ?_
 refine zv ?_
 refine zc ?_
 refine nK2 ?_
 refine n_cond _ rfl (fun hb => ?_) (fun hb => ?_)
 ·refine nK2 ?_
  refine zb ?_
  refine rpZ 40 rfl (op_call_pure (fun _ => awake_c) rfl (Opd.func _) Opds.nil) ?_
  refine zd ?_
  refine zc ?_
  refine nK2 ?_
  exact wO hC
 have hl : cs.length ≤ 12 := by simp at hb; omega
 obtain ⟨hsm, k1, k2⟩ := upds_c g t cs hok ht hcs (by omega)
 have hln := updT_len (g := g) t cs
 have hs1 := same12_c (updT g t cs).1 (updT g t cs).1 (by omega) (by omega)
 have hs2 := rsame_c (updT g t cs).2.1 (updT g t cs).2.1 hsm hsm
 clear hb
 generalize updT g t cs = R at *
 obtain ⟨G1, T1, n1, e1⟩ := R
 dsimp only at k1 k2 hs1 hs2
 refine nK2 ?_
 refine zb ?_
 refine zk ?_
 refine zk ?_
 refine za ?_
 refine rpZ 45 rfl (op_call_pure (fun _ => k1) rfl (Opd.func _) (oS (oT rfl) (oS (oT rfl) (oS (oT rfl) Opds.nil)))) ?_
 refine za ?_
 refine zi ?_
 refine zi ?_
 refine zi ?_
 refine zi ?_
 refine zu ?_
 refine zu ?_
 refine zr ?_
 refine zr ?_
 refine zd ?_
 refine zd ?_
 refine zc ?_
 refine nK2 ?_
 refine zb ?_
 refine zk ?_
 refine zk ?_
 refine za ?_
 refine rpZ 54 rfl (op_call_pure (fun _ => k2) rfl (Opd.func _) (oS (oT rfl) (oS (oT rfl) (oS (oT rfl) Opds.nil)))) ?_
 refine za ?_
 refine zi ?_
 refine zi ?_
 refine zi ?_
 refine zi ?_
 refine zu ?_
 refine zu ?_
 refine zr ?_
 refine zr ?_
 refine zd ?_
 refine zd ?_
 refine zc ?_
 refine nK2 ?_
 refine zb ?_
 refine rpZ 59 rfl (op_call_pure (fun _ => awake_c) rfl (Opd.func _) Opds.nil) ?_
 refine za ?_
 refine zbe ?_
 refine zbe ?_
 refine rgZ 63 rfl rfl tG (op_call_pure (fun _ => hs1) rfl (Opd.func _) (oS (oO rfl tO) (oS (oO rfl tO) Opds.nil))) ?_
 refine zt ?_
 refine za ?_
 refine zbe ?_
 refine zbe ?_
 refine rgZ 68 rfl rfl tG (op_call_pure (fun _ => hs2) rfl (Opd.func _) (oS (oO rfl tO) (oS (oO rfl tO) Opds.nil))) ?_
 refine zt ?_
 refine za ?_
 refine zf ?_
 refine zf ?_
 refine zbo ?_
 refine zt ?_
 refine za ?_
 refine zf ?_
 refine zf ?_
 refine zbo ?_
 refine zt ?_
 refine zd ?_
 refine zc ?_
 refine nK2 ?_
 refine s_oB hC rfl rfl ?_
 simp
theorem okEs_chM {a b : Gr} (ha : checkI a = 0) (hb : checkI b = 0) : okEs (chM a.es b.es) := fun p hp => by
 have oa := okG_of ha
 have ob := okG_of hb
 rcases (chM_mem _ a.es b.es (Nat.le_refl _) (check_asc ha) (check_asc hb) p).1 hp with ⟨h1, _⟩ | ⟨h1, ⟨z, hz, hs⟩, _⟩
 ·exact ob.2.2 p h1
 have := oa.2.2 z hz
 unfold okE at this ⊢
 rw [← hs.1, ← hs.2, h1]
 exact ⟨this.1, this.2.1, by decide⟩
theorem back_law (a b : Gr) (root : Int) (oka : okG a) (okb : okG b) : Pure Tryz.prog 8 [.agg (encG a), .agg (encG b), If .i64 root] (Bf true) := by
 obtain ⟨ta, ea, sa, ia, fa, _, ra⟩ := runs_c a root oka
 obtain ⟨tb, eb, sb, ib, fb, _, rb⟩ := runs_c b root okb
 refine Meets.intro Tryz.func8 rfl (Nat.le_of_ble_eq_true rfl) fun C hC => ?_
 simp only [List.map, argEnv, Nat.reduceAdd]
 refine nK2 ?_
 refine zb ?_
 refine zq ?_
 refine zq ?_
 refine ze ?_
 refine zc ?_
 refine nK2 ?_
 refine zb ?_
 refine zk ?_
 refine rpZ 16 rfl (op_call_pure (fun _ => large_c _) rfl (Opd.func _) (oS (oT rfl) Opds.nil)) ?_
 refine za ?_
 refine zbe ?_
 refine rgZ 19 rfl rfl tG (op_call_pure (fun _ => large_c _) rfl (Opd.func _) (oS (oO rfl tO) Opds.nil)) ?_
 refine zv ?_
 refine zc ?_
 refine nK2 ?_
 refine n_cond _ rfl (fun hb => ?_) (fun hb => ?_)
 ·refine nK2 ?_
  refine zb ?_
  refine rpZ 21 rfl (op_call_pure (fun _ => awake_c) rfl (Opd.func _) Opds.nil) ?_
  refine zd ?_
  refine zc ?_
  refine nK2 ?_
  exact wO hC
 have hlarge : a.es.length ≤ 120 ∧ b.es.length ≤ 120 := by
  simp [largeB] at hb; omega
 clear hb
 refine nK2 ?_
 refine zb ?_
 refine zk ?_
 refine za ?_
 refine rpZ 25 rfl (op_call_pure (fun _ => ra) rfl (Opd.func _) (oS (oT rfl) (oS (oT rfl) Opds.nil))) ?_
 refine za ?_
 refine zi ?_
 refine zi ?_
 refine zu ?_
 refine zr ?_
 refine zd ?_
 refine zc ?_
 refine nK2 ?_
 refine zb ?_
 refine zk ?_
 refine za ?_
 refine rpZ 31 rfl (op_call_pure (fun _ => rb) rfl (Opd.func _) (oS (oT rfl) (oS (oT rfl) Opds.nil))) ?_
 refine za ?_
 refine zi ?_
 refine zi ?_
 refine zu ?_
 refine zr ?_
 refine zd ?_
 refine zc ?_
 refine nK2 ?_
 refine zb ?_
 refine za ?_
 refine zbd ?_
 refine za ?_
 refine zf ?_
 refine zcw ?_
 refine zv ?_
 refine za ?_
 refine zn ?_
 refine zm ?_
 refine zn ?_
 refine zm ?_
 refine zcl ?_
 refine zv ?_
 refine za ?_
 refine zn ?_
 refine zm ?_
 refine zn ?_
 refine zm ?_
 refine zcl ?_
 refine zv ?_
 refine zc ?_
 refine nK2 ?_
 refine nK2 ?_
 refine n_cond _ rfl (fun hb => ?_) (fun hb => ?_)
 ·refine nK2 ?_
  refine zb ?_
  refine rpZ 54 rfl (op_call_pure (fun _ => awake_c) rfl (Opd.func _) Opds.nil) ?_
  refine zd ?_
  refine zc ?_
  refine nK2 ?_
  exact wO hC
 have hh : ea = 0 ∧ eb = 0 ∧ a.r = b.r ∧ a.n = b.n := by simp at hb; omega
 obtain ⟨rfl, rfl, hr, hn⟩ := hh
 obtain ⟨ca, r0, r1⟩ := ia.1 rfl
 obtain ⟨cb, _, _⟩ := ib.1 rfl
 obtain ⟨n, rfl⟩ : ∃ n : Nat, root = n := ⟨root.toNat, by omega⟩
 have eta := fa rfl
 have etb := fb rfl
 rw [Int.toNat_natCast] at eta etb
 have hch := changes_ok a b ca cb hr hn
 have hl3 := chM_len _ a.es b.es (Nat.le_refl _)
 obtain ⟨_, hup, _⟩ := upds_c a ta (chM a.es b.es) oka sa (okEs_chM ca cb) (by omega)
 obtain ⟨_, q2⟩ := updF_apply (a := n) (chM a.es b.es) (k := 0) ca
 rw [back ca cb hr hn (by omega)] at q2
 obtain ⟨k', _, q3, _⟩ := q2 rfl
 have q4 : updT a ta (chM a.es b.es) = (b, tb, k', 0) := by
  rw [eta, etb, updT_run ca r1]; exact q3
 rw [q4] at hup
 dsimp only at hup
 have hs1 := same12_c b b (by omega) (by omega)
 have hs2 := rsame_c tb tb sb sb
 clear hb
 refine nK2 ?_
 refine zb ?_
 refine zk ?_
 refine zk ?_
 refine rpZ 58 rfl (op_call_pure (fun _ => hch) rfl (Opd.func _) (oS (oT rfl) (oS (oT rfl) Opds.nil))) ?_
 refine za ?_
 refine zi ?_
 refine zi ?_
 refine zd ?_
 refine zd ?_
 refine zc ?_
 refine nK2 ?_
 refine zb ?_
 refine zk ?_
 refine zk ?_
 refine za ?_
 refine rpZ 65 rfl (op_call_pure (fun _ => hup) rfl (Opd.func _) (oS (oT rfl) (oS (oT rfl) (oS (oT rfl) Opds.nil)))) ?_
 refine za ?_
 refine zi ?_
 refine zi ?_
 refine zi ?_
 refine zi ?_
 refine zu ?_
 refine zu ?_
 refine zr ?_
 refine zr ?_
 refine zd ?_
 refine zd ?_
 refine zc ?_
 refine nK2 ?_
 refine zb ?_
 refine rpZ 70 rfl (op_call_pure (fun _ => awake_c) rfl (Opd.func _) Opds.nil) ?_
 refine za ?_
 refine zf ?_
 refine zce ?_
 refine zt ?_
 refine za ?_
 refine zf ?_
 refine zce ?_
 refine zt ?_
 refine za ?_
 refine zbe ?_
 refine zbe ?_
 refine rgZ 82 rfl rfl tG (op_call_pure (fun _ => hs1) rfl (Opd.func _) (oS (oO rfl tO) (oS (oO rfl tO) Opds.nil))) ?_
 refine zt ?_
 refine za ?_
 refine zbe ?_
 refine zbe ?_
 refine rgZ 87 rfl rfl tG (op_call_pure (fun _ => hs2) rfl (Opd.func _) (oS (oO rfl tO) (oS (oO rfl tO) Opds.nil))) ?_
 refine zt ?_
 refine zd ?_
 refine zc ?_
 refine nK2 ?_
 refine s_oB hC rfl rfl ?_
 simp
theorem counts_law (g : Gr) (root : Int) (c : Edg) (hok : okG g) (hc : okE c) : Pure Tryz.prog 5 [.agg (encG g), If .i64 root, .agg (encE c)] (Bf true) := by
 obtain ⟨t, e, st, it, ft, _, rt⟩ := runs_c g root hok
 have hcs : okEs [c] := by simpa [okEs] using hc
 have hap := rapply_c g [c] hok (by simp) hcs
 refine Meets.intro Tryz.func5 rfl (Nat.le_of_ble_eq_true rfl) fun C hC => ?_
 simp only [List.map, argEnv, Nat.reduceAdd]
 refine nK2 ?_
 refine zb ?_
 refine zq ?_
 refine zq ?_
 refine ze ?_
 refine zc ?_
 refine nK2 ?_
 refine zb ?_
 refine zk ?_
 refine za ?_
 refine rpZ 19 rfl (op_call_pure (fun _ => rt) rfl (Opd.func _) (oS (oT rfl) (oS (oT rfl) Opds.nil))) ?_
 refine za ?_
 refine zi ?_
 refine zi ?_
 refine zu ?_
 refine zr ?_
 refine zd ?_
 refine zc ?_
 refine nK2 ?_
 refine zb ?_
 refine zk ?_
 refine rpZ 23 rfl (op_call_pure (fun _ => large_c _) rfl (Opd.func _) (oS (oT rfl) Opds.nil)) ?_
 refine za ?_
 refine zf ?_
 refine zcw ?_
 refine zv ?_
 refine zc ?_
 refine nK2 ?_
 refine nK2 ?_
 refine n_cond _ rfl (fun hb => ?_) (fun hb => ?_)
 ·refine nK2 ?_
  refine zb ?_
  refine rpZ 28 rfl (op_call_pure (fun _ => awake_c) rfl (Opd.func _) Opds.nil) ?_
  refine zd ?_
  refine zc ?_
  refine nK2 ?_
  exact wO hC
 have h0 : e = 0 := by simp at hb; omega
 subst h0
 obtain ⟨cg, r0, r1⟩ := it.1 rfl
 obtain ⟨n, rfl⟩ : ∃ n : Nat, root = n := ⟨root.toNat, by omega⟩
 have et := ft rfl
 rw [Int.toNat_natCast] at et
 have hl := (checkI_ok cg).2.1
 obtain ⟨_, k0, _⟩ := upds_c g t [] hok st (fun x hx => by cases hx) (by simp)
 have u0 : updT g t [] = (g, t, 0, 0) := by rw [et, updT_run cg r1]; simp only [updF]
 rw [u0] at k0
 dsimp only at k0
 obtain ⟨sU, k1, _⟩ := upds_c g t [c] hok st hcs (by simp)
 have hs1 := same12_c g g (by omega) (by omega)
 have hs2 := rsame_c t t st st
 have hU : (applyF g [c]).2 = 0 → updT g t [c] = ((applyF g [c]).1, trOf (applyF g [c]).1 n, 0 + cntI t.dist (trOf (applyF g [c]).1 n).dist g.m, 0) := fun hz => by
  rw [et, updT_run cg r1, updF_yes hz]
  simp only [updF]
 have hV : (applyF g [c]).2 ≠ 0 → (updT g t [c]).2.2.2 = (applyF g [c]).2 := fun hz => by
  rw [et, updT_run cg r1, updF_no hz]
 have htl : t.dist.length = g.m := by rw [et]; exact trOf_dl
 have hm2 : (applyF g [c]).2 = 0 → (trOf (applyF g [c]).1 n).dist.length = g.m := fun hz => by
  obtain ⟨es', q1, _⟩ := one_ok cg hz
  rw [trOf_dl, q1]
 have hm128 : g.m ≤ 128 := (checkI_vg cg).1.n128
 clear hb
 refine nK2 ?_
 refine zb ?_
 refine zk ?_
 refine zk ?_
 refine rpZ 32 rfl (op_call_pure (fun _ => k0) rfl (Opd.func _) (oS (oT rfl) (oS (oT rfl) (oS (Opd.nil _ _ oC) Opds.nil)))) ?_
 refine za ?_
 refine zi ?_
 refine zi ?_
 refine zi ?_
 refine zi ?_
 refine zu ?_
 refine zu ?_
 refine zr ?_
 refine zr ?_
 refine zd ?_
 refine zd ?_
 refine zc ?_
 refine nK2 ?_
 refine zb ?_
 refine za ?_
 refine zbd ?_
 refine za ?_
 refine zf ?_
 refine zcw ?_
 refine zv ?_
 refine za ?_
 refine zbe ?_
 refine zbe ?_
 refine rgZ 46 rfl rfl tG (op_call_pure (fun _ => hs1) rfl (Opd.func _) (oS (oO rfl tO) (oS (oO rfl tO) Opds.nil))) ?_
 refine zbl ?_
 refine zv ?_
 refine za ?_
 refine zbe ?_
 refine zbe ?_
 refine rgZ 52 rfl rfl tG (op_call_pure (fun _ => hs2) rfl (Opd.func _) (oS (oO rfl tO) (oS (oO rfl tO) Opds.nil))) ?_
 refine zbl ?_
 refine zv ?_
 refine zc ?_
 refine nK2 ?_
 refine nK2 ?_
 refine n_cond _ rfl (fun hb => ?_) (fun hb => ?_)
 ·simp at hb
 clear hb k0 u0
 generalize updT g t [c] = R at *
 obtain ⟨G1, T1, n1, e1⟩ := R
 dsimp only at k1 hU hV sU
 refine nK2 ?_
 refine zb ?_
 refine zk ?_
 refine zk ?_
 refine zk ?_
 refine zbh ?_
 refine rpZ 60 rfl (op_call_pure (fun _ => k1) rfl (Opd.func _) (oS (oT rfl) (oS (oT rfl) (oS (oT rfl) Opds.nil)))) ?_
 refine za ?_
 refine zi ?_
 refine zi ?_
 refine zi ?_
 refine zi ?_
 refine zr ?_
 refine zd ?_
 refine zd ?_
 refine zc ?_
 refine nK2 ?_
 refine Next.weakS [3, 5, 7, 10] [] (by rfl) (keepsN hC _ rfl) (G' := [(3, .ptr 0 3 0 0), (5, .ptr 1 3 0 0), (7, .ptr 2 4 0 0), (10, .ptr 3 4 0 0), (11, IV .i64 (n1 : Nat)), (8, IV .i64 e1)]) (H' := [(0, OG g), (1, OE [c]), (2, OTr t), (3, OTr T1)]) wG wR rfl ?_
 refine nK2 ?_
 refine zb ?_
 refine za ?_
 refine zbd ?_
 refine zc ?_
 refine nK2 ?_
 refine n_cond _ rfl (fun hb => ?_) (fun hb => ?_)
 ·have hz : (applyF g [c]).2 ≠ 0 := fun hz => by
   have := hU hz
   simp only [Prod.mk.injEq] at this
   rw [this.2.2.2] at hb; simp at hb
  have he := hV hz
  subst he
  clear hb
  refine nK2 ?_
  refine zb ?_
  refine zk ?_
  refine zk ?_
  refine zbh ?_
  refine rpZ 71 rfl (op_call_pure (fun _ => hap) rfl (Opd.func _) (oS (oT rfl) (oS (oT rfl) Opds.nil))) ?_
  refine za ?_
  refine zi ?_
  refine zi ?_
  refine zu ?_
  refine zr ?_
  refine zd ?_
  refine zc ?_
  refine nK2 ?_
  refine zb ?_
  refine rpZ 74 rfl (op_call_pure (fun _ => awake_c) rfl (Opd.func _) Opds.nil) ?_
  refine za ?_
  refine zf ?_
  refine zf ?_
  refine zbo ?_
  refine zt ?_
  refine zd ?_
  refine zc ?_
  refine nK2 ?_
  refine s_oB hC rfl rfl ?_
  simp
 have h0 : e1 = 0 := by simpa using hb
 have hz : (applyF g [c]).2 = 0 := by
  by_cases hz : (applyF g [c]).2 = 0
  ·exact hz
  rw [← hV hz]; exact h0
 have hR := hU hz
 have hml := hm2 hz
 simp only [Prod.mk.injEq, Nat.zero_add] at hR
 obtain ⟨_, hT, hN, _⟩ := hR
 rw [← hT] at hml hN
 clear hU hV hap hb hT hm2
 subst hN
 have hcl0 := cntI_le t.dist T1.dist g.m
 refine nK2 ?_
 refine zb ?_
 refine zg ?_
 refine zh ?_
 refine zo ?_
 refine zg ?_
 refine zh ?_
 refine zo ?_
 refine zbg ?_
 refine zc ?_
 refine nK2 ?_
 refine n_cond _ rfl (fun hb => ?_) (fun hb => ?_)
 ·simp at hb; omega
 clear hb
 refine nK2 ?_
 refine zb ?_
 refine zg ?_
 refine zh ?_
 refine zo ?_
 refine zbb ?_
 refine zc ?_
 refine nK2 ?_
 refine n_loop (ι := Nat) (fun j => ([(7, .ptr 0 4 0 0), (10, .ptr 1 4 0 0), (11, IV .i64 ((cntI t.dist T1.dist g.m - cntI t.dist T1.dist j : Nat) : Int)), (88, .fz (VI t.dist)), (89, IV .i64 t.dist.length), (90, IV .i64 (j : Nat))], [(0, OTr t), (1, OTr T1)], 2)) (fun j => j ≤ t.dist.length) (fun j => t.dist.length - j) 0 (Nat.zero_le _) ?_ ?_
 ·dsimp only
  rw [show cntI t.dist T1.dist 0 = 0 from rfl, Nat.sub_zero]
  refine Next.weakS [7, 10] [] (by rfl) (keepsN hC _ rfl) wG wR rfl rel_intro
 intro j hj K hK
 try dsimp only at hj hK ⊢
 have hcl := cntI_le t.dist T1.dist j
 refine nK2 ?_
 refine zb ?_
 refine zp ?_
 refine zc ?_
 refine nK2 ?_
 refine n_cond _ rfl (fun hb => ?_) (fun hb => ?_)
 ·have hlt : j < t.dist.length := by simp at hb; omega
  have hcs2 := cntI_sub t.dist T1.dist (i := j + 1) g.m (by omega)
  have hrD := row_of encN T1.dist j 0 (by omega)
  have hrd := row_of encN t.dist j 0 hlt
  have hgD : T1.dist.getD j 0 = gt0 T1.dist j := rfl
  have hgd : t.dist.getD j 0 = gt0 t.dist j := rfl
  rw [hgD] at hrD; rw [hgd] at hrd
  have hK4 := hK (j + 1) (by omega) (by omega)
  rw [cntI_succ] at hK4 hcs2
  clear hK
  generalize cntI t.dist T1.dist j = cn at *
  generalize cntI t.dist T1.dist g.m = cm at *
  refine nK2 ?_
  refine zb ?_
  refine za ?_
  refine rpZ 93 rfl (op_idx_fz j rfl (oT rfl) (oT rfl) (by intro _; exact ⟨rfl, hrd⟩)) ?_
  refine zj ?_
  refine zd ?_
  refine zd ?_
  refine zc ?_
  refine nK2 ?_
  refine zb ?_
  refine za ?_
  refine zg ?_
  refine zh ?_
  refine za ?_
  refine rpZ 99 rfl (op_idx_fz j rfl (oT rfl) (oT rfl) (by intro _; exact ⟨rfl, hrD⟩)) ?_
  refine zj ?_
  refine zbg ?_
  refine zc ?_
  refine nK2 ?_
  refine n_cond _ rfl (fun hb => ?_) (fun hb => ?_)
  ·have hc : gt0 T1.dist j ≠ gt0 t.dist j := fun h => by simp at hb; exact hb h.symm
   rw [if_pos hc] at hK4 hcs2
   refine nK2 ?_
   refine zb ?_
   refine za ?_
   refine zbx ?_
   refine zd ?_
   refine zc ?_
   refine nK2 ?_
   refine zb ?_
   refine zl ?_
   refine za ?_
   refine zc ?_
   refine nK2 ?_
   refine Next.weak [0, 1] [] (by rfl) (keepsN hC _ rfl) (by exact ⟨⟨_, rfl, .inl ⟨rfl, rfl⟩⟩, ⟨⟨_, rfl, .inl ⟨rfl, rfl⟩⟩, ⟨⟨_, rfl, .inl ⟨ivEq (by omega), rfl⟩⟩, ⟨⟨_, rfl, .inl ⟨rfl, rfl⟩⟩, ⟨⟨_, rfl, .inl ⟨rfl, rfl⟩⟩, ⟨⟨_, rfl, .inl ⟨rfl, rfl⟩⟩, trivial⟩⟩⟩⟩⟩⟩) wR wN hK4
  have hc : ¬ gt0 T1.dist j ≠ gt0 t.dist j := fun h => by simp at hb; exact h hb.symm
  rw [if_neg hc, Nat.add_zero] at hK4
  refine nK2 ?_
  refine zb ?_
  refine zl ?_
  refine za ?_
  refine zc ?_
  refine nK2 ?_
  refine Next.weak [0, 1] [] (by rfl) (keepsN hC _ rfl) wG wR wN hK4
 have hje : j = g.m := by simp at hb; omega
 subst hje
 rw [Nat.sub_self]
 clear hb
 refine nK2 ?_
 refine zb ?_
 refine rpZ 105 rfl (op_call_pure (fun _ => awake_c) rfl (Opd.func _) Opds.nil) ?_
 refine za ?_
 refine zf ?_
 refine zce ?_
 refine zt ?_
 refine zd ?_
 refine zc ?_
 refine nK2 ?_
 refine s_oB hC rfl rfl ?_
 simp
def encCL (l : List Edg) : List FV := [VE l]
theorem equal_law (g : Gr) (root : Int) (ll : List (List Edg)) (hok : okG g) (hll : ∀ l ∈ ll, okEs l) : Pure Tryz.prog 4 [.agg (encG g), If .i64 root, .vals 1 (ll.map encCL)] (Bf true) := by
 obtain ⟨t, e, st, it, ft, _, rt⟩ := runs_c g root hok
 refine Meets.intro Tryz.func4 rfl (Nat.le_of_ble_eq_true rfl) fun C hC => ?_
 simp only [List.map, argEnv, Nat.reduceAdd]
 refine nK2 ?_
 refine zb ?_
 refine zq ?_
 refine ze ?_
 refine zc ?_
 refine nK2 ?_
 refine zb ?_
 refine zk ?_
 refine rpZ 20 rfl (op_call_pure (fun _ => large_c _) rfl (Opd.func _) (oS (oT rfl) Opds.nil)) ?_
 refine za ?_
 refine zf ?_
 refine zbt ?_
 refine zcb ?_
 refine zv ?_
 refine zc ?_
 refine nK2 ?_
 refine n_cond _ rfl (fun hb => ?_) (fun hb => ?_)
 ·refine nK2 ?_
  refine zb ?_
  refine rpZ 26 rfl (op_call_pure (fun _ => awake_c) rfl (Opd.func _) Opds.nil) ?_
  refine zd ?_
  refine zc ?_
  refine nK2 ?_
  exact wO hC
 have hl8 : ll.length ≤ 8 := by simp at hb; omega
 clear hb
 refine nK2 ?_
 refine zb ?_
 refine zk ?_
 refine za ?_
 refine rpZ 30 rfl (op_call_pure (fun _ => rt) rfl (Opd.func _) (oS (oT rfl) (oS (oT rfl) Opds.nil))) ?_
 refine za ?_
 refine zi ?_
 refine zi ?_
 refine zu ?_
 refine zr ?_
 refine zd ?_
 refine zc ?_
 refine nK2 ?_
 refine zb ?_
 refine za ?_
 refine zbd ?_
 refine zc ?_
 refine nK2 ?_
 refine nK2 ?_
 refine n_cond _ rfl (fun hb => ?_) (fun hb => ?_)
 ·refine nK2 ?_
  refine zb ?_
  refine rpZ 35 rfl (op_call_pure (fun _ => awake_c) rfl (Opd.func _) Opds.nil) ?_
  refine zd ?_
  refine zc ?_
  refine nK2 ?_
  exact wO hC
 have h0 : e = 0 := by simpa using hb
 subst h0
 obtain ⟨cg, r0, r1⟩ := it.1 rfl
 obtain ⟨n, rfl⟩ : ∃ n : Nat, root = n := ⟨root.toNat, by omega⟩
 have et := ft rfl
 rw [Int.toNat_natCast] at et
 rw [et]
 clear hb rt et it ft
 refine Next.weakS [3, 7] [] (by rfl) (keepsN hC _ rfl) (G' := [(1, IV .i64 (n : Nat)), (2, .fz (.vals 1 (ll.map encCL))), (3, .ptr 0 3 0 0), (7, .ptr 1 4 0 0)]) (H' := [(0, OG g), (1, OTr (trOf g n))]) wG wR rfl ?_
 refine nK2 ?_
 refine zb ?_
 refine za ?_
 refine zo ?_
 refine zbb ?_
 refine zc ?_
 refine nK2 ?_
 refine n_loop (ι := Gr × Nat) (fun s => ([(1, IV .i64 (n : Nat)), (3, .ptr 0 3 0 0), (7, .ptr 1 4 0 0), (36, .fz (.vals 1 (ll.map encCL))), (37, IV .i64 ll.length), (38, IV .i64 (s.2 : Nat))], [(0, OG s.1), (1, OTr (trOf s.1 n))], 2)) (fun s => s.2 ≤ ll.length ∧ checkI s.1 = 0 ∧ (n : Int) < s.1.r) (fun s => ll.length - s.2) (g, 0) ⟨Nat.zero_le _, cg, r1⟩ ?_ ?_
 ·refine Next.weak [0, 1] [] (by rfl) (keepsN hC _ rfl) wG wR wN rel_intro
 intro ⟨now, i⟩ ⟨hi, hnow, hnr⟩ K hK
 try dsimp only at hi hnow hnr hK ⊢
 refine nK2 ?_
 refine zb ?_
 refine zp ?_
 refine zc ?_
 refine nK2 ?_
 refine n_cond _ rfl (fun hb => ?_) (fun hb => ?_)
 ·have hlt : i < ll.length := by simp at hb; omega
  have hr1 := row_at' encCL ll i hlt
  have hle := hll _ (List.getElem_mem hlt)
  have hK1 := fun now' h1 h2 => hK (now', i + 1) ⟨by dsimp only; omega, h1, h2⟩ (by dsimp only; omega)
  dsimp only at hK1
  generalize ll[i] = l at *
  refine nK2 ?_
  refine zb ?_
  refine zz ?_
  refine zj ?_
  refine zd ?_
  refine zc ?_
  refine nK2 ?_
  refine zb ?_
  refine za ?_
  refine zo ?_
  refine zcg ?_
  refine zc ?_
  refine nK2 ?_
  refine n_cond _ rfl (fun hb => ?_) (fun hb => ?_)
  ·refine nK2 ?_
   refine zb ?_
   refine rpZ 45 rfl (op_call_pure (fun _ => awake_c) rfl (Opd.func _) Opds.nil) ?_
   refine zd ?_
   refine zc ?_
   refine nK2 ?_
   exact wO hC
  have hl6 : l.length ≤ 6 := by simp at hb; omega
  have hoN := okG_of hnow
  have hap := rapply_c now l hoN (by omega) hle
  have hsT := smT_run (trOf_ok hnow hnr)
  obtain ⟨sU, k1, _⟩ := upds_c now (trOf now n) l hoN hsT hle (by omega)
  obtain ⟨q1, q2⟩ := updF_apply (a := n) l (k := 0) hnow
  rw [← updT_run hnow hnr] at q1 q2
  clear hb hK
  by_cases hz : (applyF now l).2 = 0
  ·obtain ⟨k', _, q3, q4, q5, _⟩ := q2 hz
   rw [q3] at k1
   rw [hz] at hap
   dsimp only at k1
   have hWr : (n : Int) < (applyF now l).1.r := by rw [q5]; exact hnr
   have hK2 := hK1 _ q4 hWr
   have hrW : RT.Pure Tryz.prog 15 [.agg (encG (applyF now l).1), If .i64 (n : Int)] (.tup [.agg (encTr (trOf (applyF now l).1 n)), If .i64 0]) := rrun_c _ n (okG_of q4) q4 hWr
   have hWl := (checkI_ok q4).2.1
   have hsW := smT_run (trOf_ok q4 hWr)
   have hs1 := same12_c (applyF now l).1 (applyF now l).1 (by omega) (by omega)
   have hs2 := rsame_c (trOf (applyF now l).1 n) (trOf (applyF now l).1 n) hsW hsW
   generalize (applyF now l).1 = W at *
   refine nK2 ?_
   refine zb ?_
   refine zk ?_
   refine za ?_
   refine rpZ 49 rfl (op_call_pure (fun _ => hap) rfl (Opd.func _) (oS (oT rfl) (oS (oT rfl) Opds.nil))) ?_
   refine za ?_
   refine zi ?_
   refine zi ?_
   refine zu ?_
   refine zr ?_
   refine zd ?_
   refine zc ?_
   refine nK2 ?_
   refine zb ?_
   refine zk ?_
   refine zk ?_
   refine za ?_
   refine rpZ 56 rfl (op_call_pure (fun _ => k1) rfl (Opd.func _) (oS (oT rfl) (oS (oT rfl) (oS (oT rfl) Opds.nil)))) ?_
   refine za ?_
   refine zi ?_
   refine zi ?_
   refine zi ?_
   refine zi ?_
   refine zu ?_
   refine zu ?_
   refine zr ?_
   refine zr ?_
   refine zd ?_
   refine zd ?_
   refine zc ?_
   refine nK2 ?_
   refine zb ?_
   refine za ?_
   refine za ?_
   refine zbg ?_
   refine zc ?_
   refine nK2 ?_
   refine n_cond _ rfl (fun hb => ?_) (fun hb => ?_)
   ·simp at hb
   refine nK2 ?_
   refine zb ?_
   refine za ?_
   refine zbd ?_
   refine zc ?_
   refine nK2 ?_
   refine n_cond _ rfl (fun hb => ?_) (fun hb => ?_)
   ·simp at hb
   clear hb
   refine nK2 ?_
   refine zb ?_
   refine zk ?_
   refine za ?_
   refine rpZ 69 rfl (op_call_pure (fun _ => hrW) rfl (Opd.func _) (oS (oT rfl) (oS (oT rfl) Opds.nil))) ?_
   refine za ?_
   refine zi ?_
   refine zi ?_
   refine zu ?_
   refine zr ?_
   refine zd ?_
   refine zc ?_
   refine nK2 ?_
   refine zb ?_
   refine zk ?_
   refine zk ?_
   refine rpZ 74 rfl (op_call_pure (fun _ => hs1) rfl (Opd.func _) (oS (oT rfl) (oS (oT rfl) Opds.nil))) ?_
   refine zbj ?_
   refine za ?_
   refine zbe ?_
   refine zbe ?_
   refine rgZ 79 rfl rfl tG (op_call_pure (fun _ => hs2) rfl (Opd.func _) (oS (oO rfl tO) (oS (oO rfl tO) Opds.nil))) ?_
   refine zbl ?_
   refine zv ?_
   refine zc ?_
   refine nK2 ?_
   refine n_cond _ rfl (fun hb => ?_) (fun hb => ?_)
   ·simp at hb
   refine nK2 ?_
   refine s_draw mixed ?_
   refine zk ?_
   refine zk ?_
   refine zch ?_
   refine zch ?_
   refine zs ?_
   refine nK2 ?_
   refine zb ?_
   refine zl ?_
   refine za ?_
   refine zc ?_
   refine nK2 ?_
   refine Next.weak [0, 1] [] (by rfl) (keepsN hC _ rfl) wG wR wN hK2
  have q3 := q1 hz
  rw [q3] at k1
  dsimp only at k1
  have hK2 := hK1 now hnow hnr
  generalize (applyF now l).1 = W at *
  generalize (applyF now l).2 = E at *
  refine nK2 ?_
  refine zb ?_
  refine zk ?_
  refine za ?_
  refine rpZ 49 rfl (op_call_pure (fun _ => hap) rfl (Opd.func _) (oS (oT rfl) (oS (oT rfl) Opds.nil))) ?_
  refine za ?_
  refine zi ?_
  refine zi ?_
  refine zu ?_
  refine zr ?_
  refine zd ?_
  refine zc ?_
  refine nK2 ?_
  refine zb ?_
  refine zk ?_
  refine zk ?_
  refine za ?_
  refine rpZ 56 rfl (op_call_pure (fun _ => k1) rfl (Opd.func _) (oS (oT rfl) (oS (oT rfl) (oS (oT rfl) Opds.nil)))) ?_
  refine za ?_
  refine zi ?_
  refine zi ?_
  refine zi ?_
  refine zi ?_
  refine zu ?_
  refine zu ?_
  refine zr ?_
  refine zr ?_
  refine zd ?_
  refine zd ?_
  refine zc ?_
  refine nK2 ?_
  refine zb ?_
  refine za ?_
  refine za ?_
  refine zbg ?_
  refine zc ?_
  refine nK2 ?_
  refine n_cond _ rfl (fun hb => ?_) (fun hb => ?_)
  ·simp at hb
  refine nK2 ?_
  refine zb ?_
  refine za ?_
  refine zbd ?_
  refine zc ?_
  refine nK2 ?_
  refine n_cond _ rfl (fun hb => ?_) (fun hb => ?_)
  ·refine nK2 ?_
   refine zb ?_
   refine zl ?_
   refine za ?_
   refine zc ?_
   refine nK2 ?_
   refine Next.weak [0, 1] [] (by rfl) (keepsN hC _ rfl) wG wR wN hK2
  exact absurd (by simpa using hb) hz
 refine nK2 ?_
 refine zb ?_
 refine rpZ 85 rfl (op_call_pure (fun _ => awake_c) rfl (Opd.func _) Opds.nil) ?_
 refine zd ?_
 refine zc ?_
 refine nK2 ?_
 exact wO hC
end Go.Proofs.YtcillieggklaaaaGreat
/- How the arguments of the rows read. -/
namespace Go.Proofs.YtcillieggklaaaaGreat
open Go Go.RT Go.Proofs Go.Pl
set_option linter.all false
variable {H : Type} {enc : TypeId × Value → H} {W : World} {ok : DataW H → Prop} {B : Nat}
theorem rdc_n : RdC ok enc Tryz.prog W 3 (fun fs => ∃ n, inr .i64 n ∧ fs = [If .i64 n]) := rdc_int (P := Tryz.prog) (t := 3) inferInstance
theorem rdc_edge (dn : DnOk H ok B) : RdC ok enc Tryz.prog W 70 (fun fs => ∃ e : Edg, okE e ∧ fs = encE e) :=
  (rdc_struct (P := Tryz.prog) (t := 70) dn Tryz.underlying70 (by kernel_rfl) (.cons _ _ _ _ rdc_n (.cons _ _ _ _ rdc_n (.cons _ _ _ _ rdc_n .nil)))).imp fun fs h => by
    obtain ⟨_, _, rfl, ⟨a, ha, rfl⟩, _, _, rfl, ⟨b, hb, rfl⟩, _, _, rfl, ⟨c, hc, rfl⟩, rfl⟩ := h
    exact ⟨⟨a, b, c⟩, ⟨ha, hb, hc⟩, rfl⟩
theorem rdc_edges (dn : DnOk H ok B) : RdC ok enc Tryz.prog W 22 (fun fs => ∃ l : List Edg, okEs l ∧ l.length ≤ B ∧ fs = [VE l]) :=
  (rdc_slice (P := Tryz.prog) (t := 22) (e := 70) dn inferInstance inferInstance (by decide) (rdc_edge dn)).imp fun fs h => by
    obtain ⟨rows, hr, hl, rfl⟩ := h
    obtain ⟨l, rfl, ho⟩ := rows_of (fun fs h => h) hr
    exact ⟨l, ho, by simpa using hl, rfl⟩
theorem rdc_graph (dn : DnOk H ok B) : RdC ok enc Tryz.prog W 24 (fun fs => ∃ g : Gr, okG g ∧ g.es.length ≤ B ∧ fs = encG g) :=
  (rdc_struct (P := Tryz.prog) (t := 24) dn Tryz.underlying24 (by kernel_rfl) (.cons _ _ _ _ rdc_n (.cons _ _ _ _ rdc_n (.cons _ _ _ _ (rdc_edges dn) .nil)))).imp fun fs h => by
    obtain ⟨_, _, rfl, ⟨a, ha, rfl⟩, _, _, rfl, ⟨b, hb, rfl⟩, _, _, rfl, ⟨l, hl, hB, rfl⟩, rfl⟩ := h
    exact ⟨⟨a, b, l⟩, ⟨ha, hb, hl⟩, hB, rfl⟩
theorem rdc_ints (dn : DnOk H ok B) : RdC ok enc Tryz.prog W 25 (fun fs => ∃ l : List Int, (∀ x ∈ l, inr .i64 x) ∧ l.length ≤ B ∧ fs = [VI l]) :=
  (rdc_slice (P := Tryz.prog) (t := 25) (e := 3) dn inferInstance inferInstance (by decide) rdc_n).imp fun fs h => by
    obtain ⟨rows, hr, hl, rfl⟩ := h
    obtain ⟨l, rfl, ho⟩ := rows_of (enc := encN) (fun fs h => h) hr
    exact ⟨l, ho, by simpa using hl, rfl⟩
theorem rdc_lists (dn : DnOk H ok B) : RdC ok enc Tryz.prog W 26 (fun fs => ∃ ll : List (List Int), (∀ l ∈ ll, (∀ x ∈ l, inr .i64 x) ∧ l.length ≤ B) ∧ ll.length ≤ B ∧ fs = [VLL ll]) :=
  (rdc_slice (P := Tryz.prog) (t := 26) (e := 25) dn inferInstance inferInstance (by decide) (rdc_ints dn)).imp fun fs h => by
    obtain ⟨rows, hr, hl, rfl⟩ := h
    obtain ⟨l, rfl, ho⟩ := rows_of (enc := encL) (ok := fun l => (∀ x ∈ l, inr .i64 x) ∧ l.length ≤ B) (fun fs h => by obtain ⟨l, h1, h2, h3⟩ := h; exact ⟨l, ⟨h1, h2⟩, h3⟩) hr
    exact ⟨l, ho, by simpa using hl, rfl⟩
def okTr (B : Nat) (t : Tr) : Prop := inr .i64 t.root ∧ (∀ x ∈ t.dist, inr .i64 x) ∧ t.dist.length ≤ B ∧ (∀ l ∈ t.hops, (∀ x ∈ l, inr .i64 x) ∧ l.length ≤ B) ∧ t.hops.length ≤ B ∧ (∀ l ∈ t.par, (∀ x ∈ l, inr .i64 x) ∧ l.length ≤ B) ∧ t.par.length ≤ B
theorem smT_of {t : Tr} (h : okTr maxLen t) : smT t := by
  obtain ⟨_, _, h1, h2, h3, h4, h5⟩ := h
  unfold maxLen at *
  exact ⟨by omega, ⟨by omega, fun l hl => by have := (h2 l hl).2; omega⟩, ⟨by omega, fun l hl => by have := (h4 l hl).2; omega⟩⟩
theorem rdc_tree (dn : DnOk H ok B) : RdC ok enc Tryz.prog W 28 (fun fs => ∃ t : Tr, okTr B t ∧ fs = encTr t) :=
  (rdc_struct (P := Tryz.prog) (t := 28) dn Tryz.underlying28 (by kernel_rfl) (.cons _ _ _ _ rdc_n (.cons _ _ _ _ (rdc_ints dn) (.cons _ _ _ _ (rdc_lists dn) (.cons _ _ _ _ (rdc_lists dn) .nil))))).imp fun fs h => by
    obtain ⟨_, _, rfl, ⟨a, ha, rfl⟩, _, _, rfl, ⟨d, hd1, hd2, rfl⟩, _, _, rfl, ⟨hs, hh1, hh2, rfl⟩, _, _, rfl, ⟨p, hp1, hp2, rfl⟩, rfl⟩ := h
    exact ⟨⟨a, d, hs, p⟩, ⟨ha, hd1, hd2, hh1, hh2, hp1, hp2⟩, rfl⟩
theorem rdc_chg (dn : DnOk H ok B) : RdC ok enc Tryz.prog W 46 (fun fs => ∃ e : Edg, okE e ∧ fs = encE e) :=
  (rdc_struct (P := Tryz.prog) (t := 46) dn Tryz.underlying46 (by kernel_rfl) (.cons _ _ _ _ rdc_n (.cons _ _ _ _ rdc_n (.cons _ _ _ _ rdc_n .nil)))).imp fun fs h => by
    obtain ⟨_, _, rfl, ⟨a, ha, rfl⟩, _, _, rfl, ⟨b, hb, rfl⟩, _, _, rfl, ⟨c, hc, rfl⟩, rfl⟩ := h
    exact ⟨⟨a, b, c⟩, ⟨ha, hb, hc⟩, rfl⟩
theorem rdc_chgs (dn : DnOk H ok B) : RdC ok enc Tryz.prog W 29 (fun fs => ∃ l : List Edg, okEs l ∧ l.length ≤ B ∧ fs = [VE l]) :=
  (rdc_slice (P := Tryz.prog) (t := 29) (e := 46) dn inferInstance inferInstance (by decide) (rdc_chg dn)).imp fun fs h => by
    obtain ⟨rows, hr, hl, rfl⟩ := h
    obtain ⟨l, rfl, ho⟩ := rows_of (fun fs h => h) hr
    exact ⟨l, ho, by simpa using hl, rfl⟩
theorem rdc_chgss (dn : DnOk H ok B) : RdC ok enc Tryz.prog W 39 (fun fs => ∃ ll : List (List Edg), (∀ l ∈ ll, okEs l) ∧ ll.length ≤ B ∧ fs = [.vals 1 (ll.map encCL)]) :=
  (rdc_slice (P := Tryz.prog) (t := 39) (e := 29) dn inferInstance inferInstance (by decide) (rdc_chgs dn)).imp fun fs h => by
    obtain ⟨rows, hr, hl, rfl⟩ := h
    obtain ⟨l, rfl, ho⟩ := rows_of (enc := encCL) (ok := fun l => okEs l) (fun fs h => by obtain ⟨l, h1, h2, h3⟩ := h; exact ⟨l, h1, h3⟩) hr
    exact ⟨l, ho, by simpa using hl, rfl⟩
end Go.Proofs.YtcillieggklaaaaGreat
