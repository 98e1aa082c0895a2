/- A part of the proof: E10, DP11, DP16, E11, DP12, SRT2, LayE, E12, DP13, DP14, E13, DP15, RT50, E14, E15, E16, E17, E18, DP21, E19. -/
import Derived.Test.YtkofbemgpeagbaaGreatZD
import Derived.Shelf.SlLaysF0
import Derived.Ground.SlsfProg
set_option linter.all false
namespace Go.Proofs.YtkofbemgpeagbaaGreat
open Go Go.RT Go.Proofs Go.Pl
set_option linter.all false
set_option maxRecDepth 20000
set_option maxHeartbeats 2000000
theorem wHE10a {α : Prop} (h : α := by repeat (first | exact trivial | refine ⟨wS, ?_⟩ | refine ⟨ent_same rfl rfl (rfEq rfl tU) tL, ?_⟩ | refine ⟨ent_same rfl rfl (flEq rfl (by first | (simp; done) | (simp; omega) | (simp [encP, encW, encY, encMs, encBn, encSn, encFe]; done) | simp [maxC, minC])) trivial, ?_⟩)) : α := h
theorem wHE10b {α : Prop} (h : α := by repeat (first | exact trivial | refine ⟨⟨rfl, rfl, rfl, tL⟩, ?_⟩)) : α := h
abbrev R7d (ro : Int) (f3 : FV) (ps : List Int) (f5 : FV) (d : DSt) : Option Ob := R7 (If .u32 ro) (VRg d.1) (VBn d.2.1) f3 (VW ps) f5 d.2.2
theorem bind_m (ro : Int) (f3 f5 : FV) (ps : List Int) (d : DSt) (x : Fec) (hx : x.px.ok) (h1 : d.1.length ≤ 1000000) (h2 : d.2.1.length ≤ 1000000) (h3 : d.2.2.length + ps.length ≤ 1000000) : Meets Tryz.prog 73 [.ptr 0 7 0 0, .fz (.agg (encFe x))] 1 [(0, R7d ro f3 ps f5 d)] (.fz (.tup [])) [(0, R7d ro f3 ps f5 (bindS ro ps d x))] 1 := by
 obtain ⟨fr, lc, out⟩ := d
 dsimp only at h1 h2 h3
 have kf := find_c lc x.px ro (by omega)
 have kt := ltake_c fr h1
 unfold bindS R7d
 dsimp only
 refine Meets.intro Tryz.func73 rfl (Nat.le_of_ble_eq_true rfl) fun C hC => ?_
 simp only [List.map, argEnv, Nat.reduceAdd]
 refine nK ?_
 refine za ?_
 refine zu ?_
 refine zb ?_
 refine nK ?_
 refine s_draw mixed ?_
 refine zc ?_
 refine zw ?_
 refine zf ?_
 refine zf ?_
 refine zbb ?_
 refine zf ?_
 refine zbc ?_
 refine zc ?_
 refine zw ?_
 refine zf ?_
 refine zf ?_
 refine zbb ?_
 refine rpZ 23 rfl (op_call_pure (fun _ => kf) rfl (Opd.func _) (oS (oT rfl) (oS (oT rfl) (oS (oT rfl) Opds.nil)))) ?_
 refine zc ?_
 refine zi ?_
 refine zi ?_
 refine zd ?_
 refine zd ?_
 refine zq ?_
 refine nK ?_
 refine Next.weakS [0] [3] (by rfl) (keepsN hC _ rfl) (G' := [(0, .ptr 0 7 0 0), (3, .fz (.cellp (encFe x))), (5, BV (findB lc x.px ro).isSome)]) (H' := [(0, R7 (If .u32 ro) (VRg fr) (VBn lc) f3 (VW ps) f5 out)]) wF wHE10a rfl ?_
 refine nK ?_
 refine za ?_
 refine zc ?_
 refine zb ?_
 refine nK ?_
 refine n_cond _ rfl (fun hb => ?_) (fun hb => ?_)
 ·rw [if_pos hb]
  refine nK ?_
  refine Next.weakS [0] [] (by rfl) (keepsN hC _ rfl) (G' := []) (H' := [(0, R7 (If .u32 ro) (VRg fr) (VBn lc) f3 (VW ps) f5 out)]) trivial wHE10a rfl ?_
  exact n_out0 rfl
 rw [if_neg (by rw [hb]; decide)]
 refine nK ?_
 refine za ?_
 refine ze ?_
 refine zb ?_
 refine nK ?_
 refine za ?_
 refine zbf ?_
 refine zt ?_
 refine zbj ?_
 refine zb ?_
 refine nK ?_
 refine n_cond _ rfl (fun hb => ?_) (fun hb => ?_)
 ·rw [if_neg (by simpa using hb)]
  have hok := fun h => takeF_ok (l := fr) h
  generalize takeF fr = t at *
  obtain ⟨n, fr2, e⟩ := t
  dsimp only at kt hok ⊢
  refine nK ?_
  refine za ?_
  refine zc ?_
  refine zw ?_
  refine zf ?_
  refine zf ?_
  refine zbb ?_
  refine rpZ 36 rfl (op_call_pure (fun _ => kt) rfl (Opd.func _) (oS (oT rfl) Opds.nil)) ?_
  refine zc ?_
  refine zi ?_
  refine zi ?_
  refine zi ?_
  refine zd ?_
  refine zd ?_
  refine zd ?_
  refine zb ?_
  refine nK ?_
  refine za ?_
  refine zc ?_
  refine zbe ?_
  refine zb ?_
  refine nK ?_
  refine n_cond _ rfl (fun hb => ?_) (fun hb => ?_)
  ·rw [if_pos (by simpa using hb)]
   refine nK ?_
   refine Next.weakS [0] [] (by rfl) (keepsN hC _ rfl) (G' := []) (H' := [(0, R7 (If .u32 ro) (VRg fr) (VBn lc) f3 (VW ps) f5 out)]) trivial wHE10a rfl ?_
   exact n_out0 rfl
  rw [if_neg (by simpa using hb)]
  have hn := hok (by simpa using hb)
  have kb := bind_c lc ⟨x.px, ro, n⟩ h2
  have ks := send_m (If .u32 ro) (VRg fr2) (VBn (bindL lc ⟨x.px, ro, n⟩)) f3 (VW ps) f5 out 1 n x.px ps ⟨by simp [inr], hx, by simp only [inr]; omega⟩ h3
  refine nK ?_
  refine za ?_
  refine zc ?_
  refine zc ?_
  refine zc ?_
  refine zd ?_
  refine zw ?_
  refine zf ?_
  refine zf ?_
  refine zcb ?_
  refine zb ?_
  refine nK ?_
  refine s_draw mixed ?_
  refine zc ?_
  refine zc ?_
  refine zw ?_
  refine zf ?_
  refine zf ?_
  refine zbb ?_
  refine zbf ?_
  refine zcc ?_
  refine zc ?_
  refine zw ?_
  refine zf ?_
  refine zf ?_
  refine zbb ?_
  refine zc ?_
  refine zcd ?_
  refine rpZ 63 rfl (op_call_pure (fun _ => kb) rfl (Opd.func _) (oS (oT rfl) (oS (oT rfl) Opds.nil))) ?_
  refine zw ?_
  refine zf ?_
  refine zf ?_
  refine zbr ?_
  refine zq ?_
  refine nK ?_
  refine s_draw mixed ?_
  refine zc ?_
  refine zbf ?_
  refine zcc ?_
  refine zc ?_
  refine zc ?_
  refine zw ?_
  refine zf ?_
  refine zf ?_
  refine zbb ?_
  refine Run.effW (dd := some 76) rfl rfl (op_call (n := 1) (n' := 1) [0] (fun _ => ks) rfl (Opd.func _) (oS (oT rfl) (oS oC (oS (oT rfl) (oS (oT rfl) (oS (oT rfl) Opds.nil))))) rfl rfl (Lent.of rfl rfl wHE10b rfl) rfl rfl rfl rfl rfl) (by first | exact ext_call | exact tE) ?_
  refine zq ?_
  refine Next.weakS [0] [] (by rfl) (keepsN hC _ rfl) (G' := []) (H' := [(0, R7 (If .u32 ro) (VRg fr2) (VBn (bindL lc ⟨x.px, ro, n⟩)) f3 (VW ps) f5 (out ++ ps.map fun m => msgS m 1 x.px n))]) trivial wHE10a rfl ?_
  exact n_out0 rfl
 rw [if_pos (by simpa using hb)]
 have kb := bind_c lc ⟨x.px, ro, 3⟩ h2
 have ks := send_m (If .u32 ro) (VRg fr) (VBn (bindL lc ⟨x.px, ro, 3⟩)) f3 (VW ps) f5 out 1 3 x.px ps ⟨by simp [inr], hx, by simp only [inr]; omega⟩ h3
 refine nK ?_
 refine s_draw mixed ?_
 refine zc ?_
 refine zc ?_
 refine zw ?_
 refine zf ?_
 refine zf ?_
 refine zbb ?_
 refine zbf ?_
 refine zcc ?_
 refine zc ?_
 refine zw ?_
 refine zf ?_
 refine zf ?_
 refine zbb ?_
 refine zc ?_
 refine zcd ?_
 refine rpZ 63 rfl (op_call_pure (fun _ => kb) rfl (Opd.func _) (oS (oT rfl) (oS (oT rfl) Opds.nil))) ?_
 refine zw ?_
 refine zf ?_
 refine zf ?_
 refine zbr ?_
 refine zq ?_
 refine nK ?_
 refine s_draw mixed ?_
 refine zc ?_
 refine zbf ?_
 refine zcc ?_
 refine zc ?_
 refine zc ?_
 refine zw ?_
 refine zf ?_
 refine zf ?_
 refine zbb ?_
 refine Run.effW (dd := some 76) rfl rfl (op_call (n := 1) (n' := 1) [0] (fun _ => ks) rfl (Opd.func _) (oS (oT rfl) (oS oC (oS (oT rfl) (oS (oT rfl) (oS (oT rfl) Opds.nil))))) rfl rfl (Lent.of rfl rfl wHE10b rfl) rfl rfl rfl rfl rfl) (by first | exact ext_call | exact tE) ?_
 refine zq ?_
 refine Next.weakS [0] [] (by rfl) (keepsN hC _ rfl) (G' := []) (H' := [(0, R7 (If .u32 ro) (VRg fr) (VBn (bindL lc ⟨x.px, ro, 3⟩)) f3 (VW ps) f5 (out ++ ps.map fun m => msgS m 1 x.px 3))]) trivial wHE10a rfl ?_
 exact n_out0 rfl
abbrev RRt (f0 f1 f2 f3 f4 : FV) (l : List Fec) : Option Ob := some (.refs 7 [[.fz f0, .fz f1, .fz f2, .fz f3, .fz f4, .own 4 (l.map encFe), .own 2 []]])
theorem routes_m (ro : Int) (f3 : FV) (ps : List Int) (fr : List Rg) (lc : List Bnd) (rt l : List Fec) (hl : ∀ x ∈ l, okFe x) (hlc : ∀ b ∈ lc, okB' b) (hln : l.length ≤ 1000000) (h1 : fr.length ≤ 100000) (h2 : lc.length ≤ 3000) (h3 : ps.length ≤ 100) : Meets Tryz.prog 41 [.ptr 0 7 0 0, .fz (VFe l)] 1 [(0, R7d ro f3 ps (VFe rt) (fr, lc, []))] (IV .i64 (routesG ro fr lc ps rt l).1) [(0, R7d ro f3 ps (VFe (routesG ro fr lc ps rt l).2.2) (routesG ro fr lc ps rt l).2.1)] 1 := by
 have kc := rcheck_m ro (VRg fr) (VBn lc) f3 (VW ps) (VFe rt) [] l hl (by omega)
 unfold routesG R7d
 dsimp only
 refine Meets.intro Tryz.func41 rfl (Nat.le_of_ble_eq_true rfl) fun C hC => ?_
 simp only [List.map, argEnv, Nat.reduceAdd]
 refine nK ?_
 refine za ?_
 refine ze ?_
 refine zb ?_
 refine nK ?_
 refine za ?_
 refine zc ?_
 refine zc ?_
 refine Run.eff (dd := some 18) rfl rfl (op_call (n := 1) (n' := 1) [0] (fun _ => kc) rfl (Opd.func _) (oS (oT rfl) (oS (oT rfl) Opds.nil)) rfl rfl (Lent.of rfl rfl wHE10b rfl) rfl rfl rfl rfl rfl) ?_
 refine zd ?_
 refine zb ?_
 refine nK ?_
 refine za ?_
 refine zc ?_
 refine zbe ?_
 refine zb ?_
 refine nK ?_
 refine n_cond _ rfl (fun hb => ?_) (fun hb => ?_)
 ·rw [if_pos (by simpa using hb)]
  refine nK ?_
  refine za ?_
  refine zc ?_
  refine zd ?_
  refine zb ?_
  refine nK ?_
  refine Next.weakS [0] [] (by rfl) (keepsN hC _ rfl) (G' := [(4, IV .i64 (routesE ro l))]) (H' := [(0, R7 (If .u32 ro) (VRg fr) (VBn lc) f3 (VW ps) (VFe rt) [])]) wG wHE10a rfl ?_
  exact n_out1 rfl (by rfl) rfl rfl
 have he : routesE ro l = 0 := by simpa using hb
 rw [if_neg (by simpa using he)]
 obtain ⟨hasc, hl2, hval⟩ := routesE_ok he
 dsimp only
 refine nK ?_
 refine za ?_
 refine zc ?_
 refine zw ?_
 refine zf ?_
 refine zf ?_
 refine Run.eff (dd := none) rfl rfl (op_store_refs rfl (oT rfl) oC tP rfl rfl rfl tS) ?_
 refine zb ?_
 refine nK ?_
 refine Next.adoptCell 0 0 5 4 rfl rfl rfl rfl ?_
 refine Next.untake 0 0 5 rfl rfl rfl rfl rfl rfl ?_
 refine nK ?_
 refine za ?_
 refine zc ?_
 refine zk ?_
 refine zx ?_
 refine zb ?_
 refine nK ?_
 refine n_loop (ι := Nat) (fun i => ([(0, .ptr 0 7 0 0), (26, .fz (VFe l)), (27, IV .i64 l.length), (28, IV .i64 i)], [(0, RRt (If .u32 ro) (VRg fr) (VBn lc) f3 (VW ps) (l.take i))], 1)) (fun i => i ≤ l.length) (fun i => l.length - i) 0 (Nat.zero_le _) ?_ ?_
 ·refine Next.weakS [0] [] (by rfl) (keepsN hC _ rfl) wG wHE10a rfl rel_intro
 intro i hi K hK
 refine nK ?_
 refine za ?_
 refine zn ?_
 refine zb ?_
 refine nK ?_
 refine n_cond _ rfl (fun hb => ?_) (fun hb => ?_)
 ·have hlt : i < l.length := by simp at hb; omega
  have hr1 := row_at' encFe l i hlt
  have hK1 := hK (i + 1) (by omega) (by omega)
  rw [List.take_succ_eq_append_getElem hlt] at hK1
  unfold RRt at hK1
  rw [app2'] at hK1
  have hx := hopsE_len (hval _ (List.getElem_mem hlt)).2
  have hol : (l.take i).length ≤ 2000 := by simp; omega
  generalize l.take i = o at *
  generalize l[i] = x at *
  have kw := cloneW_c x.hs (by omega)
  refine nK ?_
  refine za ?_
  refine zr ?_
  refine zv ?_
  refine zo ?_
  refine zg ?_
  refine zb ?_
  refine nK ?_
  refine za ?_
  refine zf ?_
  refine zh ?_
  refine rpZ 34 rfl (op_call_pure (fun _ => kw) rfl (Opd.func _) (oS (oT rfl) Opds.nil)) ?_
  refine zf ?_
  refine zg ?_
  refine zb ?_
  refine nK ?_
  refine Next.take 0 0 5 rfl rfl rfl rfl ?_
  refine nK ?_
  refine s_draw mixed ?_
  refine zc ?_
  refine zc ?_
  refine zw ?_
  refine zf ?_
  refine zf ?_
  refine zbb ?_
  refine zm ?_
  refine zz ?_
  refine zdb ?_
  refine zw ?_
  refine zf ?_
  refine zf ?_
  refine zbr ?_
  refine zq ?_
  refine nK ?_
  refine za ?_
  refine zj ?_
  refine zc ?_
  refine zb ?_
  refine nK ?_
  refine Next.untake 0 0 5 rfl rfl rfl rfl (by simp) rfl ?_
  refine Next.weakS [0] [] (by rfl) (keepsN hC _ rfl) wG wHE10a rfl hK1
 have hie : i = l.length := by simp at hb; omega
 rw [hie, List.take_length]
 clear hK
 have kcl := cloneB_c lc (by omega)
 refine nK ?_
 refine Next.take 0 0 5 rfl rfl rfl rfl ?_
 refine Next.freezeCell 0 0 5 _ rfl rfl rfl rfl rfl rfl ?_
 refine nK ?_
 refine za ?_
 refine zc ?_
 refine zw ?_
 refine zf ?_
 refine zf ?_
 refine zbb ?_
 refine rpZ 54 rfl (op_call_pure (fun _ => kcl) rfl (Opd.func _) (oS (oT rfl) Opds.nil)) ?_
 refine zk ?_
 refine zx ?_
 refine zb ?_
 refine nK ?_
 refine n_loop (ι := Nat) (fun i => ([(0, .ptr 0 7 0 0), (54, .fz (VBn lc)), (55, IV .i64 lc.length), (56, IV .i64 i)], [(0, R7d ro f3 ps (VFe l) (pdG ro ps l fr lc i))], 1)) (fun i => i ≤ lc.length) (fun i => lc.length - i) 0 (Nat.zero_le _) ?_ ?_
 ·refine Next.weakS [0] [] (by rfl) (keepsN hC _ rfl) wG wHE10a rfl rel_intro
 intro i hi K hK
 obtain ⟨g1, g2, g3⟩ := pdG_len ro ps l fr lc i hi
 have g4 : i * ps.length ≤ 3000 * 100 := Nat.mul_le_mul (by omega) h3
 refine nK ?_
 refine za ?_
 refine zn ?_
 refine zb ?_
 refine nK ?_
 refine n_cond _ rfl (fun hb => ?_) (fun hb => ?_)
 ·have hlt : i < lc.length := by simp at hb; omega
  have hr1 := row_at' encBn lc i hlt
  have hK1 := hK (i + 1) (by omega) (by omega)
  rw [pdG_succ ro ps l fr hlt] at hK1
  have hob := hlc _ (List.getElem_mem hlt)
  generalize pdG ro ps l fr lc i = d at *
  obtain ⟨fr1, lc1, out1⟩ := d
  generalize lc[i] = b at *
  dsimp only at g1 g2 g3
  have kr := route_c l b.px hasc (by omega)
  have ku := unbind_c lc1 b.px ro (by omega)
  have kg := lgive_c fr1 b.la (by omega) hob.la
  have ks := send_m (If .u32 ro) (VRg fr1) (VBn (unbL lc1 b.px ro)) f3 (VW ps) (VFe l) out1 2 b.la b.px ps (hob.msg 2 (by simp [inr])) (by omega)
  have hokb := okB_eq l b
  generalize (routeF l b.px).isSome = rs at *
  generalize (routeF l b.px).getD zFe = rx at *
  unfold pdS R7d at hK1
  dsimp only at hK1
  refine nK ?_
  refine za ?_
  refine zr ?_
  refine zv ?_
  refine zo ?_
  refine zg ?_
  refine zb ?_
  refine nK ?_
  refine s_draw mixed ?_
  refine zc ?_
  refine zw ?_
  refine zf ?_
  refine zf ?_
  refine zbb ?_
  refine zf ?_
  refine zbc ?_
  refine rpZ 68 rfl (op_call_pure (fun _ => kr) rfl (Opd.func _) (oS (oT rfl) (oS (oT rfl) Opds.nil))) ?_
  refine zc ?_
  refine zi ?_
  refine zi ?_
  refine Run.effW (dd := some 10) rfl rfl (op_alloc rfl rfl rfl rfl) (by first | exact ext_call | exact tE) ?_
  refine Run.effW (dd := none) rfl rfl (op_store_flat rfl (oT rfl) (oT rfl) tC rfl rfl (by first | rfl | assumption) tS) (by first | exact ext_call | exact tE) ?_
  refine zd ?_
  refine zq ?_
  refine nK ?_
  refine za ?_
  refine zc ?_
  refine zc ?_
  refine zp ?_
  refine zs ?_
  refine zp ?_
  refine zs ?_
  refine zbw ?_
  refine rgZ 78 rfl rfl tG (op_eqlB rfl (oO rfl tO) (oO rfl tO)) ?_
  refine zy ?_
  refine zb ?_
  refine nK ?_
  refine n_cond _ rfl (fun hb => ?_) (fun hb => ?_)
  ·have hk : okB l b = true := hokb.trans hb
   rw [if_pos hk] at hK1
   refine nK ?_
   refine za ?_
   refine zj ?_
   refine zc ?_
   refine zb ?_
   refine nK ?_
   refine Next.weakS [0] [] (by rfl) (keepsN hC _ rfl) wG wHE10a rfl hK1
  have hk : okB l b = false := hokb.trans hb
  rw [if_neg (by rw [hk]; decide)] at hK1
  refine nK ?_
  refine s_draw mixed ?_
  refine zc ?_
  refine zc ?_
  refine zw ?_
  refine zf ?_
  refine zf ?_
  refine zbb ?_
  refine zf ?_
  refine zbc ?_
  refine zc ?_
  refine zw ?_
  refine zf ?_
  refine zf ?_
  refine zbb ?_
  refine rpZ 94 rfl (op_call_pure (fun _ => ku) rfl (Opd.func _) (oS (oT rfl) (oS (oT rfl) (oS (oT rfl) Opds.nil)))) ?_
  refine zc ?_
  refine zi ?_
  refine zi ?_
  refine zw ?_
  refine zf ?_
  refine zf ?_
  refine zbr ?_
  refine zq ?_
  refine nK ?_
  refine s_draw mixed ?_
  refine zc ?_
  refine zf ?_
  refine zbc ?_
  refine zf ?_
  refine zh ?_
  refine zc ?_
  refine zw ?_
  refine zf ?_
  refine zf ?_
  refine zbb ?_
  refine Run.effW (dd := some 110) rfl rfl (op_call (n := 1) (n' := 1) [0] (fun _ => ks) rfl (Opd.func _) (oS (oT rfl) (oS oC (oS (oT rfl) (oS (oT rfl) (oS (oT rfl) Opds.nil))))) rfl rfl (Lent.of rfl rfl wHE10b rfl) rfl rfl rfl rfl rfl) (by first | exact ext_call | exact tE) ?_
  refine zq ?_
  refine nK ?_
  refine za ?_
  refine zf ?_
  refine zh ?_
  refine zbe ?_
  refine zb ?_
  refine nK ?_
  refine n_cond _ rfl (fun hb => ?_) (fun hb => ?_)
  ·rw [if_pos (by simpa using hb)] at hK1
   generalize giveF fr1 b.la = gv at *
   obtain ⟨fr2, ge⟩ := gv
   dsimp only at kg hK1
   refine nK ?_
   refine s_draw mixed ?_
   refine zc ?_
   refine zw ?_
   refine zf ?_
   refine zf ?_
   refine zbb ?_
   refine zf ?_
   refine zh ?_
   refine rpZ 122 rfl (op_call_pure (fun _ => kg) rfl (Opd.func _) (oS (oT rfl) (oS (oT rfl) Opds.nil))) ?_
   refine zc ?_
   refine zi ?_
   refine zi ?_
   refine zd ?_
   refine zd ?_
   refine zq ?_
   refine nK ?_
   refine za ?_
   refine zc ?_
   refine zba ?_
   refine zb ?_
   refine nK ?_
   refine n_cond _ rfl (fun hb => ?_) (fun hb => ?_)
   ·rw [if_pos (by simpa using hb)] at hK1
    refine nK ?_
    refine za ?_
    refine zc ?_
    refine zc ?_
    refine zw ?_
    refine zf ?_
    refine zf ?_
    refine zcb ?_
    refine zb ?_
    refine nK ?_
    refine za ?_
    refine zj ?_
    refine zc ?_
    refine zb ?_
    refine nK ?_
    refine Next.weakS [0] [] (by rfl) (keepsN hC _ rfl) wG wHE10a rfl hK1
   rw [if_neg (by simpa using hb)] at hK1
   refine nK ?_
   refine za ?_
   refine zj ?_
   refine zc ?_
   refine zb ?_
   refine nK ?_
   refine Next.weakS [0] [] (by rfl) (keepsN hC _ rfl) wG wHE10a rfl hK1
  rw [if_neg (by simpa using hb)] at hK1
  refine nK ?_
  refine za ?_
  refine zj ?_
  refine zc ?_
  refine zb ?_
  refine nK ?_
  refine Next.weakS [0] [] (by rfl) (keepsN hC _ rfl) wG wHE10a rfl hK1
 have hie : i = lc.length := by simp at hb; omega
 rw [hie] at g1 g2 g3 ⊢
 clear hK
 have g5 : lc.length * ps.length ≤ 3000 * 100 := Nat.mul_le_mul (by omega) h3
 generalize pdG ro ps l fr lc lc.length = d0 at *
 refine nK ?_
 refine za ?_
 refine zc ?_
 refine zw ?_
 refine zf ?_
 refine zf ?_
 refine zbb ?_
 refine zk ?_
 refine zx ?_
 refine zb ?_
 refine nK ?_
 refine n_loop (ι := Nat) (fun i => ([(0, .ptr 0 7 0 0), (137, .fz (VFe l)), (138, IV .i64 l.length), (139, IV .i64 i)], [(0, R7d ro f3 ps (VFe l) (bdG ro ps l d0 i))], 1)) (fun i => i ≤ l.length) (fun i => l.length - i) 0 (Nat.zero_le _) ?_ ?_
 ·refine Next.weakS [0] [] (by rfl) (keepsN hC _ rfl) wG wHE10a rfl rel_intro
 intro i hi K hK
 obtain ⟨q1, q2, q3⟩ := bdG_len ro ps l d0 i hi
 have q4 : i * ps.length ≤ 2000 * 100 := Nat.mul_le_mul (by omega) h3
 refine nK ?_
 refine za ?_
 refine zn ?_
 refine zb ?_
 refine nK ?_
 refine n_cond _ rfl (fun hb => ?_) (fun hb => ?_)
 ·have hlt : i < l.length := by simp at hb; omega
  have hr1 := row_at' encFe l i hlt
  have hK1 := hK (i + 1) (by omega) (by omega)
  rw [bdG_succ ro ps d0 hlt] at hK1
  have hx := hl _ (List.getElem_mem hlt)
  generalize bdG ro ps l d0 i = d at *
  generalize l[i] = x at *
  have kb := bind_m ro f3 (VFe l) ps d x hx.px (by omega) (by omega) (by omega)
  refine nK ?_
  refine za ?_
  refine zr ?_
  refine zv ?_
  refine zo ?_
  refine zg ?_
  refine zb ?_
  refine nK ?_
  refine za ?_
  refine zc ?_
  refine zm ?_
  refine Run.eff (dd := some 145) rfl rfl (op_call (n := 1) (n' := 1) [0] (fun _ => kb) rfl (Opd.func _) (oS (oT rfl) (oS (oT rfl) Opds.nil)) rfl rfl (Lent.of rfl rfl wHE10b rfl) rfl rfl rfl rfl rfl) ?_
  refine zb ?_
  refine nK ?_
  refine za ?_
  refine zj ?_
  refine zc ?_
  refine zb ?_
  refine nK ?_
  refine Next.weakS [0] [] (by rfl) (keepsN hC _ rfl) wG wHE10a rfl hK1
 have hie : i = l.length := by simp at hb; omega
 rw [hie]
 generalize bdG ro ps l d0 l.length = d at *
 refine nK ?_
 refine za ?_
 refine ze ?_
 refine zb ?_
 refine nK ?_
 refine Next.weakS [0] [] (by rfl) (keepsN hC _ rfl) (G' := [(4, IV .i64 0)]) (H' := [(0, R7 (If .u32 ro) (VRg d.1) (VBn d.2.1) f3 (VW ps) (VFe l) d.2.2)]) wG wHE10a rfl ?_
 exact n_out1 rfl (by rfl) rfl rfl
end Go.Proofs.YtkofbemgpeagbaaGreat
/- The program's Handle and the document's. No program in sight. -/
namespace Go.Pl
open Go Go.RT
set_option linter.all false
structure okLs (s : Lst) : Prop where
  v : vD s.ro s.fr s.lc
  ps : ascP' s.ps
  lc : ∀ b ∈ s.lc, okB' b
  rt : ∀ x ∈ s.rt, okFs x
  rta : ascX s.rt
  nfr : s.fr.length ≤ 100000
  nlc : s.lc.length ≤ 3000
  nrm : s.rm.length ≤ 100000
  nps : s.ps.length ≤ 100
  nrt : s.rt.length ≤ 2000
structure okLe (e : Lev) : Prop where
  k : inr .i64 e.k
  da : ∀ x ∈ e.da, 0 ≤ x ∧ x < 256
  nda : e.da.length ≤ 1000000
  rt : ∀ x ∈ e.rt, okFe x
  nrt : e.rt.length ≤ 1000000
def finP (e : Int) (s : Lst) (o : List Snd) : Res := if e ≠ 0 then badR e else (s, o, 0)
def handleP (s : Lst) (e : Lev) : Res :=
  if e.k = 1 then (let r := upG s.ro s.lc s.ps e.pe; finP r.1 { s with ps := r.2.1 } r.2.2) else
  if e.k = 2 then (let r := downG s.rm s.ps e.pe; finP r.1 { s with ps := r.2.1, rm := r.2.2 } []) else
  if e.k = 3 then (let r := dataG s.ro s.lc s.rm s.ps e.pe e.da; finP r.1 { s with rm := r.2.1 } r.2.2) else
  if e.k = 4 then (let r := routesG s.ro s.fr s.lc s.ps s.rt e.rt; finP r.1 { s with fr := r.2.1.1, lc := r.2.1.2.1, rt := r.2.2 } r.2.1.2.2) else badR 15
theorem dataG_fin (s : Lst) (n : Int) (d : List Int) : (let r := dataG s.ro s.lc s.rm s.ps n d; finP r.1 { s with rm := r.2.1 } r.2.2) = dataF s n d := by
  dsimp only
  by_cases c : s.ps.contains n = true
  · have c2 : ¬ (!s.ps.contains n) = true := by rw [c]; decide
    have c3 : ¬ s.ps.contains n = false := by rw [c]; decide
    unfold dataF
    rw [if_neg c3]
    by_cases d1 : (decodeF d).2 ≠ 0
    · have hG : dataG s.ro s.lc s.rm s.ps n d = ((decodeF d).2, s.rm, []) := by unfold dataG; rw [if_neg c2, if_pos d1]
      rw [hG, if_pos d1]; unfold finP; rw [if_pos d1]
    · rw [if_neg d1]
      dsimp only
      by_cases k1 : (decodeF d).1.k = 1
      · have hG : dataG s.ro s.lc s.rm s.ps n d = (0, bindL s.rm ⟨(decodeF d).1.px, n, (decodeF d).1.la⟩, []) := by unfold dataG; rw [if_neg c2, if_neg d1]; dsimp only; rw [if_pos k1]
        rw [hG, if_pos k1]; rfl
      · rw [if_neg k1]
        by_cases k2 : (decodeF d).1.k = 2
        · rw [if_pos k2]
          have hG : dataG s.ro s.lc s.rm s.ps n d = if ((findB s.rm (decodeF d).1.px n).isSome && decide ((findB s.rm (decodeF d).1.px n).getD 0 = (decodeF d).1.la)) = true then (0, unbL s.rm (decodeF d).1.px n, [msgS n 3 (decodeF d).1.px (decodeF d).1.la]) else (0, s.rm, []) := by unfold dataG; rw [if_neg c2, if_neg d1]; dsimp only; rw [if_neg k1, if_pos k2]
          rw [hG]
          cases q : findB s.rm (decodeF d).1.px n with
          | none => simp [finP]
          | some la =>
            by_cases z : la = (decodeF d).1.la
            · simp [finP, z]
            · simp [finP, z]
        · rw [if_neg k2]
          by_cases k4 : (decodeF d).1.k = 4
          · rw [if_pos k4]
            have hG : dataG s.ro s.lc s.rm s.ps n d = if (findB s.lc (decodeF d).1.px s.ro).isSome = true then (0, s.rm, [msgS n 1 (decodeF d).1.px ((findB s.lc (decodeF d).1.px s.ro).getD 0)]) else (0, s.rm, []) := by unfold dataG; rw [if_neg c2, if_neg d1]; dsimp only; rw [if_neg k1, if_neg k2, if_pos k4]
            rw [hG]
            cases q : findB s.lc (decodeF d).1.px s.ro with
            | none => simp [finP]
            | some la => simp [finP]
          · rw [if_neg k4]
            have hG : dataG s.ro s.lc s.rm s.ps n d = (0, s.rm, []) := by unfold dataG; rw [if_neg c2, if_neg d1]; dsimp only; rw [if_neg k1, if_neg k2, if_neg k4]
            rw [hG]; rfl
  · have c' : s.ps.contains n = false := by simpa using c
    have hG : dataG s.ro s.lc s.rm s.ps n d = (6, s.rm, []) := by unfold dataG; rw [if_pos (by rw [c']; decide)]
    unfold dataF
    rw [hG, if_pos c']; rfl
theorem handleP_eq {s : Lst} (h : okLs s) (e : Lev) : handleP s e = handleF s e := by
  unfold handleP handleF
  split
  · unfold upG upF
    split
    · rfl
    · split
      · rfl
      · rfl
  · split
    · unfold downG downF
      by_cases c : s.ps.contains e.pe = true
      · rw [if_neg (by rw [c]; decide), if_neg (by rw [c]; decide)]
        simp [finP]
      · have c' : s.ps.contains e.pe = false := by simpa using c
        rw [if_pos (by rw [c']; decide), if_pos c']; rfl
    · split
      · exact dataG_fin s e.pe e.da
      · split
        · unfold routesG routesF
          by_cases c : routesE s.ro e.rt ≠ 0
          · rw [if_pos c, if_pos c]; simp [finP, c]
          · rw [if_neg c, if_neg c]
            have e1 : bdG s.ro s.ps e.rt (pdG s.ro s.ps e.rt s.fr s.lc s.lc.length) e.rt.length = bindF s e.rt (dropF s e.rt) := by
              unfold bdG pdG bindF dropF
              rw [List.take_length, List.take_length]
              have := pd_eq (ro := s.ro) (ps := s.ps) (l := e.rt) s.lc [] s.fr [] h.v
              rw [List.nil_append] at this
              rw [this]
            rw [e1]; rfl
        · rfl
end Go.Pl
/- Numbers of labels; large arguments. No program in sight. -/
namespace Go.Pl
open Go Go.RT
set_option linter.all false
abbrev VEv (l : List Lev) : FV := .vals 4 (l.map encEv)
def largeE (e : Lev) : Bool := decide (40 < e.rt.length) || decide (100 < e.da.length)
def largeF (l : List Lev) : Bool := decide (40 < l.length) || l.any largeE
/-- valid lists are short -/
theorem vG_len : ∀ {l : List Rg} (b : Int), vG l → (∀ r ∈ l, b ≤ r.f) → (l.length : Int) * 2 + b ≤ 1048577 + (if l.length = 0 then b else 0)
  | [], b, _, _ => by simp; omega
  | r :: t, b, h, hb => by
    have hr := h.hd.1
    have r1 := hr.lo
    have r2 := hr.le
    have r3 := hr.hi
    have b1 := hb r (List.mem_cons_self ..)
    have ih := vG_len (r.t + 2) h.tl fun x hx => by have := h.hd.2 x hx; unfold ltG at this; omega
    simp only [List.length_cons]
    rw [if_neg (by omega)]
    split at ih
    · next k => rw [k]; simp; omega
    · omega
theorem vG_short {l : List Rg} (h : vG l) : l.length ≤ 1000000 := by
  have := vG_len 0 h fun r hr => by have := (h.v r hr).lo; omega
  split at this <;> omega
end Go.Pl
namespace Go.Proofs.YtkofbemgpeagbaaGreat
open Go Go.RT Go.Proofs Go.Pl
set_option linter.all false
set_option maxRecDepth 20000
set_option maxHeartbeats 2000000
theorem wHE11a {α : Prop} (h : α := by repeat (first | exact trivial | refine ⟨wS, ?_⟩ | refine ⟨ent_same rfl rfl (rfEq rfl tU) tL, ?_⟩ | refine ⟨ent_same rfl rfl (flEq rfl (by first | (simp; done) | (simp; omega) | (simp [encP, encW, encY, encMs, encBn, encSn, encFe]; done) | simp [maxC, minC])) trivial, ?_⟩)) : α := h
theorem wHE11b {α : Prop} (h : α := by repeat (first | exact trivial | refine ⟨⟨rfl, rfl, rfl, tL⟩, ?_⟩)) : α := h
abbrev clnP (s : Lst) : PV := .agg [IV .u32 s.ro, .fz (VRg s.fr), .fz (VBn s.lc), .sl 0 4 0 s.rm.length, .sl 1 1 0 s.ps.length, .fz (VFe s.rt)]
abbrev RCl (s : Lst) (l : List Fec) : Option Ob := some (.refs 6 [[IV .u32 s.ro, .fz (VRg s.fr), .fz (VBn s.lc), .sl 2 4 0 s.rm.length, .sl 3 1 0 s.ps.length, .own 4 (l.map encFe)]])
abbrev zRow6 : List PV := [IV .u32 0, .fz (.lit (.slice none 0 0)), .fz (.lit (.slice none 0 0)), .fz (.lit (.slice none 0 0)), .fz (.lit (.slice none 0 0)), .fz (.lit (.slice none 0 0))]
theorem clone_m (s : Lst) (h : okLs s) : Meets Tryz.prog 37 ([.agg (encLs s)].map PV.fz) 0 [] (clnP s) [(0, OBn s.rm), (1, OW s.ps)] 2 := by
 have k1 := cloneG_c s.fr (by have := h.nfr; omega)
 have k2 := cloneB_c s.lc (by have := h.nlc; omega)
 have k3 := cloneB_f s.rm (by have := h.nrm; omega)
 have k4 := cloneW_f s.ps (by have := h.nps; omega)
 have hrt := h.nrt
 refine Meets.intro Tryz.func37 rfl (Nat.le_of_ble_eq_true rfl) fun C hC => ?_
 simp only [List.map, argEnv, Nat.reduceAdd]
 refine nK ?_
 refine za ?_
 refine zu ?_
 refine zo ?_
 refine zb ?_
 refine nK ?_
 refine Next.toRefs 0 rfl rfl ?_
 refine Next.toRefs 1 rfl rfl ?_
 refine nK ?_
 refine s_draw mixed ?_
 refine zf ?_
 refine zbb ?_
 refine rpZ 8 rfl (op_call_pure (fun _ => k1) rfl (Opd.func _) (oS (oT rfl) Opds.nil)) ?_
 refine zf ?_
 refine zbb ?_
 refine rpZ 11 rfl (op_call_pure (fun _ => k2) rfl (Opd.func _) (oS (oT rfl) Opds.nil)) ?_
 refine zf ?_
 refine zbb ?_
 refine Run.effW (dd := some 14) rfl rfl (op_call_fresh (fun _ => k3) rfl (Opd.func _) (oS (oT rfl) Opds.nil)) (by first | exact ext_call | exact tE) ?_
 refine zf ?_
 refine zbb ?_
 refine Run.effW (dd := some 17) rfl rfl (op_call_fresh (fun _ => k4) rfl (Opd.func _) (oS (oT rfl) Opds.nil)) (by first | exact ext_call | exact tE) ?_
 refine zf ?_
 refine zbr ?_
 refine zf ?_
 refine zbr ?_
 refine zf ?_
 refine zbr ?_
 refine zf ?_
 refine zbr ?_
 refine zq ?_
 refine nK ?_
 refine nK ?_
 refine za ?_
 refine zf ?_
 refine zbb ?_
 refine zd ?_
 refine zb ?_
 refine nK ?_
 refine za ?_
 refine zf ?_
 refine Run.eff (dd := none) rfl rfl (op_store_refs rfl (oT rfl) oC tP rfl rfl rfl tS) ?_
 refine zb ?_
 refine nK ?_
 refine Next.adoptCell 0 0 5 4 rfl rfl rfl rfl ?_
 refine Next.untake 0 0 5 rfl rfl rfl rfl rfl rfl ?_
 refine nK ?_
 refine za ?_
 refine zc ?_
 refine zk ?_
 refine zx ?_
 refine zb ?_
 refine nK ?_
 refine n_loop (ι := Nat) (fun i => ([(1, .ptr 0 6 0 0), (2, .ptr 1 6 0 0), (25, .fz (VFe s.rt)), (26, IV .i64 s.rt.length), (27, IV .i64 i)], [(0, RCl s (s.rt.take i)), (1, some (.refs 6 [zRow6])), (2, OBn s.rm), (3, OW s.ps)], 4)) (fun i => i ≤ s.rt.length) (fun i => s.rt.length - i) 0 (Nat.zero_le _) ?_ ?_
 ·refine Next.weak [0, 1, 2, 3] [] (by rfl) (keeps0 hC _) wG wHE11a wN rel_intro
 intro i hi K hK
 refine nK ?_
 refine za ?_
 refine zn ?_
 refine zb ?_
 refine nK ?_
 refine n_cond _ rfl (fun hb => ?_) (fun hb => ?_)
 ·have hlt : i < s.rt.length := by simp at hb; omega
  have hr1 := row_at' encFe s.rt i hlt
  have hK1 := hK (i + 1) (by omega) (by omega)
  rw [List.take_succ_eq_append_getElem hlt] at hK1
  unfold RCl at hK1
  rw [app2'] at hK1
  have hx := h.rt _ (List.getElem_mem hlt)
  have hol : (s.rt.take i).length ≤ 2000 := by simp; omega
  generalize s.rt.take i = o at *
  generalize s.rt[i] = x at *
  have kw := cloneW_c x.hs (by have := hx.hs; omega)
  refine nK ?_
  refine za ?_
  refine zr ?_
  refine zv ?_
  refine zo ?_
  refine zg ?_
  refine zb ?_
  refine nK ?_
  refine za ?_
  refine zf ?_
  refine zh ?_
  refine rpZ 33 rfl (op_call_pure (fun _ => kw) rfl (Opd.func _) (oS (oT rfl) Opds.nil)) ?_
  refine zf ?_
  refine zg ?_
  refine zb ?_
  refine nK ?_
  refine Next.take 0 0 5 rfl rfl rfl rfl ?_
  refine nK ?_
  refine za ?_
  refine zf ?_
  refine zbb ?_
  refine zm ?_
  refine zz ?_
  refine zbi ?_
  refine zf ?_
  refine zcb ?_
  refine zb ?_
  refine nK ?_
  refine za ?_
  refine zj ?_
  refine zc ?_
  refine zb ?_
  refine nK ?_
  refine Next.untake 0 0 5 rfl rfl rfl rfl (by simp) rfl ?_
  refine Next.weak [0, 1, 2, 3] [] (by rfl) (keeps0 hC _) wG wHE11a wN hK1
 have hie : i = s.rt.length := by simp at hb; omega
 rw [hie, List.take_length]
 refine nK ?_
 refine Next.take 0 0 5 rfl rfl rfl rfl ?_
 refine Next.freezeCell 0 0 5 4 rfl rfl rfl rfl rfl rfl ?_
 refine nK ?_
 refine za ?_
 refine zcl ?_
 refine zcb ?_
 refine zb ?_
 refine nK ?_
 exact n_outW1 [2, 3] [] rfl tVP rfl (keeps0 hC _) ⟨wS, ⟨wS, trivial⟩⟩ wN (.inl ⟨rfl, rfl⟩) rfl
theorem new_c (r : Int) (l : List Rg) (hn : l.length ≤ 9223372036854775807) : Pure Tryz.prog 7 [If .u32 r, VRg l] (.tup [.agg (encLs (newF r l).1), If .i64 (newF r l).2]) := by
 have k1 := lcheck_c l (by omega)
 have k2 := cloneG_c l
 unfold newF
 refine Meets.intro Tryz.func7 rfl (Nat.le_of_ble_eq_true rfl) fun C hC => ?_
 simp only [List.map, argEnv, Nat.reduceAdd]
 refine nK ?_
 refine za ?_
 refine zo ?_
 refine ze ?_
 refine zb ?_
 refine nK ?_
 refine za ?_
 refine zc ?_
 refine zba ?_
 refine zb ?_
 refine nK ?_
 refine n_cond _ rfl (fun hb => ?_) (fun hb => ?_)
 ·rw [if_pos (by simpa using hb)]
  refine nK ?_
  refine za ?_
  refine zbg ?_
  refine zg ?_
  refine ze ?_
  refine zb ?_
  refine nK ?_
  refine Next.weakS [4] [] (by rfl) (keeps0 hC _) (G' := [(4, .ptr 0 6 0 0), (5, IV .i64 5)]) (H' := [(0, some (.flat 6 [encLs zLst]))]) wG (by exact ⟨⟨rfl, rfl, .fflat _ _ _ rfl tW⟩, trivial⟩) rfl ?_
  exact wO hC
 rw [if_neg (by simpa using hb)]
 refine nK ?_
 refine za ?_
 refine zc ?_
 refine rpZ 11 rfl (op_call_pure (fun _ => k1) rfl (Opd.func _) (oS (oT rfl) Opds.nil)) ?_
 refine zd ?_
 refine zb ?_
 refine nK ?_
 refine za ?_
 refine zc ?_
 refine zbe ?_
 refine zb ?_
 refine nK ?_
 refine n_cond _ rfl (fun hb => ?_) (fun hb => ?_)
 ·rw [if_pos (by simpa using hb)]
  refine nK ?_
  refine za ?_
  refine zbg ?_
  refine zc ?_
  refine zg ?_
  refine zd ?_
  refine zb ?_
  refine nK ?_
  refine Next.weakS [4] [] (by rfl) (keeps0 hC _) (G' := [(4, .ptr 0 6 0 0), (5, IV .i64 (lblE l))]) (H' := [(0, some (.flat 6 [encLs zLst]))]) wG (by exact ⟨⟨rfl, rfl, .fflat _ _ _ rfl tW⟩, trivial⟩) rfl ?_
  exact wO hC
 rw [if_neg (by simpa using hb)]
 have k2 := k2 (by have := vG_short ((lblE_iff l).1 (by simpa using hb)); omega)
 refine nK ?_
 refine za ?_
 refine zc ?_
 refine zc ?_
 refine rpZ 18 rfl (op_call_pure (fun _ => k2) rfl (Opd.func _) (oS (oT rfl) Opds.nil)) ?_
 refine zbn ?_
 refine zg ?_
 refine ze ?_
 refine zb ?_
 refine nK ?_
 refine Next.weakS [4] [] (by rfl) (keeps0 hC _) (G' := [(4, .ptr 0 6 0 0), (5, IV .i64 0)]) (H' := [(0, some (.flat 6 [encLs ⟨r, l, [], [], [], []⟩]))]) wG (by exact ⟨⟨rfl, rfl, .fflat _ _ _ rfl tW⟩, trivial⟩) rfl ?_
 exact wO hC
abbrev zRow6F : List FV := [If .u32 0, .lit (.slice none 0 0), .lit (.slice none 0 0), .lit (.slice none 0 0), .lit (.slice none 0 0), .lit (.slice none 0 0)]
theorem handle_c (s : Lst) (e : Lev) (h : okLs s) (he : okLe e) : Pure Tryz.prog 10 [.agg (encLs s), .agg (encEv e)] (.tup [.agg (encLs (handleF s e).1), VSn (handleF s e).2.1, If .i64 (handleF s e).2.2]) := by
 have kcl := clone_m s h
 have ku := up_m s.ro e.pe (VRg s.fr) (VBn s.rm) (VFe s.rt) s.lc s.ps h.lc h.ps (by have := h.nlc; omega) (by have := h.nps; omega)
 have kd := down_m e.pe (If .u32 s.ro) (VRg s.fr) (VBn s.lc) (VFe s.rt) s.rm s.ps h.ps h.nrm (by have := h.nps; omega)
 have kt := data_m s.ro e.pe e.da (VRg s.fr) (VFe s.rt) s.lc s.rm s.ps h.ps he.da (by have := he.nda; omega) (fun b hb => (h.lc b hb).la) (by have := h.nlc; omega) h.nrm (by have := h.nps; omega)
 have kr := routes_m s.ro (VBn s.rm) s.ps s.fr s.lc s.rt e.rt he.rt h.lc he.nrt h.nfr h.nlc h.nps
 have hle1 : (s.rm.map encBn).length = s.rm.length := List.length_map _
 have hle2 : (s.ps.map encW).length = s.ps.length := List.length_map _
 rw [← handleP_eq h]
 unfold handleP
 generalize upG s.ro s.lc s.ps e.pe = gu at *
 generalize downG s.rm s.ps e.pe = gd at *
 generalize dataG s.ro s.lc s.rm s.ps e.pe e.da = gt at *
 generalize routesG s.ro s.fr s.lc s.ps s.rt e.rt = gr at *
 dsimp only
 refine Meets.intro Tryz.func10 rfl (Nat.le_of_ble_eq_true rfl) fun C hC => ?_
 simp only [List.map, argEnv, Nat.reduceAdd]
 refine nK ?_
 refine za ?_
 refine zu ?_
 refine zu ?_
 refine zo ?_
 refine ze ?_
 refine ze ?_
 refine zb ?_
 refine nK ?_
 refine za ?_
 refine zm ?_
 refine Run.eff (dd := some 10) rfl rfl (op_call (n := 0) (n' := 2) [] (fun _ => kcl) rfl (Opd.func _) (oS (oT rfl) Opds.nil) rfl rfl (Lent.nil _) rfl rfl rfl rfl rfl) ?_
 refine rpZ 11 rfl (op_buildP rfl rfl rfl rfl (FillP.cons _ _ _ _ _ _ _ _ _ _ (by rfl) (oT rfl) tP (by rfl) tR (FillP.nil _))) ?_
 refine Run.eff (dd := some 12) rfl rfl (op_box_refs rfl (oT rfl) tP rfl) ?_
 refine zd ?_
 refine zb ?_
 refine nK ?_
 refine Next.weak [2, 5, 3, 4] [1] (by rfl) (keeps0 hC _) (G' := [(3, .fz (.cellp (encEv e))), (4, .ptr 0 6 0 0), (7, .ptr 1 7 0 0)]) (H' := [(0, some (.flat 6 [zRow6F])), (1, some (.refs 7 [[IV .u32 s.ro, .fz (VRg s.fr), .fz (VBn s.lc), .sl 2 4 0 s.rm.length, .sl 3 1 0 s.ps.length, .fz (VFe s.rt), .fz (.lit (.slice none 0 0))]])), (2, OBn s.rm), (3, OW s.ps)]) wF wHE11a (fun id h => by obtain rfl : id = 1 := (by simpa using h); exact ⟨_, rfl⟩) ?_
 refine Next.adoptCell 1 0 6 2 rfl rfl rfl rfl ?_
 refine Next.untake 1 0 6 rfl rfl rfl rfl rfl rfl ?_
 refine nK ?_
 refine za ?_
 refine ze ?_
 refine zb ?_
 refine nK ?_
 refine za ?_
 refine zbf ?_
 refine zt ?_
 refine zb ?_
 refine nK ?_
 refine za ?_
 refine zba ?_
 refine zd ?_
 refine zb ?_
 refine nK ?_
 refine n_cond _ rfl (fun hb => ?_) (fun hb => ?_)
 ·rw [if_pos (by simpa using hb)]
  refine nK ?_
  refine Next.freezeCell 1 0 3 2 rfl rfl rfl rfl hle1 rfl ?_
  refine Next.untake 1 0 4 rfl rfl rfl rfl hle2 rfl ?_
  refine nK ?_
  refine za ?_
  refine zc ?_
  refine zbf ?_
  refine zt ?_
  refine Run.eff (dd := some 20) rfl rfl (op_call (n := 1) (n' := 1) [1] (fun _ => ku) rfl (Opd.func _) (oS (oT rfl) (oS (oT rfl) Opds.nil)) rfl rfl (Lent.of rfl rfl wHE11b rfl) rfl rfl rfl rfl rfl) ?_
  refine zd ?_
  refine zb ?_
  refine nK ?_
  refine za ?_
  refine zc ?_
  refine zbe ?_
  refine zb ?_
  refine nK ?_
  refine n_cond _ rfl (fun hb => ?_) (fun hb => ?_)
  ·rw [show finP gu.1 { s with ps := gu.2.1 } gu.2.2 = badR gu.1 by unfold finP; rw [if_pos (by simpa using hb)]]
   refine nK ?_
   refine za ?_
   refine zbg ?_
   refine zc ?_
   refine zg ?_
   refine ze ?_
   refine zd ?_
   refine zb ?_
   refine nK ?_
   refine Next.weakS [4] [] (by rfl) (keeps0 hC _) (G' := [(4, .ptr 0 6 0 0), (5, .fz (VSn [])), (6, IV .i64 gu.1)]) (H' := [(0, some (.flat 6 [encLs zLst]))]) wF (by exact ⟨⟨rfl, rfl, .fflat _ _ _ rfl tW⟩, trivial⟩) rfl ?_
   exact wO hC
  rw [show finP gu.1 { s with ps := gu.2.1 } gu.2.2 = ({ s with ps := gu.2.1 }, gu.2.2, 0) by unfold finP; rw [if_neg (by simpa using hb)]]
  refine nK ?_
  refine Next.take 1 0 6 rfl rfl rfl rfl ?_
  refine Next.toRefs 0 rfl rfl ?_
  refine nK ?_
  refine s_draw mixed ?_
  refine zc ?_
  refine zw ?_
  refine zf ?_
  refine zcl ?_
  refine zc ?_
  refine zw ?_
  refine zf ?_
  refine zbb ?_
  refine zbr ?_
  refine zd ?_
  refine ze ?_
  refine zq ?_
  refine nK ?_
  refine Next.weakS [4] [5] (by rfl) (keeps0 hC _) (G' := [(4, .ptr 0 6 0 0), (5, .fz (VSn gu.2.2)), (6, IV .i64 0)]) (H' := [(0, some (.flat 6 [encLs { s with ps := gu.2.1 }]))]) wF (by exact ⟨⟨rfl, rfl, .flat _ _ _ rfl tW⟩, trivial⟩) rfl ?_
  exact wO hC
 rw [if_neg (by simpa using hb)]
 refine nK ?_
 refine za ?_
 refine zba ?_
 refine zd ?_
 refine zb ?_
 refine nK ?_
 refine n_cond _ rfl (fun hb => ?_) (fun hb => ?_)
 ·rw [if_pos (by simpa using hb)]
  refine nK ?_
  refine Next.untake 1 0 3 rfl rfl rfl rfl hle1 rfl ?_
  refine Next.untake 1 0 4 rfl rfl rfl rfl hle2 rfl ?_
  refine nK ?_
  refine za ?_
  refine zc ?_
  refine zbf ?_
  refine zt ?_
  refine Run.eff (dd := some 26) rfl rfl (op_call (n := 1) (n' := 1) [1] (fun _ => kd) rfl (Opd.func _) (oS (oT rfl) (oS (oT rfl) Opds.nil)) rfl rfl (Lent.of rfl rfl wHE11b rfl) rfl rfl rfl rfl rfl) ?_
  refine zd ?_
  refine zb ?_
  refine nK ?_
  refine za ?_
  refine zc ?_
  refine zbe ?_
  refine zb ?_
  refine nK ?_
  refine n_cond _ rfl (fun hb => ?_) (fun hb => ?_)
  ·rw [show finP gd.1 { s with ps := gd.2.1, rm := gd.2.2 } [] = badR gd.1 by unfold finP; rw [if_pos (by simpa using hb)]]
   refine nK ?_
   refine za ?_
   refine zbg ?_
   refine zc ?_
   refine zg ?_
   refine ze ?_
   refine zd ?_
   refine zb ?_
   refine nK ?_
   refine Next.weakS [4] [] (by rfl) (keeps0 hC _) (G' := [(4, .ptr 0 6 0 0), (5, .fz (VSn [])), (6, IV .i64 gd.1)]) (H' := [(0, some (.flat 6 [encLs zLst]))]) wF (by exact ⟨⟨rfl, rfl, .fflat _ _ _ rfl tW⟩, trivial⟩) rfl ?_
   exact wO hC
  rw [show finP gd.1 { s with ps := gd.2.1, rm := gd.2.2 } [] = ({ s with ps := gd.2.1, rm := gd.2.2 }, [], 0) by unfold finP; rw [if_neg (by simpa using hb)]]
  refine nK ?_
  refine Next.take 1 0 6 rfl rfl rfl rfl ?_
  refine Next.toRefs 0 rfl rfl ?_
  refine nK ?_
  refine s_draw mixed ?_
  refine zc ?_
  refine zw ?_
  refine zf ?_
  refine zcl ?_
  refine zc ?_
  refine zw ?_
  refine zf ?_
  refine zbb ?_
  refine zbr ?_
  refine zd ?_
  refine ze ?_
  refine zq ?_
  refine nK ?_
  refine Next.weakS [4] [5] (by rfl) (keeps0 hC _) (G' := [(4, .ptr 0 6 0 0), (5, .fz (VSn [])), (6, IV .i64 0)]) (H' := [(0, some (.flat 6 [encLs { s with ps := gd.2.1, rm := gd.2.2 }]))]) wF (by exact ⟨⟨rfl, rfl, .flat _ _ _ rfl tW⟩, trivial⟩) rfl ?_
  exact wO hC
 rw [if_neg (by simpa using hb)]
 refine nK ?_
 refine za ?_
 refine zba ?_
 refine zd ?_
 refine zb ?_
 refine nK ?_
 refine n_cond _ rfl (fun hb => ?_) (fun hb => ?_)
 ·rw [if_pos (by simpa using hb)]
  refine nK ?_
  refine Next.freezeCell 1 0 3 2 rfl rfl rfl rfl hle1 rfl ?_
  refine Next.freezeCell 1 0 4 3 rfl rfl rfl rfl hle2 rfl ?_
  refine nK ?_
  refine za ?_
  refine zc ?_
  refine zbf ?_
  refine zt ?_
  refine zbf ?_
  refine zt ?_
  refine Run.eff (dd := some 34) rfl rfl (op_call (n := 1) (n' := 1) [1] (fun _ => kt) rfl (Opd.func _) (oS (oT rfl) (oS (oT rfl) (oS (oT rfl) Opds.nil))) rfl rfl (Lent.of rfl rfl wHE11b rfl) rfl rfl rfl rfl rfl) ?_
  refine zd ?_
  refine zb ?_
  refine nK ?_
  refine za ?_
  refine zc ?_
  refine zbe ?_
  refine zb ?_
  refine nK ?_
  refine n_cond _ rfl (fun hb => ?_) (fun hb => ?_)
  ·rw [show finP gt.1 { s with rm := gt.2.1 } gt.2.2 = badR gt.1 by unfold finP; rw [if_pos (by simpa using hb)]]
   refine nK ?_
   refine za ?_
   refine zbg ?_
   refine zc ?_
   refine zg ?_
   refine ze ?_
   refine zd ?_
   refine zb ?_
   refine nK ?_
   refine Next.weakS [4] [] (by rfl) (keeps0 hC _) (G' := [(4, .ptr 0 6 0 0), (5, .fz (VSn [])), (6, IV .i64 gt.1)]) (H' := [(0, some (.flat 6 [encLs zLst]))]) wF (by exact ⟨⟨rfl, rfl, .fflat _ _ _ rfl tW⟩, trivial⟩) rfl ?_
   exact wO hC
  rw [show finP gt.1 { s with rm := gt.2.1 } gt.2.2 = ({ s with rm := gt.2.1 }, gt.2.2, 0) by unfold finP; rw [if_neg (by simpa using hb)]]
  refine nK ?_
  refine Next.take 1 0 6 rfl rfl rfl rfl ?_
  refine Next.toRefs 0 rfl rfl ?_
  refine nK ?_
  refine s_draw mixed ?_
  refine zc ?_
  refine zw ?_
  refine zf ?_
  refine zcl ?_
  refine zc ?_
  refine zw ?_
  refine zf ?_
  refine zbb ?_
  refine zbr ?_
  refine zd ?_
  refine ze ?_
  refine zq ?_
  refine nK ?_
  refine Next.weakS [4] [5] (by rfl) (keeps0 hC _) (G' := [(4, .ptr 0 6 0 0), (5, .fz (VSn gt.2.2)), (6, IV .i64 0)]) (H' := [(0, some (.flat 6 [encLs { s with rm := gt.2.1 }]))]) wF (by exact ⟨⟨rfl, rfl, .flat _ _ _ rfl tW⟩, trivial⟩) rfl ?_
  exact wO hC
 rw [if_neg (by simpa using hb)]
 refine nK ?_
 refine za ?_
 refine zba ?_
 refine zd ?_
 refine zb ?_
 refine nK ?_
 refine n_cond _ rfl (fun hb => ?_) (fun hb => ?_)
 ·rw [if_pos (by simpa using hb)]
  refine nK ?_
  refine Next.freezeCell 1 0 3 2 rfl rfl rfl rfl hle1 rfl ?_
  refine Next.freezeCell 1 0 4 3 rfl rfl rfl rfl hle2 rfl ?_
  refine nK ?_
  refine za ?_
  refine zc ?_
  refine zbf ?_
  refine zt ?_
  refine Run.eff (dd := some 40) rfl rfl (op_call (n := 1) (n' := 1) [1] (fun _ => kr) rfl (Opd.func _) (oS (oT rfl) (oS (oT rfl) Opds.nil)) rfl rfl (Lent.of rfl rfl wHE11b rfl) rfl rfl rfl rfl rfl) ?_
  refine zd ?_
  refine zb ?_
  refine nK ?_
  refine za ?_
  refine zc ?_
  refine zbe ?_
  refine zb ?_
  refine nK ?_
  refine n_cond _ rfl (fun hb => ?_) (fun hb => ?_)
  ·rw [show finP gr.1 { s with fr := gr.2.1.1, lc := gr.2.1.2.1, rt := gr.2.2 } gr.2.1.2.2 = badR gr.1 by unfold finP; rw [if_pos (by simpa using hb)]]
   refine nK ?_
   refine za ?_
   refine zbg ?_
   refine zc ?_
   refine zg ?_
   refine ze ?_
   refine zd ?_
   refine zb ?_
   refine nK ?_
   refine Next.weakS [4] [] (by rfl) (keeps0 hC _) (G' := [(4, .ptr 0 6 0 0), (5, .fz (VSn [])), (6, IV .i64 gr.1)]) (H' := [(0, some (.flat 6 [encLs zLst]))]) wF (by exact ⟨⟨rfl, rfl, .fflat _ _ _ rfl tW⟩, trivial⟩) rfl ?_
   exact wO hC
  rw [show finP gr.1 { s with fr := gr.2.1.1, lc := gr.2.1.2.1, rt := gr.2.2 } gr.2.1.2.2 = ({ s with fr := gr.2.1.1, lc := gr.2.1.2.1, rt := gr.2.2 }, gr.2.1.2.2, 0) by unfold finP; rw [if_neg (by simpa using hb)]]
  refine nK ?_
  refine Next.take 1 0 6 rfl rfl rfl rfl ?_
  refine Next.toRefs 0 rfl rfl ?_
  refine nK ?_
  refine s_draw mixed ?_
  refine zc ?_
  refine zw ?_
  refine zf ?_
  refine zcl ?_
  refine zc ?_
  refine zw ?_
  refine zf ?_
  refine zbb ?_
  refine zbr ?_
  refine zd ?_
  refine ze ?_
  refine zq ?_
  refine nK ?_
  refine Next.weakS [4] [5] (by rfl) (keeps0 hC _) (G' := [(4, .ptr 0 6 0 0), (5, .fz (VSn gr.2.1.2.2)), (6, IV .i64 0)]) (H' := [(0, some (.flat 6 [encLs { s with fr := gr.2.1.1, lc := gr.2.1.2.1, rt := gr.2.2 }]))]) wF (by exact ⟨⟨rfl, rfl, .flat _ _ _ rfl tW⟩, trivial⟩) rfl ?_
  exact wO hC
 rw [if_neg (by simpa using hb)]
 refine nK ?_
 refine za ?_
 refine zc ?_
 refine zbe ?_
 refine zb ?_
 refine nK ?_
 refine n_cond _ rfl (fun hb => ?_) (fun hb => ?_)
 ·refine nK ?_
  refine za ?_
  refine zbg ?_
  refine zc ?_
  refine zg ?_
  refine ze ?_
  refine zd ?_
  refine zb ?_
  refine nK ?_
  refine Next.weakS [4] [] (by rfl) (keeps0 hC _) (G' := [(4, .ptr 0 6 0 0), (5, .fz (VSn [])), (6, IV .i64 15)]) (H' := [(0, some (.flat 6 [encLs zLst]))]) wF (by exact ⟨⟨rfl, rfl, .fflat _ _ _ rfl tW⟩, trivial⟩) rfl ?_
  exact wO hC
 simp at hb
end Go.Proofs.YtkofbemgpeagbaaGreat
/- What is forwarded: the program's list, sorted. No program in sight. -/
namespace Go.Pl
open Go Go.RT
set_option linter.all false
theorem key_uniq {α : Type} (key : α → Int) : ∀ {a b : List α}, a.Pairwise (fun x y => key x < key y) → b.Pairwise (fun x y => key x < key y) → (∀ x, x ∈ a ↔ x ∈ b) → a = b
  | [], [], _, _, _ => rfl
  | [], y :: b, _, _, h => by have := (h y).2 (List.mem_cons_self ..); simp at this
  | x :: a, [], _, _, h => by have := (h x).1 (List.mem_cons_self ..); simp at this
  | x :: a, y :: b, ha, hb, h => by
    obtain ⟨a1, a2⟩ := List.pairwise_cons.1 ha
    obtain ⟨b1, b2⟩ := List.pairwise_cons.1 hb
    have hxy : x = y := by
      rcases List.mem_cons.1 ((h x).1 (List.mem_cons_self ..)) with e | e
      · exact e
      · rcases List.mem_cons.1 ((h y).2 (List.mem_cons_self ..)) with e2 | e2
        · exact e2.symm
        · have := b1 x e; have := a1 y e2; omega
    subst hxy
    rw [key_uniq key a2 b2 fun z => ?_]
    constructor
    · intro hz
      rcases List.mem_cons.1 ((h z).1 (List.mem_cons_of_mem _ hz)) with e | e
      · subst e; have := a1 z hz; omega
      · exact e
    · intro hz
      rcases List.mem_cons.1 ((h z).2 (List.mem_cons_of_mem _ hz)) with e | e
      · subst e; have := b1 z hz; omega
      · exact e
/-- a sorted permutation of elements with different keys is the ascending one -/
theorem sort_uniq {α : Type} (key : α → Int) {l t l' : List α} (ht : t.Pairwise fun x y => key x < key y) (hm : ∀ x, x ∈ t ↔ x ∈ l) (hn : l.Pairwise fun x y => key x ≠ key y) (hp : l'.Perm l)
    (hs : ∀ (i j : Nat) (x y : α), i < j → l'[i]? = some x → l'[j]? = some y → ¬ key y - key x < 0) : l' = t := by
  have hn' : l'.Pairwise fun x y => key x ≠ key y := hp.symm.pairwise hn fun h => Ne.symm h
  have hs' : l'.Pairwise fun x y => key x < key y := by
    rw [List.pairwise_iff_getElem] at hn' ⊢
    intro i j hi hj hij
    have h1 := hn' i j hi hj hij
    have h2 := hs i j _ _ hij (List.getElem?_eq_getElem hi) (List.getElem?_eq_getElem hj)
    omega
  exact key_uniq key hs' ht fun x => by rw [hm]; exact hp.mem_iff
theorem insE_mem {e x : LEn} : ∀ {l : List LEn}, x ∈ insE e l ↔ x = e ∨ x ∈ l
  | [] => by simp [insE]
  | y :: t => by
    simp only [insE]
    split
    · simp
    · rw [List.mem_cons, insE_mem (l := t), List.mem_cons]
      constructor
      · rintro (h | h | h)
        · exact .inr (.inl h)
        · exact .inl h
        · exact .inr (.inr h)
      · rintro (h | h | h)
        · exact .inr (.inl h)
        · exact .inl h
        · exact .inr (.inr h)
theorem insE_asc {e : LEn} : ∀ {l : List LEn}, l.Pairwise (fun x y => x.i < y.i) → (∀ x ∈ l, x.i ≠ e.i) → (insE e l).Pairwise fun x y => x.i < y.i
  | [], _, _ => by simp [insE]
  | y :: t, h, hn => by
    obtain ⟨h1, h2⟩ := List.pairwise_cons.1 h
    simp only [insE]
    split
    · next k => exact List.pairwise_cons.2 ⟨fun z hz => by rcases List.mem_cons.1 hz with rfl | hz; exact k; have := h1 z hz; omega, h⟩
    · next k =>
      refine List.pairwise_cons.2 ⟨fun z hz => ?_, insE_asc h2 fun x hx => hn x (List.mem_cons_of_mem _ hx)⟩
      rcases insE_mem.1 hz with rfl | hz
      · have := hn y (List.mem_cons_self ..); omega
      · exact h1 z hz
/-- the program's list, not sorted yet -/
def rawS (s : Lst) (o : List LEn) (b : Bnd) : List LEn := if b.la = 3 then o else o ++ [⟨b.la, outF s b.px⟩]
def rawE (s : Lst) (l : List Bnd) : List LEn := l.foldl (rawS s) []
theorem rawE_eq (s : Lst) : ∀ (l : List Bnd) (o : List LEn), l.foldl (rawS s) o = o ++ (l.filter fun b => decide (b.la ≠ 3)).map fun b => ⟨b.la, outF s b.px⟩
  | [], o => by simp
  | b :: l, o => by
    rw [List.foldl_cons, rawE_eq s l]
    unfold rawS
    by_cases e : b.la = 3
    · simp [e]
    · simp [e]
theorem rawE_take (s : Lst) {l : List Bnd} {i : Nat} (h : i < l.length) : rawE s (l.take (i + 1)) = rawS s (rawE s (l.take i)) l[i] := by
  unfold rawE; rw [List.take_succ_eq_append_getElem h, List.foldl_append]; rfl
theorem rawE_len (s : Lst) (l : List Bnd) : (rawE s l).length ≤ l.length := by
  unfold rawE; rw [rawE_eq]; simp; exact List.length_filter_le _ _
def enS (s : Lst) (o : List LEn) (b : Bnd) : List LEn := if b.la = 3 then o else insE ⟨b.la, outF s b.px⟩ o
theorem enS_ok (s : Lst) : ∀ (l : List Bnd) (o : List LEn), o.Pairwise (fun x y => x.i < y.i) → (∀ x ∈ o, ∀ b ∈ l, b.la ≠ 3 → x.i ≠ b.la) → l.Pairwise (fun a b => a.la ≠ 3 → b.la ≠ a.la) → (l.foldl (enS s) o).Pairwise (fun x y => x.i < y.i) ∧ ∀ x, x ∈ l.foldl (enS s) o ↔ x ∈ o ∨ ∃ b ∈ l, b.la ≠ 3 ∧ x = ⟨b.la, outF s b.px⟩
  | [], o, h, _, _ => ⟨h, fun x => by simp⟩
  | b :: l, o, h, hd, hn => by
    obtain ⟨n1, n2⟩ := List.pairwise_cons.1 hn
    rw [List.foldl_cons]
    unfold enS
    by_cases e : b.la = 3
    · rw [if_pos e]
      obtain ⟨k1, k2⟩ := enS_ok s l o h (fun x hx c hc => hd x hx c (List.mem_cons_of_mem _ hc)) n2
      refine ⟨k1, fun x => ?_⟩
      have := k2 x
      unfold enS at this
      rw [this]
      constructor
      · rintro (h | ⟨c, hc, h1, h2⟩)
        · exact .inl h
        · exact .inr ⟨c, List.mem_cons_of_mem _ hc, h1, h2⟩
      · rintro (h | ⟨c, hc, h1, h2⟩)
        · exact .inl h
        · rcases List.mem_cons.1 hc with rfl | hc
          · exact absurd e h1
          · exact .inr ⟨c, hc, h1, h2⟩
    · rw [if_neg e]
      obtain ⟨k1, k2⟩ := enS_ok s l (insE ⟨b.la, outF s b.px⟩ o) (insE_asc h fun x hx => hd x hx b (List.mem_cons_self ..) e) (fun x hx c hc h3 => by
        rcases insE_mem.1 hx with rfl | hx
        · exact (n1 c hc e).symm
        · exact hd x hx c (List.mem_cons_of_mem _ hc) h3) n2
      refine ⟨k1, fun x => ?_⟩
      have := k2 x
      unfold enS at this
      rw [this, insE_mem]
      constructor
      · rintro ((h | h) | ⟨c, hc, h1, h2⟩)
        · exact .inr ⟨b, List.mem_cons_self .., e, h⟩
        · exact .inl h
        · exact .inr ⟨c, List.mem_cons_of_mem _ hc, h1, h2⟩
      · rintro (h | ⟨c, hc, h1, h2⟩)
        · exact .inl (.inr h)
        · rcases List.mem_cons.1 hc with rfl | hc
          · exact .inl (.inl h2)
          · exact .inr ⟨c, hc, h1, h2⟩
theorem vD.labels {ro : Int} {fr : List Rg} {lc : List Bnd} (h : vD ro fr lc) : lc.Pairwise fun a b => a.la ≠ 3 → b.la ≠ a.la := by
  refine List.Pairwise.imp_of_mem ?_ h.hl
  intro a b ha hb hlt h3 he
  have := h.inj a ha b hb he.symm h3
  subst this
  exact hlt.irr
theorem entr_eq (s : Lst) : entrF s = s.lc.foldl (enS s) [] := rfl
theorem entr_sorted {s : Lst} (h : vD s.ro s.fr s.lc) {l' : List LEn} (hp : l'.Perm (rawE s s.lc)) (hs : ∀ (i j : Nat) (x y : LEn), i < j → l'[i]? = some x → l'[j]? = some y → ¬ y.i - x.i < 0) : l' = entrF s := by
  obtain ⟨k1, k2⟩ := enS_ok s s.lc [] List.Pairwise.nil (by simp) h.labels
  have hraw : rawE s s.lc = (s.lc.filter fun b => decide (b.la ≠ 3)).map fun b => ⟨b.la, outF s b.px⟩ := by unfold rawE; rw [rawE_eq]; simp
  refine sort_uniq (fun e : LEn => e.i) (l := rawE s s.lc) k1 (fun x => ?_) ?_ hp hs
  · rw [hraw, entr_eq, k2]
    simp only [List.not_mem_nil, false_or, List.mem_map, List.mem_filter, decide_eq_true_eq]
    constructor
    · rintro ⟨b, h1, h2, rfl⟩; exact ⟨b, ⟨h1, h2⟩, rfl⟩
    · rintro ⟨b, ⟨h1, h2⟩, rfl⟩; exact ⟨b, h1, h2, rfl⟩
  · rw [hraw, List.pairwise_map]
    refine List.Pairwise.imp_of_mem ?_ (h.labels.sublist (List.filter_sublist ..))
    intro a b ha hb h3
    have := (List.mem_filter.1 ha).2
    simp at this
    exact (h3 this).symm
theorem rawE_rng {s : Lst} (h : vD s.ro s.fr s.lc) : ∀ x ∈ rawE s s.lc, 16 ≤ x.i ∧ x.i ≤ 1048575 := fun x hx => by
  unfold rawE at hx; rw [rawE_eq] at hx
  simp at hx
  obtain ⟨b, ⟨h1, h2⟩, rfl⟩ := hx
  have := h.la b h1
  show 16 ≤ b.la ∧ b.la ≤ _
  omega
theorem hops_take (s : Lst) (p : Pfx) {l : List Int} {i : Nat} (h : i < l.length) : hopsF s p (l.take (i + 1)) = hopsF s p (l.take i) ++ (match findB s.rm p l[i] with | some la => [⟨l[i], if la = 3 then -1 else la⟩] | none => []) := by
  unfold hopsF
  rw [List.take_succ_eq_append_getElem h, List.filterMap_append]
  congr 1
  cases hf : findB s.rm p l[i] <;> simp [hf]
theorem hopsF_len (s : Lst) (p : Pfx) (l : List Int) : (hopsF s p l).length ≤ l.length := List.length_filterMap_le ..
theorem outF_eq (s : Lst) (p : Pfx) : outF s p = hopsF s p ((routeF s.rt p).getD zFe).hs := by
  unfold outF
  cases routeF s.rt p <;> rfl
theorem insE_len (e : LEn) : ∀ l : List LEn, (insE e l).length = l.length + 1
  | [] => rfl
  | x :: t => by
    simp only [insE]
    split
    · rfl
    · simp [insE_len e t]
theorem enS_len (s : Lst) : ∀ (l : List Bnd) (o : List LEn), (l.foldl (enS s) o).length = o.length + (l.filter fun b => decide (b.la ≠ 3)).length
  | [], o => by simp
  | b :: l, o => by
    rw [List.foldl_cons, enS_len s l]
    unfold enS
    by_cases e : b.la = 3
    · simp [e]
    · rw [if_neg e, insE_len]; simp [e]; omega
theorem entr_len (s : Lst) : (entrF s).length = (rawE s s.lc).length := by
  rw [entr_eq, enS_len]
  unfold rawE; rw [rawE_eq]; simp
end Go.Pl
/- slices.SortFunc at elements that hold frozen slices; the order leaves one result only. -/
namespace Go.RT
open Go Go.Proofs Go.Sort Go.Shelf
set_option linter.all false
variable {P : Program} {ρ : Ren} {α : Type}
/-- the cells of a row, as they are -/
structure RowV (w : World) (S : Nat → Prop) (k : Nat) (fs : List FV) (vs : List Value) : Prop where
  len : vs.length = k
  at_ : ∀ (i : Nat) (v : Value) (f : FV), vs[i]? = some v → fs[i]? = some f → FRep w S v f
  one : ∀ v ∈ vs, v.oneCell' = true
abbrev El (enc : α → List FV) (w : World) (S : Nat → Prop) (k : Nat) : Type := { p : α × List Value // RowV w S k (enc p.1) p.2 }
theorem sort_heap {β : Type} [Inhabited β] {ev : β → List Value} {k : Nat} {w : World} {b off q : Nat} {os : Array Obj} {dk : Array β} {b' : Nat} (hne : b' ≠ b) (hlt : b' < w.heap.size) : (sortWorldK ev k w b off q dk os).heap[b']? = w.heap[b']? := by
  unfold sortWorldK putRowK putRow mapBlock
  simp only [Go.Sort.ahead, grow]
  rw [Array.getElem?_append_left (by simpa using hlt), Array.getElem?_modify, if_neg (fun e => hne e.symm)]
theorem sort_size {β : Type} [Inhabited β] {ev : β → List Value} {k : Nat} {w : World} {b off q : Nat} {os : Array Obj} {dk : Array β} : w.heap.size ≤ (sortWorldK ev k w b off q dk os).heap.size := by
  unfold sortWorldK putRowK putRow mapBlock
  simp [Go.Sort.ahead, grow]
theorem cmp_laysR {g k : Nat} {enc : α → List FV} (henc : ∀ x, (enc x).length = k) {w : World} {S : Nat → Prop} (hst : ∀ b, S b → b < w.heap.size) [Inhabited (El enc w S k)] {cf : α → α → Int} (hc : ∀ x y, Pure P g [.agg (enc x), .agg (enc y)] (If .i64 (cf x y))) (blk off size : Nat) (hb : ¬ S blk) :
    CmpLays P g #[] (fun p : El enc w S k => p.1.2) k (fun p q => cf p.1.1 q.1.1) blk off size w := by
  intro m os dk _ x y
  have hheap : ∀ b, S b → (sortWorldK (fun p : El enc w S k => p.1.2) k w blk off m dk os).heap[b]? = w.heap[b]? := fun b h => sort_heap (fun e => hb (e ▸ h)) (hst b h)
  have hsz := sort_size (ev := fun p : El enc w S k => p.1.2) (k := k) (w := w) (b := blk) (off := off) (q := m) (os := os) (dk := dk)
  generalize sortWorldK (fun p : El enc w S k => p.1.2) k w blk off m dk os = W at *
  let C : Cx := ⟨W, fun _ => False, S, fun _ => none, 0, []⟩
  have hm : Mem C [] 0 C.S0 C.m0 C.w0 := ⟨⟨rfl, Nat.le_refl _⟩, rfl, rfl, fun _ _ => rfl, Nat.le_refl _, fun _ _ _ => rfl, Le.refl _ _ _, fun b h => .inl h, fun i x hx => (by cases hx), fun i o h => (by cases h), fun i o b h => (by cases h), fun i j o1 o2 b h => (by cases h), fun b hb => Nat.lt_of_lt_of_le (hst b hb) hsz, fun _ _ => rfl, nst_nil⟩
  have ag : ∀ z : El enc w S k, FRep W S (.agg z.1.2.toArray) (.agg (enc z.1.1)) := fun z => by
    refine .agg _ _ (by simp [z.2.len, henc]) (fun i c f hc hf => ?_) (fun i c hc => ?_)
    · simp only [List.getElem?_toArray] at hc
      exact (z.2.at_ i c f hc hf).mono (fun _ h => h) hheap
    · simp only [List.getElem?_toArray] at hc
      exact z.2.one c (List.mem_of_getElem? hc)
  have := (hc x.1.1 y.1.1).run C [.agg x.1.2.toArray, .agg y.1.2.toArray] rfl hm rfl (fun i v p hi hp => by
    match i with
    | 0 => simp at hi hp; subst hi; subst hp; exact .fz _ _ (ag x)
    | 1 => simp at hi hp; subst hi; subst hp; exact .fz _ _ (ag y)
    | i + 2 => simp at hi)
  have h2 : Calls P g (#[.agg x.1.2.toArray, .agg y.1.2.toArray] ++ #[]) W (fun e w' => ∃ v S' m', e = .returned v ∧ Mem C [] 0 S' m' w' ∧ Rep w' S' m' v (.fz (If .i64 (cf x.1.1 y.1.1)))) := by simpa using this
  refine h2.mono fun e w' ⟨v, S', m', he, hm', hr⟩ => ?_
  obtain ⟨q, os', hw⟩ := hm'.is_grown (fun b h => h)
  refine ⟨by rw [he]; cases hr with | fz _ _ h => cases h; rfl, q, os', hw⟩
/-- the rows in memory as elements -/
theorem rows_els {enc : α → List FV} {k : Nat} (henc : ∀ x, (enc x).length = k) {w : World} {S : Nat → Prop} {c : Array Value} {l : List α} (h : RowsRep (FRep w S) c k (l.map enc)) :
    ∃ L : List (El enc w S k), L.map (fun p => p.1.1) = l ∧ ∀ i (hi : i < L.length) j, j < k → c[i * k + j]? = (L[i]).1.2[j]? := by
  have hrow : ∀ i (hi : i < l.length), RowV w S k (enc l[i]) ((List.range k).map fun j => (c[i * k + j]?).getD undef) ∧ ∀ j, j < k → c[i * k + j]? = ((List.range k).map fun j => (c[i * k + j]?).getD undef)[j]? := fun i hi => by
    have hx : (l.map enc)[i]? = some (enc l[i]) := by simp [hi]
    have hall : ∀ j, j < k → ∃ u f, c[i * k + j]? = some u ∧ (enc l[i])[j]? = some f ∧ u.oneCell' = true ∧ FRep w S u f := fun j hj => by
      have hj' : j < (enc l[i]).length := by rw [henc]; exact hj
      obtain ⟨u, hu, ho, hr⟩ := h.2.2 i j _ _ hx (List.getElem?_eq_getElem hj')
      exact ⟨u, _, hu, List.getElem?_eq_getElem hj', ho, hr⟩
    refine ⟨⟨by simp, fun j v f hv hf => ?_, fun v hv => ?_⟩, fun j hj => ?_⟩
    · rw [List.getElem?_map] at hv
      obtain ⟨j', hj', rfl⟩ := Option.map_eq_some_iff.1 hv
      have hlt : j < k := by
        have := (List.getElem?_eq_some_iff.1 hj').1
        simpa using this
      have : j' = j := by rw [List.getElem?_range hlt] at hj'; exact (Option.some.inj hj').symm
      subst this
      obtain ⟨u, f', hu, hf', ho, hr⟩ := hall j' hlt
      rw [hf] at hf'; cases hf'
      rw [hu]; exact hr
    · obtain ⟨j, hj, rfl⟩ := List.mem_map.1 hv
      obtain ⟨u, f', hu, hf', ho, hr⟩ := hall j (List.mem_range.1 hj)
      rw [hu]; exact ho
    · obtain ⟨u, f', hu, hf', ho, hr⟩ := hall j hj
      rw [List.getElem?_map, List.getElem?_range hj, hu]; simp [hu]
  refine ⟨List.ofFn fun i : Fin l.length => ⟨(l[i], (List.range k).map fun j => (c[i.1 * k + j]?).getD undef), (hrow i.1 i.2).1⟩, ?_, fun i hi j hj => ?_⟩
  · apply List.ext_getElem
    · rw [List.length_map, List.length_ofFn]
    · intro i h1 h2; rw [List.getElem_map, List.getElem_ofFn]; rfl
  · have hi' : i < l.length := by simpa using hi
    rw [List.getElem_ofFn]
    exact (hrow i hi').2 j hj
theorem sort_meetsR (L : SlLaysF0.n6 P ρ) {k : Nat} (hk0 : 0 < k) (aE : ∀ w, (isAgg (ρ.t 24)).run P w = .ok true w) (zE : ∀ w, (Go.sizeOf (ρ.t 24)).run P w = .ok k w) {enc : α → List FV} (henc : ∀ x, (enc x).length = k) (d : α) (zv : List Value) (hd : ∀ w S, RowV w S k (enc d) zv)
    {cf : α → α → Int} (hO : SWO (ltOf cf)) {g : Nat} (hg : ∀ args w, (callFunc g args).run P w = .ok (.enter g args) w)
    (hc : ∀ x y, Pure P g [.agg (enc x), .agg (enc y)] (If .i64 (cf x y))) {l t : List α} (hl : l.length < 4611686018427387904) (hu : ∀ l' : List α, l'.Perm l → (∀ (i j : Nat) (x y : α), i < j → l'[i]? = some x → l'[j]? = some y → ¬ cf y x < 0) → l' = t) :
    Meets P (ρ.f 6) [.sl 0 k 0 l.length, .clo g [] []] 1 [(0, some (.flat k (l.map enc)))] (.fz (.tup [])) [(0, some (.flat k (t.map enc)))] 1 := by
  refine ⟨fun C vs hn hm hlv hr => ?_⟩
  have tupR : ∀ w' S' m', Rep w' S' m' (.tuple #[]) (.fz (.tup [])) := fun w' S' m' => .fz _ _ (.tup #[] [] rfl (fun i c f hc => by simp at hc))
  match vs, hlv, hr with
  | [v0, v1], _, hr =>
  have r0 := hr 0 v0 _ rfl rfl
  have r1 := hr 1 v1 _ rfl rfl
  have ho := hm.objs 0 _ rfl
  cases r1 with
  | clo _ as' cs _ _ ha hcs _ _ =>
  have ea : as' = #[] := by simpa using ha
  have ec : cs = #[] := by simpa using hcs
  subst ea; subst ec
  generalize hll : l.length = n at r0 hl
  cases r0 with
  | sl0 =>
    have hl0 : l = [] := List.length_eq_zero_iff.1 hll
    have e : t = l := (hu l (List.Perm.refl _) (fun i j x y _ hx => by rw [hl0] at hx; simp at hx)).symm
    rw [e]
    refine (AnyF.slices_SortFunc_none L none 0 (.func (.func g) #[] #[]) C.w0).mono fun e w' ⟨he, hw⟩ => ?_
    subst hw
    exact ⟨_, _, _, he, hm, tupR _ _ _⟩
  | sl _ _ _ _ b cap h hroom hcap hmx =>
    rcases ho with ⟨h2, _⟩ | ⟨b', c, e, h2, h3, h4⟩
    · rw [h] at h2; cases h2
    · rw [h] at h2; cases h2
      obtain ⟨hb1, hb2, hb3⟩ := hm.blk 0 _ b rfl h
      letI : Inhabited (El enc C.w0 C.S0 k) := ⟨⟨(d, zv), hd _ _⟩⟩
      obtain ⟨Ls, hLs, hcells⟩ := rows_els henc h4
      have hlen : Ls.length = n := by have := congrArg List.length hLs; simpa [hll] using this
      have hevl : ∀ x : El enc C.w0 C.S0 k, x.1.2.length = k := fun x => x.2.len
      have hO' : SWO (ltOf fun p q : El enc C.w0 C.S0 k => cf p.1.1 q.1.1) := ⟨fun x => hO.irrefl x.1.1, fun x y z => hO.trans x.1.1 y.1.1 z.1.1, fun x y z => hO.ntrans x.1.1 y.1.1 z.1.1⟩
      have hsz : n * k ≤ c.size := by have := h4.1; simpa [hll] using this
      have hH : HoldsK (fun p : El enc C.w0 C.S0 k => p.1.2) k C.w0 b (0 * k) Ls.toArray := by
        intro j hj
        simp [hlen] at hj
        refine ⟨?_, ?_⟩
        · simp only [World.cell?, h3, Nat.zero_mul, Nat.zero_add]
          have hdv : j / k < Ls.length := by rw [hlen]; exact Nat.div_lt_of_lt_mul (by rwa [Nat.mul_comm] at hj)
          have hmd := Nat.mod_lt j hk0
          have e : j / k * k + j % k = j := by rw [Nat.mul_comm]; exact Nat.div_add_mod j k
          have hcj := hcells (j / k) hdv (j % k) hmd
          rw [e] at hcj
          rw [get_flatK _ _ _ _ (by simpa [hlen] using hj)]
          have hjl : j % k < (Ls[j / k]).1.2.length := by rw [hevl]; exact hmd
          rw [List.getElem?_eq_getElem hjl] at hcj
          rw [getElem!_pos _ (j / k) (by simpa using hdv), getElem!_pos _ (j % k) (by simpa using hjl)]
          simp [hcj]
        · simp [World.frozen?, h3]
      have hcall := AnyQ.slices_SortFunc_eq L k aE zE (fun p : El enc C.w0 C.S0 k => p.1.2) hevl (fun x v hv => x.2.one v hv) (fun p q => cf p.1.1 q.1.1) hO' g #[] b (0 * k) cap Ls.toArray C.w0 hg (cmp_laysR henc (fun b hb => hm.stab b hb) hc b (0 * k) Ls.toArray.size hb1) hH hb2 (by simpa [hlen] using hl)
      rw [show Ls.toArray.size = n by simpa using hlen] at hcall
      refine hcall.mono fun ex w' ⟨he, q, os, hw⟩ => ?_
      subst hw
      obtain ⟨hs1, hs2, hs3⟩ := sortBy_spec (fun p q : El enc C.w0 C.S0 k => cf p.1.1 q.1.1) hO' Ls
      have hd2 : pdq (ltOf fun p q : El enc C.w0 C.S0 k => cf p.1.1 q.1.1) Ls.toArray 0 n (Lib.bitLen n) true true = (sortBy (fun p q : El enc C.w0 C.S0 k => cf p.1.1 q.1.1) Ls).toArray := by rw [← hlen]; simp [sortBy]
      rw [hd2]
      generalize sortBy (fun p q : El enc C.w0 C.S0 k => cf p.1.1 q.1.1) Ls = Rs at *
      have ht : Rs.map (fun p => p.1.1) = t := by
        refine hu _ ?_ fun i j x y hij hx hy => ?_
        · rw [← hLs]; exact hs1.map _
        · rw [List.getElem?_map] at hx hy
          obtain ⟨x', hx', rfl⟩ := Option.map_eq_some_iff.1 hx
          obtain ⟨y', hy', rfl⟩ := Option.map_eq_some_iff.1 hy
          exact hs3 i j x' y' hij hx' hy'
      have hset : sortWorldK (fun p : El enc C.w0 C.S0 k => p.1.2) k C.w0 b (0 * k) q Rs.toArray os = grown (C.w0.setRow b (putCells id 0 (flatK (fun p : El enc C.w0 C.S0 k => p.1.2) k Rs.toArray) c)) os q := by
        unfold sortWorldK putRowK putRow
        rw [mapBlock_setRow (w := Go.Sort.ahead C.w0 q) (b := b) (c := c) (e := e) (fr := (0, 0)) _ h3, Nat.zero_mul]
        rfl
      rw [hset]
      have hps : (putCells id 0 (flatK (fun p : El enc C.w0 C.S0 k => p.1.2) k Rs.toArray) c).size = c.size := by simp [putCells]
      have hrl : Rs.length = n := by rw [hs2, hlen]
      have hrr : ∀ w' : World, (∀ b', C.S0 b' → w'.heap[b']? = C.w0.heap[b']?) → RowsRep (FRep w' C.S0) (putCells id 0 (flatK (fun p : El enc C.w0 C.S0 k => p.1.2) k Rs.toArray) c) k (t.map enc) := fun w' hw' => by
        refine ⟨by rw [hps, ← ht]; simpa [hrl] using hsz, fun r hr => ?_, fun i j r p hi hj => ?_⟩
        · obtain ⟨x, _, rfl⟩ := List.mem_map.1 hr
          exact henc x
        · rw [List.getElem?_map] at hi
          obtain ⟨x, hx, rfl⟩ := Option.map_eq_some_iff.1 hi
          rw [← ht, List.getElem?_map] at hx
          obtain ⟨z, hz, rfl⟩ := Option.map_eq_some_iff.1 hx
          have hjk : j < k := by rw [← henc z.1.1]; exact (List.getElem?_eq_some_iff.1 hj).1
          have hin : i < Rs.length := (List.getElem?_eq_some_iff.1 hz).1
          have hlt : i * k + j < Rs.length * k := by
            calc i * k + j < i * k + k := by omega
              _ = (i + 1) * k := by rw [Nat.add_mul, Nat.one_mul]
              _ ≤ _ := Nat.mul_le_mul_right _ hin
          have hlt2 : i * k + j < c.size := by rw [hrl] at hlt; omega
          have hjl : j < z.1.2.length := by rw [hevl]; exact hjk
          refine ⟨z.1.2[j], ?_, z.2.one _ (List.getElem_mem hjl), (z.2.at_ j _ p (List.getElem?_eq_getElem hjl) hj).mono (fun _ h => h) hw'⟩
          have e1 : (i * k + j) / k = i := by rw [Nat.mul_comm, Nat.mul_add_div hk0, Nat.div_eq_of_lt hjk, Nat.add_zero]
          have e2 : (i * k + j) % k = j := by rw [Nat.mul_comm, Nat.mul_add_mod, Nat.mod_eq_of_lt hjk]
          have e3 : (flatK (fun p : El enc C.w0 C.S0 k => p.1.2) k Rs.toArray)[i * k + j]! = z.1.2[j] := by
            rw [get_flatK _ _ _ _ (by simpa using hlt), e1, e2]
            rw [List.getElem?_eq_getElem hin] at hz
            cases hz
            rw [getElem!_pos _ i (by simpa using hin)]
            simp [hjl]
          unfold putCells
          rw [Array.getElem?_mapIdx, Array.getElem?_eq_getElem hlt2]
          simp only [Option.map_some, Nat.zero_le, true_and, Nat.zero_add, size_flatK, List.size_toArray, Nat.sub_zero, id]
          rw [if_pos hlt, e3]
      obtain ⟨m1, hle1⟩ := hm.write (id := 0) (o' := .flat k (t.map enc)) rfl h h3 hps (plain_hown (by exact trivial)) (fun w' hle hb => .inr ⟨b, _, e, h, hb, hrr w' hle.same⟩)
      refine ⟨_, _, _, he, ((m1.reheap (H' := [(0, some (.flat k (t.map enc)))]) (fun id => ?_)).grow os q).1, tupR _ _ _⟩
      simp only [hlook]
      cases Nat.beq 0 id <;> rfl
end Go.RT
/- Contracts of the library, laid at this translation. Written by the kit's printer. -/
namespace Go.Proofs.YtkofbemgpeagbaaGreat
open Go Go.Proofs Go.Shelf
def Tryz.sortLE_ren : Go.Shelf.Ren := ⟨fun | 6 => 46 | 15 => 83 | 14 => 82 | 28 => 129 | 29 => 130 | 20 => 121 | 21 => 122 | 22 => 123 | 23 => 124 | 24 => 125 | 25 => 126 | 26 => 127 | 27 => 128 | 46 => 144 | 47 => 145 | 48 => 146 | 49 => 147 | 50 => 148 | 57 => 159 | n => n, fun | 22 => 47 | 24 => 81 | 25 => 108 | 3 => 3 | 39 => 124 | 0 => 0 | 53 => 22 | 55 => 134 | 4 => 4 | 46 => 188 | 45 => 187 | 50 => 111 | 5 => 5 | 9 => 9 | 66 => 204 | 70 => 208 | 76 => 219 | 77 => 220 | n => n, fun | n => n⟩
theorem Tryz.sortLE : Go.Proofs.SlLaysF0.n6 Tryz.prog Tryz.sortLE_ren := {
  mixed := by kernel_rfl
  f6 := ⟨Tryz.f46.name, by decide, Tryz.func46.trans (congrArg some (by kernel_rfl))⟩
  f14 := ⟨Tryz.f82.name, by decide, Tryz.func82.trans (congrArg some (by kernel_rfl))⟩
  f15 := Tryz.func83.trans (congrArg some (by kernel_rfl))
  f20 := ⟨Tryz.f121.name, by decide, Tryz.func121.trans (congrArg some (by kernel_rfl))⟩
  f21 := ⟨Tryz.f122.name, by decide, Tryz.func122.trans (congrArg some (by kernel_rfl))⟩
  f22 := ⟨Tryz.f123.name, by decide, Tryz.func123.trans (congrArg some (by kernel_rfl))⟩
  f23 := ⟨Tryz.f124.name, by decide, Tryz.func124.trans (congrArg some (by kernel_rfl))⟩
  f24 := ⟨Tryz.f125.name, by decide, Tryz.func125.trans (congrArg some (by kernel_rfl))⟩
  f25 := ⟨Tryz.f126.name, by decide, Tryz.func126.trans (congrArg some (by kernel_rfl))⟩
  f26 := ⟨Tryz.f127.name, by decide, Tryz.func127.trans (congrArg some (by kernel_rfl))⟩
  f27 := ⟨Tryz.f128.name, by decide, Tryz.func128.trans (congrArg some (by kernel_rfl))⟩
  f28 := Tryz.func129.trans (congrArg some (by kernel_rfl))
  f29 := Tryz.func130.trans (congrArg some (by kernel_rfl))
  f46 := ⟨Tryz.f144.name, by decide, Tryz.func144.trans (congrArg some (by kernel_rfl))⟩
  f47 := Tryz.func145.trans (congrArg some (by kernel_rfl))
  f48 := Tryz.func146.trans (congrArg some (by kernel_rfl))
  f49 := ⟨Tryz.f147.name, by decide, Tryz.func147.trans (congrArg some (by kernel_rfl))⟩
  f50 := ⟨Tryz.f148.name, by decide, Tryz.func148.trans (congrArg some (by kernel_rfl))⟩
  f57 := ⟨Tryz.f159.name, by decide, Tryz.func159.trans (congrArg some (by kernel_rfl))⟩
  t0 := Tryz.underlying0
  a0 := Tryz.isAgg0
  z0 := Tryz.sizeOf0
  v0 := Tryz.zeroValue0
  t3 := Tryz.underlying3
  a3 := Tryz.isAgg3
  z3 := Tryz.sizeOf3
  v3 := Tryz.zeroValue3
  t4 := Tryz.underlying4
  a4 := Tryz.isAgg4
  z4 := Tryz.sizeOf4
  v4 := Tryz.zeroValue4
  t5 := Tryz.underlying5
  a5 := Tryz.isAgg5
  z5 := Tryz.sizeOf5
  v5 := Tryz.zeroValue5
  t9 := Tryz.underlying9
  a9 := Tryz.isAgg9
  z9 := Tryz.sizeOf9
  v9 := Tryz.zeroValue9
  t22 := Tryz.underlying47
  a22 := Tryz.isAgg47
  z22 := Tryz.sizeOf47
  v22 := Tryz.zeroValue47
  t25 := Tryz.underlying108
  a25 := Tryz.isAgg108
  z25 := Tryz.sizeOf108
  v25 := Tryz.zeroValue108
  t39 := Tryz.underlying124
  a39 := Tryz.isAgg124
  z39 := Tryz.sizeOf124
  v39 := Tryz.zeroValue124
  t45 := Tryz.underlying187
  a45 := Tryz.isAgg187
  z45 := Tryz.sizeOf187
  v45 := Tryz.zeroValue187
  t46 := Tryz.underlying188
  a46 := Tryz.isAgg188
  z46 := Tryz.sizeOf188
  v46 := Tryz.zeroValue188
  t50 := Tryz.underlying111
  a50 := Tryz.isAgg111
  z50 := Tryz.sizeOf111
  v50 := Tryz.zeroValue111
  t53 := Tryz.underlying22
  a53 := Tryz.isAgg22
  z53 := Tryz.sizeOf22
  v53 := Tryz.zeroValue22
  t55 := Tryz.underlying134
  a55 := Tryz.isAgg134
  z55 := Tryz.sizeOf134
  v55 := Tryz.zeroValue134
  t66 := Tryz.underlying204
  a66 := Tryz.isAgg204
  z66 := Tryz.sizeOf204
  v66 := Tryz.zeroValue204
  t70 := Tryz.underlying208
  a70 := Tryz.isAgg208
  z70 := Tryz.sizeOf208
  v70 := Tryz.zeroValue208
  t76 := Tryz.underlying219
  a76 := Tryz.isAgg219
  z76 := Tryz.sizeOf219
  v76 := Tryz.zeroValue219
  t77 := Tryz.underlying220
  a77 := Tryz.isAgg220
  z77 := Tryz.sizeOf220
  v77 := Tryz.zeroValue220 }
open Go Go.RT Go.Proofs Go.Pl Go.Shelf Go.Sort
set_option maxRecDepth 20000
set_option maxHeartbeats 2000000
theorem wHE12a {α : Prop} (h : α := by repeat (first | exact trivial | refine ⟨wS, ?_⟩ | refine ⟨ent_same rfl rfl (rfEq rfl tU) tL, ?_⟩ | refine ⟨ent_same rfl rfl (flEq rfl (by first | (simp; done) | (simp; omega) | (simp [encP, encW, encY, encMs, encBn, encSn, encFe, encLh, encLe]; done) | simp [maxC, minC])) trivial, ?_⟩)) : α := h
abbrev OLh (l : List LHo) : Option Ob := some (.flat 2 (l.map encLh))
abbrev OLe (l : List LEn) : Option Ob := some (.flat 2 (l.map encLe))
/-- what Out needs of a state -/
theorem out_c (s : Lst) (p : Pfx) (ha : ascX s.rt) (hn : s.rt.length ≤ 2000000) (hm : s.rm.length ≤ 2000000) (hh : ∀ x ∈ s.rt, x.hs.length ≤ 1000000) : Pure Tryz.prog 17 [.agg (encLs s), .agg (encP p)] (VLh (outF s p)) := by
 have kr := route_c s.rt p ha hn
 rw [outF_eq]
 have hx : ((routeF s.rt p).getD zFe).hs.length ≤ 1000000 := by
  cases hf : routeF s.rt p with
  | none => simp [zFe]
  | some x => exact hh x (List.mem_of_find?_eq_some hf)
 generalize (routeF s.rt p).isSome = rb at *
 generalize (routeF s.rt p).getD zFe = x at *
 refine Meets.intro Tryz.func17 rfl (Nat.le_of_ble_eq_true rfl) fun C hC => ?_
 simp only [List.map, argEnv, Nat.reduceAdd]
 refine nK ?_
 refine za ?_
 refine zu ?_
 refine zu ?_
 refine ze ?_
 refine zb ?_
 refine nK ?_
 refine za ?_
 refine ze ?_
 refine zb ?_
 refine nK ?_
 refine Next.adopt 5 2 rfl ?_
 refine nK ?_
 refine za ?_
 refine zf ?_
 refine zh ?_
 refine zm ?_
 refine rpZ 16 rfl (op_call_pure (fun _ => kr) rfl (Opd.func _) (oS (oT rfl) (oS (oT rfl) Opds.nil))) ?_
 refine zc ?_
 refine zi ?_
 refine zi ?_
 refine zo ?_
 refine zg ?_
 refine zd ?_
 refine zb ?_
 refine nK ?_
 refine za ?_
 refine zf ?_
 refine zh ?_
 refine zk ?_
 refine zx ?_
 refine zb ?_
 refine nK ?_
 refine n_loop (ι := Nat) (fun i => ([(2, .fz (.cellp (encLs s))), (3, .fz (.cellp (encP p))), (5, .sl 0 2 0 (hopsF s p (x.hs.take i)).length), (20, .fz (VW x.hs)), (21, IV .i64 x.hs.length), (22, IV .i64 i)], [(0, OLh (hopsF s p (x.hs.take i)))], 1)) (fun i => i ≤ x.hs.length) (fun i => x.hs.length - i) 0 (Nat.zero_le _) ?_ ?_
 ·refine Next.weakS [5] [2, 3] (by rfl) (wK hC) wF wHE12a rfl (rel_intro)
 intro i hi K hK
 have hol := hopsF_len s p (x.hs.take i)
 have hol2 : (x.hs.take i).length ≤ x.hs.length := by simp; omega
 refine nK ?_
 refine za ?_
 refine zn ?_
 refine zb ?_
 refine nK ?_
 refine n_cond _ rfl (fun hb => ?_) (fun hb => ?_)
 ·have hlt : i < x.hs.length := by simp at hb; omega
  have hr1 := row_at' encW x.hs i hlt
  have hK1 := hK (i + 1) (by omega) (by omega)
  rw [hops_take s p hlt] at hK1
  generalize hopsF s p (x.hs.take i) = o at *
  generalize x.hs[i] = n at *
  have kf := find_c s.rm p n hm
  rcases hf : findB s.rm p n with _ | la
  ·rw [hf] at kf hK1
   simp only [List.append_nil] at hK1
   refine nK ?_
   refine za ?_
   refine zr ?_
   refine zt ?_
   refine zd ?_
   refine zb ?_
   refine nK ?_
   refine za ?_
   refine zbf ?_
   refine zt ?_
   refine zv ?_
   refine zc ?_
   refine rpZ 31 rfl (op_call_pure (fun _ => kf) rfl (Opd.func _) (oS (oT rfl) (oS (oT rfl) (oS (oT rfl) Opds.nil)))) ?_
   refine zc ?_
   refine zi ?_
   refine zi ?_
   refine zd ?_
   refine zd ?_
   refine zb ?_
   refine nK ?_
   refine za ?_
   refine zc ?_
   refine zbj ?_
   refine zb ?_
   refine nK ?_
   refine n_cond _ rfl (fun hb => ?_) (fun hb => ?_)
   ·refine nK ?_
    refine za ?_
    refine zj ?_
    refine zc ?_
    refine zb ?_
    refine nK ?_
    refine Next.weakS [5] [] (by rfl) (wK hC) wG wHE12a rfl (hK1)
   simp at hb
  rw [hf] at kf hK1
  dsimp only at hK1
  unfold OLh at hK1
  rw [app1', app2'] at hK1
  refine nK ?_
  refine za ?_
  refine zr ?_
  refine zt ?_
  refine zd ?_
  refine zb ?_
  refine nK ?_
  refine za ?_
  refine zbf ?_
  refine zt ?_
  refine zv ?_
  refine zc ?_
  refine rpZ 31 rfl (op_call_pure (fun _ => kf) rfl (Opd.func _) (oS (oT rfl) (oS (oT rfl) (oS (oT rfl) Opds.nil)))) ?_
  refine zc ?_
  refine zi ?_
  refine zi ?_
  refine zd ?_
  refine zd ?_
  refine zb ?_
  refine nK ?_
  refine za ?_
  refine zc ?_
  refine zbj ?_
  refine zb ?_
  refine nK ?_
  refine n_cond _ rfl (fun hb => ?_) (fun hb => ?_)
  ·simp at hb
  refine nK ?_
  refine za ?_
  refine zc ?_
  refine zba ?_
  refine zb ?_
  refine nK ?_
  refine n_cond _ rfl (fun hb => ?_) (fun hb => ?_)
  ·rw [if_pos (by simpa using hb)] at hK1
   refine nK ?_
   refine za ?_
   refine ze ?_
   refine zb ?_
   refine nK ?_
   refine za ?_
   refine zc ?_
   refine zc ?_
   refine zc ?_
   refine zbn ?_
   refine zz ?_
   refine zbi ?_
   refine zd ?_
   refine zb ?_
   refine nK ?_
   refine za ?_
   refine zj ?_
   refine zc ?_
   refine zb ?_
   refine nK ?_
   refine Next.weakS [5] [] (by rfl) (wK hC) wG wHE12a rfl (hK1)
  rw [if_neg (by simpa using hb)] at hK1
  refine nK ?_
  refine za ?_
  refine zc ?_
  refine zc ?_
  refine zc ?_
  refine zbn ?_
  refine zz ?_
  refine zbi ?_
  refine zd ?_
  refine zb ?_
  refine nK ?_
  refine za ?_
  refine zj ?_
  refine zc ?_
  refine zb ?_
  refine nK ?_
  refine Next.weakS [5] [] (by rfl) (wK hC) wG wHE12a rfl (hK1)
 have hie : i = x.hs.length := by simp at hb; omega
 rw [hie, List.take_length]
 refine nK ?_
 refine za ?_
 refine zc ?_
 refine zd ?_
 refine zb ?_
 refine nK ?_
 refine Next.weakS [] [4] (by rfl) (keeps0 hC _) (G' := [(4, .fz (VLh (hopsF s p x.hs)))]) (H' := []) wF trivial rfl ?_
 exact wO hC
/-- entries with labels that can be subtracted -/
abbrev LEr : Type := { e : LEn // 16 ≤ e.i ∧ e.i ≤ 1048575 }
theorem entP_c (a b : LEr) : Pure Tryz.prog 47 [.agg (encLe a.1), .agg (encLe b.1)] (If .i64 (a.1.i - b.1.i)) := by
 have h1 := a.2
 have h2 := b.2
 refine Meets.intro Tryz.func47 rfl (Nat.le_of_ble_eq_true rfl) fun C hC => ?_
 simp only [List.map, argEnv, Nat.reduceAdd]
 refine nK ?_
 refine za ?_
 refine zu ?_
 refine zu ?_
 refine ze ?_
 refine zb ?_
 refine nK ?_
 refine za ?_
 refine zf ?_
 refine zh ?_
 refine zf ?_
 refine zh ?_
 refine rpZ 9 rfl (op_sub rfl (oT rfl) (oT rfl) tI) ?_
 refine zd ?_
 refine zb ?_
 refine nK ?_
 exact wO hC
theorem swo_le : SWO (ltOf fun a b : LEr => a.1.i - b.1.i) := ⟨fun x => by simp [ltOf], fun x y z h1 h2 => by simp [ltOf] at *; omega, fun x y z h1 h2 => by simp [ltOf] at *; omega⟩
theorem sortLE_m (l t : List LEn) (hl : ∀ e ∈ l, 16 ≤ e.i ∧ e.i ≤ 1048575) (hn : l.length ≤ 9000000) (hu : ∀ l' : List LEn, l'.Perm l → (∀ (i j : Nat) (x y : LEn), i < j → l'[i]? = some x → l'[j]? = some y → ¬ y.i - x.i < 0) → l' = t) (ht : ∀ e ∈ t, 16 ≤ e.i ∧ e.i ≤ 1048575) : Meets Tryz.prog 46 [.sl 0 2 0 l.length, .clo 47 [] []] 1 [(0, OLe l)] (.fz (.tup [])) [(0, OLe t)] 1 := by
 have e1 : ∀ (l : List LEn) (h : ∀ e ∈ l, 16 ≤ e.i ∧ e.i ≤ 1048575), ((l.attachWith _ h).map fun e : LEr => encLe e.1) = l.map encLe := fun l h => by
  rw [show (fun e : LEr => encLe e.1) = encLe ∘ (fun e : LEr => e.1) from rfl, ← List.map_map, List.attachWith_map_subtype_val]
 have := sort_meetsR (ρ := Tryz.sortLE_ren) Tryz.sortLE (k := 2) (by decide) (fun w => run_isAgg (t := 81) inferInstance w) (fun w => run_size (t := 81) inferInstance w) (enc := fun e : LEr => encLe e.1) (fun _ => rfl) ⟨⟨16, []⟩, by simp⟩ [.int .i64 16, .slice none 0 0]
  (fun w S => ⟨rfl, fun i v f hv hf => by
   match i with
   | 0 => simp [encLe] at hv hf; subst hv; subst hf; exact .lit _
   | 1 => simp [encLe] at hv hf; subst hv; subst hf; exact .nil _ _ _
   | i + 2 => simp at hv, fun v hv => by simp at hv; rcases hv with rfl | rfl <;> rfl⟩)
  (cf := fun a b : LEr => a.1.i - b.1.i) swo_le (g := 47) (enters_of Tryz.func47 (by kernel_rfl) rfl) entP_c (l := l.attachWith _ hl) (t := t.attachWith _ ht) (by simp; omega) (fun l' hp hs => by
   have h2 := hu (l'.map (·.1)) (by have := hp.map (fun e : LEr => e.1); rwa [List.attachWith_map_subtype_val] at this) (fun i j x y hij hx hy => by
    rw [List.getElem?_map] at hx hy
    obtain ⟨x', hx', rfl⟩ := Option.map_eq_some_iff.1 hx
    obtain ⟨y', hy', rfl⟩ := Option.map_eq_some_iff.1 hy
    exact hs i j x' y' hij hx' hy')
   subst h2
   apply List.ext_getElem
   ·simp
   intro i h1 h2; apply Subtype.ext; simp)
 rw [e1, e1, List.length_attachWith] at this
 exact this
theorem entries_c (s : Lst) (h : okLs s) : Pure Tryz.prog 14 [.agg (encLs s)] (VLe (entrF s)) := by
 have ko := fun p => out_c s p h.rta (by have := h.nrt; omega) (by have := h.nrm; omega) (fun x hx => by have := (h.rt x hx).hs; omega)
 have hrng := rawE_rng h.v
 have hlen := rawE_len s s.lc
 have hlc := h.nlc
 have hsrt : ∀ l' : List LEn, l'.Perm (rawE s s.lc) → (∀ (i j : Nat) (x y : LEn), i < j → l'[i]? = some x → l'[j]? = some y → ¬ y.i - x.i < 0) → l' = entrF s := fun l' => entr_sorted h.v
 have ht : ∀ e ∈ entrF s, 16 ≤ e.i ∧ e.i ≤ 1048575 := fun e he => hrng e (by
  have hraw : rawE s s.lc = (s.lc.filter fun b => decide (b.la ≠ 3)).map fun b => ⟨b.la, outF s b.px⟩ := by unfold rawE; rw [rawE_eq]; simp
  rw [entr_eq] at he
  obtain ⟨b, h1, h2, rfl⟩ := by simpa using ((enS_ok s s.lc [] List.Pairwise.nil (by simp) h.v.labels).2 e).1 he
  rw [hraw]; exact List.mem_map.2 ⟨b, List.mem_filter.2 ⟨h1, by simpa using h2⟩, rfl⟩)
 have ks := sortLE_m (rawE s s.lc) (entrF s) hrng (by omega) hsrt ht
 refine Meets.intro Tryz.func14 rfl (Nat.le_of_ble_eq_true rfl) fun C hC => ?_
 simp only [List.map, argEnv, Nat.reduceAdd]
 refine nK ?_
 refine za ?_
 refine zu ?_
 refine ze ?_
 refine zb ?_
 refine nK ?_
 refine za ?_
 refine ze ?_
 refine zb ?_
 refine nK ?_
 refine Next.adopt 3 2 rfl ?_
 refine nK ?_
 refine za ?_
 refine zf ?_
 refine zh ?_
 refine zk ?_
 refine zx ?_
 refine zb ?_
 refine nK ?_
 refine n_loop (ι := Nat) (fun i => ([(1, .fz (.cellp (encLs s))), (3, .sl 0 2 0 (rawE s (s.lc.take i)).length), (7, .fz (VBn s.lc)), (8, IV .i64 s.lc.length), (9, IV .i64 i)], [(0, OLe (rawE s (s.lc.take i)))], 1)) (fun i => i ≤ s.lc.length) (fun i => s.lc.length - i) 0 (Nat.zero_le _) ?_ ?_
 ·refine Next.weakS [3] [1] (by rfl) (wK hC) wF wHE12a rfl (rel_intro)
 intro i hi K hK
 have hol := rawE_len s (s.lc.take i)
 have hol2 : (s.lc.take i).length ≤ s.lc.length := by simp; omega
 refine nK ?_
 refine za ?_
 refine zn ?_
 refine zb ?_
 refine nK ?_
 refine n_cond _ rfl (fun hb => ?_) (fun hb => ?_)
 ·have hlt : i < s.lc.length := by simp at hb; omega
  have hr1 := row_at' encBn s.lc i hlt
  have hK1 := hK (i + 1) (by omega) (by omega)
  rw [rawE_take s hlt] at hK1
  generalize rawE s (s.lc.take i) = o at *
  generalize s.lc[i] = b at *
  have ko1 := ko b.px
  unfold rawS at hK1
  refine nK ?_
  refine za ?_
  refine zr ?_
  refine zv ?_
  refine zo ?_
  refine zg ?_
  refine zb ?_
  refine nK ?_
  refine za ?_
  refine zf ?_
  refine zh ?_
  refine zbe ?_
  refine zb ?_
  refine nK ?_
  refine n_cond _ rfl (fun hb => ?_) (fun hb => ?_)
  ·rw [if_neg (by simpa using hb)] at hK1
   unfold OLe at hK1
   rw [app1', app2'] at hK1
   refine nK ?_
   refine s_draw mixed ?_
   refine zc ?_
   refine zf ?_
   refine zh ?_
   refine zv ?_
   refine zf ?_
   refine zbc ?_
   refine rpZ 22 rfl (op_call_pure (fun _ => ko1) rfl (Opd.func _) (oS (oT rfl) (oS (oT rfl) Opds.nil))) ?_
   refine zbn ?_
   refine zz ?_
   refine zdb ?_
   refine zd ?_
   refine zq ?_
   refine nK ?_
   refine za ?_
   refine zj ?_
   refine zc ?_
   refine zb ?_
   refine nK ?_
   refine Next.weakS [3] [] (by rfl) (wK hC) wG wHE12a rfl (hK1)
  rw [if_pos (by simpa using hb)] at hK1
  refine nK ?_
  refine za ?_
  refine zj ?_
  refine zc ?_
  refine zb ?_
  refine nK ?_
  refine Next.weakS [3] [] (by rfl) (wK hC) wG wHE12a rfl (hK1)
 have hie : i = s.lc.length := by simp at hb; omega
 rw [hie, List.take_length]
 clear hK
 have htl := entr_len s
 generalize entrF s = t at *
 generalize rawE s s.lc = r at *
 rw [← htl] at ks ⊢
 refine nK ?_
 refine za ?_
 refine zc ?_
 refine Run.eff (dd := some 28) rfl rfl (op_call (n := 1) (n' := 1) [0] (fun _ => ks) rfl (Opd.func _) (oS (oT rfl) (oS (Opd.func _) Opds.nil)) rfl rfl (Lent.of rfl rfl (by repeat (first | exact trivial | refine ⟨⟨rfl, rfl, rfl, tL⟩, ?_⟩)) rfl) rfl rfl rfl rfl rfl) ?_
 refine zb ?_
 refine nK ?_
 refine za ?_
 refine zc ?_
 refine zd ?_
 refine zb ?_
 refine nK ?_
 refine Next.weakS [] [2] (by rfl) (keeps0 hC _) (G' := [(2, .fz (VLe t))]) (H' := []) wF trivial rfl ?_
 exact wO hC
end Go.Proofs.YtkofbemgpeagbaaGreat
/- States stay valid. No program in sight. -/
namespace Go.Pl
open Go Go.RT
set_option linter.all false
structure okV (s : Lst) : Prop where
  v : vD s.ro s.fr s.lc
  ps : ascP' s.ps
  lc : ∀ b ∈ s.lc, okB' b
  rt : ∀ x ∈ s.rt, okFs x
  rta : ascX s.rt
  nrt : s.rt.length ≤ 2000
theorem okV.all {s : Lst} (h : okV s) (h1 : s.fr.length ≤ 100000) (h2 : s.lc.length ≤ 3000) (h3 : s.rm.length ≤ 100000) (h4 : s.ps.length ≤ 100) : okLs s := ⟨h.v, h.ps, h.lc, h.rt, h.rta, h1, h2, h3, h4, h.nrt⟩
theorem okLs.valid {s : Lst} (h : okLs s) : okV s := ⟨h.v, h.ps, h.lc, h.rt, h.rta, h.nrt⟩
theorem vD.nil {ro : Int} {fr : List Rg} (h : vG fr) : vD ro fr [] := ⟨h, List.Pairwise.nil, by simp, by simp, by simp, by simp⟩
theorem okV.zero : okV zLst := ⟨vD.nil vG.nil, List.Pairwise.nil, by simp [zLst], by simp [zLst], List.Pairwise.nil, by simp [zLst]⟩
theorem cD.nil (f : List Rg) : cD f f [] := ⟨by simp, by simp⟩
theorem routes_eq {s : Lst} (h : vD s.ro s.fr s.lc) (l : List Fec) : bdG s.ro s.ps l (pdG s.ro s.ps l s.fr s.lc s.lc.length) l.length = bindF s l (dropF s l) := by
  unfold bdG pdG bindF dropF
  rw [List.take_length, List.take_length]
  have := pd_eq (ro := s.ro) (ps := s.ps) (l := l) s.lc [] s.fr [] h
  rw [List.nil_append] at this
  rw [this]
theorem bindS_px {ro : Int} {ps : List Int} {Q : Pfx → Prop} {s : DSt} {x : Fec} (h : ∀ b ∈ s.2.1, Q b.px) (hx : Q x.px) : ∀ b ∈ (bindS ro ps s x).2.1, Q b.px := by
  have hb : ∀ n, ∀ b ∈ bindL s.2.1 ⟨x.px, ro, n⟩, Q b.px := fun n b hb => by
    rcases insB_mem.1 hb with rfl | hb
    · exact hx
    · exact h b (List.mem_filter.1 hb).1
  unfold bindS
  split
  · exact h
  · split
    · exact hb 3
    · split
      · exact h
      · exact hb _
theorem bindF_px {ro : Int} {ps : List Int} {Q : Pfx → Prop} : ∀ {l : List Fec} {s : DSt}, (∀ b ∈ s.2.1, Q b.px) → (∀ x ∈ l, Q x.px) → ∀ b ∈ (l.foldl (bindS ro ps) s).2.1, Q b.px
  | [], s, h, _ => h
  | x :: l, s, h, hl => by
    rw [List.foldl_cons]
    exact bindF_px (bindS_px h (hl x (List.mem_cons_self ..))) fun y hy => hl y (List.mem_cons_of_mem _ hy)
theorem la_inr {ro : Int} {fr : List Rg} {lc : List Bnd} (h : vD ro fr lc) : ∀ b ∈ lc, inr .i64 b.la := fun b hb => by
  have := h.la b hb
  simp only [inr]; omega
/-- what routes make of labels: valid, and each label once -/
theorem routes_ok {s : Lst} (h : vD s.ro s.fr s.lc) (l : List Fec) : vD s.ro (bindF s l (dropF s l)).1 (bindF s l (dropF s l)).2.1 ∧ ∀ f0, cD f0 s.fr s.lc → cD f0 (bindF s l (dropF s l)).1 (bindF s l (dropF s l)).2.1 := by
  obtain ⟨⟨k1, _⟩, _⟩ := drop_ok (ps := s.ps) (l := l) (f0 := []) s.lc [] s.fr [] h
  obtain ⟨q1, q2⟩ := bindF_ok (ps := s.ps) l (s := dropF s l) k1
  refine ⟨q1, fun f0 hc => q2 f0 ?_⟩
  obtain ⟨⟨_, k2⟩, _⟩ := drop_ok (ps := s.ps) (l := l) (f0 := f0) s.lc [] s.fr [] h
  exact k2 hc
theorem routes_px {s : Lst} (h : vD s.ro s.fr s.lc) {l : List Fec} (hl : ∀ b ∈ s.lc, b.px.ok) (hx : ∀ x ∈ l, x.px.ok) : ∀ b ∈ (bindF s l (dropF s l)).2.1, b.px.ok := by
  refine bindF_px (Q := Pfx.ok) ?_ hx
  obtain ⟨_, k3⟩ := drop_ok (ps := s.ps) (l := l) (f0 := []) s.lc [] s.fr [] h
  show ∀ b ∈ (dropF s l).2.1, _
  unfold dropF
  rw [k3]
  intro b hb
  exact hl b (List.mem_filter.1 (by simpa using hb)).1
theorem handle_okV {s : Lst} {e : Lev} (h : okV s) (he : okLe e) : okV (handleF s e).1 := by
  unfold handleF
  split
  · unfold upF
    split
    · exact okV.zero
    · split
      · exact okV.zero
      · next k => exact ⟨h.v, insI_asc h.ps (by simpa using k), h.lc, h.rt, h.rta, h.nrt⟩
  · split
    · unfold downF
      split
      · exact okV.zero
      · exact ⟨h.v, h.ps.sublist (List.filter_sublist ..), h.lc, h.rt, h.rta, h.nrt⟩
    · split
      · unfold dataF
        split
        · exact okV.zero
        · split
          · exact okV.zero
          · dsimp only
            split
            · exact ⟨h.v, h.ps, h.lc, h.rt, h.rta, h.nrt⟩
            · split
              · split
                · exact ⟨h.v, h.ps, h.lc, h.rt, h.rta, h.nrt⟩
                · exact h
              · split
                · cases findB s.lc (decodeF e.da).1.px s.ro <;> exact h
                · exact h
      · split
        · unfold routesF
          split
          · exact okV.zero
          · next k =>
            obtain ⟨k1, k2, k3⟩ := routesE_ok (by simpa using k)
            have hv := (routes_ok h.v e.rt).1
            exact ⟨hv, h.ps, fun b hb => ⟨routes_px h.v (fun b hb => (h.lc b hb).px) (fun x hx => (he.rt x hx).px) b hb, la_inr hv b hb⟩, fun x hx => ⟨(he.rt x hx).px, hopsE_len (k3 x hx).2⟩, k1, k2⟩
        · exact okV.zero
theorem handle_cD {s : Lst} {e : Lev} {f0 : List Rg} (h : okV s) (hc : cD f0 s.fr s.lc) (h0 : (handleF s e).2.2 = 0) : cD f0 (handleF s e).1.fr (handleF s e).1.lc := by
  unfold handleF at h0 ⊢
  split at h0
  · next k =>
    rw [if_pos k]
    unfold upF at h0 ⊢
    split at h0
    · cases h0
    · next k1 =>
      rw [if_neg k1]
      split at h0
      · cases h0
      · next k2 => rw [if_neg k2]; exact hc
  · next k =>
    rw [if_neg k]
    split at h0
    · next k1 =>
      rw [if_pos k1]
      unfold downF at h0 ⊢
      split at h0
      · cases h0
      · next k2 => rw [if_neg k2]; exact hc
    · next k1 =>
      rw [if_neg k1]
      split at h0
      · next k2 =>
        rw [if_pos k2]
        unfold dataF at h0 ⊢
        split at h0
        · cases h0
        · next k3 =>
          rw [if_neg k3]
          split at h0
          · next k4 => exact absurd h0 k4
          · next k4 =>
            rw [if_neg k4]
            dsimp only
            split
            · exact hc
            · split
              · split
                · exact hc
                · exact hc
              · split
                · cases findB s.lc (decodeF e.da).1.px s.ro <;> exact hc
                · exact hc
      · next k2 =>
        rw [if_neg k2]
        split at h0
        · next k3 =>
          rw [if_pos k3]
          unfold routesF at h0 ⊢
          split at h0
          · next k4 => exact absurd h0 k4
          · next k4 => rw [if_neg k4]; exact (routes_ok h.v e.rt).2 f0 hc
        · cases h0
/-- how much a state grows -/
structure grL (s t : Lst) (n : Nat) : Prop where
  fr : t.fr.length ≤ s.fr.length + s.lc.length
  lc : t.lc.length ≤ s.lc.length + n
  rm : t.rm.length ≤ s.rm.length + 1
  ps : t.ps.length ≤ s.ps.length + 1
theorem grL.zero (s : Lst) (n : Nat) : grL s zLst n := ⟨by simp [zLst], by simp [zLst], by simp [zLst], by simp [zLst]⟩
theorem grL.same (s : Lst) (n : Nat) : grL s s n := ⟨by omega, by omega, by omega, by omega⟩
theorem handle_gr {s : Lst} (h : okV s) (e : Lev) : grL s (handleF s e).1 e.rt.length := by
  unfold handleF
  split
  · unfold upF
    split
    · exact grL.zero _ _
    · split
      · exact grL.zero _ _
      · exact ⟨by simp, by simp, by simp, by simp [insI_len]⟩
  · split
    · unfold downF
      split
      · exact grL.zero _ _
      · exact ⟨by simp, by simp, Nat.le_trans (List.length_filter_le _ _) (by omega), Nat.le_trans (List.length_filter_le _ _) (by omega)⟩
    · split
      · unfold dataF
        split
        · exact grL.zero _ _
        · split
          · exact grL.zero _ _
          · dsimp only
            split
            · exact ⟨by simp, by simp, bindL_len _ _, by simp⟩
            · split
              · split
                · exact ⟨by simp, by simp, Nat.le_trans (unbL_len _ _ _) (by omega), by simp⟩
                · exact grL.same _ _
              · split
                · cases findB s.lc (decodeF e.da).1.px s.ro <;> exact grL.same _ _
                · exact grL.same _ _
      · split
        · unfold routesF
          split
          · exact grL.zero _ _
          · obtain ⟨p1, p2, _⟩ := pdG_len s.ro s.ps e.rt s.fr s.lc s.lc.length (Nat.le_refl _)
            obtain ⟨b1, b2, _⟩ := bdG_len s.ro s.ps e.rt (pdG s.ro s.ps e.rt s.fr s.lc s.lc.length) e.rt.length (Nat.le_refl _)
            rw [routes_eq h.v] at b1 b2
            exact ⟨by dsimp only; omega, by dsimp only; omega, by simp, by simp⟩
        · exact grL.zero _ _
theorem new_okV {r : Int} {l : List Rg} : okV (newF r l).1 ∧ ((newF r l).2 = 0 → (newF r l).1 = ⟨r, l, [], [], [], []⟩ ∧ vG l ∧ r ≠ 0) := by
  unfold newF
  split
  · exact ⟨okV.zero, fun h => (by cases h)⟩
  · next h0 =>
    split
    · next k => exact ⟨okV.zero, fun h => absurd h k⟩
    · next k =>
      have hv := (lblE_iff l).1 (by simpa using k)
      exact ⟨⟨vD.nil hv, List.Pairwise.nil, by simp, by simp, List.Pairwise.nil, by simp⟩, fun _ => ⟨rfl, hv, h0⟩⟩
end Go.Pl
/- The chapter's example; equality of lists. No program in sight. -/
namespace Go.Pl
open Go Go.RT
set_option linter.all false
set_option maxRecDepth 100000
theorem eqFs_encRg (a b : Rg) : eqFs (encRg a) (encRg b) = decide (a = b) := by
  cases a; cases b
  simp [eqFs, encRg, If]
theorem eqFs_encLh (a b : LHo) : eqFs (encLh a) (encLh b) = decide (a = b) := by
  cases a; cases b
  simp [eqFs, encLh, If]
theorem eqFs_encBn (a b : Bnd) : eqFs (encBn a) (encBn b) = decide (a = b) := by
  obtain ⟨⟨a1, a2⟩, a3, a4⟩ := a
  obtain ⟨⟨b1, b2⟩, b3, b4⟩ := b
  rw [Bool.eq_iff_iff]
  simp [eqFs, encBn, If, and_assoc]
  try (intros; omega)
theorem drop_eqL {α : Type} {a b : List α} {i : Nat} (ha : i < a.length) (hb : i < b.length) : (a.drop i = b.drop i) ↔ a[i] = b[i] ∧ a.drop (i + 1) = b.drop (i + 1) := by
  rw [List.drop_eq_getElem_cons ha, List.drop_eq_getElem_cons hb, List.cons.injEq]
/-! the example -/
abbrev ePx (n : Nat) : Pfx := ⟨n * 2 ^ 24, 8⟩
abbrev xM : Msg := ⟨1, ePx 10, 17⟩
abbrev xC : Msg := ⟨1, ePx 20, 30⟩
abbrev xE1 : Lev := ⟨1, 2, [], []⟩
abbrev xE2 : Lev := ⟨1, 3, [], []⟩
abbrev xR : List Fec := [⟨ePx 10, true, []⟩, ⟨ePx 20, false, [3]⟩]
abbrev xE3 : Lev := ⟨4, 0, [], xR⟩
abbrev xE4 : Lev := ⟨3, 3, [1, 8, 20, 0, 0, 0, 0, 0, 0, 30], []⟩
abbrev xS0 : Lst := ⟨1, [⟨16, 18⟩], [], [], [], []⟩
abbrev xS1 : Lst := ⟨1, [⟨16, 18⟩], [], [], [2], []⟩
abbrev xS2 : Lst := ⟨1, [⟨16, 18⟩], [], [], [2, 3], []⟩
abbrev xS3 : Lst := ⟨1, [⟨17, 18⟩], [⟨ePx 10, 1, 3⟩, ⟨ePx 20, 1, 16⟩], [], [2, 3], xR⟩
abbrev xS4 : Lst := ⟨1, [⟨17, 18⟩], [⟨ePx 10, 1, 3⟩, ⟨ePx 20, 1, 16⟩], [⟨ePx 20, 3, 30⟩], [2, 3], xR⟩
theorem xn : newF 1 [⟨16, 18⟩] = (xS0, 0) := by decide +kernel
theorem xm : encodeF xM = ([1, 8, 10, 0, 0, 0, 0, 0, 0, 17], 0) := by decide +kernel
theorem xc : encodeF xC = ([1, 8, 20, 0, 0, 0, 0, 0, 0, 30], 0) := by decide +kernel
theorem x1 : handleF xS0 xE1 = (xS1, [], 0) := by decide +kernel
theorem x2 : handleF xS1 xE2 = (xS2, [], 0) := by decide +kernel
theorem x3 : ∃ o : List Snd, o.length = 4 ∧ handleF xS2 xE3 = (xS3, o, 0) := ⟨(handleF xS2 xE3).2.1, by decide +kernel, by decide +kernel⟩
theorem x4 : handleF xS3 xE4 = (xS4, [], 0) := by decide +kernel
theorem x5 : entrF xS4 = [⟨16, [⟨3, 30⟩]⟩] := by decide +kernel
theorem ePx_ok {n : Nat} (h : n < 256) : (ePx n).ok := ⟨by show n * 2 ^ 24 < _; omega, by simp [inr]⟩
theorem xv0 : okV xS0 := by have := (new_okV (r := 1) (l := [⟨16, 18⟩])).1; rwa [xn] at this
theorem xok1 : okLe xE1 := ⟨by simp [inr], by simp, by simp, by simp, by simp⟩
theorem xok2 : okLe xE2 := ⟨by simp [inr], by simp, by simp, by simp, by simp⟩
theorem xokR : ∀ x ∈ xR, okFe x := fun x hx => by
  rcases List.mem_cons.1 hx with rfl | hx
  · exact ⟨ePx_ok (by omega), by simp⟩
  · rcases List.mem_cons.1 hx with rfl | hx
    · exact ⟨ePx_ok (by omega), by simp⟩
    · exact absurd hx (by simp)
theorem xok3 : okLe xE3 := ⟨by simp [inr], by simp, by simp, xokR, by simp⟩
theorem xok4 : okLe xE4 := ⟨by simp [inr], by simp, by simp, by simp, by simp⟩
theorem xv1 : okV xS1 := by have := handle_okV xv0 xok1; rwa [x1] at this
theorem xv2 : okV xS2 := by have := handle_okV xv1 xok2; rwa [x2] at this
theorem xv3 : okV xS3 := by obtain ⟨o, _, h⟩ := x3; have := handle_okV xv2 xok3; rwa [h] at this
theorem xv4 : okV xS4 := by have := handle_okV xv3 xok4; rwa [x4] at this
theorem zkEv : zOk #[Value.int .i64 0, .int .u32 0, .slice none 0 0, .slice none 0 0].toList (encEv ⟨0, 0, [], []⟩) := ⟨.inl rfl, .inl rfl, .inr ⟨1, rfl, rfl⟩, .inr ⟨4, rfl, rfl⟩, trivial⟩
theorem zkFe : zOk #[Value.int .u32 0, .int .i64 0, .bool false, .slice none 0 0].toList (encFe zFe) := ⟨.inl rfl, .inl rfl, .inl rfl, .inr ⟨1, rfl, rfl⟩, trivial⟩
end Go.Pl
namespace Go.Proofs.YtkofbemgpeagbaaGreat
open Go Go.RT Go.Proofs Go.Pl
set_option linter.all false
set_option maxRecDepth 20000
set_option maxHeartbeats 2000000
theorem wHE13a {α : Prop} (h : α := by repeat (first | exact trivial | refine ⟨⟨_, rfl, .inl ⟨rfl, rfl⟩⟩, ?_⟩)) : α := h
theorem wHE13b {α : Prop} (h : α := by repeat (first | exact trivial | refine ⟨wS, ?_⟩ | refine ⟨ent_same rfl rfl (rfEq rfl tU) tL, ?_⟩ | refine ⟨ent_same rfl rfl (flEq rfl (by first | (simp; done) | (simp; omega) | (simp [encP, encW, encY, encMs, encBn, encSn, encFe, encLh, encLe]; done) | simp [maxC, minC])) trivial, ?_⟩)) : α := h
theorem cmp_bn (a b : Go.Pl.Bnd) : Cmp Tryz.prog (Tryz.prog.fieldsOf 106).toList 0 (encBn a) (encBn b) := by
 simp only [Program.fieldsOf, Tryz.underlying106]
 exact .str _ _ _ 2 [If .u32 a.px.addr, If .i64 a.px.len] [If .u32 b.px.addr, If .i64 b.px.len] _ _ rfl rfl inferInstance (by kernel_rfl) (by kernel_rfl) rfl rfl (by kernel_rfl) (.int _ _ _ _ .u32 _ _ _ _ rfl rfl (by kernel_rfl) (.int _ _ _ _ .i64 _ _ _ _ rfl rfl (by kernel_rfl) (.nil _)))
theorem bn_s1 : Tryz.prog.underlying 106 = some (.struct (Tryz.prog.fieldsOf 106)) := by kernel_rfl
theorem bn_s2 : Tryz.prog.stoodInHeld 106 = false := by kernel_rfl
theorem bn_s3 : Tryz.prog.eqGuardType Tryz.prog.depth 106 = false := by kernel_rfl
theorem sameY_c (a b : List Int) (ha : a.length ≤ 2000000) (hb0 : b.length ≤ 2000000) : Pure Tryz.prog 29 [VY a, VY b] (Bf (decide (a = b))) := by
 refine Meets.intro Tryz.func29 rfl (Nat.le_of_ble_eq_true rfl) fun C hC => ?_
 simp only [List.map, argEnv, Nat.reduceAdd]
 refine nK ?_
 refine za ?_
 refine ze ?_
 refine zb ?_
 refine nK ?_
 refine za ?_
 refine zc ?_
 refine zk ?_
 refine zc ?_
 refine zk ?_
 refine zbk ?_
 refine zb ?_
 refine nK ?_
 refine n_cond _ rfl (fun hb => ?_) (fun hb => ?_)
 ·have e : decide (a = b) = false := by
   rw [decide_eq_false_iff_not]; rintro rfl; simp at hb
  rw [e]
  refine nK ?_
  refine za ?_
  refine ze ?_
  refine zb ?_
  refine nK ?_
  exact wO hC
 have hl : a.length = b.length := by simp at hb; omega
 refine nK ?_
 refine za ?_
 refine zc ?_
 refine zk ?_
 refine zx ?_
 refine zb ?_
 refine nK ?_
 refine n_loop (ι := Nat) (fun i => ([(0, .fz (VY a)), (1, .fz (VY b)), (12, .fz (VY a)), (13, IV .i64 a.length), (14, IV .i64 i)], [], 0)) (fun i => i ≤ a.length ∧ (a = b ↔ a.drop i = b.drop i)) (fun i => a.length - i) 0 ⟨Nat.zero_le _, Iff.rfl⟩ ?_ ?_
 ·refine Next.weak [] [] (by rfl) (keeps0 hC _) wHE13a wHE13b wN rel_intro
 intro i ⟨hi, ho⟩ K hK
 refine nK ?_
 refine za ?_
 refine zn ?_
 refine zb ?_
 refine nK ?_
 refine n_cond _ rfl (fun hb => ?_) (fun hb => ?_)
 ·have hlt : i < a.length := by simp at hb; omega
  have hlt2 : i < b.length := by omega
  rw [drop_eqL hlt hlt2] at ho
  have hr1 := row_at' encY a i hlt
  have hr2 := row_at' encY b i hlt2
  have hK1 := fun h => hK (i + 1) ⟨by omega, h⟩ (by omega)
  generalize a[i] = x at *
  generalize b[i] = y at *
  refine nK ?_
  refine za ?_
  refine zc ?_
  refine zr ?_
  refine zt ?_
  refine zd ?_
  refine zd ?_
  refine zb ?_
  refine nK ?_
  refine za ?_
  refine zc ?_
  refine zc ?_
  refine zc ?_
  refine zr ?_
  refine zt ?_
  refine zbk ?_
  refine zb ?_
  refine nK ?_
  refine n_cond _ rfl (fun hb => ?_) (fun hb => ?_)
  ·have e : decide (a = b) = false := by
    rw [decide_eq_false_iff_not, ho]; simp at hb; exact fun h => hb h.1
   rw [e]
   refine nK ?_
   refine za ?_
   refine ze ?_
   refine zb ?_
   refine nK ?_
   exact wO hC
  refine nK ?_
  refine za ?_
  refine zj ?_
  refine zc ?_
  refine zb ?_
  refine nK ?_
  refine Next.weak [] [] (by rfl) (keeps0 hC _) wHE13a wHE13b wN (hK1 (ho.trans ⟨fun h => h.2, fun h => ⟨by simpa using hb, h⟩⟩))
 have hie : i = a.length := by simp at hb; omega
 have e : decide (a = b) = true := by
  rw [decide_eq_true_iff, ho, hie, List.drop_length, hl, List.drop_length]
 rw [e]
 refine nK ?_
 refine za ?_
 refine ze ?_
 refine zb ?_
 refine nK ?_
 exact wO hC
theorem sameLh_c (a b : List LHo) (ha : a.length ≤ 2000000) (hb0 : b.length ≤ 2000000) : Pure Tryz.prog 16 [VLh a, VLh b] (Bf (decide (a = b))) := by
 refine Meets.intro Tryz.func16 rfl (Nat.le_of_ble_eq_true rfl) fun C hC => ?_
 simp only [List.map, argEnv, Nat.reduceAdd]
 refine nK ?_
 refine za ?_
 refine ze ?_
 refine zb ?_
 refine nK ?_
 refine za ?_
 refine zc ?_
 refine zk ?_
 refine zc ?_
 refine zk ?_
 refine zbk ?_
 refine zb ?_
 refine nK ?_
 refine n_cond _ rfl (fun hb => ?_) (fun hb => ?_)
 ·have e : decide (a = b) = false := by
   rw [decide_eq_false_iff_not]; rintro rfl; simp at hb
  rw [e]
  refine nK ?_
  refine za ?_
  refine ze ?_
  refine zb ?_
  refine nK ?_
  exact wO hC
 have hl : a.length = b.length := by simp at hb; omega
 refine nK ?_
 refine za ?_
 refine zc ?_
 refine zk ?_
 refine zx ?_
 refine zb ?_
 refine nK ?_
 refine n_loop (ι := Nat) (fun i => ([(0, .fz (VLh a)), (1, .fz (VLh b)), (12, .fz (VLh a)), (13, IV .i64 a.length), (14, IV .i64 i)], [], 0)) (fun i => i ≤ a.length ∧ (a = b ↔ a.drop i = b.drop i)) (fun i => a.length - i) 0 ⟨Nat.zero_le _, Iff.rfl⟩ ?_ ?_
 ·refine Next.weak [] [] (by rfl) (keeps0 hC _) wHE13a wHE13b wN rel_intro
 intro i ⟨hi, ho⟩ K hK
 refine nK ?_
 refine za ?_
 refine zn ?_
 refine zb ?_
 refine nK ?_
 refine n_cond _ rfl (fun hb => ?_) (fun hb => ?_)
 ·have hlt : i < a.length := by simp at hb; omega
  have hlt2 : i < b.length := by omega
  rw [drop_eqL hlt hlt2] at ho
  have hr1 := row_at' encLh a i hlt
  have hr2 := row_at' encLh b i hlt2
  have hK1 := fun h => hK (i + 1) ⟨by omega, h⟩ (by omega)
  generalize a[i] = x at *
  generalize b[i] = y at *
  refine nK ?_
  refine za ?_
  refine zc ?_
  refine zr ?_
  refine zv ?_
  refine zo ?_
  refine zd ?_
  refine zg ?_
  refine zb ?_
  refine nK ?_
  refine s_draw mixed ?_
  refine zm ?_
  refine zc ?_
  refine zc ?_
  refine zr ?_
  refine zv ?_
  refine zcq ?_
  refine zq ?_
  refine nK ?_
  refine n_cond _ rfl (fun hb => ?_) (fun hb => ?_)
  ·rw [eqFs_encLh] at hb
   have e : decide (a = b) = false := by
    rw [decide_eq_false_iff_not, ho]; simp at hb; exact fun h => hb h.1
   rw [e]
   refine nK ?_
   refine za ?_
   refine ze ?_
   refine zb ?_
   refine nK ?_
   exact wO hC
  rw [eqFs_encLh] at hb
  refine nK ?_
  refine za ?_
  refine zj ?_
  refine zc ?_
  refine zb ?_
  refine nK ?_
  refine Next.weak [] [] (by rfl) (keeps0 hC _) wHE13a wHE13b wN (hK1 (ho.trans ⟨fun h => h.2, fun h => ⟨by simpa using hb, h⟩⟩))
 have hie : i = a.length := by simp at hb; omega
 have e : decide (a = b) = true := by
  rw [decide_eq_true_iff, ho, hie, List.drop_length, hl, List.drop_length]
 rw [e]
 refine nK ?_
 refine za ?_
 refine ze ?_
 refine zb ?_
 refine nK ?_
 exact wO hC
theorem sameBn_c (a b : List Go.Pl.Bnd) (ha : a.length ≤ 2000000) (hb0 : b.length ≤ 2000000) : Pure Tryz.prog 34 [VBn a, VBn b] (Bf (decide (a = b))) := by
 refine Meets.intro Tryz.func34 rfl (Nat.le_of_ble_eq_true rfl) fun C hC => ?_
 simp only [List.map, argEnv, Nat.reduceAdd]
 refine nK ?_
 refine za ?_
 refine ze ?_
 refine zb ?_
 refine nK ?_
 refine za ?_
 refine zc ?_
 refine zk ?_
 refine zc ?_
 refine zk ?_
 refine zbk ?_
 refine zb ?_
 refine nK ?_
 refine n_cond _ rfl (fun hb => ?_) (fun hb => ?_)
 ·have e : decide (a = b) = false := by
   rw [decide_eq_false_iff_not]; rintro rfl; simp at hb
  rw [e]
  refine nK ?_
  refine za ?_
  refine ze ?_
  refine zb ?_
  refine nK ?_
  exact wO hC
 have hl : a.length = b.length := by simp at hb; omega
 refine nK ?_
 refine za ?_
 refine zc ?_
 refine zk ?_
 refine zx ?_
 refine zb ?_
 refine nK ?_
 refine n_loop (ι := Nat) (fun i => ([(0, .fz (VBn a)), (1, .fz (VBn b)), (12, .fz (VBn a)), (13, IV .i64 a.length), (14, IV .i64 i)], [], 0)) (fun i => i ≤ a.length ∧ (a = b ↔ a.drop i = b.drop i)) (fun i => a.length - i) 0 ⟨Nat.zero_le _, Iff.rfl⟩ ?_ ?_
 ·refine Next.weak [] [] (by rfl) (keeps0 hC _) wHE13a wHE13b wN rel_intro
 intro i ⟨hi, ho⟩ K hK
 refine nK ?_
 refine za ?_
 refine zn ?_
 refine zb ?_
 refine nK ?_
 refine n_cond _ rfl (fun hb => ?_) (fun hb => ?_)
 ·have hlt : i < a.length := by simp at hb; omega
  have hlt2 : i < b.length := by omega
  rw [drop_eqL hlt hlt2] at ho
  have hr1 := row_at' encBn a i hlt
  have hr2 := row_at' encBn b i hlt2
  have hK1 := fun h => hK (i + 1) ⟨by omega, h⟩ (by omega)
  generalize a[i] = x at *
  generalize b[i] = y at *
  refine nK ?_
  refine za ?_
  refine zc ?_
  refine zr ?_
  refine zv ?_
  refine zo ?_
  refine zd ?_
  refine zg ?_
  refine zb ?_
  refine nK ?_
  refine s_draw mixed ?_
  refine zm ?_
  refine zc ?_
  refine zc ?_
  refine zr ?_
  refine zv ?_
  refine rpZ 24 rfl (op_neC bn_s1 bn_s2 bn_s3 (cmp_bn x y) rfl (oT rfl) (oT rfl)) ?_
  refine zq ?_
  refine nK ?_
  refine n_cond _ rfl (fun hb => ?_) (fun hb => ?_)
  ·rw [eqFs_encBn] at hb
   have e : decide (a = b) = false := by
    rw [decide_eq_false_iff_not, ho]; simp at hb; exact fun h => hb h.1
   rw [e]
   refine nK ?_
   refine za ?_
   refine ze ?_
   refine zb ?_
   refine nK ?_
   exact wO hC
  rw [eqFs_encBn] at hb
  refine nK ?_
  refine za ?_
  refine zj ?_
  refine zc ?_
  refine zb ?_
  refine nK ?_
  refine Next.weak [] [] (by rfl) (keeps0 hC _) wHE13a wHE13b wN (hK1 (ho.trans ⟨fun h => h.2, fun h => ⟨by simpa using hb, h⟩⟩))
 have hie : i = a.length := by simp at hb; omega
 have e : decide (a = b) = true := by
  rw [decide_eq_true_iff, ho, hie, List.drop_length, hl, List.drop_length]
 rw [e]
 refine nK ?_
 refine za ?_
 refine ze ?_
 refine zb ?_
 refine nK ?_
 exact wO hC
theorem eight_c (n : Nat) (h : n < 256) : Pure Tryz.prog 22 [If .i64 n] (.agg (encP (ePx n))) := by
 have e : ((n : Int) * 2 ^ 24) = ((n * 2 ^ 24 : Nat) : Int) := by simp
 refine Meets.intro Tryz.func22 rfl (Nat.le_of_ble_eq_true rfl) fun C hC => ?_
 simp only [List.map, argEnv, Nat.reduceAdd]
 refine nK ?_
 refine za ?_
 refine zo ?_
 refine zb ?_
 refine nK ?_
 refine za ?_
 refine zc ?_
 refine zbh ?_
 refine rpZ 5 rfl (castP (fun _ => congrArg (IV .u32) e) (op_shl (n := 24) rfl (oT rfl) oC (by intro _; simp only [IntKind.bits, inr]; omega))) ?_
 refine rpZ 6 rfl (op_build rfl rfl rfl (FillF.cons _ _ _ _ _ _ _ _ _ _ (by rfl) (oT rfl) tC (by rfl) tR (FillF.cons _ _ _ _ _ _ _ _ _ _ (by rfl) oC tC (by rfl) tR (FillF.nil _)))) ?_
 refine zg ?_
 refine zb ?_
 refine nK ?_
 exact wO hC
theorem some_c : Pure Tryz.prog 28 [] (VRg [⟨16, 18⟩]) := by
 refine Meets.intro Tryz.func28 rfl (Nat.le_of_ble_eq_true rfl) fun C hC => ?_
 simp only [List.map, argEnv, Nat.reduceAdd]
 refine nK ?_
 refine za ?_
 refine ze ?_
 refine zb ?_
 refine nK ?_
 refine za ?_
 refine rpZ 1 rfl (op_build rfl rfl rfl (FillF.cons _ _ _ _ _ _ _ _ _ _ (by rfl) oC tC (by rfl) tR (FillF.cons _ _ _ _ _ _ _ _ _ _ (by rfl) oC tC (by rfl) tR (FillF.nil _)))) ?_
 refine zz ?_
 refine zd ?_
 refine zb ?_
 refine nK ?_
 exact wO hC
theorem awake_c : Pure Tryz.prog 6 [] (Bf true) := by
 have k1 := eight_c 10 (by omega)
 have k2 := encode_c xM ⟨by simp [inr], ePx_ok (by omega), by simp [inr]⟩
 have k3 := new_c 1 [⟨16, 18⟩] (by simp)
 have k4 := handle_c xS0 xE1 (xv0.all (by simp) (by simp) (by simp) (by simp)) xok1
 have k5 := handle_c xS1 xE2 (xv1.all (by simp) (by simp) (by simp) (by simp)) xok2
 have k6 := eight_c 20 (by omega)
 have k7 := handle_c xS2 xE3 (xv2.all (by simp) (by simp) (by simp) (by simp)) xok3
 have k8 := encode_c xC ⟨by simp [inr], ePx_ok (by omega), by simp [inr]⟩
 have k9 := handle_c xS3 xE4 (xv3.all (by simp) (by simp) (by simp) (by simp)) xok4
 have k10 := entries_c xS4 (xv4.all (by simp) (by simp) (by simp) (by simp))
 have k11 := sameY_c [1, 8, 10, 0, 0, 0, 0, 0, 0, 17] [1, 8, 10, 0, 0, 0, 0, 0, 0, 17] (by simp) (by simp)
 have k12 := sameLh_c [⟨3, 30⟩] [⟨3, 30⟩] (by simp) (by simp)
 obtain ⟨o, ho, h3⟩ := x3
 rw [xm] at k2
 rw [xn] at k3
 rw [x1] at k4
 rw [x2] at k5
 rw [h3] at k7
 rw [xc] at k8
 rw [x4] at k9
 rw [x5] at k10
 refine Meets.intro Tryz.func6 rfl (Nat.le_of_ble_eq_true rfl) fun C hC => ?_
 simp only [List.map, argEnv, Nat.reduceAdd]
 refine nK ?_
 refine za ?_
 refine ze ?_
 refine zb ?_
 refine nK ?_
 refine za ?_
 refine rpZ 13 rfl (op_call_pure (fun _ => k1) rfl (Opd.func _) (oS oC Opds.nil)) ?_
 refine zdc ?_
 refine zo ?_
 refine zg ?_
 refine zb ?_
 refine nK ?_
 refine za ?_
 refine zm ?_
 refine rpZ 17 rfl (op_call_pure (fun _ => k2) rfl (Opd.func _) (oS (oT rfl) Opds.nil)) ?_
 refine zc ?_
 refine zi ?_
 refine zi ?_
 refine zd ?_
 refine zd ?_
 refine zb ?_
 refine nK ?_
 refine za ?_
 refine rpZ 21 rfl (op_call_pure (fun _ => some_c) rfl (Opd.func _) Opds.nil) ?_
 refine rpZ 22 rfl (op_call_pure (fun _ => k3) rfl (Opd.func _) (oS oC (oS (oT rfl) Opds.nil))) ?_
 refine zc ?_
 refine zi ?_
 refine zi ?_
 refine zo ?_
 refine zg ?_
 refine zd ?_
 refine zb ?_
 refine nK ?_
 refine za ?_
 refine zm ?_
 refine rpZ 27 rfl (op_buildZ (encEv ⟨0, 0, [], []⟩) rfl rfl (by exact zkEv) (FillF.cons _ _ _ _ _ _ _ _ _ _ (by rfl) oC tC (by rfl) tR (FillF.cons _ _ _ _ _ _ _ _ _ _ (by rfl) oC tC (by rfl) tR (FillF.nil _)))) ?_
 refine rpZ 28 rfl (op_call_pure (fun _ => k4) rfl (Opd.func _) (oS (oT rfl) (oS (oT rfl) Opds.nil))) ?_
 refine zc ?_
 refine zi ?_
 refine zi ?_
 refine zi ?_
 refine zg ?_
 refine zb ?_
 refine nK ?_
 refine za ?_
 refine zm ?_
 refine rpZ 34 rfl (op_buildZ (encEv ⟨0, 0, [], []⟩) rfl rfl (by exact zkEv) (FillF.cons _ _ _ _ _ _ _ _ _ _ (by rfl) oC tC (by rfl) tR (FillF.cons _ _ _ _ _ _ _ _ _ _ (by rfl) oC tC (by rfl) tR (FillF.nil _)))) ?_
 refine rpZ 35 rfl (op_call_pure (fun _ => k5) rfl (Opd.func _) (oS (oT rfl) (oS (oT rfl) Opds.nil))) ?_
 refine zc ?_
 refine zi ?_
 refine zi ?_
 refine zi ?_
 refine zg ?_
 refine zb ?_
 refine nK ?_
 refine s_draw mixed ?_
 refine zm ?_
 refine rpZ 41 rfl (op_call_pure (fun _ => k1) rfl (Opd.func _) (oS oC Opds.nil)) ?_
 refine rpZ 42 rfl (op_buildZ (encFe zFe) rfl rfl (by exact zkFe) (FillF.cons _ _ _ _ _ _ _ _ _ _ (by rfl) (oT rfl) tC (by rfl) tR (FillF.cons _ _ _ _ _ _ _ _ _ _ (by rfl) oC tC (by rfl) tR (FillF.nil _)))) ?_
 refine rpZ 43 rfl (op_call_pure (fun _ => k6) rfl (Opd.func _) (oS oC Opds.nil)) ?_
 refine rpZ 44 rfl (op_buildSlice_fz rfl (RowsF.cons _ _ _ _ _ _ oC tC (by rfl) (RowsF.nil _)) rfl rfl) ?_
 refine rpZ 45 rfl (op_buildZ (encFe zFe) rfl rfl (by exact zkFe) (FillF.cons _ _ _ _ _ _ _ _ _ _ (by rfl) (oT rfl) tC (by rfl) tR (FillF.cons _ _ _ _ _ _ _ _ _ _ (by rfl) (oT rfl) tC (by rfl) tR (FillF.nil _)))) ?_
 refine zcw ?_
 refine rpZ 47 rfl (op_buildZ (encEv ⟨0, 0, [], []⟩) rfl rfl (by exact zkEv) (FillF.cons _ _ _ _ _ _ _ _ _ _ (by rfl) oC tC (by rfl) tR (FillF.cons _ _ _ _ _ _ _ _ _ _ (by rfl) (oT rfl) tC (by rfl) tR (FillF.nil _)))) ?_
 refine rpZ 48 rfl (op_call_pure (fun _ => k7) rfl (Opd.func _) (oS (oT rfl) (oS (oT rfl) Opds.nil))) ?_
 refine zc ?_
 refine zi ?_
 refine zi ?_
 refine zi ?_
 refine zch ?_
 refine zd ?_
 refine zd ?_
 refine zq ?_
 refine nK ?_
 refine za ?_
 refine rpZ 53 rfl (op_call_pure (fun _ => k6) rfl (Opd.func _) (oS oC Opds.nil)) ?_
 refine zdc ?_
 refine rpZ 55 rfl (op_call_pure (fun _ => k8) rfl (Opd.func _) (oS (oT rfl) Opds.nil)) ?_
 refine zc ?_
 refine zi ?_
 refine zi ?_
 refine zd ?_
 refine zd ?_
 refine zb ?_
 refine nK ?_
 refine za ?_
 refine zm ?_
 refine zc ?_
 refine rpZ 61 rfl (op_buildZ (encEv ⟨0, 0, [], []⟩) rfl rfl (by exact zkEv) (FillF.cons _ _ _ _ _ _ _ _ _ _ (by rfl) oC tC (by rfl) tR (FillF.cons _ _ _ _ _ _ _ _ _ _ (by rfl) oC tC (by rfl) tR (FillF.cons _ _ _ _ _ _ _ _ _ _ (by rfl) (oT rfl) tC (by rfl) tR (FillF.nil _))))) ?_
 refine rpZ 62 rfl (op_call_pure (fun _ => k9) rfl (Opd.func _) (oS (oT rfl) (oS (oT rfl) Opds.nil))) ?_
 refine zc ?_
 refine zi ?_
 refine zi ?_
 refine zi ?_
 refine zg ?_
 refine zd ?_
 refine zd ?_
 refine zb ?_
 refine nK ?_
 refine za ?_
 refine zm ?_
 refine rpZ 67 rfl (op_call_pure (fun _ => k10) rfl (Opd.func _) (oS (oT rfl) Opds.nil)) ?_
 refine zd ?_
 refine zb ?_
 refine nK ?_
 refine za ?_
 refine zc ?_
 refine zba ?_
 refine zc ?_
 refine zl ?_
 refine zbw ?_
 refine zy ?_
 refine zc ?_
 refine zl ?_
 refine zbw ?_
 refine zy ?_
 refine zc ?_
 refine zl ?_
 refine zbw ?_
 refine zy ?_
 refine zc ?_
 refine zl ?_
 refine rgZ 84 rfl rfl tG (op_buildSlice_fz rfl (RowsF.cons _ _ _ _ _ _ oC tC (by rfl) (RowsF.cons _ _ _ _ _ _ oC tC (by rfl) (RowsF.cons _ _ _ _ _ _ oC tC (by rfl) (RowsF.cons _ _ _ _ _ _ oC tC (by rfl) (RowsF.cons _ _ _ _ _ _ oC tC (by rfl) (RowsF.cons _ _ _ _ _ _ oC tC (by rfl) (RowsF.cons _ _ _ _ _ _ oC tC (by rfl) (RowsF.cons _ _ _ _ _ _ oC tC (by rfl) (RowsF.cons _ _ _ _ _ _ oC tC (by rfl) (RowsF.cons _ _ _ _ _ _ oC tC (by rfl) (RowsF.nil _))))))))))) rfl rfl) ?_
 refine rgZ 85 rfl rfl tG (op_call_pure (fun _ => k11) rfl (Opd.func _) (oS (oO rfl tO) (oS (oO rfl tO) Opds.nil))) ?_
 refine zy ?_
 refine zc ?_
 refine zl ?_
 refine zci ?_
 refine zbw ?_
 refine zy ?_
 refine zc ?_
 refine zl ?_
 refine zci ?_
 refine zbw ?_
 refine zy ?_
 refine zc ?_
 refine zl ?_
 refine rgZ 99 rfl rfl tG (op_idx_fz 0 rfl (oO rfl tO) oC (by intro _; exact ⟨rfl, rfl⟩)) ?_
 refine zbs ?_
 refine zbt ?_
 refine zbw ?_
 refine zy ?_
 refine zc ?_
 refine zl ?_
 refine rgZ 106 rfl rfl tG (op_idx_fz _ rfl (oO rfl tO) oC tF) ?_
 refine zbs ?_
 refine zbt ?_
 refine rgZ 109 rfl rfl tG (op_build rfl rfl rfl (FillF.cons _ _ _ _ _ _ _ _ _ _ (by rfl) oC tC (by rfl) tR (FillF.cons _ _ _ _ _ _ _ _ _ _ (by rfl) oC tC (by rfl) tR (FillF.nil _)))) ?_
 refine rgZ 110 rfl rfl tG (op_buildSlice_fz rfl (RowsF.cons _ _ _ _ _ _ (oO rfl tO) tC (by rfl) (RowsF.nil _)) rfl rfl) ?_
 refine rgZ 111 rfl rfl tG (op_call_pure (fun _ => k12) rfl (Opd.func _) (oS (oO rfl tO) (oS (oO rfl tO) Opds.nil))) ?_
 refine zy ?_
 refine zd ?_
 refine zb ?_
 refine nK ?_
 refine s_oB hC rfl rfl ?_
 simp [ho]
end Go.Proofs.YtkofbemgpeagbaaGreat
/- Encoding and decoding of messages are inverse. No program in sight. -/
namespace Go.Pl
open Go Go.RT
set_option linter.all false
theorem num_be4 (x : Int) (h : 0 ≤ x ∧ x < 4294967296) : (be4 x).foldl (fun x c => x * 256 + c) 0 = x := by
  unfold be4
  simp only [List.foldl_cons, List.foldl_nil]
  omega
/-- an encoded message is decoded again -/
theorem enc_dec {m : Msg} (h : okM m) (h0 : msgE m = 0) : decodeF (encMb m) = (m, 0) := by
  have hg := (msgE_iff m).1 h0
  have h1 := hg.k1
  have h2 := hg.k4
  obtain ⟨h3, h4⟩ := vlen hg.px
  obtain ⟨h5, h6⟩ := hg.laR
  have ha := h.px.1
  have ea := num_be4 (m.px.addr : Int) (by omega)
  have el := num_be4 m.la (by omega)
  have ek : m.k % 256 = m.k := by omega
  have en : m.px.len % 256 = m.px.len := by omega
  obtain ⟨k, ⟨ad, ln⟩, la⟩ := m
  dsimp only at *
  by_cases c : k = 4
  · have hb : encMb ⟨k, ⟨ad, ln⟩, la⟩ = k :: ln :: be4 ad := by unfold encMb; dsimp only; rw [ek, en, if_neg (by simpa using c)]; simp
    rw [hb]
    have hlen : (k :: ln :: be4 ad).length = 6 := rfl
    have hraw : rawM (k :: ln :: be4 ad) = ⟨k, ⟨ad, ln⟩, la⟩ := by
      have e2 : num4 (k :: ln :: be4 ad) 2 = ad := by unfold num4; exact ea
      unfold rawM
      simp only [List.getD_cons_zero, List.getD_cons_succ, e2]
      rw [if_pos c]
      have := hg.l4 c
      dsimp only at this
      rw [this]; simp
    unfold decodeF
    rw [hlen, hraw]
    simp only [List.getD_cons_zero]
    rw [if_neg (by omega), if_neg (by simp; omega)]
    have hs : sizeM k = 6 := by unfold sizeM; rw [if_pos c]
    rw [hs, if_neg (by omega), if_neg (by omega), if_neg (by simpa using h0)]
  · have hb : encMb ⟨k, ⟨ad, ln⟩, la⟩ = k :: ln :: (be4 ad ++ be4 la) := by unfold encMb; dsimp only; rw [ek, en, if_pos c]; simp
    rw [hb]
    have hlen : (k :: ln :: (be4 ad ++ be4 la)).length = 10 := rfl
    have hraw : rawM (k :: ln :: (be4 ad ++ be4 la)) = ⟨k, ⟨ad, ln⟩, la⟩ := by
      have e2 : num4 (k :: ln :: (be4 ad ++ be4 la)) 2 = ad := by unfold num4; exact ea
      have e6 : num4 (k :: ln :: (be4 ad ++ be4 la)) 6 = la := by unfold num4; exact el
      unfold rawM
      simp only [List.getD_cons_zero, List.getD_cons_succ, e2, e6]
      rw [if_neg c]; simp
    unfold decodeF
    rw [hlen, hraw]
    simp only [List.getD_cons_zero]
    rw [if_neg (by omega), if_neg (by simp; omega)]
    have hs : sizeM k = 10 := by unfold sizeM; rw [if_neg c]
    rw [hs, if_neg (by omega), if_neg (by omega), if_neg (by simpa using h0)]
end Go.Pl
/- The engine, part 50: '==' on structs that hold structs. -/
namespace Go.RT
open Go
set_option linter.all false
section
variable {P : Program} {o : Oper} {g : Bool} {G : Env} {x y : Operand} {t t' : TypeId}
end
section
variable {C : Cx} {N : Nat} {G : Env} {H : Hp} {nx : Nat} {K : Act → World → Prop}
end
end Go.RT
namespace Go.Proofs.YtkofbemgpeagbaaGreat
open Go Go.RT Go.Proofs Go.Pl
set_option linter.all false
set_option maxRecDepth 20000
set_option maxHeartbeats 2000000
open Go Go.RT Go.Proofs Go.Pl
set_option maxRecDepth 20000
set_option maxHeartbeats 2000000
theorem wHE15a {α : Prop} (h : α := by repeat (first | exact trivial | refine ⟨⟨_, rfl, .inl ⟨rfl, rfl⟩⟩, ?_⟩)) : α := h
theorem wHE15b {α : Prop} (h : α := by repeat (first | exact trivial | refine ⟨wS, ?_⟩ | refine ⟨ent_same rfl rfl (rfEq rfl tU) tL, ?_⟩ | refine ⟨ent_same rfl rfl (flEq rfl (by first | (simp; done) | (simp; omega) | (simp [encP, encW, encY, encMs, encBn, encSn, encFe, encLh, encLe, encRg, encEv]; done) | simp [maxC, minC])) trivial, ?_⟩)) : α := h
theorem large_c (l : List Lev) (hn : l.length ≤ 9223372036854775807) : Pure Tryz.prog 5 [VEv l] (Bf (largeF l)) := by
 unfold largeF
 refine Meets.intro Tryz.func5 rfl (Nat.le_of_ble_eq_true rfl) fun C hC => ?_
 simp only [List.map, argEnv, Nat.reduceAdd]
 refine nK ?_
 refine za ?_
 refine ze ?_
 refine zb ?_
 refine nK ?_
 refine za ?_
 refine zc ?_
 refine zk ?_
 refine zbu ?_
 refine zb ?_
 refine nK ?_
 refine n_cond _ rfl (fun hb => ?_) (fun hb => ?_)
 ·rw [show decide (40 < l.length) = true by simp at hb; simp; omega, Bool.true_or]
  refine nK ?_
  refine za ?_
  refine ze ?_
  refine zb ?_
  refine nK ?_
  exact wO hC
 have h40 : l.length ≤ 40 := by simp at hb; omega
 rw [show decide (40 < l.length) = false by simp; omega, Bool.false_or]
 refine nK ?_
 refine za ?_
 refine zc ?_
 refine zk ?_
 refine zx ?_
 refine zb ?_
 refine nK ?_
 refine n_loop (ι := Nat) (fun i => ([(8, .fz (VEv l)), (9, IV .i64 l.length), (10, IV .i64 i)], [], 0)) (fun i => i ≤ l.length ∧ (l.drop i).any largeE = l.any largeE) (fun i => l.length - i) 0 ⟨Nat.zero_le _, rfl⟩ ?_ ?_
 ·refine Next.weak [] [] (by rfl) (keeps0 hC _) wHE15a wHE15b wN rel_intro
 intro i ⟨hi, ho⟩ K hK
 refine nK ?_
 refine za ?_
 refine zn ?_
 refine zb ?_
 refine nK ?_
 refine n_cond _ rfl (fun hb => ?_) (fun hb => ?_)
 ·have hlt : i < l.length := by simp at hb; omega
  have hr1 := row_at' encEv l i hlt
  rw [any_step _ hlt] at ho
  have hK1 := fun h => hK (i + 1) ⟨by omega, h⟩ (by omega)
  generalize l[i] = e at *
  have hE : largeE e = (decide ((40 : Int) < e.rt.length) || decide ((100 : Int) < e.da.length)) := by unfold largeE; congr 1 <;> (congr 1; apply propext; omega)
  refine nK ?_
  refine za ?_
  refine zr ?_
  refine zv ?_
  refine zo ?_
  refine zg ?_
  refine zb ?_
  refine nK ?_
  refine za ?_
  refine zf ?_
  refine zh ?_
  refine zk ?_
  refine zbu ?_
  refine zc ?_
  refine zp ?_
  refine zs ?_
  refine zci ?_
  refine zbo ?_
  refine zbd ?_
  refine zb ?_
  refine nK ?_
  refine n_cond _ rfl (fun hb => ?_) (fun hb => ?_)
  ·rw [hE, hb, Bool.true_or] at ho
   rw [← ho]
   refine nK ?_
   refine za ?_
   refine ze ?_
   refine zb ?_
   refine nK ?_
   exact wO hC
  rw [hE, hb, Bool.false_or] at ho
  refine nK ?_
  refine za ?_
  refine zj ?_
  refine zc ?_
  refine zb ?_
  refine nK ?_
  refine Next.weak [] [] (by rfl) (keeps0 hC _) wHE15a wHE15b wN (hK1 ho)
 have hie : i = l.length := by simp at hb; omega
 rw [hie, List.drop_length] at ho
 rw [← ho]
 refine nK ?_
 refine za ?_
 refine ze ?_
 refine zb ?_
 refine nK ?_
 exact wO hC
theorem rcheck44_c (l : List Rg) (hn : l.length ≤ 9223372036854775807) : Pure Tryz.prog 32 [VRg l] (If .i64 (lblE l)) := by
 refine Meets.intro Tryz.func32 rfl (Nat.le_of_ble_eq_true rfl) fun C hC => ?_
 simp only [List.map, argEnv, Nat.reduceAdd]
 refine nK ?_
 refine za ?_
 refine ze ?_
 refine zb ?_
 refine nK ?_
 refine za ?_
 refine zc ?_
 refine zk ?_
 refine zx ?_
 refine zb ?_
 refine nK ?_
 refine n_loop (ι := Nat) (fun i => ([(0, .fz (VRg l)), (5, .fz (VRg l)), (6, IV .i64 l.length), (7, IV .i64 i)], [], 0)) (fun i => i ≤ l.length ∧ chkG (prvG l i) (l.drop i) = lblE l ∧ ∀ q, prvG l i = some q → vR q) (fun i => l.length - i) 0 ⟨Nat.zero_le _, rfl, fun q hq => by cases hq⟩ ?_ ?_
 ·refine Next.weak [] [] (by rfl) (keeps0 hC _) wHE15a wHE15b wN rel_intro
 intro i ⟨hi, ho, hv⟩ K hK
 refine nK ?_
 refine za ?_
 refine zn ?_
 refine zb ?_
 refine nK ?_
 refine n_cond _ rfl (fun hb => ?_) (fun hb => ?_)
 ·have hlt : i < l.length := by simp at hb; omega
  have hr1 := row_at' encRg l i hlt
  obtain ⟨q, hq⟩ := prv_row encRg l ⟨0, 0⟩ (by omega : i ≤ l.length)
  rw [lchk_step hlt] at ho
  have hK1 := fun h h2 => hK (i + 1) ⟨by omega, h, h2⟩ (by omega)
  have hps := prvG_succ hlt
  generalize l[i] = r at *
  have hbad : badG (prvG l i) r = (decide ((0 : Int) < (i : Int)) && decide (r.f ≤ q.t + 1)) := by
   by_cases h0 : 0 < i
   ·rw [(hq h0).1]; simp [badG, h0]
   have : i = 0 := by omega
   subst this; rfl
  have hE : rgE r = if (decide (r.f < 16) || decide (1048575 < r.t)) = true then 5 else if r.t < r.f then 1 else 0 := rfl
  have hq2 : 0 < i → (l.map encRg)[i - 1]? = some (encRg q) := fun h => (hq h).2
  have hqv : 0 < i → vR q := fun h => hv q (hq h).1
  have hqt : 0 < i → q.t ≤ 1048575 ∧ 16 ≤ q.t := fun h => ⟨(hqv h).hi, by have := (hqv h).lo; have := (hqv h).le; omega⟩
  refine nK ?_
  refine za ?_
  refine zc ?_
  refine zr ?_
  refine zv ?_
  refine zo ?_
  refine zd ?_
  refine zg ?_
  refine zb ?_
  refine nK ?_
  refine za ?_
  refine zf ?_
  refine zh ?_
  refine zbq ?_
  refine zc ?_
  refine zp ?_
  refine zs ?_
  refine zbo ?_
  refine zbd ?_
  refine zd ?_
  refine zb ?_
  refine nK ?_
  refine n_cond _ rfl (fun hb => ?_) (fun hb => ?_)
  ·rw [if_pos hb] at hE
   rw [hE, if_pos (by decide)] at ho
   rw [← ho]
   refine nK ?_
   refine za ?_
   refine ze ?_
   refine zb ?_
   refine nK ?_
   exact wO hC
  rw [if_neg (by rw [hb]; decide)] at hE
  refine nK ?_
  refine za ?_
  refine zf ?_
  refine zh ?_
  refine zf ?_
  refine zh ?_
  refine zbz ?_
  refine zd ?_
  refine zb ?_
  refine nK ?_
  refine n_cond _ rfl (fun hb => ?_) (fun hb => ?_)
  ·rw [if_pos (by simpa using hb)] at hE
   rw [hE, if_pos (by decide)] at ho
   rw [← ho]
   refine nK ?_
   refine za ?_
   refine ze ?_
   refine zb ?_
   refine nK ?_
   exact wO hC
  rw [if_neg (by simpa using hb)] at hE
  rw [if_neg (by rw [hE]; decide), hbad] at ho
  have hr := (rgE_iff r).1 hE
  refine nK ?_
  refine s_draw mixed ?_
  refine zc ?_
  refine zbu ?_
  refine zc ?_
  refine zp ?_
  refine zs ?_
  refine zl ?_
  refine zl ?_
  refine zcf ?_
  refine rgZ 36 rfl rfl tG (op_idx_fz (i - 1) rfl (oO rfl tO) (oO rfl tO) (by intro hg; simp at hg; exact ⟨by omega, hq2 (by omega)⟩)) ?_
  refine zbs ?_
  refine zbt ?_
  refine rgZ 39 rfl rfl tG (op_add rfl (oO rfl tO) oC (by intro hg; simp at hg; have := hqt (by omega); simp only [inr]; omega)) ?_
  refine zcr ?_
  refine zy ?_
  refine zd ?_
  refine zq ?_
  refine nK ?_
  refine n_cond _ rfl (fun hb => ?_) (fun hb => ?_)
  ·rw [if_pos hb] at ho
   rw [← ho]
   refine nK ?_
   refine za ?_
   refine ze ?_
   refine zb ?_
   refine nK ?_
   exact wO hC
  rw [if_neg (by rw [hb]; decide)] at ho
  refine nK ?_
  refine za ?_
  refine zj ?_
  refine zc ?_
  refine zb ?_
  refine nK ?_
  refine Next.weak [] [] (by rfl) (keeps0 hC _) wHE15a wHE15b wN (hK1 ho fun q' hq' => by rw [hps] at hq'; cases hq'; exact hr)
 have hie : i = l.length := by simp at hb; omega
 rw [hie, List.drop_length] at ho
 rw [← ho]
 refine nK ?_
 refine za ?_
 refine ze ?_
 refine zb ?_
 refine nK ?_
 exact wO hC
theorem rhas_c (l : List Rg) (n : Int) (hn : l.length ≤ 9223372036854775807) : Pure Tryz.prog 120 [VRg l, If .i64 n] (Bf (hasG l n)) := by
 have kc := rcheck44_c l hn
 unfold hasG
 refine Meets.intro Tryz.func120 rfl (Nat.le_of_ble_eq_true rfl) fun C hC => ?_
 simp only [List.map, argEnv, Nat.reduceAdd]
 refine nK ?_
 refine za ?_
 refine ze ?_
 refine zb ?_
 refine nK ?_
 refine za ?_
 refine zc ?_
 refine rpZ 8 rfl (op_call_pure (fun _ => kc) rfl (Opd.func _) (oS (oT rfl) Opds.nil)) ?_
 refine zbe ?_
 refine zb ?_
 refine nK ?_
 refine n_cond _ rfl (fun hb => ?_) (fun hb => ?_)
 ·rw [show decide (lblE l = 0) = false by simpa using hb, Bool.false_and]
  refine nK ?_
  refine za ?_
  refine ze ?_
  refine zb ?_
  refine nK ?_
  exact wO hC
 rw [show decide (lblE l = 0) = true by simpa using hb, Bool.true_and]
 refine nK ?_
 refine za ?_
 refine zc ?_
 refine zk ?_
 refine zx ?_
 refine zb ?_
 refine nK ?_
 refine n_loop (ι := Nat) (fun i => ([(1, IV .i64 n), (10, .fz (VRg l)), (11, IV .i64 l.length), (12, IV .i64 i)], [], 0)) (fun i => i ≤ l.length ∧ (l.drop i).any (inG n) = l.any (inG n)) (fun i => l.length - i) 0 ⟨Nat.zero_le _, rfl⟩ ?_ ?_
 ·refine Next.weak [] [] (by rfl) (keeps0 hC _) wHE15a wHE15b wN rel_intro
 intro i ⟨hi, ho⟩ K hK
 refine nK ?_
 refine za ?_
 refine zn ?_
 refine zb ?_
 refine nK ?_
 refine n_cond _ rfl (fun hb => ?_) (fun hb => ?_)
 ·have hlt : i < l.length := by simp at hb; omega
  have hr1 := row_at' encRg l i hlt
  rw [any_step _ hlt] at ho
  have hK1 := fun h => hK (i + 1) ⟨by omega, h⟩ (by omega)
  generalize l[i] = r at *
  refine nK ?_
  refine za ?_
  refine zr ?_
  refine zv ?_
  refine zo ?_
  refine zg ?_
  refine zb ?_
  refine nK ?_
  refine za ?_
  refine zf ?_
  refine zh ?_
  refine zc ?_
  refine zcs ?_
  refine zc ?_
  refine zl ?_
  refine zp ?_
  refine zs ?_
  refine zcr ?_
  refine zy ?_
  refine zb ?_
  refine nK ?_
  refine n_cond _ rfl (fun hb => ?_) (fun hb => ?_)
  ·rw [show inG n r = true from hb, Bool.true_or] at ho
   rw [← ho]
   refine nK ?_
   refine za ?_
   refine ze ?_
   refine zb ?_
   refine nK ?_
   exact wO hC
  rw [show inG n r = false from hb, Bool.false_or] at ho
  refine nK ?_
  refine za ?_
  refine zj ?_
  refine zc ?_
  refine zb ?_
  refine nK ?_
  refine Next.weak [] [] (by rfl) (keeps0 hC _) wHE15a wHE15b wN (hK1 ho)
 have hie : i = l.length := by simp at hb; omega
 rw [hie, List.drop_length] at ho
 rw [← ho]
 refine nK ?_
 refine za ?_
 refine ze ?_
 refine zb ?_
 refine nK ?_
 exact wO hC
theorem rgreater_c (a b : Go.Pl.Bnd) : Pure Tryz.prog 117 [.agg (encBn a), .agg (encBn b)] (Bf (grB a b)) := by
 have k := rcmp_c a.px b.px
 unfold grB
 generalize cmpP a.px b.px = c at *
 refine Meets.intro Tryz.func117 rfl (Nat.le_of_ble_eq_true rfl) fun C hC => ?_
 simp only [List.map, argEnv, Nat.reduceAdd]
 refine nK ?_
 refine za ?_
 refine zu ?_
 refine zu ?_
 refine ze ?_
 refine zb ?_
 refine nK ?_
 refine za ?_
 refine zf ?_
 refine zbc ?_
 refine zf ?_
 refine zbc ?_
 refine rpZ 10 rfl (op_call_pure (fun _ => k) rfl (Opd.func _) (oS (oT rfl) (oS (oT rfl) Opds.nil))) ?_
 refine zd ?_
 refine zb ?_
 refine nK ?_
 refine za ?_
 refine zc ?_
 refine zbu ?_
 refine zc ?_
 refine zl ?_
 refine zbw ?_
 refine zce ?_
 refine zp ?_
 refine zs ?_
 refine zp ?_
 refine zs ?_
 refine zcj ?_
 refine zco ?_
 refine zbd ?_
 refine zd ?_
 refine zb ?_
 refine nK ?_
 exact wO hC
open Go Go.RT Go.Proofs Go.Pl
set_option maxRecDepth 20000
set_option maxHeartbeats 2000000
theorem wHE16a {α : Prop} (h : α := by repeat (first | exact trivial | refine ⟨⟨_, rfl, .inl ⟨rfl, rfl⟩⟩, ?_⟩)) : α := h
theorem wHE16b {α : Prop} (h : α := by repeat (first | exact trivial | refine ⟨wS, ?_⟩ | refine ⟨ent_same rfl rfl (rfEq rfl tU) tL, ?_⟩ | refine ⟨ent_same rfl rfl (flEq rfl (by first | (simp; done) | (simp; omega) | (simp [encP, encW, encY, encMs, encBn, encSn, encFe, encLh, encLe, encRg, encEv]; done) | simp [maxC, minC])) trivial, ?_⟩)) : α := h
theorem apl {α : Type} (o : List α) (x : α) : (o ++ [x]).length = o.length + 1 := by simp
theorem apm {α β : Type} (f : α → β) (o : List α) (x : α) : (o ++ [x]).map f = o.map f ++ [f x] := by simp
theorem indexR_c (l : List Int) (n : Int) (hn : l.length ≤ 9223372036854775807) : Pure Tryz.prog 113 [VW l, If .u32 n] (If .i64 (idxAt (fun x => decide (x = n)) 0 l)) := by
 refine Meets.intro Tryz.func113 rfl (Nat.le_of_ble_eq_true rfl) fun C hC => ?_
 simp only [List.map, argEnv, Nat.reduceAdd]
 refine nK ?_
 refine za ?_
 refine ze ?_
 refine zb ?_
 refine nK ?_
 refine za ?_
 refine zc ?_
 refine zk ?_
 refine zx ?_
 refine zb ?_
 refine nK ?_
 refine n_loop (ι := Nat) (fun i => ([(1, IV .u32 n), (7, .fz (VW l)), (8, IV .i64 l.length), (9, IV .i64 i)], [], 0)) (fun i => i ≤ l.length ∧ idxAt (fun x => decide (x = n)) i (l.drop i) = idxAt (fun x => decide (x = n)) 0 l) (fun i => l.length - i) 0 ⟨Nat.zero_le _, rfl⟩ ?_ ?_
 ·refine Next.weak [] [] (by rfl) (keeps0 hC _) wHE16a wHE16b wN rel_intro
 intro i ⟨hi, ho⟩ K hK
 refine nK ?_
 refine za ?_
 refine zn ?_
 refine zb ?_
 refine nK ?_
 refine n_cond _ rfl (fun hb => ?_) (fun hb => ?_)
 ·have hlt : i < l.length := by simp at hb; omega
  have hr1 := row_at' encW l i hlt
  rw [List.drop_eq_getElem_cons hlt] at ho
  simp only [idxAt] at ho
  have hK1 := fun h => hK (i + 1) ⟨by omega, h⟩ (by omega)
  generalize l[i] = e at *
  refine nK ?_
  refine za ?_
  refine zc ?_
  refine zr ?_
  refine zt ?_
  refine zd ?_
  refine zd ?_
  refine zb ?_
  refine nK ?_
  refine za ?_
  refine zc ?_
  refine zc ?_
  refine zbx ?_
  refine zb ?_
  refine nK ?_
  refine n_cond _ rfl (fun hb => ?_) (fun hb => ?_)
  ·rw [show decide (e = n) = true from hb, cond_true] at ho
   rw [← ho]
   refine nK ?_
   refine za ?_
   refine zc ?_
   refine zd ?_
   refine zb ?_
   refine nK ?_
   exact wO hC
  rw [show decide (e = n) = false from hb, cond_false] at ho
  refine nK ?_
  refine za ?_
  refine zj ?_
  refine zc ?_
  refine zb ?_
  refine nK ?_
  refine Next.weak [] [] (by rfl) (keeps0 hC _) wHE16a wHE16b wN (hK1 ho)
 have hie : i = l.length := by simp at hb; omega
 rw [hie, List.drop_length] at ho
 rw [← ho]
 refine nK ?_
 refine za ?_
 refine ze ?_
 refine zb ?_
 refine nK ?_
 exact wO hC
theorem hasR_c (l : List Int) (n : Int) (hn : l.length ≤ 9223372036854775807) : Pure Tryz.prog 74 [VW l, If .u32 n] (Bf (l.contains n)) := by
 have k := indexR_c l n hn
 have e : l.contains n = decide (0 ≤ idxAt (fun x => decide (x = n)) 0 l) := by
  rw [any_idx, List.contains_eq_any_beq]
  congr 1; funext x; rw [Bool.eq_iff_iff, decide_eq_true_iff, beq_iff_eq]; exact eq_comm
 rw [e]
 generalize idxAt (fun x => decide (x = n)) 0 l = j at *
 refine Meets.intro Tryz.func74 rfl (Nat.le_of_ble_eq_true rfl) fun C hC => ?_
 simp only [List.map, argEnv, Nat.reduceAdd]
 refine nK ?_
 refine za ?_
 refine ze ?_
 refine zb ?_
 refine nK ?_
 refine za ?_
 refine zc ?_
 refine zc ?_
 refine rpZ 7 rfl (op_call_pure (fun _ => k) rfl (Opd.func _) (oS (oT rfl) (oS (oT rfl) Opds.nil))) ?_
 refine zcg ?_
 refine zd ?_
 refine zb ?_
 refine nK ?_
 exact wO hC
theorem rfind_c (l : List Go.Pl.Bnd) (p : Pfx) (n : Int) (hn : l.length ≤ 9223372036854775807) : Pure Tryz.prog 51 [VBn l, .agg (encP p), If .u32 n] (.tup [If .i64 ((findB l p n).getD 0), Bf (findB l p n).isSome]) := by
 unfold findB
 refine Meets.intro Tryz.func51 rfl (Nat.le_of_ble_eq_true rfl) fun C hC => ?_
 simp only [List.map, argEnv, Nat.reduceAdd]
 refine nK ?_
 refine za ?_
 refine zu ?_
 refine ze ?_
 refine ze ?_
 refine zb ?_
 refine nK ?_
 refine za ?_
 refine zc ?_
 refine zk ?_
 refine zx ?_
 refine zb ?_
 refine nK ?_
 refine n_loop (ι := Nat) (fun i => ([(2, IV .u32 n), (4, .fz (.cellp (encP p))), (10, .fz (VBn l)), (11, IV .i64 l.length), (12, IV .i64 i)], [], 0)) (fun i => i ≤ l.length ∧ (l.drop i).find? (isBn p n) = l.find? (isBn p n)) (fun i => l.length - i) 0 ⟨Nat.zero_le _, rfl⟩ ?_ ?_
 ·refine Next.weakS [] [4] (by rfl) (wK hC) wF wHE16b rfl (rel_intro)
 intro i ⟨hi, ho⟩ K hK
 refine nK ?_
 refine za ?_
 refine zn ?_
 refine zb ?_
 refine nK ?_
 refine n_cond _ rfl (fun hb => ?_) (fun hb => ?_)
 ·have hlt : i < l.length := by simp at hb; omega
  have hr1 := row_at' encBn l i hlt
  rw [find_step _ hlt] at ho
  have hK1 := fun h => hK (i + 1) ⟨by omega, h⟩ (by omega)
  generalize l[i] = b at *
  have hc : isBn p n b = (eqFs (encP b.px) (encP p) && decide (b.pe = n)) := by rw [eqFs_encP]; rfl
  refine nK ?_
  refine za ?_
  refine zr ?_
  refine zv ?_
  refine zo ?_
  refine zg ?_
  refine zb ?_
  refine nK ?_
  refine za ?_
  refine zf ?_
  refine zbc ?_
  refine zv ?_
  refine zcp ?_
  refine zc ?_
  refine zp ?_
  refine zs ?_
  refine zl ?_
  refine zbp ?_
  refine zy ?_
  refine zb ?_
  refine nK ?_
  refine n_cond _ rfl (fun hb => ?_) (fun hb => ?_)
  ·rw [hc, show (eqFs (encP b.px) (encP p) && decide (b.pe = n)) = true from hb, if_pos rfl] at ho
   rw [← ho]
   refine nK ?_
   refine za ?_
   refine zf ?_
   refine zh ?_
   refine zd ?_
   refine ze ?_
   refine zb ?_
   refine nK ?_
   exact wO hC
  rw [hc, show (eqFs (encP b.px) (encP p) && decide (b.pe = n)) = false from hb, if_neg (by decide)] at ho
  refine nK ?_
  refine za ?_
  refine zj ?_
  refine zc ?_
  refine zb ?_
  refine nK ?_
  refine Next.weak [] [] (by rfl) (keeps0 hC _) wHE16a wHE16b wN (hK1 ho)
 have hie : i = l.length := by simp at hb; omega
 rw [hie, List.drop_length] at ho
 rw [← ho]
 refine nK ?_
 refine za ?_
 refine ze ?_
 refine ze ?_
 refine zb ?_
 refine nK ?_
 exact wO hC
theorem runbind_c (l : List Go.Pl.Bnd) (p : Pfx) (n : Int) (hn : l.length ≤ 2000000) : Pure Tryz.prog 78 [VBn l, .agg (encP p), If .u32 n] (.tup [VBn (unbL l p n), Bf (decide (((unbL l p n).length : Int) < l.length))]) := by
 refine Meets.intro Tryz.func78 rfl (Nat.le_of_ble_eq_true rfl) fun C hC => ?_
 simp only [List.map, argEnv, Nat.reduceAdd]
 refine nK ?_
 refine za ?_
 refine zu ?_
 refine ze ?_
 refine ze ?_
 refine zb ?_
 refine nK ?_
 refine za ?_
 refine ze ?_
 refine zb ?_
 refine nK ?_
 refine Next.adopt 8 4 rfl ?_
 refine nK ?_
 refine za ?_
 refine zc ?_
 refine zk ?_
 refine zx ?_
 refine zb ?_
 refine nK ?_
 refine n_loop (ι := Nat × List Go.Pl.Bnd) (fun g => ([(0, .fz (VBn l)), (2, IV .u32 n), (4, .fz (.cellp (encP p))), (8, .sl 0 4 0 g.2.length), (11, .fz (VBn l)), (12, IV .i64 l.length), (13, IV .i64 g.1)], [(0, OBn g.2)], 1)) (fun g => g.1 ≤ l.length ∧ g.2 = (l.take g.1).filter fun b => !isBn p n b) (fun g => l.length - g.1) (0, []) ⟨Nat.zero_le _, by simp⟩ ?_ ?_
 ·refine Next.weakS [8] [4] (by rfl) (wK hC) wF wHE16b rfl (rel_intro)
 intro ⟨i, out⟩ ⟨hi, hS⟩ K hK
 dsimp only at hi hS ⊢
 have hol : out.length ≤ i := by rw [hS]; exact Nat.le_trans (List.length_filter_le _ _) (by simp; omega)
 refine nK ?_
 refine za ?_
 refine zn ?_
 refine zb ?_
 refine nK ?_
 refine n_cond _ rfl (fun hb => ?_) (fun hb => ?_)
 ·have hlt : i < l.length := by simp at hb; omega
  have hr1 := row_at' encBn l i hlt
  have hs := filt_take (fun b => !isBn p n b) hlt
  rw [← hS] at hs
  have hK1 := fun o h => hK (i + 1, o) ⟨by dsimp only; omega, h⟩ (by dsimp only; omega)
  dsimp only at hK1
  generalize l[i] = b at *
  have hc : (!isBn p n b) = (!eqFs (encP b.px) (encP p) || decide (b.pe ≠ n)) := by rw [eqFs_encP]; unfold isBn; rw [Bool.not_and]; simp
  refine nK ?_
  refine za ?_
  refine zr ?_
  refine zv ?_
  refine zo ?_
  refine zg ?_
  refine zb ?_
  refine nK ?_
  refine za ?_
  refine zf ?_
  refine zbc ?_
  refine zv ?_
  refine zcq ?_
  refine zc ?_
  refine zp ?_
  refine zs ?_
  refine zl ?_
  refine rgZ 25 rfl rfl tG (op_neq rfl (oO rfl tO) (oO rfl tO)) ?_
  refine zbd ?_
  refine zb ?_
  refine nK ?_
  refine n_cond _ rfl (fun hb => ?_) (fun hb => ?_)
  ·rw [if_pos (hc.trans hb)] at hs
   have hK2 := hK1 (out ++ [b]) hs.symm
   unfold OBn at hK2
   rw [apl, apm] at hK2
   refine nK ?_
   refine za ?_
   refine zc ?_
   refine zm ?_
   refine zz ?_
   refine zbi ?_
   refine zd ?_
   refine zb ?_
   refine nK ?_
   refine za ?_
   refine zj ?_
   refine zc ?_
   refine zb ?_
   refine nK ?_
   refine Next.weakS [8] [] (by rfl) (wK hC) wG wHE16b rfl (hK2)
  rw [if_neg (by rw [hc, show (!eqFs (encP b.px) (encP p) || decide (b.pe ≠ n)) = false from hb]; decide), List.append_nil] at hs
  refine nK ?_
  refine za ?_
  refine zj ?_
  refine zc ?_
  refine zb ?_
  refine nK ?_
  refine Next.weakS [8] [] (by rfl) (wK hC) wG wHE16b rfl ((hK1 out hs.symm))
 have hie : i = l.length := by simp at hb; omega
 rw [hie, List.take_length] at hS
 unfold unbL
 rw [← hS]
 clear hK hS
 refine nK ?_
 refine za ?_
 refine zc ?_
 refine zc ?_
 refine zbl ?_
 refine zc ?_
 refine zk ?_
 refine zn ?_
 refine zd ?_
 refine zd ?_
 refine zb ?_
 refine nK ?_
 refine Next.weakS [] [6] (by rfl) (keeps0 hC _) (G' := [(6, .fz (VBn out)), (7, BV (decide ((out.length : Int) < l.length)))]) (H' := []) wF trivial rfl ?_
 exact wO hC
theorem rbind_c (l : List Go.Pl.Bnd) (b : Go.Pl.Bnd) (hn : l.length ≤ 1000000) : Pure Tryz.prog 77 [VBn l, .agg (encBn b)] (VBn (bindL l b)) := by
 have k1 := runbind_c l b.px b.pe (by omega)
 have hul := unbL_len l b.px b.pe
 unfold bindL
 generalize unbL l b.px b.pe = u at *
 rw [← rbG_eq]
 refine Meets.intro Tryz.func77 rfl (Nat.le_of_ble_eq_true rfl) fun C hC => ?_
 simp only [List.map, argEnv, Nat.reduceAdd]
 refine nK ?_
 refine za ?_
 refine zu ?_
 refine ze ?_
 refine zb ?_
 refine nK ?_
 refine za ?_
 refine zc ?_
 refine zf ?_
 refine zbc ?_
 refine zf ?_
 refine zh ?_
 refine rpZ 17 rfl (op_call_pure (fun _ => k1) rfl (Opd.func _) (oS (oT rfl) (oS (oT rfl) (oS (oT rfl) Opds.nil)))) ?_
 refine zc ?_
 refine zi ?_
 refine zi ?_
 refine zd ?_
 refine zd ?_
 refine zb ?_
 refine nK ?_
 refine za ?_
 refine ze ?_
 refine zb ?_
 refine nK ?_
 refine Next.adopt 7 4 rfl ?_
 refine nK ?_
 refine za ?_
 refine ze ?_
 refine zb ?_
 refine nK ?_
 refine za ?_
 refine zc ?_
 refine zk ?_
 refine zx ?_
 refine zb ?_
 refine nK ?_
 refine n_loop (ι := Nat) (fun i => ([(3, .fz (.cellp (encBn b))), (7, .sl 0 4 0 (rbG b (u.take i)).1.length), (8, BV (rbG b (u.take i)).2), (20, .fz (VBn u)), (21, IV .i64 u.length), (22, IV .i64 i)], [(0, OBn (rbG b (u.take i)).1)], 1)) (fun i => i ≤ u.length) (fun i => u.length - i) 0 (Nat.zero_le _) ?_ ?_
 ·refine Next.weakS [7] [3] (by rfl) (wK hC) wF wHE16b rfl (rel_intro)
 intro i hi K hK
 have hol := rbG_len b u i hi
 refine nK ?_
 refine za ?_
 refine zn ?_
 refine zb ?_
 refine nK ?_
 refine n_cond _ rfl (fun hb => ?_) (fun hb => ?_)
 ·have hlt : i < u.length := by simp at hb; omega
  have hr1 := row_at' encBn u i hlt
  have hK1 := hK (i + 1) (by omega) (by omega)
  rw [rbG_take b hlt] at hK1
  generalize rbG b (u.take i) = o at *
  obtain ⟨o, d⟩ := o
  generalize u[i] = x at *
  have kg := rgreater_c x b
  unfold rbS at hK1
  dsimp only at hK1 hol ⊢
  have hol2 : o.length ≤ i + 1 := by split at hol <;> omega
  refine nK ?_
  refine za ?_
  refine zr ?_
  refine zv ?_
  refine zo ?_
  refine zg ?_
  refine zb ?_
  refine nK ?_
  refine za ?_
  refine zc ?_
  refine zbj ?_
  refine zc ?_
  refine zby ?_
  refine zcm ?_
  refine rgZ 31 rfl rfl tG (op_call_pure (fun _ => kg) rfl (Opd.func _) (oS (oO rfl tO) (oS (oO rfl tO) Opds.nil))) ?_
  refine zy ?_
  refine zb ?_
  refine nK ?_
  refine n_cond _ rfl (fun hb => ?_) (fun hb => ?_)
  ·rw [if_pos hb] at hK1
   unfold OBn at hK1
   dsimp only at hK1
   rw [apl, apm, apl, apm] at hK1
   refine nK ?_
   refine za ?_
   refine zc ?_
   refine zv ?_
   refine zz ?_
   refine zbi ?_
   refine zd ?_
   refine zb ?_
   refine nK ?_
   refine za ?_
   refine ze ?_
   refine zb ?_
   refine nK ?_
   refine za ?_
   refine zc ?_
   refine zm ?_
   refine zz ?_
   refine zbi ?_
   refine zd ?_
   refine zb ?_
   refine nK ?_
   refine za ?_
   refine zj ?_
   refine zc ?_
   refine zb ?_
   refine nK ?_
   refine Next.weakS [7] [] (by rfl) (wK hC) wG wHE16b rfl (hK1)
  rw [if_neg (by rw [show (!d && grB x b) = false from hb]; decide)] at hK1
  unfold OBn at hK1
  dsimp only at hK1
  rw [apl, apm] at hK1
  refine nK ?_
  refine za ?_
  refine zc ?_
  refine zm ?_
  refine zz ?_
  refine zbi ?_
  refine zd ?_
  refine zb ?_
  refine nK ?_
  refine za ?_
  refine zj ?_
  refine zc ?_
  refine zb ?_
  refine nK ?_
  refine Next.weakS [7] [] (by rfl) (wK hC) wG wHE16b rfl (hK1)
 have hie : i = u.length := by simp at hb; omega
 rw [hie, List.take_length] at hol ⊢
 clear hK
 generalize rbG b u = o at *
 obtain ⟨o, d⟩ := o
 dsimp only at hol ⊢
 have hol2 : o.length ≤ u.length + 1 := by split at hol <;> omega
 refine nK ?_
 refine za ?_
 refine zc ?_
 refine zbj ?_
 refine zb ?_
 refine nK ?_
 refine n_cond _ rfl (fun hb => ?_) (fun hb => ?_)
 ·rw [if_neg (by simp at hb; simp [hb])]
  have ea := apm encBn o b
  refine nK ?_
  refine za ?_
  refine zc ?_
  refine zv ?_
  refine zz ?_
  refine zbi ?_
  refine zd ?_
  refine zb ?_
  refine nK ?_
  refine za ?_
  refine zc ?_
  refine zd ?_
  refine zb ?_
  refine nK ?_
  refine Next.weakS [] [4] (by rfl) (keeps0 hC _) (G' := [(4, .fz (VBn (o ++ [b])))]) (H' := []) wF trivial rfl ?_
  exact wO hC
 rw [if_pos (by simp at hb; simp [hb])]
 refine nK ?_
 refine za ?_
 refine zc ?_
 refine zd ?_
 refine zb ?_
 refine nK ?_
 refine Next.weakS [] [4] (by rfl) (keeps0 hC _) (G' := [(4, .fz (VBn o))]) (H' := []) wF trivial rfl ?_
 exact wO hC
open Go Go.RT Go.Proofs Go.Pl
set_option maxRecDepth 20000
set_option maxHeartbeats 2000000
theorem wHE17a {α : Prop} (h : α := by repeat (first | exact trivial | refine ⟨wS, ?_⟩ | refine ⟨ent_same rfl rfl (rfEq rfl tU) tL, ?_⟩ | refine ⟨ent_same rfl rfl (flEq rfl (by first | (simp; done) | (simp; omega) | (simp [encP, encW, encY, encMs, encBn, encSn, encFe, encLh, encLe, encRg, encEv, encLs]; done) | simp [maxC, minC])) trivial, ?_⟩)) : α := h
theorem rtake_c (l : List Rg) (hn : l.length ≤ 2000000) : Pure Tryz.prog 81 [VRg l] (.tup [If .i64 (takeF l).1, VRg (takeF l).2.1, If .i64 (takeF l).2.2]) := by
 have kc := rcheck44_c l (by omega)
 refine Meets.intro Tryz.func81 rfl (Nat.le_of_ble_eq_true rfl) fun C hC => ?_
 simp only [List.map, argEnv, Nat.reduceAdd]
 refine nK ?_
 refine za ?_
 refine ze ?_
 refine ze ?_
 refine ze ?_
 refine zb ?_
 refine nK ?_
 refine za ?_
 refine zc ?_
 refine rpZ 11 rfl (op_call_pure (fun _ => kc) rfl (Opd.func _) (oS (oT rfl) Opds.nil)) ?_
 refine zd ?_
 refine zb ?_
 refine nK ?_
 refine za ?_
 refine zc ?_
 refine zbe ?_
 refine zb ?_
 refine nK ?_
 refine n_cond _ rfl (fun hb => ?_) (fun hb => ?_)
 ·rw [show takeF l = (0, [], lblE l) by unfold takeF; rw [if_pos (by simpa using hb)]]
  refine nK ?_
  refine za ?_
  refine zc ?_
  refine ze ?_
  refine ze ?_
  refine zd ?_
  refine zb ?_
  refine nK ?_
  refine Next.weakS [] [] (by rfl) (keeps0 hC _) (G' := [(2, IV .i64 0), (3, .fz (VRg [])), (4, IV .i64 (lblE l))]) (H' := []) wF trivial rfl ?_
  exact wO hC
 have h0 : lblE l = 0 := by simpa using hb
 have hv := (lblE_iff l).1 h0
 refine nK ?_
 refine za ?_
 refine zc ?_
 refine zk ?_
 refine zba ?_
 refine zb ?_
 refine nK ?_
 refine n_cond _ rfl (fun hb => ?_) (fun hb => ?_)
 ·have e : l = [] := by simpa using hb
  subst e
  rw [show takeF [] = (0, [], 8) by unfold takeF; rw [if_neg (by simpa using h0)]]
  refine nK ?_
  refine za ?_
  refine ze ?_
  refine ze ?_
  refine ze ?_
  refine zb ?_
  refine nK ?_
  refine Next.weakS [] [] (by rfl) (keeps0 hC _) (G' := [(2, IV .i64 0), (3, .fz (VRg [])), (4, IV .i64 8)]) (H' := []) wF trivial rfl ?_
  exact wO hC
 obtain ⟨r0, hrow, hE⟩ : ∃ r0, (l.map encRg)[0]? = some (encRg r0) ∧ takeF l = (r0.f, rtkG 0 l, 0) := by
  match l, hb, hv, h0 with
  | [], hb, _, _ => simp at hb
  | r :: t, _, hv, h0 => exact ⟨r, rfl, by rw [rtkG_eq hv]; unfold takeF; rw [if_neg (by simpa using h0)]⟩
 rw [hE]
 dsimp only
 clear hE
 refine nK ?_
 refine za ?_
 refine zc ?_
 refine rpZ 19 rfl (op_idx_fz 0 rfl (oT rfl) oC (by intro _; exact ⟨rfl, hrow⟩)) ?_
 refine zbf ?_
 refine zt ?_
 refine zd ?_
 refine zb ?_
 refine nK ?_
 refine za ?_
 refine ze ?_
 refine zb ?_
 refine nK ?_
 refine Next.adopt 7 2 rfl ?_
 refine nK ?_
 refine za ?_
 refine zc ?_
 refine zk ?_
 refine zx ?_
 refine zb ?_
 refine nK ?_
 refine n_loop (ι := Nat × List Rg) (fun g => ([(6, IV .i64 r0.f), (7, .sl 0 2 0 g.2.length), (22, .fz (VRg l)), (23, IV .i64 l.length), (24, IV .i64 g.1)], [(0, OG g.2)], 1)) (fun g => g.1 ≤ l.length ∧ g.2 ++ rtkG g.1 (l.drop g.1) = rtkG 0 l ∧ g.2.length ≤ g.1) (fun g => l.length - g.1) (0, []) ⟨Nat.zero_le _, rfl, Nat.zero_le _⟩ ?_ ?_
 ·refine Next.weakS [7] [] (by rfl) (wK hC) wG wHE17a rfl (rel_intro)
 intro ⟨i, out⟩ ⟨hi, hS, hol⟩ K hK
 dsimp only at hi hS hol ⊢
 refine nK ?_
 refine za ?_
 refine zn ?_
 refine zb ?_
 refine nK ?_
 refine n_cond _ rfl (fun hb => ?_) (fun hb => ?_)
 ·have hlt : i < l.length := by simp at hb; omega
  have hr1 := row_at' encRg l i hlt
  rw [List.drop_eq_getElem_cons hlt] at hS
  simp only [rtkG] at hS
  rw [← List.append_assoc] at hS
  have hK1 := fun o h h2 => hK (i + 1, o) ⟨by dsimp only; omega, h, h2⟩ (by dsimp only; omega)
  dsimp only at hK1
  have hr := hv.v _ (List.getElem_mem hlt)
  generalize l[i] = r at *
  have r1 := hr.lo
  have r2 := hr.le
  have r3 := hr.hi
  unfold rtkS at hS
  refine nK ?_
  refine za ?_
  refine zc ?_
  refine zr ?_
  refine zv ?_
  refine zo ?_
  refine zd ?_
  refine zg ?_
  refine zb ?_
  refine nK ?_
  refine za ?_
  refine zc ?_
  refine zba ?_
  refine zb ?_
  refine nK ?_
  refine n_cond _ rfl (fun hb => ?_) (fun hb => ?_)
  ·have h0 : i = 0 := by simpa using hb
   rw [if_pos h0] at hS
   refine nK ?_
   refine za ?_
   refine zf ?_
   refine zh ?_
   refine zj ?_
   refine zf ?_
   refine zg ?_
   refine zb ?_
   refine nK ?_
   refine za ?_
   refine zf ?_
   refine zh ?_
   refine zf ?_
   refine zh ?_
   refine zcs ?_
   refine zb ?_
   refine nK ?_
   refine n_cond _ rfl (fun hb => ?_) (fun hb => ?_)
   ·rw [if_pos (by simpa using hb)] at hS
    have hK2 := hK1 _ hS (by simp; omega)
    unfold OG at hK2
    rw [apl, apm] at hK2
    refine nK ?_
    refine za ?_
    refine zc ?_
    refine zm ?_
    refine zz ?_
    refine zbi ?_
    refine zd ?_
    refine zb ?_
    refine nK ?_
    refine za ?_
    refine zj ?_
    refine zc ?_
    refine zb ?_
    refine nK ?_
    refine Next.weakS [7] [] (by rfl) (wK hC) wG wHE17a rfl (hK2)
   rw [if_neg (by simpa using hb), List.append_nil] at hS
   refine nK ?_
   refine za ?_
   refine zj ?_
   refine zc ?_
   refine zb ?_
   refine nK ?_
   refine Next.weakS [7] [] (by rfl) (wK hC) wG wHE17a rfl ((hK1 _ hS (by omega)))
  have h0 : i ≠ 0 := by simpa using hb
  rw [if_neg h0] at hS
  refine nK ?_
  refine za ?_
  refine zf ?_
  refine zh ?_
  refine zf ?_
  refine zh ?_
  refine zcs ?_
  refine zb ?_
  refine nK ?_
  refine n_cond _ rfl (fun hb => ?_) (fun hb => ?_)
  ·rw [if_pos (by simpa using hb)] at hS
   have hK2 := hK1 _ hS (by simp; omega)
   unfold OG at hK2
   rw [apl, apm] at hK2
   refine nK ?_
   refine za ?_
   refine zc ?_
   refine zm ?_
   refine zz ?_
   refine zbi ?_
   refine zd ?_
   refine zb ?_
   refine nK ?_
   refine za ?_
   refine zj ?_
   refine zc ?_
   refine zb ?_
   refine nK ?_
   refine Next.weakS [7] [] (by rfl) (wK hC) wG wHE17a rfl (hK2)
  rw [if_neg (by simpa using hb), List.append_nil] at hS
  refine nK ?_
  refine za ?_
  refine zj ?_
  refine zc ?_
  refine zb ?_
  refine nK ?_
  refine Next.weakS [7] [] (by rfl) (wK hC) wG wHE17a rfl ((hK1 _ hS (by omega)))
 have hie : i = l.length := by simp at hb; omega
 rw [hie, List.drop_length] at hS
 have hS : out = rtkG 0 l := by rw [← hS]; simp [rtkG]
 rw [← hS]
 clear hK
 refine nK ?_
 refine za ?_
 refine zc ?_
 refine zc ?_
 refine zd ?_
 refine zd ?_
 refine ze ?_
 refine zb ?_
 refine nK ?_
 refine Next.weakS [] [3] (by rfl) (keeps0 hC _) (G' := [(2, IV .i64 r0.f), (3, .fz (VRg out)), (4, IV .i64 0)]) (H' := []) wF trivial rfl ?_
 exact wO hC
theorem rgive_c (l : List Rg) (n : Int) (hn : l.length ≤ 1000000) (hr : inr .i64 n) : Pure Tryz.prog 80 [VRg l, If .i64 n] (.tup [VRg (giveF l n).1, If .i64 (giveF l n).2]) := by
 have kc := rcheck44_c l (by omega)
 have kh := rhas_c l n (by omega)
 unfold giveF
 refine Meets.intro Tryz.func80 rfl (Nat.le_of_ble_eq_true rfl) fun C hC => ?_
 simp only [List.map, argEnv, Nat.reduceAdd]
 refine nK ?_
 refine za ?_
 refine ze ?_
 refine ze ?_
 refine zb ?_
 refine nK ?_
 refine za ?_
 refine zc ?_
 refine rpZ 14 rfl (op_call_pure (fun _ => kc) rfl (Opd.func _) (oS (oT rfl) Opds.nil)) ?_
 refine zd ?_
 refine zb ?_
 refine nK ?_
 refine za ?_
 refine zc ?_
 refine zbe ?_
 refine zb ?_
 refine nK ?_
 refine n_cond _ rfl (fun hb => ?_) (fun hb => ?_)
 ·rw [if_pos (by simpa using hb)]
  refine nK ?_
  refine za ?_
  refine zc ?_
  refine ze ?_
  refine zd ?_
  refine zb ?_
  refine nK ?_
  refine Next.weakS [] [] (by rfl) (keeps0 hC _) (G' := [(4, .fz (VRg [])), (5, IV .i64 (lblE l))]) (H' := []) wF trivial rfl ?_
  exact wO hC
 have h : lblE l = 0 := by simpa using hb
 rw [if_neg (by simpa using h)]
 have hv := (lblE_iff l).1 h
 have hh : hasG l n = l.any (inG n) := by unfold hasG; simp [h]
 rw [hh] at kh
 refine nK ?_
 refine za ?_
 refine zc ?_
 refine zbq ?_
 refine zc ?_
 refine zl ?_
 refine zbo ?_
 refine zbd ?_
 refine zb ?_
 refine nK ?_
 refine n_cond _ rfl (fun hb => ?_) (fun hb => ?_)
 ·rw [if_pos hb]
  refine nK ?_
  refine za ?_
  refine ze ?_
  refine ze ?_
  refine zb ?_
  refine nK ?_
  refine Next.weakS [] [] (by rfl) (keeps0 hC _) (G' := [(4, .fz (VRg [])), (5, IV .i64 5)]) (H' := []) wF trivial rfl ?_
  exact wO hC
 rw [if_neg (by rw [hb]; decide)]
 have hrn : 16 ≤ n ∧ n ≤ 1048575 := by simp at hb; omega
 refine nK ?_
 refine za ?_
 refine zc ?_
 refine zc ?_
 refine rpZ 26 rfl (op_call_pure (fun _ => kh) rfl (Opd.func _) (oS (oT rfl) (oS (oT rfl) Opds.nil))) ?_
 refine zb ?_
 refine nK ?_
 refine n_cond _ rfl (fun hb => ?_) (fun hb => ?_)
 ·rw [if_pos hb]
  refine nK ?_
  refine za ?_
  refine ze ?_
  refine ze ?_
  refine zb ?_
  refine nK ?_
  refine Next.weakS [] [] (by rfl) (keeps0 hC _) (G' := [(4, .fz (VRg [])), (5, IV .i64 7)]) (H' := []) wF trivial rfl ?_
  exact wO hC
 rw [if_neg (by rw [hb]; decide)]
 have hm : mG l n = false := hb
 have hg := rgv_eq [] hv hm
 rw [List.nil_append] at hg
 rw [← hg]
 refine nK ?_
 refine za ?_
 refine zc ?_
 refine zc ?_
 refine zbn ?_
 refine zo ?_
 refine zg ?_
 refine zb ?_
 refine nK ?_
 refine za ?_
 refine ze ?_
 refine zb ?_
 refine nK ?_
 refine Next.adopt 8 2 rfl ?_
 refine nK ?_
 refine za ?_
 refine zc ?_
 refine zk ?_
 refine zx ?_
 refine zb ?_
 refine nK ?_
 refine n_loop (ι := Nat) (fun i => ([(0, .fz (VRg l)), (1, IV .i64 n), (7, .ptr 0 2 0 0), (8, .sl 1 2 0 (rgvG n (l.take i)).1.length), (30, .fz (VRg l)), (31, IV .i64 l.length), (32, IV .i64 i)], [(0, some (.flat 2 [encRg (rgvG n (l.take i)).2])), (1, OG (rgvG n (l.take i)).1)], 2)) (fun i => i ≤ l.length) (fun i => l.length - i) 0 (Nat.zero_le _) ?_ ?_
 ·refine Next.weakS [7, 8] [] (by rfl) (wK hC) wG wHE17a rfl (rel_intro)
 intro i hi K hK
 have hol := rgvG_len n l i hi
 refine nK ?_
 refine za ?_
 refine zn ?_
 refine zb ?_
 refine nK ?_
 refine n_cond _ rfl (fun hb => ?_) (fun hb => ?_)
 ·have hlt : i < l.length := by simp at hb; omega
  have hr1 := row_at' encRg l i hlt
  have hK1 := hK (i + 1) (by omega) (by omega)
  rw [rgvG_take n hlt] at hK1
  have hr := hv.v _ (List.getElem_mem hlt)
  generalize rgvG n (l.take i) = o at *
  obtain ⟨o, d⟩ := o
  generalize l[i] = x at *
  dsimp only at hol ⊢
  unfold rgvS at hK1
  refine nK ?_
  refine za ?_
  refine zr ?_
  refine zv ?_
  refine zo ?_
  refine zg ?_
  refine zb ?_
  refine nK ?_
  refine za ?_
  refine zf ?_
  refine zh ?_
  refine zc ?_
  refine zbv ?_
  refine zn ?_
  refine zd ?_
  refine zb ?_
  refine nK ?_
  refine n_cond _ rfl (fun hb => ?_) (fun hb => ?_)
  ·rw [if_pos (by simpa using hb)] at hK1
   unfold OG at hK1
   dsimp only at hK1
   rw [apl, apm] at hK1
   refine nK ?_
   refine za ?_
   refine zc ?_
   refine zm ?_
   refine zz ?_
   refine zbi ?_
   refine zd ?_
   refine zb ?_
   refine nK ?_
   refine za ?_
   refine zj ?_
   refine zc ?_
   refine zb ?_
   refine nK ?_
   refine Next.weakS [7, 8] [] (by rfl) (wK hC) wG wHE17a rfl (hK1)
  rw [if_neg (by simpa using hb)] at hK1
  refine nK ?_
  refine za ?_
  refine zf ?_
  refine zh ?_
  refine zc ?_
  refine zbv ?_
  refine zbx ?_
  refine zd ?_
  refine zb ?_
  refine nK ?_
  refine n_cond _ rfl (fun hb => ?_) (fun hb => ?_)
  ·rw [if_pos (by simpa using hb)] at hK1
   refine nK ?_
   refine za ?_
   refine zf ?_
   refine zh ?_
   refine zf ?_
   refine zg ?_
   refine zb ?_
   refine nK ?_
   refine za ?_
   refine zj ?_
   refine zc ?_
   refine zb ?_
   refine nK ?_
   refine Next.weakS [7, 8] [] (by rfl) (wK hC) wG wHE17a rfl (hK1)
  rw [if_neg (by simpa using hb)] at hK1
  refine nK ?_
  refine za ?_
  refine zf ?_
  refine zh ?_
  refine zc ?_
  refine zj ?_
  refine zbx ?_
  refine zd ?_
  refine zb ?_
  refine nK ?_
  refine n_cond _ rfl (fun hb => ?_) (fun hb => ?_)
  ·rw [if_pos (by simpa using hb)] at hK1
   refine nK ?_
   refine za ?_
   refine zf ?_
   refine zh ?_
   refine zf ?_
   refine zg ?_
   refine zb ?_
   refine nK ?_
   refine za ?_
   refine zj ?_
   refine zc ?_
   refine zb ?_
   refine nK ?_
   refine Next.weakS [7, 8] [] (by rfl) (wK hC) wG wHE17a rfl (hK1)
  rw [if_neg (by simpa using hb)] at hK1
  refine nK ?_
  refine za ?_
  refine zj ?_
  refine zc ?_
  refine zb ?_
  refine nK ?_
  refine Next.weakS [7, 8] [] (by rfl) (wK hC) wG wHE17a rfl (hK1)
 have hie : i = l.length := by simp at hb; omega
 rw [hie, List.take_length] at hol ⊢
 clear hK
 have e : rgvG n l = l.foldl (rgvS n) ([], ⟨n, n⟩) := rfl
 rw [← e]
 generalize rgvG n l = o at *
 obtain ⟨o, d⟩ := o
 dsimp only at hol ⊢
 have ha := apm encRg o d
 refine nK ?_
 refine za ?_
 refine zc ?_
 refine zm ?_
 refine zz ?_
 refine zbi ?_
 refine zd ?_
 refine zb ?_
 refine nK ?_
 refine za ?_
 refine zc ?_
 refine zk ?_
 refine zx ?_
 refine zb ?_
 refine nK ?_
 refine n_loop (ι := Nat × List Rg) (fun g => ([(1, IV .i64 n), (8, .sl 0 2 0 (o ++ d :: g.2).length), (69, .fz (VRg l)), (70, IV .i64 l.length), (71, IV .i64 g.1)], [(0, OG (o ++ d :: g.2))], 1)) (fun g => g.1 ≤ l.length ∧ g.2 = (l.take g.1).filter fun r => decide (n + 1 < r.f)) (fun g => l.length - g.1) (0, []) ⟨Nat.zero_le _, by simp⟩ ?_ ?_
 ·have e1 : (o ++ [d]).length = o.length + 1 := apl o d
  unfold OG
  rw [e1, ha]
  refine Next.weakS [8] [] (by rfl) (wK hC) wG wHE17a rfl (rel_intro)
 intro ⟨i, out⟩ ⟨hi, hS⟩ K hK
 dsimp only at hi hS ⊢
 have hfl : out.length ≤ i := by rw [hS]; exact Nat.le_trans (List.length_filter_le _ _) (by simp; omega)
 have hol2 : (o ++ d :: out).length ≤ 2000002 := by simp; omega
 refine nK ?_
 refine za ?_
 refine zn ?_
 refine zb ?_
 refine nK ?_
 refine n_cond _ rfl (fun hb => ?_) (fun hb => ?_)
 ·have hlt : i < l.length := by simp at hb; omega
  have hr1 := row_at' encRg l i hlt
  have hs := filt_take (fun r : Rg => decide (n + 1 < r.f)) hlt
  rw [← hS] at hs
  have hK1 := fun o h => hK (i + 1, o) ⟨by dsimp only; omega, h⟩ (by dsimp only; omega)
  dsimp only at hK1
  have hr := hv.v _ (List.getElem_mem hlt)
  generalize l[i] = x at *
  refine nK ?_
  refine za ?_
  refine zr ?_
  refine zv ?_
  refine zo ?_
  refine zg ?_
  refine zb ?_
  refine nK ?_
  refine za ?_
  refine zf ?_
  refine zh ?_
  refine zc ?_
  refine zj ?_
  refine zbz ?_
  refine zb ?_
  refine nK ?_
  refine n_cond _ rfl (fun hb => ?_) (fun hb => ?_)
  ·rw [if_pos (by simpa using hb)] at hs
   have hK2 := hK1 (out ++ [x]) hs.symm
   rw [show o ++ d :: (out ++ [x]) = (o ++ d :: out) ++ [x] by simp] at hK2
   generalize o ++ d :: out = q at *
   unfold OG at hK2
   rw [apl, apm] at hK2
   refine nK ?_
   refine za ?_
   refine zc ?_
   refine zm ?_
   refine zz ?_
   refine zbi ?_
   refine zd ?_
   refine zb ?_
   refine nK ?_
   refine za ?_
   refine zj ?_
   refine zc ?_
   refine zb ?_
   refine nK ?_
   refine Next.weakS [8] [] (by rfl) (wK hC) wG wHE17a rfl (hK2)
  rw [if_neg (by simpa using hb), List.append_nil] at hs
  refine nK ?_
  refine za ?_
  refine zj ?_
  refine zc ?_
  refine zb ?_
  refine nK ?_
  refine Next.weakS [8] [] (by rfl) (wK hC) wG wHE17a rfl ((hK1 out hs.symm))
 have hie : i = l.length := by simp at hb; omega
 rw [hie, List.take_length] at hS
 unfold abG
 rw [← hS]
 clear hK
 generalize o ++ d :: out = q at *
 refine nK ?_
 refine za ?_
 refine zc ?_
 refine zd ?_
 refine ze ?_
 refine zb ?_
 refine nK ?_
 refine Next.weakS [] [4] (by rfl) (keeps0 hC _) (G' := [(4, .fz (VRg q)), (5, IV .i64 0)]) (H' := []) wF trivial rfl ?_
 exact wO hC
theorem rnew_c (r : Int) (l : List Rg) (hn : l.length ≤ 9223372036854775807) : Pure Tryz.prog 8 [If .u32 r, VRg l] (.tup [.agg (encLs (newF r l).1), If .i64 (newF r l).2]) := by
 have k1 := rcheck44_c l (by omega)
 unfold newF
 refine Meets.intro Tryz.func8 rfl (Nat.le_of_ble_eq_true rfl) fun C hC => ?_
 simp only [List.map, argEnv, Nat.reduceAdd]
 refine nK ?_
 refine za ?_
 refine zo ?_
 refine ze ?_
 refine zb ?_
 refine nK ?_
 refine za ?_
 refine zc ?_
 refine zba ?_
 refine zb ?_
 refine nK ?_
 refine n_cond _ rfl (fun hb => ?_) (fun hb => ?_)
 ·rw [if_pos (by simpa using hb)]
  refine nK ?_
  refine za ?_
  refine zbg ?_
  refine zg ?_
  refine ze ?_
  refine zb ?_
  refine nK ?_
  refine Next.weakS [4] [] (by rfl) (keeps0 hC _) (G' := [(4, .ptr 0 6 0 0), (5, IV .i64 5)]) (H' := [(0, some (.flat 6 [encLs zLst]))]) wF (by first | exact ⟨⟨rfl, rfl, .fflat _ _ _ rfl tW⟩, trivial⟩ | exact ⟨⟨rfl, rfl, .flat _ _ _ rfl tW⟩, trivial⟩ | exact ⟨wS, trivial⟩ | (exact wHE17a)) rfl ?_
  exact wO hC
 rw [if_neg (by simpa using hb)]
 refine nK ?_
 refine za ?_
 refine zc ?_
 refine rpZ 11 rfl (op_call_pure (fun _ => k1) rfl (Opd.func _) (oS (oT rfl) Opds.nil)) ?_
 refine zd ?_
 refine zb ?_
 refine nK ?_
 refine za ?_
 refine zc ?_
 refine zbe ?_
 refine zb ?_
 refine nK ?_
 refine n_cond _ rfl (fun hb => ?_) (fun hb => ?_)
 ·rw [if_pos (by simpa using hb)]
  refine nK ?_
  refine za ?_
  refine zbg ?_
  refine zc ?_
  refine zg ?_
  refine zd ?_
  refine zb ?_
  refine nK ?_
  refine Next.weakS [4] [] (by rfl) (keeps0 hC _) (G' := [(4, .ptr 0 6 0 0), (5, IV .i64 (lblE l))]) (H' := [(0, some (.flat 6 [encLs zLst]))]) wF (by first | exact ⟨⟨rfl, rfl, .fflat _ _ _ rfl tW⟩, trivial⟩ | exact ⟨⟨rfl, rfl, .flat _ _ _ rfl tW⟩, trivial⟩ | exact ⟨wS, trivial⟩ | (exact wHE17a)) rfl ?_
  exact wO hC
 rw [if_neg (by simpa using hb)]
 refine nK ?_
 refine za ?_
 refine zc ?_
 refine zc ?_
 refine zbn ?_
 refine zg ?_
 refine ze ?_
 refine zb ?_
 refine nK ?_
 refine Next.weakS [4] [] (by rfl) (keeps0 hC _) (G' := [(4, .ptr 0 6 0 0), (5, IV .i64 0)]) (H' := [(0, some (.flat 6 [encLs ⟨r, l, [], [], [], []⟩]))]) wF (by first | exact ⟨⟨rfl, rfl, .fflat _ _ _ rfl tW⟩, trivial⟩ | exact ⟨⟨rfl, rfl, .flat _ _ _ rfl tW⟩, trivial⟩ | exact ⟨wS, trivial⟩ | (exact wHE17a)) rfl ?_
 exact wO hC
theorem message_c (n k la : Int) (p : Pfx) (hm : okM ⟨k, p, la⟩) : Pure Tryz.prog 75 [If .u32 n, If .i64 k, .agg (encP p), If .i64 la] (.agg (encSn (msgS n k p la))) := by
 have ke := rencode_c ⟨k, p, la⟩ hm
 unfold msgS
 generalize encodeF ⟨k, p, la⟩ = r at *
 refine Meets.intro Tryz.func75 rfl (Nat.le_of_ble_eq_true rfl) fun C hC => ?_
 simp only [List.map, argEnv, Nat.reduceAdd]
 refine nK ?_
 refine za ?_
 refine zu ?_
 refine zo ?_
 refine zb ?_
 refine nK ?_
 refine za ?_
 refine zc ?_
 refine zm ?_
 refine zc ?_
 refine zcd ?_
 refine rpZ 16 rfl (op_call_pure (fun _ => ke) rfl (Opd.func _) (oS (oT rfl) Opds.nil)) ?_
 refine zc ?_
 refine zi ?_
 refine zi ?_
 refine zd ?_
 refine zd ?_
 refine zb ?_
 refine nK ?_
 refine za ?_
 refine zc ?_
 refine zc ?_
 refine zbn ?_
 refine zg ?_
 refine zb ?_
 refine nK ?_
 refine Next.weakS [8] [] (by rfl) (keeps0 hC _) (G' := [(8, .ptr 0 2 0 0)]) (H' := [(0, some (.flat 2 [encSn ⟨n, r.1⟩]))]) wF (by first | exact ⟨⟨rfl, rfl, .fflat _ _ _ rfl tW⟩, trivial⟩ | exact ⟨⟨rfl, rfl, .flat _ _ _ rfl tW⟩, trivial⟩ | exact ⟨wS, trivial⟩ | (exact wHE17a)) rfl ?_
 exact wO hC
theorem rup_c (s : Lst) (n : Int) (hl : ∀ b ∈ s.lc, okB' b) (hn : s.lc.length ≤ 100000) (hm : s.ps.length ≤ 100000) : Pure Tryz.prog 42 [.agg (encLs s), If .u32 n] (.tup [.agg (encLs (upF s n).1), VSn (upF s n).2.1, If .i64 (upF s n).2.2]) := by
 have kh := hasR_c s.ps n (by omega)
 unfold upF
 refine Meets.intro Tryz.func42 rfl (Nat.le_of_ble_eq_true rfl) fun C hC => ?_
 simp only [List.map, argEnv, Nat.reduceAdd]
 refine nK ?_
 refine za ?_
 refine zu ?_
 refine zo ?_
 refine ze ?_
 refine ze ?_
 refine zb ?_
 refine nK ?_
 refine za ?_
 refine zc ?_
 refine zba ?_
 refine zc ?_
 refine zl ?_
 refine zp ?_
 refine zs ?_
 refine zbp ?_
 refine zbd ?_
 refine zb ?_
 refine nK ?_
 refine n_cond _ rfl (fun hb => ?_) (fun hb => ?_)
 ·rw [if_pos hb]
  refine nK ?_
  refine za ?_
  refine zbg ?_
  refine zg ?_
  refine ze ?_
  refine ze ?_
  refine zb ?_
  refine nK ?_
  refine Next.weakS [4] [] (by rfl) (keeps0 hC _) (G' := [(4, .ptr 0 6 0 0), (5, .fz (VSn [])), (6, IV .i64 5)]) (H' := [(0, some (.flat 6 [encLs zLst]))]) wF (by first | exact ⟨⟨rfl, rfl, .fflat _ _ _ rfl tW⟩, trivial⟩ | exact ⟨⟨rfl, rfl, .flat _ _ _ rfl tW⟩, trivial⟩ | exact ⟨wS, trivial⟩ | (exact wHE17a)) rfl ?_
  exact wO hC
 rw [if_neg (by rw [hb]; decide)]
 refine nK ?_
 refine za ?_
 refine zf ?_
 refine zh ?_
 refine zc ?_
 refine rpZ 26 rfl (op_call_pure (fun _ => kh) rfl (Opd.func _) (oS (oT rfl) (oS (oT rfl) Opds.nil))) ?_
 refine zb ?_
 refine nK ?_
 refine n_cond _ rfl (fun hb => ?_) (fun hb => ?_)
 ·rw [if_pos hb]
  refine nK ?_
  refine za ?_
  refine zbg ?_
  refine zg ?_
  refine ze ?_
  refine ze ?_
  refine zb ?_
  refine nK ?_
  refine Next.weakS [4] [] (by rfl) (keeps0 hC _) (G' := [(4, .ptr 0 6 0 0), (5, .fz (VSn [])), (6, IV .i64 7)]) (H' := [(0, some (.flat 6 [encLs zLst]))]) wF (by first | exact ⟨⟨rfl, rfl, .fflat _ _ _ rfl tW⟩, trivial⟩ | exact ⟨⟨rfl, rfl, .flat _ _ _ rfl tW⟩, trivial⟩ | exact ⟨wS, trivial⟩ | (exact wHE17a)) rfl ?_
  exact wO hC
 rw [if_neg (by rw [hb]; decide)]
 have hil := insI_len n s.ps
 rw [← rpG_eq] at hil ⊢
 refine nK ?_
 refine za ?_
 refine ze ?_
 refine zb ?_
 refine nK ?_
 refine za ?_
 refine ze ?_
 refine zb ?_
 refine nK ?_
 refine Next.adopt 7 1 rfl ?_
 refine nK ?_
 refine za ?_
 refine zf ?_
 refine zh ?_
 refine zk ?_
 refine zx ?_
 refine zb ?_
 refine nK ?_
 refine n_loop (ι := Nat) (fun i => ([(1, IV .u32 n), (2, .ptr 0 6 0 0), (4, .ptr 1 6 0 0), (7, .sl 2 1 0 (rpG n (s.ps.take i)).1.length), (8, BV (rpG n (s.ps.take i)).2), (29, .fz (VW s.ps)), (30, IV .i64 s.ps.length), (31, IV .i64 i)], [(0, some (.flat 6 [encLs s])), (1, some (.flat 6 [encLs zLst])), (2, OW (rpG n (s.ps.take i)).1)], 3)) (fun i => i ≤ s.ps.length) (fun i => s.ps.length - i) 0 (Nat.zero_le _) ?_ ?_
 ·refine Next.weakS [2, 4, 7] [] (by rfl) (keeps0 hC _) wG (by exact ⟨wS, ⟨by first | exact ⟨rfl, rfl, .fflat _ _ _ rfl tW⟩ | exact wS, ⟨wS, trivial⟩⟩⟩) rfl rel_intro
 intro i hi K hK
 have hol := rpG_len n s.ps i hi
 refine nK ?_
 refine za ?_
 refine zn ?_
 refine zb ?_
 refine nK ?_
 refine n_cond _ rfl (fun hb => ?_) (fun hb => ?_)
 ·have hlt : i < s.ps.length := by simp at hb; omega
  have hr1 := row_at' encW s.ps i hlt
  have hK1 := hK (i + 1) (by omega) (by omega)
  rw [rpG_take n hlt] at hK1
  generalize rpG n (s.ps.take i) = o at *
  obtain ⟨o, d⟩ := o
  generalize s.ps[i] = x at *
  unfold rpS at hK1
  dsimp only at hK1 hol ⊢
  have hol2 : o.length ≤ i + 1 := by split at hol <;> omega
  refine nK ?_
  refine za ?_
  refine zr ?_
  refine zt ?_
  refine zd ?_
  refine zb ?_
  refine nK ?_
  refine za ?_
  refine zc ?_
  refine zbj ?_
  refine zc ?_
  refine zl ?_
  refine zl ?_
  refine zcj ?_
  refine zy ?_
  refine zb ?_
  refine nK ?_
  refine n_cond _ rfl (fun hb => ?_) (fun hb => ?_)
  ·rw [if_pos hb] at hK1
   unfold OW at hK1
   dsimp only at hK1
   rw [apl, apm, apl, apm] at hK1
   refine nK ?_
   refine za ?_
   refine zc ?_
   refine zc ?_
   refine zz ?_
   refine zbi ?_
   refine zd ?_
   refine zb ?_
   refine nK ?_
   refine za ?_
   refine ze ?_
   refine zb ?_
   refine nK ?_
   refine za ?_
   refine zc ?_
   refine zc ?_
   refine zz ?_
   refine zbi ?_
   refine zd ?_
   refine zb ?_
   refine nK ?_
   refine za ?_
   refine zj ?_
   refine zc ?_
   refine zb ?_
   refine nK ?_
   refine Next.weakS [2, 4, 7] [] (by rfl) (wK hC) wG wHE17a rfl (hK1)
  rw [if_neg (by rw [show (!d && decide (n < x)) = false from hb]; decide)] at hK1
  unfold OW at hK1
  dsimp only at hK1
  rw [apl, apm] at hK1
  refine nK ?_
  refine za ?_
  refine zc ?_
  refine zc ?_
  refine zz ?_
  refine zbi ?_
  refine zd ?_
  refine zb ?_
  refine nK ?_
  refine za ?_
  refine zj ?_
  refine zc ?_
  refine zb ?_
  refine nK ?_
  refine Next.weakS [2, 4, 7] [] (by rfl) (wK hC) wG wHE17a rfl (hK1)
 have hie : i = s.ps.length := by simp at hb; omega
 rw [hie, List.take_length] at hol ⊢
 clear hK
 generalize rpG n s.ps = o at *
 obtain ⟨o, d⟩ := o
 dsimp only at hol hil ⊢
 have hol2 : o.length ≤ s.ps.length + 1 := by split at hol <;> omega
 generalize hq : (if d = true then o else o ++ [n]) = qs at *
 refine nK ?_
 refine za ?_
 refine zc ?_
 refine zbj ?_
 refine zb ?_
 refine nK ?_
 refine n_join [(1, IV .u32 n), (2, .ptr 0 6 0 0), (4, .ptr 1 6 0 0), (7, .fz (VW qs))] [(0, some (.flat 6 [encLs s])), (1, some (.flat 6 [encLs zLst]))] 2 ?_ ?_
 ·refine nK ?_
  refine n_cond _ rfl (fun hb => ?_) (fun hb => ?_)
  ·rw [if_neg (by simp at hb; simp [hb])] at hq
   subst hq
   have ea := apm encW o n
   refine nK ?_
   refine za ?_
   refine zc ?_
   refine zc ?_
   refine zz ?_
   refine zbi ?_
   refine zd ?_
   refine zb ?_
   refine nK ?_
   refine Next.weakS [2, 4] [7] (by rfl) (wK hC) wF wHE17a rfl (rel_intro)
  rw [if_pos (by simp at hb; simp [hb])] at hq
  subst hq
  refine nK ?_
  refine Next.weakS [2, 4] [7] (by rfl) (wK hC) wF wHE17a rfl (rel_intro)
 refine nK ?_
 refine za ?_
 refine zc ?_
 refine zf ?_
 refine zg ?_
 refine zb ?_
 refine nK ?_
 refine za ?_
 refine ze ?_
 refine zb ?_
 refine nK ?_
 refine Next.adopt 11 2 rfl ?_
 refine nK ?_
 refine za ?_
 refine zf ?_
 refine zh ?_
 refine zk ?_
 refine zx ?_
 refine zb ?_
 refine nK ?_
 refine n_loop (ι := Nat) (fun i => ([(1, IV .u32 n), (2, .ptr 0 6 0 0), (4, .ptr 1 6 0 0), (11, .sl 2 2 0 ((s.lc.take i).map fun b => msgS n 1 b.px b.la).length), (60, .fz (VBn s.lc)), (61, IV .i64 s.lc.length), (62, IV .i64 i)], [(0, some (.flat 6 [encLs { s with ps := qs }])), (1, some (.flat 6 [encLs zLst])), (2, OSn ((s.lc.take i).map fun b => msgS n 1 b.px b.la))], 3)) (fun i => i ≤ s.lc.length) (fun i => s.lc.length - i) 0 (Nat.zero_le _) ?_ ?_
 ·refine Next.weakS [2, 4, 11] [] (by rfl) (wK hC) wG wHE17a rfl (rel_intro)
 intro i hi K hK
 refine nK ?_
 refine za ?_
 refine zn ?_
 refine zb ?_
 refine nK ?_
 refine n_cond _ rfl (fun hb => ?_) (fun hb => ?_)
 ·have hlt : i < s.lc.length := by simp at hb; omega
  have hr1 := row_at' encBn s.lc i hlt
  have hK1 := hK (i + 1) (by omega) (by omega)
  rw [map_take_succ _ hlt] at hK1
  have hob := hl _ (List.getElem_mem hlt)
  have hol : ((s.lc.take i).map fun b => msgS n 1 b.px b.la).length ≤ 100000 := by simp; omega
  generalize s.lc[i] = b at *
  have km := message_c n 1 b.la b.px (hob.msg 1 (by simp [inr]))
  generalize ((s.lc.take i).map fun b => msgS n 1 b.px b.la) = o at *
  unfold OSn at hK1
  dsimp only at hK1
  rw [apl, apm] at hK1
  refine nK ?_
  refine za ?_
  refine zr ?_
  refine zv ?_
  refine zo ?_
  refine zg ?_
  refine zb ?_
  refine nK ?_
  refine za ?_
  refine zc ?_
  refine zc ?_
  refine zf ?_
  refine zbc ?_
  refine zf ?_
  refine zh ?_
  refine rpZ 72 rfl (op_call_pure (fun _ => km) rfl (Opd.func _) (oS (oT rfl) (oS oC (oS (oT rfl) (oS (oT rfl) Opds.nil))))) ?_
  refine zz ?_
  refine zbi ?_
  refine zd ?_
  refine zb ?_
  refine nK ?_
  refine za ?_
  refine zj ?_
  refine zc ?_
  refine zb ?_
  refine nK ?_
  refine Next.weakS [2, 4, 11] [] (by rfl) (wK hC) wG wHE17a rfl (hK1)
 have hie : i = s.lc.length := by simp at hb; omega
 rw [hie, List.take_length]
 clear hK
 generalize (s.lc.map fun b => msgS n 1 b.px b.la) = o at *
 refine nK ?_
 refine za ?_
 refine zm ?_
 refine zc ?_
 refine zg ?_
 refine zd ?_
 refine ze ?_
 refine zb ?_
 refine nK ?_
 refine Next.weakS [4] [5] (by rfl) (keeps0 hC _) (G' := [(4, .ptr 0 6 0 0), (5, .fz (VSn o)), (6, IV .i64 0)]) (H' := [(0, some (.flat 6 [encLs { s with ps := qs }]))]) wF (by first | exact ⟨⟨rfl, rfl, .fflat _ _ _ rfl tW⟩, trivial⟩ | exact ⟨⟨rfl, rfl, .flat _ _ _ rfl tW⟩, trivial⟩ | exact ⟨wS, trivial⟩ | (exact wHE17a)) rfl ?_
 exact wO hC
theorem rdown_c (s : Lst) (n : Int) (hn : s.rm.length ≤ 100000) (hm : s.ps.length ≤ 100000) : Pure Tryz.prog 43 [.agg (encLs s), If .u32 n] (.tup [.agg (encLs (downF s n).1), If .i64 (downF s n).2.2]) := by
 have kh := hasR_c s.ps n (by omega)
 unfold downF
 refine Meets.intro Tryz.func43 rfl (Nat.le_of_ble_eq_true rfl) fun C hC => ?_
 simp only [List.map, argEnv, Nat.reduceAdd]
 refine nK ?_
 refine za ?_
 refine zu ?_
 refine zo ?_
 refine ze ?_
 refine zb ?_
 refine nK ?_
 refine za ?_
 refine zf ?_
 refine zh ?_
 refine zc ?_
 refine rpZ 15 rfl (op_call_pure (fun _ => kh) rfl (Opd.func _) (oS (oT rfl) (oS (oT rfl) Opds.nil))) ?_
 refine zbj ?_
 refine zb ?_
 refine nK ?_
 refine n_cond _ rfl (fun hb => ?_) (fun hb => ?_)
 ·rw [if_pos (by simpa using hb)]
  refine nK ?_
  refine za ?_
  refine zbg ?_
  refine zg ?_
  refine ze ?_
  refine zb ?_
  refine nK ?_
  refine Next.weakS [4] [] (by rfl) (keeps0 hC _) (G' := [(4, .ptr 0 6 0 0), (5, IV .i64 6)]) (H' := [(0, some (.flat 6 [encLs zLst]))]) wF (by first | exact ⟨⟨rfl, rfl, .fflat _ _ _ rfl tW⟩, trivial⟩ | exact ⟨⟨rfl, rfl, .flat _ _ _ rfl tW⟩, trivial⟩ | exact ⟨wS, trivial⟩ | (exact wHE17a)) rfl ?_
  exact wO hC
 rw [if_neg (by simp at hb; simp [hb])]
 refine nK ?_
 refine za ?_
 refine ze ?_
 refine zb ?_
 refine nK ?_
 refine Next.adopt 6 1 rfl ?_
 refine nK ?_
 refine za ?_
 refine zf ?_
 refine zh ?_
 refine zk ?_
 refine zx ?_
 refine zb ?_
 refine nK ?_
 refine n_loop (ι := Nat × List Int) (fun g => ([(1, IV .u32 n), (2, .ptr 0 6 0 0), (4, .ptr 1 6 0 0), (6, .sl 2 1 0 g.2.length), (19, .fz (VW s.ps)), (20, IV .i64 s.ps.length), (21, IV .i64 g.1)], [(0, some (.flat 6 [encLs s])), (1, some (.flat 6 [encLs zLst])), (2, OW g.2)], 3)) (fun g => g.1 ≤ s.ps.length ∧ g.2 = (s.ps.take g.1).filter fun x => decide (x ≠ n)) (fun g => s.ps.length - g.1) (0, []) ⟨Nat.zero_le _, by simp⟩ ?_ ?_
 ·refine Next.weakS [2, 4, 6] [] (by rfl) (keeps0 hC _) wG (by exact ⟨wS, ⟨by first | exact ⟨rfl, rfl, .fflat _ _ _ rfl tW⟩ | exact wS, ⟨wS, trivial⟩⟩⟩) rfl rel_intro
 intro ⟨i, out⟩ ⟨hi, hS⟩ K hK
 dsimp only at hi hS ⊢
 have hol : out.length ≤ i := by rw [hS]; exact Nat.le_trans (List.length_filter_le _ _) (by simp; omega)
 refine nK ?_
 refine za ?_
 refine zn ?_
 refine zb ?_
 refine nK ?_
 refine n_cond _ rfl (fun hb => ?_) (fun hb => ?_)
 ·have hlt : i < s.ps.length := by simp at hb; omega
  have hr1 := row_at' encW s.ps i hlt
  have hs := filt_take (fun x : Int => decide (x ≠ n)) hlt
  rw [← hS] at hs
  have hK1 := fun o h => hK (i + 1, o) ⟨by dsimp only; omega, h⟩ (by dsimp only; omega)
  dsimp only at hK1
  generalize s.ps[i] = x at *
  refine nK ?_
  refine za ?_
  refine zr ?_
  refine zt ?_
  refine zd ?_
  refine zb ?_
  refine nK ?_
  refine za ?_
  refine zc ?_
  refine zc ?_
  refine zbk ?_
  refine zb ?_
  refine nK ?_
  refine n_cond _ rfl (fun hb => ?_) (fun hb => ?_)
  ·rw [if_pos hb] at hs
   have hK2 := hK1 (out ++ [x]) hs.symm
   unfold OW at hK2
   rw [apl, apm] at hK2
   refine nK ?_
   refine za ?_
   refine zc ?_
   refine zc ?_
   refine zz ?_
   refine zbi ?_
   refine zd ?_
   refine zb ?_
   refine nK ?_
   refine za ?_
   refine zj ?_
   refine zc ?_
   refine zb ?_
   refine nK ?_
   refine Next.weakS [2, 4, 6] [] (by rfl) (wK hC) wG wHE17a rfl (hK2)
  rw [if_neg (by rw [show decide (x ≠ n) = false from hb]; decide), List.append_nil] at hs
  refine nK ?_
  refine za ?_
  refine zj ?_
  refine zc ?_
  refine zb ?_
  refine nK ?_
  refine Next.weakS [2, 4, 6] [] (by rfl) (wK hC) wG wHE17a rfl ((hK1 out hs.symm))
 have hie : i = s.ps.length := by simp at hb; omega
 rw [hie, List.take_length] at hS
 rw [← hS]
 clear hK hS
 refine nK ?_
 refine Next.weakS [2, 4] [6] (by rfl) (keeps0 hC _) (G' := [(1, IV .u32 n), (2, .ptr 0 6 0 0), (4, .ptr 1 6 0 0), (6, .fz (VW out))]) (H' := [(0, some (.flat 6 [encLs s])), (1, some (.flat 6 [encLs zLst]))]) wF wHE17a rfl ?_
 refine nK ?_
 refine za ?_
 refine zc ?_
 refine zf ?_
 refine zg ?_
 refine zb ?_
 refine nK ?_
 refine za ?_
 refine ze ?_
 refine zb ?_
 refine nK ?_
 refine Next.adopt 9 4 rfl ?_
 refine nK ?_
 refine za ?_
 refine zf ?_
 refine zh ?_
 refine zk ?_
 refine zx ?_
 refine zb ?_
 refine nK ?_
 refine n_loop (ι := Nat × List Go.Pl.Bnd) (fun g => ([(1, IV .u32 n), (2, .ptr 0 6 0 0), (4, .ptr 1 6 0 0), (9, .sl 2 4 0 g.2.length), (36, .fz (VBn s.rm)), (37, IV .i64 s.rm.length), (38, IV .i64 g.1)], [(0, some (.flat 6 [encLs { s with ps := out }])), (1, some (.flat 6 [encLs zLst])), (2, OBn g.2)], 3)) (fun g => g.1 ≤ s.rm.length ∧ g.2 = (s.rm.take g.1).filter fun b => decide (b.pe ≠ n)) (fun g => s.rm.length - g.1) (0, []) ⟨Nat.zero_le _, by simp⟩ ?_ ?_
 ·refine Next.weakS [2, 4, 9] [] (by rfl) (wK hC) wG wHE17a rfl (rel_intro)
 intro ⟨i, rest⟩ ⟨hi, hS⟩ K hK
 dsimp only at hi hS ⊢
 have hol : rest.length ≤ i := by rw [hS]; exact Nat.le_trans (List.length_filter_le _ _) (by simp; omega)
 refine nK ?_
 refine za ?_
 refine zn ?_
 refine zb ?_
 refine nK ?_
 refine n_cond _ rfl (fun hb => ?_) (fun hb => ?_)
 ·have hlt : i < s.rm.length := by simp at hb; omega
  have hr1 := row_at' encBn s.rm i hlt
  have hs := filt_take (fun b : Go.Pl.Bnd => decide (b.pe ≠ n)) hlt
  rw [← hS] at hs
  have hK1 := fun o h => hK (i + 1, o) ⟨by dsimp only; omega, h⟩ (by dsimp only; omega)
  dsimp only at hK1
  generalize s.rm[i] = x at *
  refine nK ?_
  refine za ?_
  refine zr ?_
  refine zv ?_
  refine zo ?_
  refine zg ?_
  refine zb ?_
  refine nK ?_
  refine za ?_
  refine zf ?_
  refine zh ?_
  refine zc ?_
  refine zbk ?_
  refine zb ?_
  refine nK ?_
  refine n_cond _ rfl (fun hb => ?_) (fun hb => ?_)
  ·rw [if_pos hb] at hs
   have hK2 := hK1 (rest ++ [x]) hs.symm
   unfold OBn at hK2
   rw [apl, apm] at hK2
   refine nK ?_
   refine za ?_
   refine zc ?_
   refine zm ?_
   refine zz ?_
   refine zbi ?_
   refine zd ?_
   refine zb ?_
   refine nK ?_
   refine za ?_
   refine zj ?_
   refine zc ?_
   refine zb ?_
   refine nK ?_
   refine Next.weakS [2, 4, 9] [] (by rfl) (wK hC) wG wHE17a rfl (hK2)
  rw [if_neg (by rw [show decide (x.pe ≠ n) = false from hb]; decide), List.append_nil] at hs
  refine nK ?_
  refine za ?_
  refine zj ?_
  refine zc ?_
  refine zb ?_
  refine nK ?_
  refine Next.weakS [2, 4, 9] [] (by rfl) (wK hC) wG wHE17a rfl ((hK1 rest hs.symm))
 have hie : i = s.rm.length := by simp at hb; omega
 rw [hie, List.take_length] at hS
 rw [← hS]
 clear hK hS
 refine nK ?_
 refine Next.weakS [2, 4] [9] (by rfl) (keeps0 hC _) (G' := [(2, .ptr 0 6 0 0), (4, .ptr 1 6 0 0), (9, .fz (VBn rest))]) (H' := [(0, some (.flat 6 [encLs { s with ps := out }])), (1, some (.flat 6 [encLs zLst]))]) wF wHE17a rfl ?_
 refine nK ?_
 refine za ?_
 refine zc ?_
 refine zf ?_
 refine zg ?_
 refine zb ?_
 refine nK ?_
 refine za ?_
 refine zm ?_
 refine zg ?_
 refine ze ?_
 refine zb ?_
 refine nK ?_
 refine Next.weakS [4] [] (by rfl) (keeps0 hC _) (G' := [(4, .ptr 0 6 0 0), (5, IV .i64 0)]) (H' := [(0, some (.flat 6 [encLs { s with ps := out, rm := rest }]))]) wF (by first | exact ⟨⟨rfl, rfl, .fflat _ _ _ rfl tW⟩, trivial⟩ | exact ⟨⟨rfl, rfl, .flat _ _ _ rfl tW⟩, trivial⟩ | exact ⟨wS, trivial⟩ | (exact wHE17a)) rfl ?_
 exact wO hC
open Go Go.RT Go.Proofs Go.Pl
set_option maxRecDepth 20000
set_option maxHeartbeats 2000000
theorem wHE18a {α : Prop} (h : α := by repeat (first | exact trivial | refine ⟨wS, ?_⟩ | refine ⟨ent_same rfl rfl (rfEq rfl tU) tL, ?_⟩ | refine ⟨ent_same rfl rfl (flEq rfl (by first | (simp; done) | (simp; omega) | (simp [encP, encW, encY, encMs, encBn, encSn, encFe, encLh, encLe, encRg, encEv, encLs]; done) | simp [maxC, minC])) trivial, ?_⟩)) : α := h
theorem some_dec (o : Option Int) (x : Int) : (o.isSome && decide (o.getD 0 = x)) = decide (o = some x) := by
 cases o with
 | none => simp
 | some y => simp
theorem rdata_c (s : Lst) (n : Int) (d : List Int) (hd : ∀ x ∈ d, 0 ≤ x ∧ x < 256) (hld : d.length ≤ 9223372036854775807) (h1 : s.lc.length ≤ 100000) (h2 : s.rm.length ≤ 100000) (h3 : s.ps.length ≤ 100000) (hla : ∀ b ∈ s.lc, inr .i64 b.la) : Pure Tryz.prog 44 [.agg (encLs s), If .u32 n, VY d] (.tup [.agg (encLs (dataF s n d).1), VSn (dataF s n d).2.1, If .i64 (dataF s n d).2.2]) := by
 have kh := hasR_c s.ps n (by omega)
 have kd := rdecode_c d hd hld
 have hok := (decode_ok hd).1
 unfold dataF
 generalize decodeF d = q at *
 obtain ⟨m, er⟩ := q
 dsimp only at *
 have kb := rbind_c s.rm ⟨m.px, n, m.la⟩ (by omega)
 have kf := rfind_c s.rm m.px n (by omega)
 have ku := runbind_c s.rm m.px n (by omega)
 have kl := rfind_c s.lc m.px s.ro (by omega)
 refine Meets.intro Tryz.func44 rfl (Nat.le_of_ble_eq_true rfl) fun C hC => ?_
 simp only [List.map, argEnv, Nat.reduceAdd]
 refine nK ?_
 refine za ?_
 refine zu ?_
 refine zo ?_
 refine ze ?_
 refine ze ?_
 refine zb ?_
 refine nK ?_
 refine za ?_
 refine zf ?_
 refine zh ?_
 refine zc ?_
 refine rpZ 21 rfl (op_call_pure (fun _ => kh) rfl (Opd.func _) (oS (oT rfl) (oS (oT rfl) Opds.nil))) ?_
 refine zbj ?_
 refine zb ?_
 refine nK ?_
 refine n_cond _ rfl (fun hb => ?_) (fun hb => ?_)
 ·rw [if_pos (by simpa using hb)]
  refine nK ?_
  refine za ?_
  refine zbg ?_
  refine zg ?_
  refine ze ?_
  refine ze ?_
  refine zb ?_
  refine nK ?_
  refine Next.weakS [6] [] (by rfl) (keeps0 hC _) (G' := [(6, .ptr 0 6 0 0), (7, .fz (VSn [])), (8, IV .i64 6)]) (H' := [(0, some (.flat 6 [encLs zLst]))]) wF (by first | exact ⟨⟨rfl, rfl, .fflat _ _ _ rfl tW⟩, trivial⟩ | exact ⟨⟨rfl, rfl, .flat _ _ _ rfl tW⟩, trivial⟩ | exact ⟨wS, trivial⟩ | (exact wHE18a)) rfl ?_
  exact wO hC
 rw [if_neg (by simp at hb; simp [hb])]
 refine nK ?_
 refine za ?_
 refine zc ?_
 refine rpZ 26 rfl (op_call_pure (fun _ => kd) rfl (Opd.func _) (oS (oT rfl) Opds.nil)) ?_
 refine zc ?_
 refine zi ?_
 refine zi ?_
 refine zo ?_
 refine zg ?_
 refine zd ?_
 refine zb ?_
 refine nK ?_
 refine za ?_
 refine zc ?_
 refine zbe ?_
 refine zb ?_
 refine nK ?_
 refine n_cond _ rfl (fun hb => ?_) (fun hb => ?_)
 ·rw [if_pos (by simpa using hb)]
  refine nK ?_
  refine za ?_
  refine zbg ?_
  refine zc ?_
  refine zg ?_
  refine ze ?_
  refine zd ?_
  refine zb ?_
  refine nK ?_
  refine Next.weakS [6] [] (by rfl) (keeps0 hC _) (G' := [(6, .ptr 0 6 0 0), (7, .fz (VSn [])), (8, IV .i64 er)]) (H' := [(0, some (.flat 6 [encLs zLst]))]) wF (by first | exact ⟨⟨rfl, rfl, .fflat _ _ _ rfl tW⟩, trivial⟩ | exact ⟨⟨rfl, rfl, .flat _ _ _ rfl tW⟩, trivial⟩ | exact ⟨wS, trivial⟩ | (exact wHE18a)) rfl ?_
  exact wO hC
 rw [if_neg (by simpa using hb)]
 refine nK ?_
 refine za ?_
 refine ze ?_
 refine zb ?_
 refine nK ?_
 refine Next.adopt 11 2 rfl ?_
 refine nK ?_
 refine za ?_
 refine zf ?_
 refine zh ?_
 refine zb ?_
 refine nK ?_
 refine za ?_
 refine zba ?_
 refine zd ?_
 refine zb ?_
 refine nK ?_
 refine n_cond _ rfl (fun hb => ?_) (fun hb => ?_)
 ·rw [if_pos (by simpa using hb)]
  refine nK ?_
  refine za ?_
  refine zf ?_
  refine zh ?_
  refine zf ?_
  refine zbc ?_
  refine zc ?_
  refine zf ?_
  refine zh ?_
  refine zcd ?_
  refine rpZ 45 rfl (op_call_pure (fun _ => kb) rfl (Opd.func _) (oS (oT rfl) (oS (oT rfl) Opds.nil))) ?_
  refine zf ?_
  refine zg ?_
  refine zb ?_
  refine nK ?_
  refine za ?_
  refine zm ?_
  refine zc ?_
  refine zg ?_
  refine zd ?_
  refine ze ?_
  refine zb ?_
  refine nK ?_
  refine Next.weakS [6] [7] (by rfl) (keeps0 hC _) (G' := [(6, .ptr 0 6 0 0), (7, .fz (VSn [])), (8, IV .i64 0)]) (H' := [(0, some (.flat 6 [encLs { s with rm := bindL s.rm ⟨m.px, n, m.la⟩ }]))]) wF (by first | exact ⟨⟨rfl, rfl, .fflat _ _ _ rfl tW⟩, trivial⟩ | exact ⟨⟨rfl, rfl, .flat _ _ _ rfl tW⟩, trivial⟩ | exact ⟨wS, trivial⟩ | (exact wHE18a)) rfl ?_
  exact wO hC
 rw [if_neg (by simpa using hb)]
 refine nK ?_
 refine za ?_
 refine zba ?_
 refine zd ?_
 refine zb ?_
 refine nK ?_
 refine n_cond _ rfl (fun hb => ?_) (fun hb => ?_)
 ·rw [if_pos (by simpa using hb)]
  refine nK ?_
  refine za ?_
  refine zf ?_
  refine zh ?_
  refine zf ?_
  refine zbc ?_
  refine zc ?_
  refine rpZ 55 rfl (op_call_pure (fun _ => kf) rfl (Opd.func _) (oS (oT rfl) (oS (oT rfl) (oS (oT rfl) Opds.nil)))) ?_
  refine zc ?_
  refine zi ?_
  refine zi ?_
  refine zd ?_
  refine zd ?_
  refine zb ?_
  refine nK ?_
  refine za ?_
  refine zc ?_
  refine zc ?_
  refine zl ?_
  refine zp ?_
  refine zs ?_
  refine zbp ?_
  refine zy ?_
  refine zb ?_
  refine nK ?_
  have hsd := some_dec (findB s.rm m.px n) m.la
  refine nK ?_
  refine n_cond _ rfl (fun hb => ?_) (fun hb => ?_)
  ·rw [if_pos (by rw [show ((findB s.rm m.px n).isSome && decide ((findB s.rm m.px n).getD 0 = m.la)) = true from hb] at hsd; simpa using hsd.symm)]
   have km := message_c n 3 m.la m.px ⟨by simp [inr], hok.px, hok.la⟩
   refine nK ?_
   refine za ?_
   refine zf ?_
   refine zh ?_
   refine zf ?_
   refine zbc ?_
   refine zc ?_
   refine rpZ 71 rfl (op_call_pure (fun _ => ku) rfl (Opd.func _) (oS (oT rfl) (oS (oT rfl) (oS (oT rfl) Opds.nil)))) ?_
   refine zc ?_
   refine zi ?_
   refine zi ?_
   refine zd ?_
   refine zd ?_
   refine zb ?_
   refine nK ?_
   refine za ?_
   refine zc ?_
   refine zf ?_
   refine zg ?_
   refine zb ?_
   refine nK ?_
   refine za ?_
   refine zc ?_
   refine zc ?_
   refine zf ?_
   refine zbc ?_
   refine zf ?_
   refine zh ?_
   refine rpZ 82 rfl (op_call_pure (fun _ => km) rfl (Opd.func _) (oS (oT rfl) (oS oC (oS (oT rfl) (oS (oT rfl) Opds.nil))))) ?_
   refine zz ?_
   refine zbi ?_
   refine zd ?_
   refine zb ?_
   refine nK ?_
   refine za ?_
   refine zm ?_
   refine zc ?_
   refine zg ?_
   refine zd ?_
   refine ze ?_
   refine zb ?_
   refine nK ?_
   refine Next.weakS [6] [7] (by rfl) (keeps0 hC _) (G' := [(6, .ptr 0 6 0 0), (7, .fz (VSn [msgS n 3 m.px m.la])), (8, IV .i64 0)]) (H' := [(0, some (.flat 6 [encLs { s with rm := unbL s.rm m.px n }]))]) wF (by first | exact ⟨⟨rfl, rfl, .fflat _ _ _ rfl tW⟩, trivial⟩ | exact ⟨⟨rfl, rfl, .flat _ _ _ rfl tW⟩, trivial⟩ | exact ⟨wS, trivial⟩ | (exact wHE18a)) rfl ?_
   exact wO hC
  rw [if_neg (by rw [show ((findB s.rm m.px n).isSome && decide ((findB s.rm m.px n).getD 0 = m.la)) = false from hb] at hsd; simpa using hsd.symm)]
  refine nK ?_
  refine za ?_
  refine zm ?_
  refine zc ?_
  refine zg ?_
  refine zd ?_
  refine ze ?_
  refine zb ?_
  refine nK ?_
  refine Next.weakS [6] [7] (by rfl) (keeps0 hC _) (G' := [(6, .ptr 0 6 0 0), (7, .fz (VSn [])), (8, IV .i64 0)]) (H' := [(0, some (.flat 6 [encLs s]))]) wF (by first | exact ⟨⟨rfl, rfl, .fflat _ _ _ rfl tW⟩, trivial⟩ | exact ⟨⟨rfl, rfl, .flat _ _ _ rfl tW⟩, trivial⟩ | exact ⟨wS, trivial⟩ | (exact wHE18a)) rfl ?_
  exact wO hC
 rw [if_neg (by simpa using hb)]
 refine nK ?_
 refine za ?_
 refine zba ?_
 refine zd ?_
 refine zb ?_
 refine nK ?_
 refine n_cond _ rfl (fun hb => ?_) (fun hb => ?_)
 ·rw [if_pos (by simpa using hb)]
  have hin : ∀ la, findB s.lc m.px s.ro = some la → inr .i64 la := fun la h => by
   unfold findB at h
   obtain ⟨b, h1, rfl⟩ := Option.map_eq_some_iff.1 h
   exact hla b (List.mem_of_find?_eq_some h1)
  generalize findB s.lc m.px s.ro = fo at *
  refine nK ?_
  refine za ?_
  refine zf ?_
  refine zh ?_
  refine zf ?_
  refine zbc ?_
  refine zf ?_
  refine zh ?_
  refine rpZ 94 rfl (op_call_pure (fun _ => kl) rfl (Opd.func _) (oS (oT rfl) (oS (oT rfl) (oS (oT rfl) Opds.nil)))) ?_
  refine zc ?_
  refine zi ?_
  refine zi ?_
  refine zd ?_
  refine zd ?_
  refine zb ?_
  refine nK ?_
  refine za ?_
  refine zc ?_
  refine zb ?_
  refine nK ?_
  refine n_cond _ rfl (fun hb => ?_) (fun hb => ?_)
  ·obtain ⟨la, rfl⟩ := Option.isSome_iff_exists.1 hb
   have km := message_c n 1 la m.px ⟨by simp [inr], hok.px, hin la rfl⟩
   dsimp only [Option.getD]
   refine nK ?_
   refine za ?_
   refine zc ?_
   refine zc ?_
   refine zf ?_
   refine zbc ?_
   refine zc ?_
   refine rpZ 103 rfl (op_call_pure (fun _ => km) rfl (Opd.func _) (oS (oT rfl) (oS oC (oS (oT rfl) (oS (oT rfl) Opds.nil))))) ?_
   refine zz ?_
   refine zbi ?_
   refine zd ?_
   refine zb ?_
   refine nK ?_
   refine za ?_
   refine zm ?_
   refine zc ?_
   refine zg ?_
   refine zd ?_
   refine ze ?_
   refine zb ?_
   refine nK ?_
   refine Next.weakS [6] [7] (by rfl) (keeps0 hC _) (G' := [(6, .ptr 0 6 0 0), (7, .fz (VSn [msgS n 1 m.px la])), (8, IV .i64 0)]) (H' := [(0, some (.flat 6 [encLs s]))]) wF (by first | exact ⟨⟨rfl, rfl, .fflat _ _ _ rfl tW⟩, trivial⟩ | exact ⟨⟨rfl, rfl, .flat _ _ _ rfl tW⟩, trivial⟩ | exact ⟨wS, trivial⟩ | (exact wHE18a)) rfl ?_
   exact wO hC
  obtain rfl : fo = none := by cases fo with | none => rfl | some _ => simp at hb
  refine nK ?_
  refine za ?_
  refine zm ?_
  refine zc ?_
  refine zg ?_
  refine zd ?_
  refine ze ?_
  refine zb ?_
  refine nK ?_
  refine Next.weakS [6] [7] (by rfl) (keeps0 hC _) (G' := [(6, .ptr 0 6 0 0), (7, .fz (VSn [])), (8, IV .i64 0)]) (H' := [(0, some (.flat 6 [encLs s]))]) wF (by first | exact ⟨⟨rfl, rfl, .fflat _ _ _ rfl tW⟩, trivial⟩ | exact ⟨⟨rfl, rfl, .flat _ _ _ rfl tW⟩, trivial⟩ | exact ⟨wS, trivial⟩ | (exact wHE18a)) rfl ?_
  exact wO hC
 rw [if_neg (by simpa using hb)]
 refine nK ?_
 refine za ?_
 refine zm ?_
 refine zc ?_
 refine zg ?_
 refine zd ?_
 refine ze ?_
 refine zb ?_
 refine nK ?_
 refine Next.weakS [6] [7] (by rfl) (keeps0 hC _) (G' := [(6, .ptr 0 6 0 0), (7, .fz (VSn [])), (8, IV .i64 0)]) (H' := [(0, some (.flat 6 [encLs s]))]) wF (by first | exact ⟨⟨rfl, rfl, .fflat _ _ _ rfl tW⟩, trivial⟩ | exact ⟨⟨rfl, rfl, .flat _ _ _ rfl tW⟩, trivial⟩ | exact ⟨wS, trivial⟩ | (exact wHE18a)) rfl ?_
 exact wO hC
theorem any_hop (r : Int) (l : List Int) : (l.contains 0 || l.contains r) = l.any (hopX r) := by
 rw [Bool.eq_iff_iff]
 simp only [Bool.or_eq_true, List.contains_iff_mem, List.any_eq_true, hopX, decide_eq_true_eq]
 constructor
 ·rintro (h | h)
  ·exact ⟨0, h, .inl rfl⟩
  exact ⟨r, h, .inr rfl⟩
 rintro ⟨x, h, rfl | rfl⟩
 ·exact .inl h
 exact .inr h
theorem crts_c (ro : Int) (l : List Fec) (hl : ∀ x ∈ l, okFe x) (hn : l.length ≤ 9223372036854775807) : Pure Tryz.prog 79 [If .u32 ro, VFe l] (If .i64 (routesE ro l)) := by
 unfold routesE
 refine Meets.intro Tryz.func79 rfl (Nat.le_of_ble_eq_true rfl) fun C hC => ?_
 simp only [List.map, argEnv, Nat.reduceAdd]
 refine nK ?_
 refine za ?_
 refine ze ?_
 refine zb ?_
 refine nK ?_
 refine za ?_
 refine zc ?_
 refine zk ?_
 refine zbu ?_
 refine zb ?_
 refine nK ?_
 refine n_cond _ rfl (fun hb => ?_) (fun hb => ?_)
 ·rw [if_pos (by simp at hb; omega)]
  refine nK ?_
  refine za ?_
  refine ze ?_
  refine zb ?_
  refine nK ?_
  exact wO hC
 rw [if_neg (by simp at hb; omega)]
 refine nK ?_
 refine za ?_
 refine zc ?_
 refine zk ?_
 refine zx ?_
 refine zb ?_
 refine nK ?_
 refine n_loop (ι := Nat) (fun i => ([(0, IV .u32 ro), (1, .fz (VFe l)), (11, .fz (VFe l)), (12, IV .i64 l.length), (13, IV .i64 i)], [], 0)) (fun i => i ≤ l.length ∧ rtsE ro (prvG l i) (l.drop i) = rtsE ro none l) (fun i => l.length - i) 0 ⟨Nat.zero_le _, rfl⟩ ?_ ?_
 ·refine Next.weak [] [] (by rfl) (keeps0 hC _) (by repeat (first | exact trivial | refine ⟨⟨_, rfl, .inl ⟨rfl, rfl⟩⟩, ?_⟩)) wHE18a wN rel_intro
 intro i ⟨hi, ho⟩ K hK
 refine nK ?_
 refine za ?_
 refine zn ?_
 refine zb ?_
 refine nK ?_
 refine n_cond _ rfl (fun hb => ?_) (fun hb => ?_)
 ·have hlt : i < l.length := by simp at hb; omega
  have hr1 := row_at' encFe l i hlt
  obtain ⟨q, hq⟩ := prv_row encFe l zFe (by omega : i ≤ l.length)
  rw [rts_step ro hlt] at ho
  have hK1 := fun h => hK (i + 1) ⟨by omega, h⟩ (by omega)
  have hx := hl _ (List.getElem_mem hlt)
  generalize l[i] = x at *
  have kv := rvalid_any x.px hx.px
  have k0 := hasR_c x.hs 0 hx.hs
  have k1 := hasR_c x.hs ro hx.hs
  have kc := rcmp_c q.px x.px
  have hany := any_hop ro x.hs
  have hbad : badX (prvG l i) x = (decide ((0 : Int) < (i : Int)) && decide (0 ≤ cmpP q.px x.px)) := by
   by_cases h0 : 0 < i
   ·rw [(hq h0).1]; simp [badX, h0]
   have : i = 0 := by omega
   subst this; rfl
  have hq2 : 0 < i → (l.map encFe)[i - 1]? = some (encFe q) := fun h => (hq h).2
  generalize cmpP q.px x.px = cz at *
  rw [hbad] at ho
  unfold hopsE at ho
  refine nK ?_
  refine za ?_
  refine zc ?_
  refine zr ?_
  refine zv ?_
  refine zo ?_
  refine zd ?_
  refine zg ?_
  refine zb ?_
  refine nK ?_
  refine za ?_
  refine zf ?_
  refine zbc ?_
  refine rpZ 21 rfl (op_call_pure (fun _ => kv) rfl (Opd.func _) (oS (oT rfl) Opds.nil)) ?_
  refine zbj ?_
  refine zd ?_
  refine zb ?_
  refine nK ?_
  refine n_cond _ rfl (fun hb => ?_) (fun hb => ?_)
  ·rw [if_pos hb] at ho
   rw [← ho]
   refine nK ?_
   refine za ?_
   refine ze ?_
   refine zb ?_
   refine nK ?_
   exact wO hC
  rw [if_neg (by rw [hb]; decide)] at ho
  refine nK ?_
  refine s_draw mixed ?_
  refine zc ?_
  refine zbu ?_
  refine zc ?_
  refine zl ?_
  refine zl ?_
  refine zcf ?_
  refine rgZ 30 rfl rfl tG (op_idx_fz (i - 1) rfl (oO rfl tO) (oO rfl tO) (by intro hg; simp at hg; exact ⟨by omega, hq2 (by omega)⟩)) ?_
  refine zbs ?_
  refine rgZ 32 rfl rfl tG (op_loadn_fz rfl (oO rfl tO) tR) ?_
  refine zp ?_
  refine rkZ 34 rfl rfl tG (op_loadn_flat rfl (oO rfl tO) tH tR tR) ?_
  refine rgZ 35 rfl rfl tG (op_call_pure (fun _ => kc) rfl (Opd.func _) (oS (oO rfl tO) (oS (oO rfl tO) Opds.nil))) ?_
  refine rgZ 36 rfl rfl tG (op_geq rfl (oO rfl tO) oC) ?_
  refine zy ?_
  refine zd ?_
  refine zq ?_
  refine nK ?_
  refine n_cond _ rfl (fun hb => ?_) (fun hb => ?_)
  ·rw [if_pos hb] at ho
   rw [← ho]
   refine nK ?_
   refine za ?_
   refine ze ?_
   refine zb ?_
   refine nK ?_
   exact wO hC
  rw [if_neg (by rw [hb]; decide)] at ho
  refine nK ?_
  refine za ?_
  refine zf ?_
  refine zh ?_
  refine zk ?_
  refine zbu ?_
  refine zd ?_
  refine zb ?_
  refine nK ?_
  refine n_cond _ rfl (fun hb => ?_) (fun hb => ?_)
  ·have h64 : 64 < x.hs.length := by simp at hb; omega
   rw [if_pos h64, if_pos (by decide)] at ho
   rw [← ho]
   refine nK ?_
   refine za ?_
   refine ze ?_
   refine zb ?_
   refine nK ?_
   exact wO hC
  have h64 : ¬ 64 < x.hs.length := by simp at hb; omega
  rw [if_neg h64] at ho
  refine nK ?_
  refine za ?_
  refine zf ?_
  refine zh ?_
  refine rpZ 46 rfl (op_call_pure (fun _ => k0) rfl (Opd.func _) (oS (oT rfl) (oS oC Opds.nil))) ?_
  refine zc ?_
  refine zp ?_
  refine zs ?_
  refine zl ?_
  refine rgZ 51 rfl rfl tG (op_call_pure (fun _ => k1) rfl (Opd.func _) (oS (oO rfl tO) (oS (oO rfl tO) Opds.nil))) ?_
  refine zbd ?_
  refine zd ?_
  refine zb ?_
  refine nK ?_
  refine n_cond _ rfl (fun hb => ?_) (fun hb => ?_)
  ·rw [if_pos (hany.symm.trans hb), if_pos (by decide)] at ho
   rw [← ho]
   refine nK ?_
   refine za ?_
   refine ze ?_
   refine zb ?_
   refine nK ?_
   exact wO hC
  rw [if_neg (show ¬ x.hs.any (hopX ro) = true by rw [← hany, show (x.hs.contains 0 || x.hs.contains ro) = false from hb]; decide)] at ho
  refine nK ?_
  refine za ?_
  refine ze ?_
  refine zb ?_
  refine nK ?_
  generalize hS : rtsE ro none l = R at *
  refine n_loop (ι := Nat) (fun j => ([(0, IV .u32 ro), (1, .fz (VFe l)), (6, .fz (.cellp (encFe x))), (7, IV .i64 j), (11, .fz (VFe l)), (12, IV .i64 l.length), (13, IV .i64 i)], [], 0)) (fun j => 1 ≤ j ∧ j ≤ 1 + x.hs.length ∧ ascI (prvG x.hs j) (x.hs.drop j) = ascI none x.hs) (fun j => 1 + x.hs.length - j) 1 ⟨Nat.le_refl _, by omega, asc_one x.hs⟩ ?_ ?_
  ·refine Next.weakS [] [6] (by rfl) (wK hC) wF wHE18a rfl (rel_intro)
  intro j ⟨hj1, hj2, hjo⟩ K hKj
  refine nK ?_
  refine za ?_
  refine zc ?_
  refine zbf ?_
  refine zt ?_
  refine zk ?_
  refine zn ?_
  refine zb ?_
  refine nK ?_
  refine n_cond _ rfl (fun hb => ?_) (fun hb => ?_)
  ·have hjl : j < x.hs.length := by simp at hb; omega
   have hj1' := row_at' encW x.hs j hjl
   have hj2' := row_at' encW x.hs (j - 1) (by omega)
   have hpv : prvG x.hs j = some x.hs[j - 1] := by
    have := prvG_succ (l := x.hs) (i := j - 1) (by omega)
    rwa [show j - 1 + 1 = j by omega] at this
   rw [asc_step hjl, hpv] at hjo
   have hKj1 := fun h => hKj (j + 1) ⟨by omega, by omega, h⟩ (by omega)
   generalize x.hs[j] = y at *
   generalize x.hs[j - 1] = z at *
   refine nK ?_
   refine s_draw mixed ?_
   refine zbf ?_
   refine zt ?_
   refine zc ?_
   refine zbv ?_
   refine rpZ 64 rfl (op_idx_fz (j - 1) rfl (oT rfl) (oT rfl) (by intro _; exact ⟨by omega, hj2'⟩)) ?_
   refine zt ?_
   refine zbf ?_
   refine zt ?_
   refine zc ?_
   refine rpZ 69 rfl (op_idx_fz j rfl (oT rfl) (oT rfl) (by intro _; exact ⟨rfl, hj1'⟩)) ?_
   refine zt ?_
   refine rpZ 71 rfl (op_geq rfl (oT rfl) (oT rfl)) ?_
   refine zq ?_
   refine nK ?_
   refine n_cond _ rfl (fun hb => ?_) (fun hb => ?_)
   ·have hy : leI (some z) y = true := hb
    rw [if_pos hy] at hjo
    rw [← hjo, if_pos (by decide)] at ho
    rw [← ho]
    refine nK ?_
    refine za ?_
    refine ze ?_
    refine zb ?_
    refine nK ?_
    exact wO hC
   have hy : leI (some z) y = false := hb
   rw [if_neg (by rw [hy]; decide)] at hjo
   refine nK ?_
   refine za ?_
   refine zc ?_
   refine zj ?_
   refine zd ?_
   refine zb ?_
   refine nK ?_
   refine Next.weakS [] [] (by rfl) (wK hC) wG wHE18a rfl ((hKj1 hjo))
  have hje : x.hs.length ≤ j := by simp at hb; omega
  rw [List.drop_eq_nil_of_le hje] at hjo
  have hz : ascI none x.hs = 0 := by rw [← hjo]; cases prvG x.hs j <;> rfl
  rw [hz, if_neg (by decide)] at ho
  refine nK ?_
  refine za ?_
  refine zj ?_
  refine zc ?_
  refine zb ?_
  refine nK ?_
  refine Next.weakS [] [] (by rfl) (wK hC) wG wHE18a rfl ((hK1 ho))
 have hie : i = l.length := by simp at hb; omega
 rw [hie, List.drop_length] at ho
 have hz : rtsE ro none l = 0 := by rw [← ho]; cases prvG l l.length <;> rfl
 rw [hz]
 refine nK ?_
 refine za ?_
 refine ze ?_
 refine zb ?_
 refine nK ?_
 exact wO hC
theorem rroute_c (l : List Fec) (p : Pfx) (hn : l.length ≤ 9223372036854775807) : Pure Tryz.prog 50 [VFe l, .agg (encP p)] (.tup [.agg (encFe ((routeF l p).getD zFe)), Bf (routeF l p).isSome]) := by
 unfold routeF
 refine Meets.intro Tryz.func50 rfl (Nat.le_of_ble_eq_true rfl) fun C hC => ?_
 simp only [List.map, argEnv, Nat.reduceAdd]
 refine nK ?_
 refine za ?_
 refine zu ?_
 refine zo ?_
 refine ze ?_
 refine zb ?_
 refine nK ?_
 refine za ?_
 refine zc ?_
 refine zk ?_
 refine zx ?_
 refine zb ?_
 refine nK ?_
 refine n_loop (ι := Nat) (fun i => ([(3, .fz (.cellp (encP p))), (4, .ptr 0 4 0 0), (8, .fz (VFe l)), (9, IV .i64 l.length), (10, IV .i64 i)], [(0, some (.flat 4 [encFe zFe]))], 1)) (fun i => i ≤ l.length ∧ (l.drop i).find? (fun x => decide (x.px = p)) = l.find? fun x => decide (x.px = p)) (fun i => l.length - i) 0 ⟨Nat.zero_le _, rfl⟩ ?_ ?_
 ·refine Next.weakS [4] [3] (by rfl) (keeps0 hC _) wF (by exact ⟨⟨rfl, rfl, .fflat _ _ _ rfl tW⟩, trivial⟩) rfl rel_intro
 intro i ⟨hi, ho⟩ K hK
 refine nK ?_
 refine za ?_
 refine zn ?_
 refine zb ?_
 refine nK ?_
 refine n_cond _ rfl (fun hb => ?_) (fun hb => ?_)
 ·have hlt : i < l.length := by simp at hb; omega
  have hr1 := row_at' encFe l i hlt
  rw [find_step _ hlt] at ho
  have hK1 := fun h => hK (i + 1) ⟨by omega, h⟩ (by omega)
  generalize l[i] = b at *
  have hc : decide (b.px = p) = eqFs (encP b.px) (encP p) := by rw [eqFs_encP]
  refine nK ?_
  refine za ?_
  refine zr ?_
  refine zv ?_
  refine zo ?_
  refine zg ?_
  refine zb ?_
  refine nK ?_
  refine za ?_
  refine zf ?_
  refine zbc ?_
  refine zv ?_
  refine zcp ?_
  refine zb ?_
  refine nK ?_
  refine n_cond _ rfl (fun hb => ?_) (fun hb => ?_)
  ·rw [if_pos (hc.trans hb)] at ho
   rw [← ho]
   refine nK ?_
   refine za ?_
   refine zm ?_
   refine zg ?_
   refine ze ?_
   refine zb ?_
   refine nK ?_
   refine Next.weakS [4] [] (by rfl) (keeps0 hC _) (G' := [(4, .ptr 0 4 0 0), (5, BV true)]) (H' := [(0, some (.flat 4 [encFe b]))]) wF (by first | exact ⟨⟨rfl, rfl, .fflat _ _ _ rfl tW⟩, trivial⟩ | exact ⟨⟨rfl, rfl, .flat _ _ _ rfl tW⟩, trivial⟩ | exact ⟨wS, trivial⟩ | (exact wHE18a)) rfl ?_
   exact wO hC
  rw [if_neg (show ¬ decide (b.px = p) = true by rw [hc, show eqFs (encP b.px) (encP p) = false from hb]; decide)] at ho
  refine nK ?_
  refine za ?_
  refine zj ?_
  refine zc ?_
  refine zb ?_
  refine nK ?_
  refine Next.weakS [4] [] (by rfl) (wK hC) wG wHE18a rfl ((hK1 ho))
 have hie : i = l.length := by simp at hb; omega
 rw [hie, List.drop_length] at ho
 rw [← ho]
 refine nK ?_
 refine za ?_
 refine zbg ?_
 refine zg ?_
 refine ze ?_
 refine zb ?_
 refine nK ?_
 refine Next.weakS [4] [] (by rfl) (keeps0 hC _) (G' := [(4, .ptr 0 4 0 0), (5, BV false)]) (H' := [(0, some (.flat 4 [encFe zFe]))]) wF (by first | exact ⟨⟨rfl, rfl, .fflat _ _ _ rfl tW⟩, trivial⟩ | exact ⟨⟨rfl, rfl, .flat _ _ _ rfl tW⟩, trivial⟩ | exact ⟨wS, trivial⟩ | (exact wHE18a)) rfl ?_
 exact wO hC
end Go.Proofs.YtkofbemgpeagbaaGreat
/- What the reference drops and binds, by step. No program in sight. -/
namespace Go.Pl
open Go Go.RT
set_option linter.all false
def drG (s : Lst) (l : List Fec) (i : Nat) : DSt := (s.lc.take i).foldl (dropS s.ps l) (s.fr, [], [])
theorem drG_succ (s : Lst) (l : List Fec) {i : Nat} (h : i < s.lc.length) : drG s l (i + 1) = dropS s.ps l (drG s l i) s.lc[i] := by
  unfold drG; rw [List.take_succ_eq_append_getElem h, List.foldl_append]; rfl
theorem drG_len (s : Lst) (l : List Fec) : ∀ i, i ≤ s.lc.length → (drG s l i).1.length ≤ s.fr.length + i ∧ (drG s l i).2.1.length ≤ i ∧ (drG s l i).2.2.length ≤ i * s.ps.length := by
  intro i
  induction i with
  | zero => intro _; simp [drG]
  | succ i ih =>
    intro hi
    obtain ⟨h1, h2, h3⟩ := ih (by omega)
    rw [drG_succ s l (by omega), Nat.succ_mul]
    unfold dropS
    split
    · exact ⟨by simpa using Nat.le_trans h1 (by omega), by simp; omega, by simpa using Nat.le_trans h3 (by omega)⟩
    · refine ⟨?_, by simpa using Nat.le_trans h2 (by omega), by simp; omega⟩
      dsimp only
      have := giveF_len (drG s l i).1 s.lc[i].la
      split
      · omega
      · omega
theorem drG_all (s : Lst) (l : List Fec) : drG s l s.lc.length = dropF s l := by unfold drG dropF; rw [List.take_length]
theorem bdG_all (s : Lst) (l : List Fec) (d : DSt) : bdG s.ro s.ps l d l.length = bindF s l d := by unfold bdG bindF; rw [List.take_length]
end Go.Pl
namespace Go.Proofs.YtkofbemgpeagbaaGreat
open Go Go.RT Go.Proofs Go.Pl
set_option linter.all false
set_option maxRecDepth 20000
set_option maxHeartbeats 2000000
theorem wHE19a {α : Prop} (h : α := by repeat (first | exact trivial | refine ⟨wS, ?_⟩ | refine ⟨ent_same rfl rfl (rfEq rfl tU) tL, ?_⟩ | refine ⟨ent_same rfl rfl (flEq rfl (by first | (simp; done) | (simp; omega) | (simp [encP, encW, encY, encMs, encBn, encSn, encFe, encLh, encLe, encRg, encEv, encLs]; done) | simp [maxC, minC])) trivial, ?_⟩)) : α := h
theorem rroutes_c (s : Lst) (l : List Fec) (hl : ∀ x ∈ l, okFe x) (hln : l.length ≤ 9223372036854775807) (hlc : ∀ b ∈ s.lc, okB' b) (h1 : s.fr.length ≤ 100000) (h2 : s.lc.length ≤ 3000) (h3 : s.ps.length ≤ 100) : Pure Tryz.prog 45 [.agg (encLs s), VFe l] (.tup [.agg (encLs (routesF s l).1), VSn (routesF s l).2.1, If .i64 (routesF s l).2.2]) := by
 have kc := crts_c s.ro l hl hln
 unfold routesF
 refine Meets.intro Tryz.func45 rfl (Nat.le_of_ble_eq_true rfl) fun C hC => ?_
 simp only [List.map, argEnv, Nat.reduceAdd]
 refine nK ?_
 refine za ?_
 refine zu ?_
 refine zo ?_
 refine ze ?_
 refine ze ?_
 refine zb ?_
 refine nK ?_
 refine za ?_
 refine zf ?_
 refine zh ?_
 refine zc ?_
 refine rpZ 31 rfl (op_call_pure (fun _ => kc) rfl (Opd.func _) (oS (oT rfl) (oS (oT rfl) Opds.nil))) ?_
 refine zd ?_
 refine zb ?_
 refine nK ?_
 refine za ?_
 refine zc ?_
 refine zbe ?_
 refine zb ?_
 refine nK ?_
 refine n_cond _ rfl (fun hb => ?_) (fun hb => ?_)
 ·rw [if_pos (by simpa using hb)]
  refine nK ?_
  refine za ?_
  refine zbg ?_
  refine zc ?_
  refine zg ?_
  refine ze ?_
  refine zd ?_
  refine zb ?_
  refine nK ?_
  refine Next.weakS [4] [] (by rfl) (keeps0 hC _) (G' := [(4, .ptr 0 6 0 0), (5, .fz (VSn [])), (6, IV .i64 (routesE s.ro l))]) (H' := [(0, some (.flat 6 [encLs zLst]))]) wF (by first | exact ⟨⟨rfl, rfl, .fflat _ _ _ rfl tW⟩, trivial⟩ | exact ⟨⟨rfl, rfl, .flat _ _ _ rfl tW⟩, trivial⟩ | exact ⟨wS, trivial⟩ | (exact wHE19a)) rfl ?_
  exact wO hC
 have h0 : routesE s.ro l = 0 := by simpa using hb
 rw [if_neg (by simpa using hb)]
 obtain ⟨_, hn, _⟩ := routesE_ok h0
 rw [← bdG_all, ← drG_all]
 dsimp only
 refine nK ?_
 refine za ?_
 refine zc ?_
 refine zf ?_
 refine zg ?_
 refine zb ?_
 refine nK ?_
 refine za ?_
 refine ze ?_
 refine zb ?_
 refine nK ?_
 refine za ?_
 refine ze ?_
 refine zb ?_
 refine nK ?_
 refine Next.adopt 8 2 rfl ?_
 refine Next.adopt 9 4 rfl ?_
 refine nK ?_
 refine za ?_
 refine zf ?_
 refine zh ?_
 refine zk ?_
 refine zx ?_
 refine zb ?_
 refine nK ?_
 refine n_loop (ι := Nat) (fun i => ([(1, .fz (VFe l)), (2, .ptr 0 6 0 0), (4, .ptr 1 6 0 0), (8, .sl 2 2 0 (drG s l i).2.2.length), (9, .sl 3 4 0 (drG s l i).2.1.length), (39, .fz (VBn s.lc)), (40, IV .i64 s.lc.length), (41, IV .i64 i)], [(0, some (.flat 6 [encLs { s with fr := (drG s l i).1, rt := l }])), (1, some (.flat 6 [encLs zLst])), (2, OSn (drG s l i).2.2), (3, OBn (drG s l i).2.1)], 4)) (fun i => i ≤ s.lc.length) (fun i => s.lc.length - i) 0 (Nat.zero_le _) ?_ ?_
 ·refine Next.weakS [2, 4, 8, 9] [] (by rfl) (keeps0 hC _) wG (by exact ⟨wS, ⟨by first | exact ⟨rfl, rfl, .fflat _ _ _ rfl tW⟩ | exact wS, ⟨wS, ⟨wS, trivial⟩⟩⟩⟩) rfl rel_intro
 intro i hi K hK
 obtain ⟨hd1, hd2, hd3⟩ := drG_len s l i hi
 have hd4 : i * s.ps.length ≤ 3000 * 100 := Nat.mul_le_mul (by omega) h3
 refine nK ?_
 refine za ?_
 refine zn ?_
 refine zb ?_
 refine nK ?_
 refine n_cond _ rfl (fun hb => ?_) (fun hb => ?_)
 ·have hlt : i < s.lc.length := by simp at hb; omega
  have hr1 := row_at' encBn s.lc i hlt
  have hK1 := hK (i + 1) (by omega) (by omega)
  rw [drG_succ s l hlt] at hK1
  generalize drG s l i = d at *
  obtain ⟨fr, kp, out⟩ := d
  have hob := hlc _ (List.getElem_mem hlt)
  generalize s.lc[i] = b at *
  have kr := rroute_c l b.px hln
  have hok := okB_eq l b
  generalize (routeF l b.px).isSome = rb at *
  generalize (routeF l b.px).getD zFe = x at *
  unfold dropS at hK1
  dsimp only at hd1 hd2 hd3 ⊢
  refine nK ?_
  refine za ?_
  refine zr ?_
  refine zv ?_
  refine zo ?_
  refine zg ?_
  refine zb ?_
  refine nK ?_
  refine za ?_
  refine zc ?_
  refine zf ?_
  refine zbc ?_
  refine rpZ 49 rfl (op_call_pure (fun _ => kr) rfl (Opd.func _) (oS (oT rfl) (oS (oT rfl) Opds.nil))) ?_
  refine zc ?_
  refine zi ?_
  refine zi ?_
  refine zo ?_
  refine zg ?_
  refine zd ?_
  refine zb ?_
  refine nK ?_
  refine za ?_
  refine zc ?_
  refine zc ?_
  refine zp ?_
  refine zs ?_
  refine zp ?_
  refine zs ?_
  refine zbw ?_
  refine rgZ 59 rfl rfl tG (op_eqlB rfl (oO rfl tO) (oO rfl tO)) ?_
  refine zy ?_
  refine zb ?_
  refine nK ?_
  refine n_cond _ rfl (fun hb => ?_) (fun hb => ?_)
  ·rw [if_pos (hok.trans hb)] at hK1
   dsimp only at hK1
   unfold OBn at hK1
   rw [apl, apm] at hK1
   refine nK ?_
   refine za ?_
   refine zc ?_
   refine zm ?_
   refine zz ?_
   refine zbi ?_
   refine zd ?_
   refine zb ?_
   refine nK ?_
   refine za ?_
   refine zj ?_
   refine zc ?_
   refine zb ?_
   refine nK ?_
   refine Next.weakS [2, 4, 8, 9] [] (by rfl) (wK hC) wG wHE19a rfl (hK1)
  rw [if_neg (by rw [hok, show (rb && decide (x.lo = decide (b.la = 3))) = false from hb]; decide)] at hK1
  dsimp only at hK1
  clear hok kr
  refine nK ?_
  refine za ?_
  refine zf ?_
  refine zh ?_
  refine zk ?_
  refine zx ?_
  refine zb ?_
  refine nK ?_
  refine n_loop (ι := Nat) (fun j => ([(1, .fz (VFe l)), (2, .ptr 0 6 0 0), (4, .ptr 1 6 0 0), (8, .sl 2 2 0 (out ++ (s.ps.take j).map fun n => msgS n 2 b.px b.la).length), (9, .sl 3 4 0 kp.length), (11, .fz (.cellp (encBn b))), (39, .fz (VBn s.lc)), (40, IV .i64 s.lc.length), (41, IV .i64 i), (66, .fz (VW s.ps)), (67, IV .i64 s.ps.length), (68, IV .i64 j)], [(0, some (.flat 6 [encLs { s with fr := fr, rt := l }])), (1, some (.flat 6 [encLs zLst])), (2, OSn (out ++ (s.ps.take j).map fun n => msgS n 2 b.px b.la)), (3, OBn kp)], 4)) (fun j => j ≤ s.ps.length) (fun j => s.ps.length - j) 0 (Nat.zero_le _) ?_ ?_
  ·have e0 : (out ++ (s.ps.take 0).map fun n => msgS n 2 b.px b.la) = out := by simp
   rw [e0]
   refine Next.weakS [2, 4, 8, 9] [11] (by rfl) (wK hC) wF wHE19a rfl (rel_intro)
  intro j hj K hKj
  have hol : (out ++ (s.ps.take j).map fun n => msgS n 2 b.px b.la).length ≤ 1000000 := by simp; omega
  refine nK ?_
  refine za ?_
  refine zn ?_
  refine zb ?_
  refine nK ?_
  refine n_cond _ rfl (fun hb => ?_) (fun hb => ?_)
  ·have hjl : j < s.ps.length := by simp at hb; omega
   have hrj := row_at' encW s.ps j hjl
   have hKj1 := hKj (j + 1) (by omega) (by omega)
   rw [map_take_succ _ hjl, ← List.append_assoc] at hKj1
   generalize s.ps[j] = n at *
   generalize (out ++ (s.ps.take j).map fun n => msgS n 2 b.px b.la) = o at *
   have km := message_c n 2 b.la b.px (hob.msg 2 (by simp [inr]))
   unfold OSn at hKj1
   rw [apl, apm] at hKj1
   refine nK ?_
   refine za ?_
   refine zr ?_
   refine zt ?_
   refine zd ?_
   refine zb ?_
   refine nK ?_
   refine za ?_
   refine zc ?_
   refine zc ?_
   refine zbf ?_
   refine zcc ?_
   refine zbf ?_
   refine zt ?_
   refine rpZ 78 rfl (op_call_pure (fun _ => km) rfl (Opd.func _) (oS (oT rfl) (oS oC (oS (oT rfl) (oS (oT rfl) Opds.nil))))) ?_
   refine zz ?_
   refine zbi ?_
   refine zd ?_
   refine zb ?_
   refine nK ?_
   refine za ?_
   refine zj ?_
   refine zc ?_
   refine zb ?_
   refine nK ?_
   refine Next.weakS [2, 4, 8, 9] [] (by rfl) (wK hC) wG wHE19a rfl (hKj1)
  have hje : j = s.ps.length := by simp at hb; omega
  rw [hje, List.take_length] at hol ⊢
  clear hKj
  generalize (out ++ s.ps.map fun n => msgS n 2 b.px b.la) = o at *
  have kg := rgive_c fr b.la (by omega) hob.la
  refine nK ?_
  refine za ?_
  refine zbf ?_
  refine zt ?_
  refine zbe ?_
  refine zb ?_
  refine nK ?_
  refine n_cond _ rfl (fun hb => ?_) (fun hb => ?_)
  ·rw [if_pos (by simpa using hb)] at hK1
   refine nK ?_
   refine za ?_
   refine zf ?_
   refine zh ?_
   refine zbf ?_
   refine zt ?_
   refine rpZ 90 rfl (op_call_pure (fun _ => kg) rfl (Opd.func _) (oS (oT rfl) (oS (oT rfl) Opds.nil))) ?_
   refine zc ?_
   refine zi ?_
   refine zi ?_
   refine zd ?_
   refine zd ?_
   refine zb ?_
   refine nK ?_
   refine za ?_
   refine zc ?_
   refine zf ?_
   refine zg ?_
   refine zb ?_
   refine nK ?_
   refine za ?_
   refine zj ?_
   refine zc ?_
   refine zb ?_
   refine nK ?_
   refine Next.weakS [2, 4, 8, 9] [] (by rfl) (wK hC) wG wHE19a rfl (hK1)
  rw [if_neg (by simpa using hb)] at hK1
  refine nK ?_
  refine za ?_
  refine zj ?_
  refine zc ?_
  refine zb ?_
  refine nK ?_
  refine Next.weakS [2, 4, 8, 9] [] (by rfl) (wK hC) wG wHE19a rfl (hK1)
 have hie : i = s.lc.length := by simp at hb; omega
 subst hie
 clear hK
 generalize drG s l s.lc.length = d at *
 obtain ⟨fr, kp, out⟩ := d
 dsimp only at hd1 hd2 hd3 ⊢
 refine Next.weakS [2, 4, 8] [9] (by rfl) (keeps0 hC _) (G' := [(1, .fz (VFe l)), (2, .ptr 0 6 0 0), (4, .ptr 1 6 0 0), (8, .sl 2 2 0 out.length), (9, .fz (VBn kp))]) (H' := [(0, some (.flat 6 [encLs { s with fr := fr, rt := l }])), (1, some (.flat 6 [encLs zLst])), (2, OSn out)]) wF wHE19a rfl ?_
 refine nK ?_
 refine za ?_
 refine zc ?_
 refine zf ?_
 refine zg ?_
 refine zb ?_
 refine nK ?_
 refine za ?_
 refine zc ?_
 refine zk ?_
 refine zx ?_
 refine zb ?_
 refine nK ?_
 refine n_loop (ι := Nat) (fun i => ([(2, .ptr 0 6 0 0), (4, .ptr 1 6 0 0), (8, .sl 2 2 0 (bdG s.ro s.ps l (fr, kp, out) i).2.2.length), (98, .fz (VFe l)), (99, IV .i64 l.length), (100, IV .i64 i)], [(0, some (.flat 6 [encLs { s with fr := (bdG s.ro s.ps l (fr, kp, out) i).1, lc := (bdG s.ro s.ps l (fr, kp, out) i).2.1, rt := l }])), (1, some (.flat 6 [encLs zLst])), (2, OSn (bdG s.ro s.ps l (fr, kp, out) i).2.2)], 3)) (fun i => i ≤ l.length) (fun i => l.length - i) 0 (Nat.zero_le _) ?_ ?_
 ·refine Next.weakS [2, 4, 8] [] (by rfl) (wK hC) wG wHE19a rfl (rel_intro)
 intro i hi K hK
 obtain ⟨he1, he2, he3⟩ := bdG_len s.ro s.ps l (fr, kp, out) i hi
 have he4 : i * s.ps.length ≤ 2000 * 100 := Nat.mul_le_mul (by omega) h3
 dsimp only at he1 he2 he3
 refine nK ?_
 refine za ?_
 refine zn ?_
 refine zb ?_
 refine nK ?_
 refine n_cond _ rfl (fun hb => ?_) (fun hb => ?_)
 ·have hlt : i < l.length := by simp at hb; omega
  have hr1 := row_at' encFe l i hlt
  have hK1 := hK (i + 1) (by omega) (by omega)
  rw [bdG_succ s.ro s.ps _ hlt] at hK1
  clear hK
  generalize bdG s.ro s.ps l (fr, kp, out) i = d at *
  obtain ⟨fr, lc, out⟩ := d
  have hox := hl _ (List.getElem_mem hlt)
  generalize l[i] = x at *
  dsimp only at he1 he2 he3 ⊢
  unfold bindS at hK1
  dsimp only at hK1
  have kf := rfind_c lc x.px s.ro (by omega)
  have kt := rtake_c fr (by omega)
  refine nK ?_
  refine za ?_
  refine zr ?_
  refine zv ?_
  refine zo ?_
  refine zg ?_
  refine zb ?_
  refine nK ?_
  refine za ?_
  refine zf ?_
  refine zh ?_
  refine zf ?_
  refine zbc ?_
  refine zf ?_
  refine zh ?_
  refine rpZ 111 rfl (op_call_pure (fun _ => kf) rfl (Opd.func _) (oS (oT rfl) (oS (oT rfl) (oS (oT rfl) Opds.nil)))) ?_
  refine zc ?_
  refine zi ?_
  refine zi ?_
  refine zd ?_
  refine zd ?_
  refine zb ?_
  refine nK ?_
  refine za ?_
  refine zc ?_
  refine zb ?_
  refine nK ?_
  refine n_cond _ rfl (fun hb => ?_) (fun hb => ?_)
  ·rw [if_pos hb] at hK1
   refine nK ?_
   refine za ?_
   refine zj ?_
   refine zc ?_
   refine zb ?_
   refine nK ?_
   refine Next.weakS [2, 4, 8] [] (by rfl) (wK hC) wG wHE19a rfl (hK1)
  rw [if_neg (by rw [hb]; decide)] at hK1
  refine nK ?_
  refine za ?_
  refine ze ?_
  refine zb ?_
  refine nK ?_
  refine za ?_
  refine zf ?_
  refine zh ?_
  refine zbj ?_
  refine zb ?_
  refine nK ?_
  refine n_cond _ rfl (fun hb => ?_) (fun hb => ?_)
  ·rw [if_neg (by simpa using hb)] at hK1
   have hok := fun h => takeF_ok (l := fr) h
   generalize takeF fr = t at *
   obtain ⟨la, fr2, er⟩ := t
   dsimp only at kt hok hK1
   refine nK ?_
   refine za ?_
   refine zf ?_
   refine zh ?_
   refine rpZ 121 rfl (op_call_pure (fun _ => kt) rfl (Opd.func _) (oS (oT rfl) Opds.nil)) ?_
   refine zc ?_
   refine zi ?_
   refine zi ?_
   refine zi ?_
   refine zd ?_
   refine zd ?_
   refine zd ?_
   refine zb ?_
   refine nK ?_
   refine za ?_
   refine zc ?_
   refine zbe ?_
   refine zb ?_
   refine nK ?_
   refine n_cond _ rfl (fun hb => ?_) (fun hb => ?_)
   ·rw [if_pos (by simpa using hb)] at hK1
    refine nK ?_
    refine za ?_
    refine zj ?_
    refine zc ?_
    refine zb ?_
    refine nK ?_
    refine Next.weakS [2, 4, 8] [] (by rfl) (wK hC) wG wHE19a rfl (hK1)
   rw [if_neg (by simpa using hb)] at hK1
   have hla := hok (by simpa using hb)
   have hmm : okM ⟨1, x.px, la⟩ := ⟨by simp [inr], hox.px, by simp only [inr]; omega⟩
   have kb := rbind_c lc ⟨x.px, s.ro, la⟩ (by omega)
   generalize hlc2 : bindL lc ⟨x.px, s.ro, la⟩ = lc2 at *
   refine nK ?_
   refine za ?_
   refine zc ?_
   refine zd ?_
   refine zb ?_
   refine nK ?_
   refine za ?_
   refine zc ?_
   refine zf ?_
   refine zg ?_
   refine zb ?_
   refine nK ?_
   refine za ?_
   refine zf ?_
   refine zh ?_
   refine zf ?_
   refine zbc ?_
   refine zf ?_
   refine zh ?_
   refine zc ?_
   refine zcd ?_
   refine rpZ 138 rfl (op_call_pure (fun _ => kb) rfl (Opd.func _) (oS (oT rfl) (oS (oT rfl) Opds.nil))) ?_
   refine zf ?_
   refine zg ?_
   refine zb ?_
   refine nK ?_
   refine za ?_
   refine zf ?_
   refine zh ?_
   refine zk ?_
   refine zx ?_
   refine zb ?_
   refine nK ?_
   refine n_loop (ι := Nat) (fun j => ([(2, .ptr 0 6 0 0), (4, .ptr 1 6 0 0), (8, .sl 2 2 0 (out ++ (s.ps.take j).map fun n => msgS n 1 x.px la).length), (19, .fz (.cellp (encFe x))), (22, IV .i64 la), (98, .fz (VFe l)), (99, IV .i64 l.length), (100, IV .i64 i), (141, .fz (VW s.ps)), (142, IV .i64 s.ps.length), (143, IV .i64 j)], [(0, some (.flat 6 [encLs { s with fr := fr2, lc := lc2, rt := l }])), (1, some (.flat 6 [encLs zLst])), (2, OSn (out ++ (s.ps.take j).map fun n => msgS n 1 x.px la))], 3)) (fun j => j ≤ s.ps.length) (fun j => s.ps.length - j) 0 (Nat.zero_le _) ?_ ?_
   ·have e0 : (out ++ (s.ps.take 0).map fun n => msgS n 1 x.px la) = out := by simp
    rw [e0]
    refine Next.weakS [2, 4, 8] [19] (by rfl) (wK hC) wF wHE19a rfl (rel_intro)
   intro j hj K hKj
   have hol : (out ++ (s.ps.take j).map fun n => msgS n 1 x.px la).length ≤ 1000000 := by simp; omega
   refine nK ?_
   refine za ?_
   refine zn ?_
   refine zb ?_
   refine nK ?_
   refine n_cond _ rfl (fun hb => ?_) (fun hb => ?_)
   ·have hjl : j < s.ps.length := by simp at hb; omega
    have hrj := row_at' encW s.ps j hjl
    have hKj1 := hKj (j + 1) (by omega) (by omega)
    rw [map_take_succ _ hjl, ← List.append_assoc] at hKj1
    generalize s.ps[j] = n at *
    generalize (out ++ (s.ps.take j).map fun n => msgS n 1 x.px la) = o at *
    have km := message_c n 1 la x.px hmm
    unfold OSn at hKj1
    rw [apl, apm] at hKj1
    refine nK ?_
    refine za ?_
    refine zr ?_
    refine zt ?_
    refine zd ?_
    refine zb ?_
    refine nK ?_
    refine za ?_
    refine zc ?_
    refine zc ?_
    refine zbf ?_
    refine zcc ?_
    refine zc ?_
    refine rpZ 152 rfl (op_call_pure (fun _ => km) rfl (Opd.func _) (oS (oT rfl) (oS oC (oS (oT rfl) (oS (oT rfl) Opds.nil))))) ?_
    refine zz ?_
    refine zbi ?_
    refine zd ?_
    refine zb ?_
    refine nK ?_
    refine za ?_
    refine zj ?_
    refine zc ?_
    refine zb ?_
    refine nK ?_
    refine Next.weakS [2, 4, 8] [] (by rfl) (wK hC) wG wHE19a rfl (hKj1)
   have hje : j = s.ps.length := by simp at hb; omega
   rw [hje, List.take_length] at hol ⊢
   clear hKj
   refine nK ?_
   refine za ?_
   refine zj ?_
   refine zc ?_
   refine zb ?_
   refine nK ?_
   refine Next.weakS [2, 4, 8] [] (by rfl) (wK hC) wG wHE19a rfl (hK1)
  rw [if_pos (by simpa using hb)] at hK1
  have hmm : okM ⟨1, x.px, 3⟩ := ⟨by simp [inr], hox.px, by simp [inr]⟩
  have kb := rbind_c lc ⟨x.px, s.ro, 3⟩ (by omega)
  generalize hlc2 : bindL lc ⟨x.px, s.ro, 3⟩ = lc2 at *
  refine nK ?_
  refine za ?_
  refine zf ?_
  refine zh ?_
  refine zf ?_
  refine zbc ?_
  refine zf ?_
  refine zh ?_
  refine zc ?_
  refine zcd ?_
  refine rpZ 138 rfl (op_call_pure (fun _ => kb) rfl (Opd.func _) (oS (oT rfl) (oS (oT rfl) Opds.nil))) ?_
  refine zf ?_
  refine zg ?_
  refine zb ?_
  refine nK ?_
  refine za ?_
  refine zf ?_
  refine zh ?_
  refine zk ?_
  refine zx ?_
  refine zb ?_
  refine nK ?_
  refine n_loop (ι := Nat) (fun j => ([(2, .ptr 0 6 0 0), (4, .ptr 1 6 0 0), (8, .sl 2 2 0 (out ++ (s.ps.take j).map fun n => msgS n 1 x.px 3).length), (19, .fz (.cellp (encFe x))), (22, IV .i64 3), (98, .fz (VFe l)), (99, IV .i64 l.length), (100, IV .i64 i), (141, .fz (VW s.ps)), (142, IV .i64 s.ps.length), (143, IV .i64 j)], [(0, some (.flat 6 [encLs { s with fr := fr, lc := lc2, rt := l }])), (1, some (.flat 6 [encLs zLst])), (2, OSn (out ++ (s.ps.take j).map fun n => msgS n 1 x.px 3))], 3)) (fun j => j ≤ s.ps.length) (fun j => s.ps.length - j) 0 (Nat.zero_le _) ?_ ?_
  ·have e0 : (out ++ (s.ps.take 0).map fun n => msgS n 1 x.px 3) = out := by simp
   rw [e0]
   refine Next.weakS [2, 4, 8] [19] (by rfl) (wK hC) wF wHE19a rfl (rel_intro)
  intro j hj K hKj
  have hol : (out ++ (s.ps.take j).map fun n => msgS n 1 x.px 3).length ≤ 1000000 := by simp; omega
  refine nK ?_
  refine za ?_
  refine zn ?_
  refine zb ?_
  refine nK ?_
  refine n_cond _ rfl (fun hb => ?_) (fun hb => ?_)
  ·have hjl : j < s.ps.length := by simp at hb; omega
   have hrj := row_at' encW s.ps j hjl
   have hKj1 := hKj (j + 1) (by omega) (by omega)
   rw [map_take_succ _ hjl, ← List.append_assoc] at hKj1
   generalize s.ps[j] = n at *
   generalize (out ++ (s.ps.take j).map fun n => msgS n 1 x.px 3) = o at *
   have km := message_c n 1 3 x.px hmm
   unfold OSn at hKj1
   rw [apl, apm] at hKj1
   refine nK ?_
   refine za ?_
   refine zr ?_
   refine zt ?_
   refine zd ?_
   refine zb ?_
   refine nK ?_
   refine za ?_
   refine zc ?_
   refine zc ?_
   refine zbf ?_
   refine zcc ?_
   refine zc ?_
   refine rpZ 152 rfl (op_call_pure (fun _ => km) rfl (Opd.func _) (oS (oT rfl) (oS oC (oS (oT rfl) (oS (oT rfl) Opds.nil))))) ?_
   refine zz ?_
   refine zbi ?_
   refine zd ?_
   refine zb ?_
   refine nK ?_
   refine za ?_
   refine zj ?_
   refine zc ?_
   refine zb ?_
   refine nK ?_
   refine Next.weakS [2, 4, 8] [] (by rfl) (wK hC) wG wHE19a rfl (hKj1)
  have hje : j = s.ps.length := by simp at hb; omega
  rw [hje, List.take_length] at hol ⊢
  clear hKj
  refine nK ?_
  refine za ?_
  refine zj ?_
  refine zc ?_
  refine zb ?_
  refine nK ?_
  refine Next.weakS [2, 4, 8] [] (by rfl) (wK hC) wG wHE19a rfl (hK1)
 have hie : i = l.length := by simp at hb; omega
 subst hie
 clear hK
 generalize bdG s.ro s.ps l (fr, kp, out) l.length = d at *
 obtain ⟨fr, lc, out⟩ := d
 dsimp only at he1 he2 he3 ⊢
 refine nK ?_
 refine za ?_
 refine zm ?_
 refine zc ?_
 refine zg ?_
 refine zd ?_
 refine ze ?_
 refine zb ?_
 refine nK ?_
 refine Next.weakS [4] [5] (by rfl) (keeps0 hC _) (G' := [(4, .ptr 0 6 0 0), (5, .fz (VSn out)), (6, IV .i64 0)]) (H' := [(0, some (.flat 6 [encLs { s with fr := fr, lc := lc, rt := l }]))]) wF (by first | exact ⟨⟨rfl, rfl, .fflat _ _ _ rfl tW⟩, trivial⟩ | exact ⟨⟨rfl, rfl, .flat _ _ _ rfl tW⟩, trivial⟩ | exact ⟨wS, trivial⟩ | (exact wHE19a)) rfl ?_
 exact wO hC
theorem rhandle_c (s : Lst) (e : Lev) (h : okLs s) (he : okLe e) : Pure Tryz.prog 11 [.agg (encLs s), .agg (encEv e)] (.tup [.agg (encLs (handleF s e).1), VSn (handleF s e).2.1, If .i64 (handleF s e).2.2]) := by
 have ku := rup_c s e.pe h.lc (by have := h.nlc; omega) (by have := h.nps; omega)
 have kd := rdown_c s e.pe h.nrm (by have := h.nps; omega)
 have kt := rdata_c s e.pe e.da he.da (by have := he.nda; omega) (by have := h.nlc; omega) h.nrm (by have := h.nps; omega) (fun b hb => (h.lc b hb).la)
 have kr := rroutes_c s e.rt he.rt (by have := he.nrt; omega) h.lc h.nfr h.nlc h.nps
 unfold handleF
 have hdn : (downF s e.pe).2.1 = [] := by unfold downF; split <;> rfl
 generalize upF s e.pe = gu at *
 generalize downF s e.pe = gd at *
 generalize dataF s e.pe e.da = gt at *
 generalize routesF s e.rt = gr at *
 refine Meets.intro Tryz.func11 rfl (Nat.le_of_ble_eq_true rfl) fun C hC => ?_
 simp only [List.map, argEnv, Nat.reduceAdd]
 refine nK ?_
 refine za ?_
 refine zu ?_
 refine zu ?_
 refine zo ?_
 refine ze ?_
 refine ze ?_
 refine zb ?_
 refine nK ?_
 refine za ?_
 refine zf ?_
 refine zh ?_
 refine zb ?_
 refine nK ?_
 refine za ?_
 refine zba ?_
 refine zd ?_
 refine zb ?_
 refine nK ?_
 refine n_cond _ rfl (fun hb => ?_) (fun hb => ?_)
 ·rw [if_pos (by simpa using hb)]
  refine nK ?_
  refine za ?_
  refine zm ?_
  refine zf ?_
  refine zh ?_
  refine rpZ 16 rfl (op_call_pure (fun _ => ku) rfl (Opd.func _) (oS (oT rfl) (oS (oT rfl) Opds.nil))) ?_
  refine zi ?_
  refine zi ?_
  refine zi ?_
  refine zg ?_
  refine zd ?_
  refine zd ?_
  refine zb ?_
  refine nK ?_
  refine Next.weakS [4] [] (by rfl) (keeps0 hC _) (G' := [(4, .ptr 0 6 0 0), (5, .fz (VSn gu.2.1)), (6, IV .i64 gu.2.2)]) (H' := [(0, some (.flat 6 [encLs gu.1]))]) wF (by first | exact ⟨⟨rfl, rfl, .fflat _ _ _ rfl tW⟩, trivial⟩ | exact ⟨⟨rfl, rfl, .flat _ _ _ rfl tW⟩, trivial⟩ | exact ⟨wS, trivial⟩ | (exact wHE19a)) rfl ?_
  exact wO hC
 rw [if_neg (by simpa using hb)]
 refine nK ?_
 refine za ?_
 refine zba ?_
 refine zd ?_
 refine zb ?_
 refine nK ?_
 refine n_cond _ rfl (fun hb => ?_) (fun hb => ?_)
 ·rw [if_pos (by simpa using hb), hdn]
  refine nK ?_
  refine za ?_
  refine zm ?_
  refine zf ?_
  refine zh ?_
  refine rpZ 26 rfl (op_call_pure (fun _ => kd) rfl (Opd.func _) (oS (oT rfl) (oS (oT rfl) Opds.nil))) ?_
  refine zc ?_
  refine zi ?_
  refine zi ?_
  refine zo ?_
  refine zg ?_
  refine zd ?_
  refine zb ?_
  refine nK ?_
  refine za ?_
  refine zm ?_
  refine zc ?_
  refine zg ?_
  refine ze ?_
  refine zd ?_
  refine zb ?_
  refine nK ?_
  refine Next.weakS [4] [] (by rfl) (keeps0 hC _) (G' := [(4, .ptr 0 6 0 0), (5, .fz (VSn [])), (6, IV .i64 gd.2.2)]) (H' := [(0, some (.flat 6 [encLs gd.1]))]) wF (by first | exact ⟨⟨rfl, rfl, .fflat _ _ _ rfl tW⟩, trivial⟩ | exact ⟨⟨rfl, rfl, .flat _ _ _ rfl tW⟩, trivial⟩ | exact ⟨wS, trivial⟩ | (exact wHE19a)) rfl ?_
  exact wO hC
 rw [if_neg (by simpa using hb)]
 refine nK ?_
 refine za ?_
 refine zba ?_
 refine zd ?_
 refine zb ?_
 refine nK ?_
 refine n_cond _ rfl (fun hb => ?_) (fun hb => ?_)
 ·rw [if_pos (by simpa using hb)]
  refine nK ?_
  refine za ?_
  refine zm ?_
  refine zf ?_
  refine zh ?_
  refine zf ?_
  refine zh ?_
  refine rpZ 38 rfl (op_call_pure (fun _ => kt) rfl (Opd.func _) (oS (oT rfl) (oS (oT rfl) (oS (oT rfl) Opds.nil)))) ?_
  refine zi ?_
  refine zi ?_
  refine zi ?_
  refine zg ?_
  refine zd ?_
  refine zd ?_
  refine zb ?_
  refine nK ?_
  refine Next.weakS [4] [] (by rfl) (keeps0 hC _) (G' := [(4, .ptr 0 6 0 0), (5, .fz (VSn gt.2.1)), (6, IV .i64 gt.2.2)]) (H' := [(0, some (.flat 6 [encLs gt.1]))]) wF (by first | exact ⟨⟨rfl, rfl, .fflat _ _ _ rfl tW⟩, trivial⟩ | exact ⟨⟨rfl, rfl, .flat _ _ _ rfl tW⟩, trivial⟩ | exact ⟨wS, trivial⟩ | (exact wHE19a)) rfl ?_
  exact wO hC
 rw [if_neg (by simpa using hb)]
 refine nK ?_
 refine za ?_
 refine zba ?_
 refine zd ?_
 refine zb ?_
 refine nK ?_
 refine n_cond _ rfl (fun hb => ?_) (fun hb => ?_)
 ·rw [if_pos (by simpa using hb)]
  refine nK ?_
  refine za ?_
  refine zm ?_
  refine zf ?_
  refine zh ?_
  refine rpZ 47 rfl (op_call_pure (fun _ => kr) rfl (Opd.func _) (oS (oT rfl) (oS (oT rfl) Opds.nil))) ?_
  refine zi ?_
  refine zi ?_
  refine zi ?_
  refine zg ?_
  refine zd ?_
  refine zd ?_
  refine zb ?_
  refine nK ?_
  refine Next.weakS [4] [] (by rfl) (keeps0 hC _) (G' := [(4, .ptr 0 6 0 0), (5, .fz (VSn gr.2.1)), (6, IV .i64 gr.2.2)]) (H' := [(0, some (.flat 6 [encLs gr.1]))]) wF (by first | exact ⟨⟨rfl, rfl, .fflat _ _ _ rfl tW⟩, trivial⟩ | exact ⟨⟨rfl, rfl, .flat _ _ _ rfl tW⟩, trivial⟩ | exact ⟨wS, trivial⟩ | (exact wHE19a)) rfl ?_
  exact wO hC
 rw [if_neg (by simpa using hb)]
 refine nK ?_
 refine za ?_
 refine zbg ?_
 refine zg ?_
 refine ze ?_
 refine ze ?_
 refine zb ?_
 refine nK ?_
 refine Next.weakS [4] [] (by rfl) (keeps0 hC _) (G' := [(4, .ptr 0 6 0 0), (5, .fz (VSn [])), (6, IV .i64 15)]) (H' := [(0, some (.flat 6 [encLs zLst]))]) wF (by first | exact ⟨⟨rfl, rfl, .fflat _ _ _ rfl tW⟩, trivial⟩ | exact ⟨⟨rfl, rfl, .flat _ _ _ rfl tW⟩, trivial⟩ | exact ⟨wS, trivial⟩ | (exact wHE19a)) rfl ?_
 exact wO hC
theorem rout_c (s : Lst) (p : Pfx) (hn : s.rt.length ≤ 2000000) (hm : s.rm.length ≤ 2000000) (hh : ∀ x ∈ s.rt, x.hs.length ≤ 1000000) : Pure Tryz.prog 18 [.agg (encLs s), .agg (encP p)] (VLh (outF s p)) := by
 have kr := rroute_c s.rt p (by omega)
 rw [outF_eq]
 have hx : ((routeF s.rt p).getD zFe).hs.length ≤ 1000000 := by
  cases hf : routeF s.rt p with
  | none => simp [zFe]
  | some x => exact hh x (List.mem_of_find?_eq_some hf)
 generalize (routeF s.rt p).isSome = rb at *
 generalize (routeF s.rt p).getD zFe = x at *
 refine Meets.intro Tryz.func18 rfl (Nat.le_of_ble_eq_true rfl) fun C hC => ?_
 simp only [List.map, argEnv, Nat.reduceAdd]
 refine nK ?_
 refine za ?_
 refine zu ?_
 refine zu ?_
 refine ze ?_
 refine zb ?_
 refine nK ?_
 refine za ?_
 refine ze ?_
 refine zb ?_
 refine nK ?_
 refine Next.adopt 5 2 rfl ?_
 refine nK ?_
 refine za ?_
 refine zf ?_
 refine zh ?_
 refine zm ?_
 refine rpZ 16 rfl (op_call_pure (fun _ => kr) rfl (Opd.func _) (oS (oT rfl) (oS (oT rfl) Opds.nil))) ?_
 refine zc ?_
 refine zi ?_
 refine zi ?_
 refine zo ?_
 refine zg ?_
 refine zd ?_
 refine zb ?_
 refine nK ?_
 refine za ?_
 refine zf ?_
 refine zh ?_
 refine zk ?_
 refine zx ?_
 refine zb ?_
 refine nK ?_
 refine n_loop (ι := Nat) (fun i => ([(2, .fz (.cellp (encLs s))), (3, .fz (.cellp (encP p))), (5, .sl 0 2 0 (hopsF s p (x.hs.take i)).length), (20, .fz (VW x.hs)), (21, IV .i64 x.hs.length), (22, IV .i64 i)], [(0, OLh (hopsF s p (x.hs.take i)))], 1)) (fun i => i ≤ x.hs.length) (fun i => x.hs.length - i) 0 (Nat.zero_le _) ?_ ?_
 ·refine Next.weakS [5] [2, 3] (by rfl) (wK hC) wF wHE19a rfl (rel_intro)
 intro i hi K hK
 have hol := hopsF_len s p (x.hs.take i)
 have hol2 : (x.hs.take i).length ≤ x.hs.length := by simp; omega
 refine nK ?_
 refine za ?_
 refine zn ?_
 refine zb ?_
 refine nK ?_
 refine n_cond _ rfl (fun hb => ?_) (fun hb => ?_)
 ·have hlt : i < x.hs.length := by simp at hb; omega
  have hr1 := row_at' encW x.hs i hlt
  have hK1 := hK (i + 1) (by omega) (by omega)
  rw [hops_take s p hlt] at hK1
  generalize hopsF s p (x.hs.take i) = o at *
  generalize x.hs[i] = n at *
  have kf := rfind_c s.rm p n (by omega)
  rcases hf : findB s.rm p n with _ | la
  ·rw [hf] at kf hK1
   simp only [List.append_nil] at hK1
   refine nK ?_
   refine za ?_
   refine zr ?_
   refine zt ?_
   refine zd ?_
   refine zb ?_
   refine nK ?_
   refine za ?_
   refine zbf ?_
   refine zt ?_
   refine zv ?_
   refine zc ?_
   refine rpZ 31 rfl (op_call_pure (fun _ => kf) rfl (Opd.func _) (oS (oT rfl) (oS (oT rfl) (oS (oT rfl) Opds.nil)))) ?_
   refine zc ?_
   refine zi ?_
   refine zi ?_
   refine zd ?_
   refine zd ?_
   refine zb ?_
   refine nK ?_
   refine za ?_
   refine zc ?_
   refine zbj ?_
   refine zb ?_
   refine nK ?_
   refine n_cond _ rfl (fun hb => ?_) (fun hb => ?_)
   ·refine nK ?_
    refine za ?_
    refine zj ?_
    refine zc ?_
    refine zb ?_
    refine nK ?_
    refine Next.weakS [5] [] (by rfl) (wK hC) wG wHE19a rfl (hK1)
   simp at hb
  rw [hf] at kf hK1
  dsimp only at hK1
  unfold OLh at hK1
  rw [apl, apm] at hK1
  refine nK ?_
  refine za ?_
  refine zr ?_
  refine zt ?_
  refine zd ?_
  refine zb ?_
  refine nK ?_
  refine za ?_
  refine zbf ?_
  refine zt ?_
  refine zv ?_
  refine zc ?_
  refine rpZ 31 rfl (op_call_pure (fun _ => kf) rfl (Opd.func _) (oS (oT rfl) (oS (oT rfl) (oS (oT rfl) Opds.nil)))) ?_
  refine zc ?_
  refine zi ?_
  refine zi ?_
  refine zd ?_
  refine zd ?_
  refine zb ?_
  refine nK ?_
  refine za ?_
  refine zc ?_
  refine zbj ?_
  refine zb ?_
  refine nK ?_
  refine n_cond _ rfl (fun hb => ?_) (fun hb => ?_)
  ·simp at hb
  refine nK ?_
  refine za ?_
  refine zc ?_
  refine zba ?_
  refine zb ?_
  refine nK ?_
  refine n_cond _ rfl (fun hb => ?_) (fun hb => ?_)
  ·rw [if_pos (by simpa using hb)] at hK1
   refine nK ?_
   refine za ?_
   refine ze ?_
   refine zb ?_
   refine nK ?_
   refine za ?_
   refine zc ?_
   refine zc ?_
   refine zc ?_
   refine zbn ?_
   refine zz ?_
   refine zbi ?_
   refine zd ?_
   refine zb ?_
   refine nK ?_
   refine za ?_
   refine zj ?_
   refine zc ?_
   refine zb ?_
   refine nK ?_
   refine Next.weakS [5] [] (by rfl) (wK hC) wG wHE19a rfl (hK1)
  rw [if_neg (by simpa using hb)] at hK1
  refine nK ?_
  refine za ?_
  refine zc ?_
  refine zc ?_
  refine zc ?_
  refine zbn ?_
  refine zz ?_
  refine zbi ?_
  refine zd ?_
  refine zb ?_
  refine nK ?_
  refine za ?_
  refine zj ?_
  refine zc ?_
  refine zb ?_
  refine nK ?_
  refine Next.weakS [5] [] (by rfl) (wK hC) wG wHE19a rfl (hK1)
 have hie : i = x.hs.length := by simp at hb; omega
 rw [hie, List.take_length]
 refine nK ?_
 refine za ?_
 refine zc ?_
 refine zd ?_
 refine zb ?_
 refine nK ?_
 refine Next.weakS [] [4] (by rfl) (keeps0 hC _) (G' := [(4, .fz (VLh (hopsF s p x.hs)))]) (H' := []) wF trivial rfl ?_
 exact wO hC
end Go.Proofs.YtkofbemgpeagbaaGreat
