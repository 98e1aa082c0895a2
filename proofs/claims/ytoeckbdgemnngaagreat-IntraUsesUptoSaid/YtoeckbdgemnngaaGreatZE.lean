/- A part of the proof: I30, I31, IS3, LayI2, IS4, IS5, IS6, IS7, IS8, IS9, IS10, IS11, IS12, SRT1, IS13, IS14, IS15, IS16, IS17, IS18, I20, I21, I22. -/
import Derived.Test.YtoeckbdgemnngaaGreatZD
import Derived.Shelf.SlLaysF
import Derived.Ground.SlsfProg
import Derived.Shelf.SlSortCmp.Whole1
set_option linter.all false
namespace Go.Proofs.YtoeckbdgemnngaaGreat
open Go Go.RT Go.Proofs Go.Pl
set_option linter.all false
set_option maxRecDepth 20000
set_option maxHeartbeats 4000000
theorem wHI30a {α : Prop} (h : α := by repeat (first | exact trivial | refine ⟨wS, ?_⟩ | refine ⟨ent_same rfl rfl (rfEq rfl tU) tL, ?_⟩ | refine ⟨ent_same rfl rfl (flEq rfl (by first | (simp; done) | (simp; omega) | (simp [encIh]; done) | simp [maxC, minC])) trivial, ?_⟩)) : α := h
theorem wHI30b {α : Prop} (h : α := by repeat (first | exact trivial | refine ⟨⟨_, rfl, .inl ⟨rfl, rfl⟩⟩, ?_⟩)) : α := h
theorem nanU_c (a : Int) : Pure Tryz.prog 64 [If .u32 a] (Bf false) := by
 rw [show (false) = decide (a ≠ a) by simp]
 refine Meets.intro Tryz.func64 rfl (Nat.le_of_ble_eq_true rfl) fun C hC => ?_
 simp only [List.map, argEnv, Nat.reduceAdd]
 refine nK ?_
 refine za ?_
 refine ze ?_
 refine zb ?_
 refine nK ?_
 refine za ?_
 refine zc ?_
 refine zc ?_
 refine zbk ?_
 refine zd ?_
 refine zb ?_
 refine nK ?_
 exact wO hC
theorem cmpU_c (a b : Int) : Pure Tryz.prog 36 [If .u32 a, If .u32 b] (If .i64 (cmpI a b)) := by
 refine Meets.intro Tryz.func36 rfl (Nat.le_of_ble_eq_true rfl) fun C hC => ?_
 simp only [List.map, argEnv, Nat.reduceAdd]
 refine nK ?_
 refine za ?_
 refine ze ?_
 refine zb ?_
 refine nK ?_
 refine za ?_
 refine zc ?_
 refine rpZ 8 rfl (op_call_pure (fun _ => nanU_c _) rfl (Opd.func _) (oS (oT rfl) Opds.nil)) ?_
 refine zd ?_
 refine zb ?_
 refine nK ?_
 refine za ?_
 refine zc ?_
 refine rpZ 10 rfl (op_call_pure (fun _ => nanU_c _) rfl (Opd.func _) (oS (oT rfl) Opds.nil)) ?_
 refine zd ?_
 refine zb ?_
 refine nK ?_
 refine za ?_
 refine zc ?_
 refine zb ?_
 refine nK ?_
 refine n_cond _ rfl (fun hb => ?_) (fun hb => ?_)
 ·cases hb
 refine nK ?_
 refine za ?_
 refine zc ?_
 refine zb ?_
 refine nK ?_
 refine n_cond _ rfl (fun hb => ?_) (fun hb => ?_)
 ·cases hb
 unfold cmpI
 refine nK ?_
 refine za ?_
 refine zc ?_
 refine zc ?_
 refine zn ?_
 refine zb ?_
 refine nK ?_
 refine n_cond _ rfl (fun hb => ?_) (fun hb => ?_)
 ·rw [if_pos (by simpa using hb)]
  refine nK ?_
  refine za ?_
  refine ze ?_
  refine zb ?_
  refine nK ?_
  exact wO hC
 rw [if_neg (by simpa using hb)]
 refine nK ?_
 refine za ?_
 refine zc ?_
 refine zc ?_
 refine zbz ?_
 refine zb ?_
 refine nK ?_
 refine n_cond _ rfl (fun hb => ?_) (fun hb => ?_)
 ·rw [if_pos (by simpa using hb)]
  refine nK ?_
  refine za ?_
  refine ze ?_
  refine zb ?_
  refine nK ?_
  exact wO hC
 rw [if_neg (by simpa using hb)]
 refine nK ?_
 refine za ?_
 refine ze ?_
 refine zb ?_
 refine nK ?_
 exact wO hC
theorem nanA_c (a : Int) : Pure Tryz.prog 63 [If .u32 a] (Bf false) := by
 rw [show (false) = decide (a ≠ a) by simp]
 refine Meets.intro Tryz.func63 rfl (Nat.le_of_ble_eq_true rfl) fun C hC => ?_
 simp only [List.map, argEnv, Nat.reduceAdd]
 refine nK ?_
 refine za ?_
 refine ze ?_
 refine zb ?_
 refine nK ?_
 refine za ?_
 refine zc ?_
 refine zc ?_
 refine zbk ?_
 refine zd ?_
 refine zb ?_
 refine nK ?_
 exact wO hC
theorem cmpA_c (a b : Int) : Pure Tryz.prog 35 [If .u32 a, If .u32 b] (If .i64 (cmpI a b)) := by
 refine Meets.intro Tryz.func35 rfl (Nat.le_of_ble_eq_true rfl) fun C hC => ?_
 simp only [List.map, argEnv, Nat.reduceAdd]
 refine nK ?_
 refine za ?_
 refine ze ?_
 refine zb ?_
 refine nK ?_
 refine za ?_
 refine zc ?_
 refine rpZ 8 rfl (op_call_pure (fun _ => nanA_c _) rfl (Opd.func _) (oS (oT rfl) Opds.nil)) ?_
 refine zd ?_
 refine zb ?_
 refine nK ?_
 refine za ?_
 refine zc ?_
 refine rpZ 10 rfl (op_call_pure (fun _ => nanA_c _) rfl (Opd.func _) (oS (oT rfl) Opds.nil)) ?_
 refine zd ?_
 refine zb ?_
 refine nK ?_
 refine za ?_
 refine zc ?_
 refine zb ?_
 refine nK ?_
 refine n_cond _ rfl (fun hb => ?_) (fun hb => ?_)
 ·cases hb
 refine nK ?_
 refine za ?_
 refine zc ?_
 refine zb ?_
 refine nK ?_
 refine n_cond _ rfl (fun hb => ?_) (fun hb => ?_)
 ·cases hb
 unfold cmpI
 refine nK ?_
 refine za ?_
 refine zc ?_
 refine zc ?_
 refine zn ?_
 refine zb ?_
 refine nK ?_
 refine n_cond _ rfl (fun hb => ?_) (fun hb => ?_)
 ·rw [if_pos (by simpa using hb)]
  refine nK ?_
  refine za ?_
  refine ze ?_
  refine zb ?_
  refine nK ?_
  exact wO hC
 rw [if_neg (by simpa using hb)]
 refine nK ?_
 refine za ?_
 refine zc ?_
 refine zc ?_
 refine zbz ?_
 refine zb ?_
 refine nK ?_
 refine n_cond _ rfl (fun hb => ?_) (fun hb => ?_)
 ·rw [if_pos (by simpa using hb)]
  refine nK ?_
  refine za ?_
  refine ze ?_
  refine zb ?_
  refine nK ?_
  exact wO hC
 rw [if_neg (by simpa using hb)]
 refine nK ?_
 refine za ?_
 refine ze ?_
 refine zb ?_
 refine nK ?_
 exact wO hC
theorem orderI_c (a b : IHop) : Pure Tryz.prog 14 [.agg (encIh a), .agg (encIh b)] (If .i64 (cmpIh a b)) := by
 rw [show cmpIh a b = orI [cmpI a.ifc b.ifc, cmpI a.ad b.ad, cmpI a.ro b.ro] by
  unfold cmpIh fst3 orI orI orI orI
  by_cases h1 : cmpI a.ifc b.ifc ≠ 0
  ·rw [if_pos h1, if_pos h1]
  rw [if_neg h1, if_neg h1]
  by_cases h2 : cmpI a.ad b.ad ≠ 0
  ·rw [if_pos h2, if_pos h2]
  rw [if_neg h2, if_neg h2]
  by_cases h3 : cmpI a.ro b.ro ≠ 0
  ·rw [if_pos h3]
  rw [if_neg h3]; simpa using h3]
 have ho := or_c [cmpI a.ifc b.ifc, cmpI a.ad b.ad, cmpI a.ro b.ro] (by simp)
 refine Meets.intro Tryz.func14 rfl (Nat.le_of_ble_eq_true rfl) fun C hC => ?_
 simp only [List.map, argEnv, Nat.reduceAdd]
 refine nK ?_
 refine za ?_
 refine zu ?_
 refine zu ?_
 refine ze ?_
 refine zb ?_
 refine nK ?_
 refine s_draw mixed ?_
 refine zf ?_
 refine zh ?_
 refine zf ?_
 refine zh ?_
 refine rpZ 9 rfl (op_call_pure (fun _ => cmp_c _ _) rfl (Opd.func _) (oS (oT rfl) (oS (oT rfl) Opds.nil))) ?_
 refine zf ?_
 refine zh ?_
 refine zf ?_
 refine zh ?_
 refine rpZ 14 rfl (op_call_pure (fun _ => cmpA_c _ _) rfl (Opd.func _) (oS (oT rfl) (oS (oT rfl) Opds.nil))) ?_
 refine zf ?_
 refine zh ?_
 refine zf ?_
 refine zh ?_
 refine rpZ 19 rfl (op_call_pure (fun _ => cmpU_c _ _) rfl (Opd.func _) (oS (oT rfl) (oS (oT rfl) Opds.nil))) ?_
 refine zem ?_
 refine rpZ 21 rfl (op_call_pure (fun _ => ho) rfl (Opd.func _) (oS (oT rfl) Opds.nil)) ?_
 refine zd ?_
 refine zq ?_
 refine nK ?_
 exact wO hC
abbrev zCellsI : List FV := [If .i64 0, If .u32 0, If .u32 0]
theorem growI_f (n : Nat) (hn : n ≤ 8000000000000) : Meets Tryz.prog 30 ([.lit (.slice none 0 0), If .i64 n].map PV.fz) 0 [] (.sl 0 3 0 0) [(0, OIh [])] 1 := by
 refine Meets.intro Tryz.func30 rfl (Nat.le_of_ble_eq_true rfl) fun C hC => ?_
 simp only [List.map, argEnv, Nat.reduceAdd]
 refine Next.adoptC 0 3 rfl ?_
 refine nK ?_
 refine za ?_
 refine ze ?_
 refine zb ?_
 refine nK ?_
 refine za ?_
 refine zc ?_
 refine zbq ?_
 refine zb ?_
 refine nK ?_
 refine n_cond _ rfl (fun hb => ?_) (fun hb => ?_)
 ·exfalso; simp at hb; omega
 refine nK ?_
 refine za ?_
 refine zc ?_
 refine zc ?_
 refine rpZ 10 rfl (op_cap rfl (oT rfl)) ?_
 refine zc ?_
 refine rpZ 12 rfl (op_len_sl rfl (Opd.wc _ _ _ (oT rfl))) ?_
 refine zdg ?_
 refine zdg ?_
 refine zd ?_
 refine zb ?_
 refine nK ?_
 refine za ?_
 refine zc ?_
 refine zbu ?_
 refine zb ?_
 refine nK ?_
 refine n_cond _ rfl (fun hb => ?_) (fun hb => ?_)
 ·refine nK ?_
  refine za ?_
  refine zc ?_
  refine zc ?_
  refine rpZ 19 rfl (op_cap rfl (oT rfl)) ?_
  refine rpZ 20 rfl (op_slice_room (h := 0) rfl (oT rfl) (Bnd.yes _ _ _ _ _ (oT rfl) tQ) (by intro _; omega)) ?_
  refine zc ?_
  refine Run.eff (dd := some 22) rfl rfl (op_append_zg (k := n) (zs := zCellsI) rfl (oT rfl) (opdI (oT rfl) (by omega)) rfl rfl rfl rfl rfl (by simp) (by simp at hb; omega) (by simp at hb; omega) (by omega) (by omega)) ?_
  refine zc ?_
  refine rpZ 24 rfl (op_len_sl rfl (Opd.wc _ _ _ (oT rfl))) ?_
  refine rlZ 25 rfl (op_slice_view (l := 0) (h := 0) rfl (oT rfl) (Bnd.no _) (Bnd.yes _ _ _ _ _ (oT rfl) tQ) (by intro _; refine ⟨rfl, ?_⟩; simp)) ?_
  refine zd ?_
  refine zb ?_
  refine nK ?_
  refine za ?_
  refine zc ?_
  refine zd ?_
  refine zb ?_
  refine nK ?_
  refine Next.trim 1 0 rfl ?_
  refine Next.weakS [4] [] (by rfl) (keeps0 hC _) (G' := [(4, .sl 0 3 0 0)]) (H' := [(0, OIh [])]) wG wHI30a rfl ?_
  exact n_out1 rfl (by rfl) rfl rfl
 refine nK ?_
 refine za ?_
 refine zc ?_
 refine zd ?_
 refine zb ?_
 refine nK ?_
 refine Next.unwc 4 rfl ?_
 refine Next.weakS [4] [] (by rfl) (keeps0 hC _) (G' := [(4, .sl 0 3 0 0)]) (H' := [(0, OIh [])]) wG wHI30a rfl ?_
 exact n_out1 rfl (by rfl) rfl rfl
theorem fl_takeI {α : Type} {ls : List (List α)} {i : Nat} (h : i < ls.length) : (ls.take (i + 1)).flatten = (ls.take i).flatten ++ ls[i] := by
 rw [List.take_succ_eq_append_getElem h, List.flatten_append]; simp
theorem fl_leI {α : Type} (ls : List (List α)) (i : Nat) : (ls.take i).flatten.length ≤ ls.flatten.length := by
 have := congrArg List.length (congrArg List.flatten (List.take_append_drop i ls))
 rw [List.flatten_append, List.length_append] at this
 omega
abbrev encI1 (l : List IHop) : List FV := [VIh l]
theorem concatI_c (ls : List (List IHop)) (hn : ls.flatten.length ≤ 8000000000000) (hl0 : ls.length ≤ 9) : Meets Tryz.prog 12 ([.vals 1 (ls.map encI1)].map PV.fz) 0 [] (.sl 0 3 0 ls.flatten.length) [(0, OIh ls.flatten)] 1 := by
 have app2 : ∀ (o x : List IHop), (o ++ x).map encIh = o.map encIh ++ x.map encIh := fun o x => by simp
 refine Meets.intro Tryz.func12 rfl (Nat.le_of_ble_eq_true rfl) fun C hC => ?_
 simp only [List.map, argEnv, Nat.reduceAdd]
 refine nK ?_
 refine za ?_
 refine ze ?_
 refine zb ?_
 refine nK ?_
 refine za ?_
 refine ze ?_
 refine zb ?_
 refine nK ?_
 refine za ?_
 refine zc ?_
 refine zk ?_
 refine zx ?_
 refine zb ?_
 refine nK ?_
 refine n_loop (ι := Nat) (fun i => ([(0, .fz (.vals 1 (ls.map encI1))), (3, IV .i64 (ls.take i).flatten.length), (9, .fz (.vals 1 (ls.map encI1))), (10, IV .i64 ls.length), (11, IV .i64 i)], [], 0)) (fun i => i ≤ ls.length) (fun i => ls.length - i) 0 (Nat.zero_le _) ?_ ?_
 ·refine Next.weak [] [] (by rfl) (keeps0 hC _) wHI30b wHI30a wN rel_intro
 intro i hi K hK
 have hfl := fl_leI ls i
 refine nK ?_
 refine za ?_
 refine zn ?_
 refine zb ?_
 refine nK ?_
 refine n_cond _ rfl (fun hb => ?_) (fun hb => ?_)
 ·have hlt : i < ls.length := by simp at hb; omega
  have hr1 := row_at' encI1 ls i hlt
  have hK1 := hK (i + 1) (by omega) (by omega)
  have hf2 := fl_leI ls (i + 1)
  rw [fl_takeI hlt, List.length_append] at hK1 hf2
  generalize (ls.take i).flatten.length = m at *
  generalize ls[i] = x at *
  refine nK ?_
  refine za ?_
  refine zr ?_
  refine zt ?_
  refine zd ?_
  refine zb ?_
  refine nK ?_
  refine za ?_
  refine zc ?_
  refine zc ?_
  refine zk ?_
  refine zbm ?_
  refine zd ?_
  refine zb ?_
  refine nK ?_
  refine za ?_
  refine zc ?_
  refine zbq ?_
  refine zb ?_
  refine nK ?_
  refine n_cond _ rfl (fun hb => ?_) (fun hb => ?_)
  ·exfalso; simp at hb; omega
  refine nK ?_
  refine za ?_
  refine zj ?_
  refine zc ?_
  refine zb ?_
  refine nK ?_
  refine Next.weak [] [] (by rfl) (keeps0 hC _) wHI30b wHI30a wN hK1
 have hie : i = ls.length := by simp at hb; omega
 clear hK
 rw [hie, List.take_length]
 have hg := growI_f ls.flatten.length (by omega)
 refine nK ?_
 refine za ?_
 refine zc ?_
 refine Run.eff (dd := some 24) rfl rfl (op_call_fresh (fun _ => hg) rfl (Opd.func _) (oS oC (oS (oT rfl) Opds.nil))) ?_
 refine zd ?_
 refine zb ?_
 refine nK ?_
 refine za ?_
 refine zc ?_
 refine zk ?_
 refine zx ?_
 refine zb ?_
 refine nK ?_
 refine n_loop (ι := Nat) (fun i => ([(6, .sl 0 3 0 (ls.take i).flatten.length), (25, .fz (.vals 1 (ls.map encI1))), (26, IV .i64 ls.length), (27, IV .i64 i)], [(0, OIh (ls.take i).flatten)], 1)) (fun i => i ≤ ls.length) (fun i => ls.length - i) 0 (Nat.zero_le _) ?_ ?_
 ·refine Next.weakS [6] [] (by rfl) (wK hC) wG wHI30a rfl (rel_intro)
 intro i hi K hK
 have hfl := fl_leI ls i
 refine nK ?_
 refine za ?_
 refine zn ?_
 refine zb ?_
 refine nK ?_
 refine n_cond _ rfl (fun hb => ?_) (fun hb => ?_)
 ·have hlt : i < ls.length := by simp at hb; omega
  have hr1 := row_at' encI1 ls i hlt
  have hK1 := hK (i + 1) (by omega) (by omega)
  have hf2 := fl_leI ls (i + 1)
  unfold OIh at hK1
  rw [fl_takeI hlt, List.length_append] at hf2
  rw [fl_takeI hlt, List.length_append, app2] at hK1
  generalize (ls.take i).flatten = o at *
  generalize ls[i] = x at *
  refine nK ?_
  refine za ?_
  refine zr ?_
  refine zt ?_
  refine zd ?_
  refine zb ?_
  refine nK ?_
  refine za ?_
  refine zc ?_
  refine zc ?_
  refine zbi ?_
  refine zd ?_
  refine zb ?_
  refine nK ?_
  refine za ?_
  refine zj ?_
  refine zc ?_
  refine zb ?_
  refine nK ?_
  refine Next.weakS [6] [] (by rfl) (wK hC) wG wHI30a rfl (hK1)
 have hie : i = ls.length := by simp at hb; omega
 rw [hie, List.take_length]
 refine nK ?_
 refine za ?_
 refine zc ?_
 refine zd ?_
 refine zb ?_
 refine nK ?_
 exact wO hC
theorem concat2I_c (a b : List IHop) (hab : a.length + b.length ≤ 8000000000000) : Meets Tryz.prog 12 ([.vals 1 [[VIh a], [VIh b]]].map PV.fz) 0 [] (.sl 0 3 0 (a ++ b).length) [(0, OIh (a ++ b))] 1 := by
 have := concatI_c [a, b] (by simp; omega) (by simp)
 rwa [show [a, b].flatten = a ++ b by simp] at this
open Go Go.RT Go.Proofs Go.Pl
set_option maxRecDepth 20000
set_option maxHeartbeats 4000000
theorem wHI31a {α : Prop} (h : α := by repeat (first | exact trivial | refine ⟨wS, ?_⟩ | refine ⟨ent_same rfl rfl (rfEq rfl tU) tL, ?_⟩ | refine ⟨ent_same rfl rfl (flEq rfl (by first | (simp; done) | (simp; omega) | (simp [encIh]; done) | simp [maxC, minC])) trivial, ?_⟩)) : α := h
theorem wHI31b {α : Prop} (h : α := by repeat (first | exact trivial | refine ⟨⟨rfl, rfl, rfl, tL⟩, ?_⟩)) : α := h
theorem sortI_c (l : List IHop) (hn : l.length ≤ 8000000000000) : Meets Tryz.prog 13 [.sl 0 3 0 l.length, .clo 14 [] []] 1 [(0, OIh l)] (.fz (.tup [])) [(0, OIh (srtIh l))] 1 :=
 sort_meets (ρ := Tryz.sortHop_ren) Tryz.sortHop (k := 3) (by decide) (fun w => run_isAgg (t := 44) inferInstance w) (fun w => run_size (t := 44) inferInstance w) (ev := vIh) (fun _ => rfl) (fun x v hv => by simp [vIh] at hv; rcases hv with rfl | rfl | rfl <;> rfl) swo_ih (g := 14) (enters_of Tryz.func14 (by kernel_rfl) rfl) (fun x y => orderI_c x y) (l := l) (by omega)
theorem compactI_c (l : List IHop) (hn : l.length ≤ 8000000000000) : Meets Tryz.prog 15 [.sl 0 3 0 l.length] 1 [(0, OIh l)] (.fz (VIh (compL eqIh l))) [] 1 := by
 refine Meets.intro Tryz.func15 rfl (Nat.le_of_ble_eq_true rfl) fun C hC => ?_
 simp only [List.map, argEnv, Nat.reduceAdd]
 refine nK ?_
 refine za ?_
 refine ze ?_
 refine zb ?_
 refine nK ?_
 refine za ?_
 refine zc ?_
 refine zbl ?_
 refine zbq ?_
 refine zb ?_
 refine nK ?_
 refine n_cond _ rfl (fun hb => ?_) (fun hb => ?_)
 ·have h2 : l.length < 2 := by simp at hb; omega
  have e : compL eqIh l = l := by
   match l, h2 with
   | [], _ => rfl
   | [x], _ => rfl
  rw [e]
  refine nK ?_
  refine za ?_
  refine zc ?_
  refine zd ?_
  refine zb ?_
  refine nK ?_
  refine Next.weakS [2] [2] (by rfl) (keepsN hC _ rfl) (G' := [(2, .fz (VIh l))]) (H' := []) wF trivial rfl ?_
  exact n_out1 rfl (by rfl) rfl rfl
 have h2 : 2 ≤ l.length := by simp at hb; omega
 refine nK ?_
 refine za ?_
 refine ze ?_
 refine zb ?_
 refine nK ?_
 refine n_loop (ι := Nat) (fun k => ([(0, .sl 0 3 0 l.length), (3, IV .i64 k)], [(0, OIh l)], 1)) (fun k => 1 ≤ k ∧ k ≤ l.length ∧ compL eqIh (l.take k) = l.take k) (fun k => l.length - k) 1 ⟨Nat.le_refl _, by omega, compL_one eqIh l (by omega)⟩ ?_ ?_
 ·refine Next.weakS [0] [] (by rfl) (wK hC) wG wHI31a rfl (rel_intro)
 intro k ⟨hk1, hk2, hc⟩ K hK
 refine nK ?_
 refine za ?_
 refine zc ?_
 refine zc ?_
 refine zbl ?_
 refine zn ?_
 refine zb ?_
 refine nK ?_
 refine n_cond _ rfl (fun hb => ?_) (fun hb => ?_)
 ·have hlt : k < l.length := by simp at hb; omega
  have hr1 := row_at' encIh l k hlt
  have hr2 := row_at' encIh l (k - 1) (by omega)
  have hst := compL_take eqIh l k (by omega) hlt
  refine nK ?_
  refine s_draw mixed ?_
  refine zc ?_
  refine zc ?_
  refine rpZ 18 rfl (op_idx_sl0 k rfl (oT rfl) (oT rfl) (by intro _; constructor <;> omega)) ?_
  refine zm ?_
  refine zc ?_
  refine zc ?_
  refine zbv ?_
  refine rpZ 23 rfl (op_idx_sl0 (k - 1) rfl (oT rfl) (oT rfl) (by intro _; constructor <;> omega)) ?_
  refine zm ?_
  refine zcp ?_
  refine zq ?_
  refine nK ?_
  refine n_cond _ rfl (fun hb => ?_) (fun hb => ?_)
  ·have he : eqIh l[k] l[k - 1] = true := (eqFs_encIh _ _).symm.trans hb
   rw [he, cond_true, List.append_nil, hc] at hst
   refine nK ?_
   refine za ?_
   refine zc ?_
   refine zc ?_
   refine rlZ 28 rfl (op_slice_view rfl (oT rfl) (Bnd.yes _ _ _ _ _ (oT rfl) tQ) (Bnd.no _) tT) ?_
   refine zd ?_
   refine zb ?_
   refine nK ?_
   refine za ?_
   refine ze ?_
   refine zb ?_
   refine nK ?_
   refine n_loop (ι := Nat × List IHop) (fun g => ([(0, .sl 0 3 0 l.length), (3, IV .i64 g.2.length), (4, .sl 0 3 k (l.length - k)), (5, IV .i64 g.1)], [(0, OIh (g.2 ++ l.drop g.2.length))], 1)) (fun g => 1 ≤ g.1 ∧ k + g.1 ≤ l.length ∧ g.2 = compL eqIh (l.take (k + g.1))) (fun g => l.length - (k + g.1)) (1, l.take k) ⟨Nat.le_refl _, by dsimp only; omega, hst.symm⟩ ?_ ?_
   ·have e1 : (l.take k).length = k := by simp; omega
    simp only [e1, List.take_append_drop, Nat.zero_add]
    refine Next.weakS [0] [] (by rfl) (wK hC) wG wHI31a rfl (rel_intro)
   intro ⟨j, c⟩ ⟨hj1, hj2, hcd⟩ K2 hK2
   simp only at hj1 hj2 hcd
   dsimp only
   have hcl := compL_len_lt eqIh l k (by omega) hlt he (k + j) (by omega) hj2
   rw [← hcd] at hcl
   have hkl := kept_len c l (by omega)
   refine nK ?_
   refine za ?_
   refine zc ?_
   refine zc ?_
   refine zbl ?_
   refine zn ?_
   refine zb ?_
   refine nK ?_
   refine n_cond _ rfl (fun hb => ?_) (fun hb => ?_)
   ·have hjl : k + j < l.length := by simp at hb; omega
    have hst2 := compL_take eqIh l (k + j) (by omega) hjl
    rw [← hcd] at hst2
    have hK3 := fun c' h => hK2 (j + 1, c') ⟨by dsimp only; omega, by dsimp only; omega, h⟩ (by dsimp only; omega)
    have g1 := kept_row encIh c l (k + j) (by omega) hjl
    have g2 := kept_row encIh c l (k + j - 1) (by omega) (by omega)
    have g2' : ((c ++ l.drop c.length).map encIh)[k + (j - 1)]? = some (encIh l[k + j - 1]) := by rw [← Nat.add_sub_assoc hj1]; exact g2
    have g3 := kept_row encIh c l c.length (Nat.le_refl _) (by omega)
    have hset := set_kept c l l[k + j] (by omega)
    refine nK ?_
    refine s_draw mixed ?_
    refine zc ?_
    refine zc ?_
    refine rpZ 37 rfl (op_idx_sl j rfl (oT rfl) (oT rfl) (by intro _; constructor <;> omega)) ?_
    refine zm ?_
    refine zc ?_
    refine zc ?_
    refine zbv ?_
    refine rpZ 42 rfl (op_idx_sl (j - 1) rfl (oT rfl) (oT rfl) (by intro _; constructor <;> omega)) ?_
    refine zm ?_
    refine zcq ?_
    refine zq ?_
    refine nK ?_
    refine n_cond _ rfl (fun hb => ?_) (fun hb => ?_)
    ·rw [eqFs_encIh] at hb; have hne : eqIh l[k + j] l[k + j - 1] = false := by simpa [eqIh] using hb
     rw [hne, cond_false] at hst2
     have hK4 := hK3 (c ++ [l[k + j]]) hst2.symm
     have e4 : (c ++ [l[k + j]]).length = c.length + 1 := by simp
     rw [← hset, e4] at hK4
     refine nK ?_
     refine za ?_
     refine zc ?_
     refine zc ?_
     refine zc ?_
     refine zc ?_
     refine rpZ 49 rfl (op_idx_sl j rfl (oT rfl) (oT rfl) (by intro _; constructor <;> omega)) ?_
     refine zm ?_
     refine rpZ 51 rfl (op_idx_sl0 c.length rfl (oT rfl) (oT rfl) (by intro _; constructor <;> omega)) ?_
     refine Run.eff (dd := none) rfl rfl (op_store_flat rfl (oT rfl) (oT rfl) tC rfl rfl g3 tS) ?_
     refine zb ?_
     refine nK ?_
     refine za ?_
     refine zc ?_
     refine zj ?_
     refine zd ?_
     refine zb ?_
     refine nK ?_
     refine za ?_
     refine zc ?_
     refine zj ?_
     refine zd ?_
     refine zb ?_
     refine nK ?_
     refine Next.weakS [0] [] (by rfl) (wK hC) wG wHI31a rfl (hK4)
    rw [eqFs_encIh] at hb; have hne : eqIh l[k + j] l[k + j - 1] = true := by simpa [eqIh] using hb
    rw [hne, cond_true, List.append_nil] at hst2
    refine nK ?_
    refine za ?_
    refine zc ?_
    refine zj ?_
    refine zd ?_
    refine zb ?_
    refine nK ?_
    refine Next.weakS [0] [] (by rfl) (wK hC) wG wHI31a rfl ((hK3 c hst2.symm))
   have hje : k + j = l.length := by simp at hb; omega
   rw [hje, List.take_length] at hcd
   rw [← hcd]
   refine nK ?_
   refine za ?_
   refine zc ?_
   refine zc ?_
   refine rlZ 56 rfl (op_slice_view rfl (oT rfl) (Bnd.yes _ _ _ _ _ (oT rfl) tQ) (Bnd.no _) (by intro _; refine ⟨rfl, ?_⟩; rw [List.length_map, hkl]; omega)) ?_
   refine Run.eff (dd := none) rfl rfl (op_clear rfl (oT rfl) rfl rfl rfl rfl (by rw [List.length_map, hkl] <;> omega)) ?_
   refine zb ?_
   refine nK ?_
   refine za ?_
   refine zc ?_
   refine zc ?_
   refine rlZ 59 rfl (op_slice_view rfl (oT rfl) (Bnd.no _) (Bnd.yes _ _ _ _ _ (oT rfl) tQ) (by intro _; refine ⟨rfl, ?_⟩; simp; try omega)) ?_
   refine zd ?_
   refine zb ?_
   refine nK ?_
   refine Next.weakS [2] [2] (by rfl) (keepsN hC _ rfl) (G' := [(2, .fz (VIh c))]) (H' := []) ⟨⟨_, rfl, .inr ⟨_, rfl, .sl _ _ _ _ _ _ rfl rfl (by simp) (by simp)⟩⟩, trivial⟩ trivial rfl ?_
   exact n_out1 rfl (by rfl) rfl rfl
  have he : eqIh l[k] l[k - 1] = false := (eqFs_encIh _ _).symm.trans hb
  rw [he, cond_false, hc, ← List.take_succ_eq_append_getElem hlt] at hst
  refine nK ?_
  refine za ?_
  refine zc ?_
  refine zj ?_
  refine zd ?_
  refine zb ?_
  refine nK ?_
  refine Next.weakS [0] [] (by rfl) (wK hC) wG wHI31a rfl ((hK (k + 1) ⟨by omega, by omega, hst⟩ (by omega)))
 have hie : k = l.length := by simp at hb; omega
 rw [take_len_eq' hie] at hc
 rw [hc]
 refine nK ?_
 refine za ?_
 refine zc ?_
 refine zd ?_
 refine zb ?_
 refine nK ?_
 refine Next.weakS [2] [2] (by rfl) (keepsN hC _ rfl) (G' := [(2, .fz (VIh l))]) (H' := []) wF trivial rfl ?_
 exact n_out1 rfl (by rfl) rfl rfl
theorem mergeI_c (a b : List IHop) (hab : a.length + b.length ≤ 8000000000000) : Pure Tryz.prog 6 [VIh a, VIh b] (VIh (mergeH a b)) := by
 have hcc := concat2I_c a b hab
 have hln : (a ++ b).length ≤ 8000000000000 := by rw [List.length_append]; omega
 have hso := sortI_c (a ++ b) hln
 have hsl := srtIh_len (a ++ b)
 have hco := compactI_c (srtIh (a ++ b)) (by omega)
 rw [hsl, srtIh_comp] at hco
 unfold mergeH
 refine Meets.intro Tryz.func6 rfl (Nat.le_of_ble_eq_true rfl) fun C hC => ?_
 simp only [List.map, argEnv, Nat.reduceAdd]
 refine nK ?_
 refine za ?_
 refine ze ?_
 refine zb ?_
 refine nK ?_
 refine za ?_
 refine zc ?_
 refine zc ?_
 refine zcw ?_
 refine Run.eff (dd := some 9) rfl rfl (op_call_fresh (fun _ => hcc) rfl (Opd.func _) (oS (oT rfl) Opds.nil)) ?_
 refine zd ?_
 refine zb ?_
 refine nK ?_
 refine za ?_
 refine zc ?_
 refine Run.eff (dd := some 11) rfl rfl (op_call (n := 1) (n' := 1) [0] (fun _ => hso) rfl (Opd.func _) (oS (oT rfl) (oS (Opd.func _) Opds.nil)) rfl rfl (Lent.of rfl rfl wHI31b rfl) rfl rfl rfl rfl rfl) ?_
 refine zb ?_
 refine nK ?_
 refine za ?_
 refine zc ?_
 refine Run.eff (dd := some 13) rfl rfl (op_call (n := 1) (n' := 1) [0] (fun _ => hco) rfl (Opd.func _) (oS (oT rfl) Opds.nil) rfl rfl (Lent.of rfl rfl wHI31b rfl) rfl rfl rfl rfl rfl) ?_
 refine zd ?_
 refine zb ?_
 refine nK ?_
 exact wO hC
open Go Go.RT Go.Proofs Go.Pl
set_option maxRecDepth 20000
set_option maxHeartbeats 4000000
end Go.Proofs.YtoeckbdgemnngaaGreat
/- Contracts of the library, laid at this translation. Written by the kit's printer. -/
namespace Go.Proofs.YtoeckbdgemnngaaGreat
open Go Go.Proofs Go.Shelf
def Tryz.sortFI_ren : Go.Shelf.Ren := ⟨fun | 6 => 123 | 15 => 32 | 14 => 153 | 28 => 60 | 29 => 61 | 20 => 172 | 21 => 173 | 22 => 174 | 23 => 175 | 24 => 176 | 25 => 177 | 26 => 178 | 27 => 179 | 46 => 184 | 47 => 98 | 48 => 99 | 49 => 185 | 50 => 186 | 57 => 189 | n => n, fun | 22 => 76 | 24 => 3 | 25 => 106 | 3 => 3 | 39 => 104 | 0 => 0 | 53 => 27 | 55 => 138 | 4 => 4 | 46 => 130 | 45 => 129 | 50 => 134 | 5 => 5 | 9 => 9 | 66 => 178 | 70 => 182 | 76 => 214 | 77 => 215 | n => n, fun | n => n⟩
theorem Tryz.sortFI : Go.Proofs.SlLaysF.n6 Tryz.prog Tryz.sortFI_ren := {
  mixed := by kernel_rfl
  f6 := ⟨Tryz.f123.name, by decide, Tryz.func123.trans (congrArg some (by kernel_rfl))⟩
  f14 := ⟨Tryz.f153.name, by decide, Tryz.func153.trans (congrArg some (by kernel_rfl))⟩
  f15 := Tryz.func32.trans (congrArg some (by kernel_rfl))
  f20 := ⟨Tryz.f172.name, by decide, Tryz.func172.trans (congrArg some (by kernel_rfl))⟩
  f21 := ⟨Tryz.f173.name, by decide, Tryz.func173.trans (congrArg some (by kernel_rfl))⟩
  f22 := ⟨Tryz.f174.name, by decide, Tryz.func174.trans (congrArg some (by kernel_rfl))⟩
  f23 := ⟨Tryz.f175.name, by decide, Tryz.func175.trans (congrArg some (by kernel_rfl))⟩
  f24 := ⟨Tryz.f176.name, by decide, Tryz.func176.trans (congrArg some (by kernel_rfl))⟩
  f25 := ⟨Tryz.f177.name, by decide, Tryz.func177.trans (congrArg some (by kernel_rfl))⟩
  f26 := ⟨Tryz.f178.name, by decide, Tryz.func178.trans (congrArg some (by kernel_rfl))⟩
  f27 := ⟨Tryz.f179.name, by decide, Tryz.func179.trans (congrArg some (by kernel_rfl))⟩
  f28 := Tryz.func60.trans (congrArg some (by kernel_rfl))
  f29 := Tryz.func61.trans (congrArg some (by kernel_rfl))
  f46 := ⟨Tryz.f184.name, by decide, Tryz.func184.trans (congrArg some (by kernel_rfl))⟩
  f47 := Tryz.func98.trans (congrArg some (by kernel_rfl))
  f48 := Tryz.func99.trans (congrArg some (by kernel_rfl))
  f49 := ⟨Tryz.f185.name, by decide, Tryz.func185.trans (congrArg some (by kernel_rfl))⟩
  f50 := ⟨Tryz.f186.name, by decide, Tryz.func186.trans (congrArg some (by kernel_rfl))⟩
  f57 := ⟨Tryz.f189.name, by decide, Tryz.func189.trans (congrArg some (by kernel_rfl))⟩
  t0 := Tryz.underlying0
  a0 := Tryz.isAgg0
  z0 := Tryz.sizeOf0
  v0 := Tryz.zeroValue0
  t3 := Tryz.underlying3
  a3 := Tryz.isAgg3
  z3 := Tryz.sizeOf3
  v3 := Tryz.zeroValue3
  t4 := Tryz.underlying4
  a4 := Tryz.isAgg4
  z4 := Tryz.sizeOf4
  v4 := Tryz.zeroValue4
  t5 := Tryz.underlying5
  a5 := Tryz.isAgg5
  z5 := Tryz.sizeOf5
  v5 := Tryz.zeroValue5
  t9 := Tryz.underlying9
  a9 := Tryz.isAgg9
  z9 := Tryz.sizeOf9
  v9 := Tryz.zeroValue9
  t22 := Tryz.underlying76
  a22 := Tryz.isAgg76
  z22 := Tryz.sizeOf76
  v22 := Tryz.zeroValue76
  a24 := Tryz.isAgg3
  z24 := Tryz.sizeOf3
  t25 := Tryz.underlying106
  a25 := Tryz.isAgg106
  z25 := Tryz.sizeOf106
  v25 := Tryz.zeroValue106
  t39 := Tryz.underlying104
  a39 := Tryz.isAgg104
  z39 := Tryz.sizeOf104
  v39 := Tryz.zeroValue104
  t45 := Tryz.underlying129
  a45 := Tryz.isAgg129
  z45 := Tryz.sizeOf129
  v45 := Tryz.zeroValue129
  t46 := Tryz.underlying130
  a46 := Tryz.isAgg130
  z46 := Tryz.sizeOf130
  v46 := Tryz.zeroValue130
  t50 := Tryz.underlying134
  a50 := Tryz.isAgg134
  z50 := Tryz.sizeOf134
  v50 := Tryz.zeroValue134
  t53 := Tryz.underlying27
  a53 := Tryz.isAgg27
  z53 := Tryz.sizeOf27
  v53 := Tryz.zeroValue27
  t55 := Tryz.underlying138
  a55 := Tryz.isAgg138
  z55 := Tryz.sizeOf138
  v55 := Tryz.zeroValue138
  t66 := Tryz.underlying178
  a66 := Tryz.isAgg178
  z66 := Tryz.sizeOf178
  v66 := Tryz.zeroValue178
  t70 := Tryz.underlying182
  a70 := Tryz.isAgg182
  z70 := Tryz.sizeOf182
  v70 := Tryz.zeroValue182
  t76 := Tryz.underlying214
  a76 := Tryz.isAgg214
  z76 := Tryz.sizeOf214
  v76 := Tryz.zeroValue214
  t77 := Tryz.underlying215
  a77 := Tryz.isAgg215
  z77 := Tryz.sizeOf215
  v77 := Tryz.zeroValue215 }
open Go Go.RT Go.Proofs Go.Pl
set_option maxRecDepth 20000
set_option maxHeartbeats 4000000
abbrev OT (l : List Nat) : Option Ob := some (.flat 1 (l.map encT))
abbrev HH (h : Hq) : Hp := [(0, some (.refs 3 [[.sl 1 1 0 h.it.length, .sl 2 1 0 h.pl.length, .sl 3 1 0 h.ky.length]])), (1, OT h.it), (2, OI h.pl), (3, OI h.ky)]
theorem row_of {α : Type} (f : α → List FV) (l : List α) (i : Nat) (d : α) (h : i < l.length) : (l.map f)[i]? = some (f (l.getD i d)) := by
 rw [List.getElem?_map, List.getElem?_eq_getElem h, List.getD_eq_getElem?_getD, List.getElem?_eq_getElem h]; rfl
theorem less_c (h : Hq) (o : h.Ok) (i j : Nat) (hi : i < h.it.length) (hj : j < h.it.length) : Meets Tryz.prog 148 [.ptr 0 3 0 0, IV .i64 i, IV .i64 j] 4 (HH h) (BV (lessH h i j)) (HH h) 4 := by
 have ri := row_of encT h.it i 0 hi
 have rj := row_of encT h.it j 0 hj
 have hv := o.item hi
 have hw := o.item hj
 have hol := o.len
 unfold Hq.item at hv hw
 unfold lessH Hq.item
 generalize h.it.getD i 0 = v at *
 generalize h.it.getD j 0 = w at *
 have rv := row_of encN h.ky v 0 (by omega)
 have rw_ := row_of encN h.ky w 0 (by omega)
 unfold Hq.key
 generalize h.ky.getD v 0 = a at *
 generalize h.ky.getD w 0 = b at *
 refine Meets.intro Tryz.func148 rfl (Nat.le_of_ble_eq_true rfl) fun C hC => ?_
 simp only [List.map, argEnv, Nat.reduceAdd]
 refine nK2 ?_
 refine za ?_
 refine ze ?_
 refine zb ?_
 refine nK2 ?_
 refine s_draw mixed ?_
 refine zc ?_
 refine zw ?_
 refine zf ?_
 refine zbb ?_
 refine zc ?_
 refine zdz ?_
 refine zh ?_
 refine zc ?_
 refine zw ?_
 refine zf ?_
 refine zbb ?_
 refine zc ?_
 refine zdz ?_
 refine zh ?_
 refine zd ?_
 refine zd ?_
 refine zq ?_
 refine nK2 ?_
 refine s_draw mixed ?_
 refine zc ?_
 refine zw ?_
 refine zf ?_
 refine zbb ?_
 refine zc ?_
 refine zdz ?_
 refine zh ?_
 refine zc ?_
 refine zw ?_
 refine zf ?_
 refine zbb ?_
 refine zc ?_
 refine zdz ?_
 refine zh ?_
 refine zn ?_
 refine zc ?_
 refine zl ?_
 refine zdj ?_
 refine zck ?_
 refine zdk ?_
 refine zl ?_
 refine zei ?_
 refine zs ?_
 refine zl ?_
 refine zdj ?_
 refine zck ?_
 refine zdk ?_
 refine zl ?_
 refine zei ?_
 refine zs ?_
 refine zbp ?_
 refine zce ?_
 refine zl ?_
 refine zl ?_
 refine zcv ?_
 refine zco ?_
 refine zbd ?_
 refine zd ?_
 refine zq ?_
 refine nK2 ?_
 refine Next.weak [0, 1, 2, 3] [] (by rfl) (keepsN hC _ rfl) (G' := [(6, .fz _)]) (H' := HH h) wG wR wN ?_
 exact n_out1 rfl (by rfl) rfl rfl
theorem swap_c (h : Hq) (o : h.Ok) (i j : Nat) (hi : i < h.it.length) (hj : j < h.it.length) : Meets Tryz.prog 149 [.ptr 0 3 0 0, IV .i64 i, IV .i64 j] 4 (HH h) (.fz (.tup [])) (HH (swapH h i j)) 4 := by
 have ri := row_of encT h.it i 0 hi
 have rj := row_of encT h.it j 0 hj
 have hv := o.item hi
 have hw := o.item hj
 unfold Hq.item at hv hw
 unfold swapH Hq.item
 have ril : i < (h.it.map encT).length := by rw [List.length_map]; exact hi
 have rjl : j < (h.it.map encT).length := by rw [List.length_map]; exact hj
 generalize h.it.getD i 0 = v at *
 generalize h.it.getD j 0 = w at *
 have rv := row_of encN h.pl v 0 (by omega)
 have rw_ := row_of encN h.pl w 0 (by omega)
 have s1 : ((h.it.map encT).set i (encT w))[j]? = some (if i = j then encT w else encT w) := by
  rw [List.getElem?_set]; by_cases e : i = j
  ·subst e; rw [if_pos rfl, if_pos ril, if_pos rfl]
  rw [if_neg e, if_neg e]; exact rj
 have s2 : (((h.it.map encT).set i (encT w)).set j (encT v))[i]? = some (encT w) := by
  rw [List.getElem?_set]; by_cases e : j = i
  ·subst e
   rw [ri] at rj; injection rj with e2
   rw [if_pos rfl, if_pos (by simpa using ril), e2]
  rw [if_neg e, List.getElem?_set, if_pos rfl, if_pos ril]
 have s3 : (((h.it.map encT).set i (encT w)).set j (encT v))[j]? = some (encT v) := by
  rw [List.getElem?_set, if_pos rfl, if_pos (by simpa using rjl)]
 have s4 : ((h.pl.map encN).set w [If .i64 (i : Int)])[v]? = some (((h.pl.map encN).set w [If .i64 (i : Int)]).getD v []) := by
  rw [List.getD_eq_getElem?_getD, List.getElem?_eq_getElem (by simp; omega)]; rfl
 have l4 : ∀ z : List FV, ((h.pl.map encN).set w [If .i64 (i : Int)])[v]? = some z → z.length = 1 := fun z hz => by
  rcases List.mem_or_eq_of_mem_set (List.mem_of_getElem? hz) with h1 | rfl
  ·obtain ⟨q, _, rfl⟩ := List.mem_map.1 h1; rfl
  rfl
 have l5 := l4 _ s4
 generalize ((h.pl.map encN).set w [If .i64 (i : Int)]).getD v [] = z at *
 simp only [ite_self] at s1
 refine Meets.intro Tryz.func149 rfl (Nat.le_of_ble_eq_true rfl) fun C hC => ?_
 simp only [List.map, argEnv, Nat.reduceAdd]
 refine nK2 ?_
 refine s_draw mixed ?_
 refine zc ?_
 refine zw ?_
 refine zf ?_
 refine zbb ?_
 refine zc ?_
 refine zc ?_
 refine zw ?_
 refine zf ?_
 refine zbb ?_
 refine zc ?_
 refine zc ?_
 refine zw ?_
 refine zf ?_
 refine zbb ?_
 refine zc ?_
 refine zdz ?_
 refine zh ?_
 refine zc ?_
 refine zw ?_
 refine zf ?_
 refine zbb ?_
 refine zc ?_
 refine zdz ?_
 refine zh ?_
 refine zdz ?_
 refine Run.effW (dd := none) rfl rfl (op_store_flat rfl (oT rfl) (oT rfl) tC rfl rfl ri tS) (by first | exact ext_call | exact tE) ?_
 refine zdz ?_
 refine Run.effW (dd := none) rfl rfl (op_store_flat rfl (oT rfl) (oT rfl) tC rfl rfl s1 tS) (by first | exact ext_call | exact tE) ?_
 refine zq ?_
 refine nK2 ?_
 refine nK2 ?_
 refine s_draw mixed ?_
 refine zc ?_
 refine zw ?_
 refine zf ?_
 refine zbb ?_
 refine zc ?_
 refine zw ?_
 refine zf ?_
 refine zbb ?_
 refine zc ?_
 refine rpZ 41 rfl (op_idx_sl0 i rfl (oT rfl) (oT rfl) tD) ?_
 refine rlZ 42 rfl (op_load1_flat rfl (oT rfl) (by intro _; exact ⟨rfl, s2⟩) rfl) ?_
 refine zc ?_
 refine zw ?_
 refine zf ?_
 refine zbb ?_
 refine zc ?_
 refine zw ?_
 refine zf ?_
 refine zbb ?_
 refine zc ?_
 refine rpZ 52 rfl (op_idx_sl0 j rfl (oT rfl) (oT rfl) tD) ?_
 refine rlZ 53 rfl (op_load1_flat rfl (oT rfl) (by intro _; exact ⟨rfl, s3⟩) rfl) ?_
 refine zc ?_
 refine zc ?_
 refine zdz ?_
 refine Run.effW (dd := none) rfl rfl (op_store_flat rfl (oT rfl) (oT rfl) tC rfl rfl rw_ tS) (by first | exact ext_call | exact tE) ?_
 refine zdz ?_
 refine Run.effW (dd := none) rfl rfl (op_store_flat rfl (oT rfl) (oT rfl) tC rfl rfl s4 (Sp.whole _ _ (by rw [l5]; rfl))) (by first | exact ext_call | exact tE) ?_
 refine zq ?_
 refine Next.weak [0, 1, 2, 3] [] (by rfl) (keepsN hC _ rfl) (G' := []) (H' := HH ⟨(h.it.set i w).set j v, (h.pl.set w i).set v j, h.ky⟩) trivial (by exact ⟨ent_same rfl rfl (by simp only [List.length_set]; rfl) tL, ⟨ent_same rfl rfl (flEq rfl (by first | (rw [List.map_set, List.map_set]; done) | (rw [List.map_set, List.map_set]; rfl))) trivial, ⟨ent_same rfl rfl (flEq rfl (by first | (rw [List.map_set, List.map_set]; done) | (rw [List.map_set, List.map_set]; rfl))) trivial, ⟨wS, trivial⟩⟩⟩⟩) wN ?_
 exact n_out0 rfl
open Go Go.RT Go.Proofs Go.Pl
set_option maxRecDepth 20000
set_option maxHeartbeats 4000000
theorem less_i (h : Hq) (o : h.Ok) (a b : Int) (i j : Nat) (ha : a = i) (hb : b = j) (hi : i < h.it.length) (hj : j < h.it.length) : Meets Tryz.prog 148 [.ptr 0 3 0 0, IV .i64 a, IV .i64 b] 4 (HH h) (.fz (.lit (.bool (lessH h i j)))) (HH h) 4 := by
 subst ha; subst hb; exact less_c h o i j hi hj
theorem swap_i (h : Hq) (o : h.Ok) (a b : Int) (i j : Nat) (ha : a = i) (hb : b = j) (hi : i < h.it.length) (hj : j < h.it.length) : Meets Tryz.prog 149 [.ptr 0 3 0 0, IV .i64 a, IV .i64 b] 4 (HH h) (.fz (.tup [])) (HH (swapH h i j)) 4 := by
 subst ha; subst hb; exact swap_c h o i j hi hj
abbrev GS (i n : Nat) : Env := [(0, IV .i64 i), (1, IV .i64 n), (2, .clo 148 [.ptr 0 3 0 0] []), (3, .clo 149 [.ptr 0 3 0 0] [])]
theorem settle_c (h : Hq) (o : h.Ok) (i n : Nat) (hi : i < h.it.length) (hn : n = h.it.length) (hm : n ≤ 2000000) : Meets Tryz.prog 147 [IV .i64 i, IV .i64 n, .clo 148 [.ptr 0 3 0 0] [], .clo 149 [.ptr 0 3 0 0] []] 4 (HH h) (.fz (.tup [])) (HH (settleH h i n)) 4 := by
 refine Meets.intro Tryz.func147 rfl (Nat.le_of_ble_eq_true rfl) fun C hC => ?_
 simp only [List.map, argEnv, Nat.reduceAdd]
 refine nK2 ?_
 refine n_loop (ι := Hq × Nat) (fun s => (GS s.2 n, HH s.1, 4)) (fun s => Like h s.1 ∧ s.2 < h.it.length ∧ upH s.1 s.2 = upH h i) (fun s => s.2) (h, i) ⟨⟨o, rfl, rfl, rfl⟩, hi, rfl⟩ ?_ ?_
 ·refine Next.weak [0, 1, 2, 3] [] (by rfl) (keepsN hC _ rfl) wG wR wN rel_intro
 intro ⟨h', j⟩ ⟨hl, hj, he⟩ K hK
 dsimp only at hl hj he ⊢
 have hl' := hl
 obtain ⟨o', l1, l2, l3⟩ := hl'
 refine nK2 ?_
 refine za ?_
 refine zc ?_
 refine zbu ?_
 refine zc ?_
 refine zl ?_
 refine zl ?_
 refine zl ?_
 refine zcf ?_
 refine rgZ 16 rfl rfl tG (op_quo rfl (oO rfl tO) oC tM) ?_
 refine rkZ 17 rfl rfl tG (op_call_read (n := 4) [0, 1, 2, 3] (fun hg => less_i h' o' _ _ j ((j - 1) / 2) rfl (by simp at hg; omega) (by omega) (by omega)) rfl (oO rfl tO) (oS (oO rfl tO) (oS (oO rfl tO) Opds.nil)) rfl rfl (Lent.of rfl rfl (by exact ⟨⟨rfl, rfl, rfl, tL⟩, ⟨rfl, rfl, rfl, trivial⟩, ⟨rfl, rfl, rfl, trivial⟩, ⟨rfl, rfl, rfl, trivial⟩, trivial⟩) rfl) rfl) ?_
 refine zy ?_
 refine zb ?_
 refine nK2 ?_
 refine n_cond _ rfl (fun hb => ?_) (fun hb => ?_)
 ·have hb2 : 0 < j ∧ lessH h' j ((j - 1) / 2) = true := by simpa using hb
  have hst := up_step hb2.1 hb2.2
  refine nK2 ?_
  refine za ?_
  refine zc ?_
  refine zc ?_
  refine zc ?_
  refine zbv ?_
  refine rpZ 23 rfl (op_quo rfl (oT rfl) oC tM) ?_
  refine Run.eff (dd := some 24) rfl rfl (op_call (n := 4) (n' := 4) [0, 1, 2, 3] (fun _ => swap_i h' o' _ _ j ((j - 1) / 2) rfl (by omega) (by omega) (by omega)) rfl (oT rfl) (oS (oT rfl) (oS (oT rfl) Opds.nil)) rfl rfl (Lent.of rfl rfl (by exact ⟨⟨rfl, rfl, rfl, tL⟩, ⟨rfl, rfl, rfl, trivial⟩, ⟨rfl, rfl, rfl, trivial⟩, ⟨rfl, rfl, rfl, trivial⟩, trivial⟩) rfl) rfl rfl rfl rfl rfl) ?_
  refine zb ?_
  refine nK2 ?_
  refine za ?_
  refine zc ?_
  refine zbv ?_
  refine rpZ 27 rfl (op_quo rfl (oT rfl) oC tM) ?_
  refine zd ?_
  refine zb ?_
  refine nK2 ?_
  refine Next.weak [0, 1, 2, 3] [] (by rfl) (keepsN hC _ rfl) (by exact ⟨⟨_, rfl, .inl ⟨ivEq (by omega), rfl⟩⟩, ⟨_, rfl, .inl ⟨rfl, rfl⟩⟩, ⟨_, rfl, .inl ⟨rfl, rfl⟩⟩, ⟨_, rfl, .inl ⟨rfl, rfl⟩⟩, trivial⟩) wR wN (hK (swapH h' j ((j - 1) / 2), (j - 1) / 2) ⟨hl.swap (by omega) (by omega), by dsimp only; omega, by dsimp only; rw [← hst]; exact he⟩ (by dsimp only; omega))
 have hb2 : ¬ (0 < j ∧ lessH h' j ((j - 1) / 2) = true) := by simpa using hb
 have hst := up_stop hb2
 rw [hst] at he
 have hse : settleH h i n = downH h' j n := by unfold settleH; rw [← he]
 rw [hse]
 refine nK2 ?_
 refine n_loop (ι := Hq × Nat) (fun s => (GS s.2 n, HH s.1, 4)) (fun s => Like h s.1 ∧ s.2 < h.it.length ∧ downH s.1 s.2 n = downH h' j n) (fun s => n - s.2) (h', j) ⟨hl, hj, rfl⟩ ?_ ?_
 ·refine Next.weak [0, 1, 2, 3] [] (by rfl) (keepsN hC _ rfl) wG wR wN rel_intro
 intro ⟨h2, i2⟩ ⟨hl, hj, he⟩ K2 hK
 dsimp only at hl hj he ⊢
 have hl' := hl
 obtain ⟨o2, l1, l2, l3⟩ := hl'
 refine nK2 ?_
 refine za ?_
 refine zc ?_
 refine zdh ?_
 refine zj ?_
 refine zd ?_
 refine zb ?_
 refine nK2 ?_
 refine za ?_
 refine zc ?_
 refine zj ?_
 refine zc ?_
 refine zn ?_
 refine zc ?_
 refine zl ?_
 refine zl ?_
 refine zdo ?_
 refine zl ?_
 refine rkZ 40 rfl rfl tG (op_call_read (n := 4) [0, 1, 2, 3] (fun hg => less_i h2 o2 _ _ (2 * i2 + 1 + 1) (2 * i2 + 1) (by omega) (by omega) (by simp at hg; omega) (by simp at hg; omega)) rfl (oO rfl tO) (oS (oO rfl tO) (oS (oO rfl tO) Opds.nil)) rfl rfl (Lent.of rfl rfl (by exact ⟨⟨rfl, rfl, rfl, tL⟩, ⟨rfl, rfl, rfl, trivial⟩, ⟨rfl, rfl, rfl, trivial⟩, ⟨rfl, rfl, rfl, trivial⟩, trivial⟩) rfl) rfl) ?_
 refine zy ?_
 refine zb ?_
 refine nK2 ?_
 refine n_cond _ rfl (fun hb => ?_) (fun hb => ?_)
 ·have hb2 : 2 * i2 + 1 + 1 < n ∧ lessH h2 (2 * i2 + 1 + 1) (2 * i2 + 1) = true := by simp at hb; exact ⟨by omega, hb.2⟩
  have hk : kidH h2 i2 n = 2 * i2 + 1 + 1 := by unfold kidH; rw [if_pos hb2]
  refine nK2 ?_
  refine za ?_
  refine zc ?_
  refine zj ?_
  refine zd ?_
  refine zb ?_
  refine nK2 ?_
  refine za ?_
  refine zc ?_
  refine zc ?_
  refine zdt ?_
  refine zc ?_
  refine zl ?_
  refine zl ?_
  refine zl ?_
  refine rkZ 51 rfl rfl tG (op_call_read (n := 4) [0, 1, 2, 3] (fun hg => less_i h2 o2 _ _ (2 * i2 + 1 + 1) i2 (by omega) rfl (by simp at hg; omega) (by omega)) rfl (oO rfl tO) (oS (oO rfl tO) (oS (oO rfl tO) Opds.nil)) rfl rfl (Lent.of rfl rfl (by exact ⟨⟨rfl, rfl, rfl, tL⟩, ⟨rfl, rfl, rfl, trivial⟩, ⟨rfl, rfl, rfl, trivial⟩, ⟨rfl, rfl, rfl, trivial⟩, trivial⟩) rfl) rfl) ?_
  refine zca ?_
  refine zbd ?_
  refine zb ?_
  refine nK2 ?_
  refine n_cond _ rfl (fun hb => ?_) (fun hb => ?_)
  ·have hst := down_stop (h := h2) (i := i2) (n := n) (by rw [hk]; intro hh; simp [hh.2] at hb; omega)
   rw [hst] at he
   rw [← he]
   refine nK2 ?_
   refine Next.weak [0, 1, 2, 3] [] (by rfl) (keepsN hC _ rfl) (G' := []) (H' := HH h2) trivial wR wN ?_
   exact n_out0 rfl
  have hb3 : 2 * i2 + 1 + 1 < n ∧ lessH h2 (2 * i2 + 1 + 1) i2 = true := by simp at hb; exact ⟨by omega, hb.2⟩
  have hst := down_step (h := h2) (i := i2) (n := n) (by rw [hk]; exact hb3.1) (by rw [hk]; exact hb3.2)
  rw [hk] at hst
  refine nK2 ?_
  refine za ?_
  refine zc ?_
  refine zc ?_
  refine zc ?_
  refine Run.eff (dd := some 57) rfl rfl (op_call (n := 4) (n' := 4) [0, 1, 2, 3] (fun _ => swap_i h2 o2 _ _ i2 (2 * i2 + 1 + 1) rfl (by omega) (by omega) (by omega)) rfl (oT rfl) (oS (oT rfl) (oS (oT rfl) Opds.nil)) rfl rfl (Lent.of rfl rfl (by exact ⟨⟨rfl, rfl, rfl, tL⟩, ⟨rfl, rfl, rfl, trivial⟩, ⟨rfl, rfl, rfl, trivial⟩, ⟨rfl, rfl, rfl, trivial⟩, trivial⟩) rfl) rfl rfl rfl rfl rfl) ?_
  refine zb ?_
  refine nK2 ?_
  refine za ?_
  refine zc ?_
  refine zd ?_
  refine zb ?_
  refine nK2 ?_
  refine Next.weak [0, 1, 2, 3] [] (by rfl) (keepsN hC _ rfl) (by exact ⟨⟨_, rfl, .inl ⟨ivEq (by omega), rfl⟩⟩, ⟨_, rfl, .inl ⟨rfl, rfl⟩⟩, ⟨_, rfl, .inl ⟨rfl, rfl⟩⟩, ⟨_, rfl, .inl ⟨rfl, rfl⟩⟩, trivial⟩) wR wN (hK (swapH h2 i2 (2 * i2 + 1 + 1), 2 * i2 + 1 + 1) ⟨hl.swap (by omega) (by omega), by dsimp only; omega, by dsimp only; rw [← hst]; exact he⟩ (by dsimp only; omega))
 have hb2 : ¬ (2 * i2 + 1 + 1 < n ∧ lessH h2 (2 * i2 + 1 + 1) (2 * i2 + 1) = true) := by
  simp at hb; intro hh; have := hb (by omega); rw [hh.2] at this; cases this
 have hk : kidH h2 i2 n = 2 * i2 + 1 := by unfold kidH; rw [if_neg hb2]
 refine nK2 ?_
 refine za ?_
 refine zc ?_
 refine zc ?_
 refine zdt ?_
 refine zc ?_
 refine zl ?_
 refine zl ?_
 refine zl ?_
 refine rkZ 51 rfl rfl tG (op_call_read (n := 4) [0, 1, 2, 3] (fun hg => less_i h2 o2 _ _ (2 * i2 + 1) i2 (by omega) rfl (by simp at hg; omega) (by omega)) rfl (oO rfl tO) (oS (oO rfl tO) (oS (oO rfl tO) Opds.nil)) rfl rfl (Lent.of rfl rfl (by exact ⟨⟨rfl, rfl, rfl, tL⟩, ⟨rfl, rfl, rfl, trivial⟩, ⟨rfl, rfl, rfl, trivial⟩, ⟨rfl, rfl, rfl, trivial⟩, trivial⟩) rfl) rfl) ?_
 refine zca ?_
 refine zbd ?_
 refine zb ?_
 refine nK2 ?_
 refine n_cond _ rfl (fun hb => ?_) (fun hb => ?_)
 ·have hst := down_stop (h := h2) (i := i2) (n := n) (by rw [hk]; intro hh; simp [hh.2] at hb; omega)
  rw [hst] at he
  rw [← he]
  refine nK2 ?_
  refine Next.weak [0, 1, 2, 3] [] (by rfl) (keepsN hC _ rfl) (G' := []) (H' := HH h2) trivial wR wN ?_
  exact n_out0 rfl
 have hb3 : 2 * i2 + 1 < n ∧ lessH h2 (2 * i2 + 1) i2 = true := by simp at hb; exact ⟨by omega, hb.2⟩
 have hst := down_step (h := h2) (i := i2) (n := n) (by rw [hk]; exact hb3.1) (by rw [hk]; exact hb3.2)
 rw [hk] at hst
 refine nK2 ?_
 refine za ?_
 refine zc ?_
 refine zc ?_
 refine zc ?_
 refine Run.eff (dd := some 57) rfl rfl (op_call (n := 4) (n' := 4) [0, 1, 2, 3] (fun _ => swap_i h2 o2 _ _ i2 (2 * i2 + 1) rfl (by omega) (by omega) (by omega)) rfl (oT rfl) (oS (oT rfl) (oS (oT rfl) Opds.nil)) rfl rfl (Lent.of rfl rfl (by exact ⟨⟨rfl, rfl, rfl, tL⟩, ⟨rfl, rfl, rfl, trivial⟩, ⟨rfl, rfl, rfl, trivial⟩, ⟨rfl, rfl, rfl, trivial⟩, trivial⟩) rfl) rfl rfl rfl rfl rfl) ?_
 refine zb ?_
 refine nK2 ?_
 refine za ?_
 refine zc ?_
 refine zd ?_
 refine zb ?_
 refine nK2 ?_
 refine Next.weak [0, 1, 2, 3] [] (by rfl) (keepsN hC _ rfl) (by exact ⟨⟨_, rfl, .inl ⟨ivEq (by omega), rfl⟩⟩, ⟨_, rfl, .inl ⟨rfl, rfl⟩⟩, ⟨_, rfl, .inl ⟨rfl, rfl⟩⟩, ⟨_, rfl, .inl ⟨rfl, rfl⟩⟩, trivial⟩) wR wN (hK (swapH h2 i2 (2 * i2 + 1), 2 * i2 + 1) ⟨hl.swap (by omega) (by omega), by dsimp only; omega, by dsimp only; rw [← hst]; exact he⟩ (by dsimp only; omega))
open Go Go.RT Go.Proofs Go.Pl
set_option maxRecDepth 20000
set_option maxHeartbeats 4000000
theorem len_c (h : Hq) : Meets Tryz.prog 171 [.ptr 0 3 0 0] 4 (HH h) (IV .i64 h.it.length) (HH h) 4 := by
 refine Meets.intro Tryz.func171 rfl (Nat.le_of_ble_eq_true rfl) fun C hC => ?_
 simp only [List.map, argEnv, Nat.reduceAdd]
 refine nK2 ?_
 refine za ?_
 refine ze ?_
 refine zb ?_
 refine nK2 ?_
 refine za ?_
 refine zc ?_
 refine rpZ 4 rfl (op_eqlnilp rfl (oT rfl)) ?_
 refine zb ?_
 refine nK2 ?_
 refine n_cond _ rfl (fun hb => ?_) (fun hb => ?_)
 ·simp at hb
 refine nK2 ?_
 refine za ?_
 refine zc ?_
 refine zw ?_
 refine zf ?_
 refine zbb ?_
 refine zbl ?_
 refine zd ?_
 refine zb ?_
 refine nK2 ?_
 refine Next.weak [0, 1, 2, 3] [] (by rfl) (keepsN hC _ rfl) (G' := [(2, .fz _)]) (H' := HH h) wG wR wN ?_
 exact n_out1 rfl (by rfl) rfl rfl
theorem has_c (h : Hq) (v : Nat) (hv : v < h.pl.length) : Meets Tryz.prog 152 [.ptr 0 3 0 0, IV .i64 v] 4 (HH h) (BV (decide (0 ≤ h.place v))) (HH h) 4 := by
 have rv := row_of encN h.pl v 0 hv
 unfold Hq.place
 generalize h.pl.getD v 0 = p at *
 refine Meets.intro Tryz.func152 rfl (Nat.le_of_ble_eq_true rfl) fun C hC => ?_
 simp only [List.map, argEnv, Nat.reduceAdd]
 refine nK2 ?_
 refine za ?_
 refine ze ?_
 refine zb ?_
 refine nK2 ?_
 refine za ?_
 refine zc ?_
 refine rpZ 6 rfl (op_neqnilp rfl (oT rfl)) ?_
 refine zc ?_
 refine zl ?_
 refine zds ?_
 refine zy ?_
 refine zc ?_
 refine zl ?_
 refine zl ?_
 refine zdj ?_
 refine zck ?_
 refine zdk ?_
 refine rgZ 17 rfl rfl tG (op_len_sl rfl (oO rfl tO)) ?_
 refine zcv ?_
 refine zy ?_
 refine zc ?_
 refine zl ?_
 refine zdj ?_
 refine zck ?_
 refine zdk ?_
 refine zl ?_
 refine zei ?_
 refine zs ?_
 refine zds ?_
 refine zy ?_
 refine zd ?_
 refine zb ?_
 refine nK2 ?_
 refine Next.weak [0, 1, 2, 3] [] (by rfl) (keepsN hC _ rfl) (G' := [(4, BV (decide (0 ≤ p)))]) (H' := HH h) (by exact ⟨⟨_, rfl, .inl ⟨by simp [hv, renP], rfl⟩⟩, trivial⟩) wR wN ?_
 exact n_out1 rfl (by rfl) rfl rfl
theorem hkey_c (h : Hq) (o : h.Ok) (v : Nat) (hv : v < h.pl.length) : Meets Tryz.prog 122 [.ptr 0 3 0 0, IV .i64 v] 4 (HH h) (.fz (.tup [If .i64 (if 0 ≤ h.place v then h.key v else 0), Bf (decide (0 ≤ h.place v))])) (HH h) 4 := by
 have hh := has_c h v hv
 have hol := o.len
 have rv := row_of encN h.ky v 0 (by omega)
 unfold Hq.key
 generalize h.ky.getD v 0 = k at *
 generalize hp : h.place v = p at *
 refine Meets.intro Tryz.func122 rfl (Nat.le_of_ble_eq_true rfl) fun C hC => ?_
 simp only [List.map, argEnv, Nat.reduceAdd]
 refine nK2 ?_
 refine za ?_
 refine ze ?_
 refine ze ?_
 refine zb ?_
 refine nK2 ?_
 refine za ?_
 refine zc ?_
 refine zc ?_
 refine rlZ 8 rfl (op_call_read (n := 4) [0, 1, 2, 3] (fun _ => hh) rfl (Opd.func _) (oS (oT rfl) (oS (oT rfl) Opds.nil)) rfl rfl (Lent.of rfl rfl (by exact ⟨⟨rfl, rfl, rfl, tL⟩, ⟨rfl, rfl, rfl, trivial⟩, ⟨rfl, rfl, rfl, trivial⟩, ⟨rfl, rfl, rfl, trivial⟩, trivial⟩) rfl) rfl) ?_
 refine zbj ?_
 refine zb ?_
 refine nK2 ?_
 refine n_cond _ rfl (fun hb => ?_) (fun hb => ?_)
 ·have h2 : ¬ 0 ≤ p := by simpa using hb
  rw [if_neg h2, show decide (0 ≤ p) = false by simpa using h2]
  refine nK2 ?_
  refine za ?_
  refine ze ?_
  refine ze ?_
  refine zb ?_
  refine nK2 ?_
  refine Next.weak [0, 1, 2, 3] [] (by rfl) (keepsN hC _ rfl) (G' := [(4, IV .i64 0), (5, BV false)]) (H' := HH h) wG wR wN ?_
  exact n_out2 rfl (by rfl) rfl (.inl ⟨_, _, rfl, rfl, rfl⟩)
 have h2 : 0 ≤ p := by simpa using hb
 rw [if_pos h2, show decide (0 ≤ p) = true by simpa using h2]
 refine nK2 ?_
 refine za ?_
 refine zc ?_
 refine zw ?_
 refine zf ?_
 refine zbb ?_
 refine zc ?_
 refine zdz ?_
 refine zh ?_
 refine zd ?_
 refine ze ?_
 refine zb ?_
 refine nK2 ?_
 refine Next.weak [0, 1, 2, 3] [] (by rfl) (keepsN hC _ rfl) (G' := [(4, IV .i64 k), (5, BV true)]) (H' := HH h) wG wR wN ?_
 exact n_out2 rfl (by rfl) rfl (.inl ⟨_, _, rfl, rfl, rfl⟩)
theorem min_c (h : Hq) (o : h.Ok) : Meets Tryz.prog 150 [.ptr 0 3 0 0] 4 (HH h) (.fz (.tup [If .i64 (h.item 0 : Nat), If .i64 (if h.it = [] then 0 else h.key (h.item 0)), Bf (!h.it.isEmpty)])) (HH h) 4 := by
 have hl := len_c h
 refine Meets.intro Tryz.func150 rfl (Nat.le_of_ble_eq_true rfl) fun C hC => ?_
 simp only [List.map, argEnv, Nat.reduceAdd]
 refine nK2 ?_
 refine za ?_
 refine ze ?_
 refine ze ?_
 refine ze ?_
 refine zb ?_
 refine nK2 ?_
 refine za ?_
 refine zc ?_
 refine rlZ 6 rfl (op_call_read (n := 4) [0, 1, 2, 3] (fun _ => hl) rfl (Opd.func _) (oS (oT rfl) Opds.nil) rfl rfl (Lent.of rfl rfl (by exact ⟨⟨rfl, rfl, rfl, tL⟩, ⟨rfl, rfl, rfl, trivial⟩, ⟨rfl, rfl, rfl, trivial⟩, ⟨rfl, rfl, rfl, trivial⟩, trivial⟩) rfl) rfl) ?_
 refine zba ?_
 refine zb ?_
 refine nK2 ?_
 refine n_cond _ rfl (fun hb => ?_) (fun hb => ?_)
 ·have h2 : h.it = [] := by simpa using hb
  have e0 : h.item 0 = 0 := by unfold Hq.item; rw [h2]; rfl
  rw [if_pos h2, e0, show (!h.it.isEmpty) = false by rw [h2]; rfl]
  refine nK2 ?_
  refine za ?_
  refine ze ?_
  refine ze ?_
  refine ze ?_
  refine zb ?_
  refine nK2 ?_
  refine Next.weak [0, 1, 2, 3] [] (by rfl) (keepsN hC _ rfl) (G' := [(2, IV .i64 0), (3, IV .i64 0), (4, BV false)]) (H' := HH h) wG wR wN ?_
  exact n_out3 rfl (by rfl) rfl rfl (.inl ⟨_, _, _, rfl, rfl, rfl, rfl⟩)
 have h2 : 0 < h.it.length := Nat.pos_of_ne_zero fun e => by simp [e] at hb
 have hne : h.it ≠ [] := fun e => by rw [e] at h2; exact absurd h2 (by decide)
 have hv := o.item h2
 have hol := o.len
 have r0 := row_of encT h.it 0 0 h2
 rw [if_neg hne, show (!h.it.isEmpty) = true by cases hq : h.it <;> simp_all]
 unfold Hq.item at hv ⊢
 generalize h.it.getD 0 0 = v at *
 have rv := row_of encN h.ky v 0 (by omega)
 unfold Hq.key
 generalize h.ky.getD v 0 = k at *
 refine nK2 ?_
 refine s_draw mixed ?_
 refine zc ?_
 refine zw ?_
 refine zf ?_
 refine zbb ?_
 refine rpZ 12 rfl (op_idx_sl0 0 rfl (oT rfl) oC (by intro _; exact ⟨rfl, h2⟩)) ?_
 refine zh ?_
 refine zc ?_
 refine zw ?_
 refine zf ?_
 refine zbb ?_
 refine zc ?_
 refine zw ?_
 refine zf ?_
 refine zbb ?_
 refine rpZ 22 rfl (op_idx_sl0 0 rfl (oT rfl) oC (by intro _; exact ⟨rfl, h2⟩)) ?_
 refine zh ?_
 refine zdz ?_
 refine zh ?_
 refine zd ?_
 refine zd ?_
 refine ze ?_
 refine zq ?_
 refine nK2 ?_
 refine Next.weak [0, 1, 2, 3] [] (by rfl) (keepsN hC _ rfl) (G' := [(2, IV .i64 v), (3, IV .i64 k), (4, BV true)]) (H' := HH h) wG wR wN ?_
 exact n_out3 rfl (by rfl) rfl rfl (.inl ⟨_, _, _, rfl, rfl, rfl, rfl⟩)
open Go Go.RT Go.Proofs Go.Pl
set_option maxRecDepth 20000
set_option maxHeartbeats 4000000
abbrev HX (h : Hq) : Hp := [(0, some (.refs 3 [[.sl 4 1 0 h.it.length, .sl 2 1 0 h.pl.length, .sl 3 1 0 h.ky.length]])), (4, OT h.it), (2, OI h.pl), (3, OI h.ky)]
theorem settle_i (h : Hq) (o : HI h) (a b : Int) (i : Nat) (ha : a = i) (hb : b = h.it.length) (hi : i < h.it.length) (hm : h.it.length ≤ 2000000) : Meets Tryz.prog 147 [IV .i64 a, IV .i64 b, .clo 148 [.ptr 0 3 0 0] [], .clo 149 [.ptr 0 3 0 0] []] 4 (HH h) (.fz (.tup [])) (HH (settleH h i h.it.length)) 4 := by
 subst ha; subst hb; exact settle_c h o.ok i h.it.length hi rfl hm
theorem set_c (h : Hq) (o : HI h) (v : Nat) (k : Int) (hv : v < h.pl.length) (hm : h.it.length ≤ 1999999) : Meets Tryz.prog 120 [.ptr 0 3 0 0, IV .i64 v, IV .i64 k] 4 (HH h) (BV true) (HX (setH h v k)) 5 := by
 have rv := row_of encN h.pl v 0 hv
 have hol := o.ok.len
 obtain ⟨op, pl2, hp0, hp1⟩ := o.put hv k
 have hlt := op.lt (v := v) (by rw [pl2]; exact hv) hp0
 obtain ⟨_, e1, e2, e3⟩ := o.set hv k
 have hst := fun a b ha hb => settle_i (putH h v k) op a b ((putH h v k).place v).toNat ha hb hlt (by omega)
 have hse : settleH (putH h v k) ((putH h v k).place v).toNat (putH h v k).it.length = setH h v k := rfl
 rw [hse] at hst
 have rvp := row_of encN (putH h v k).pl v 0 (by rw [pl2]; exact hv)
 have rvk := row_of encN h.ky v 0 (by omega)
 have hpd : h.pl.getD v 0 = h.place v := rfl
 have hpd2 : (putH h v k).pl.getD v 0 = (putH h v k).place v := rfl
 rw [hpd] at rv
 rw [hpd2] at rvp
 refine Meets.intro Tryz.func120 rfl (Nat.le_of_ble_eq_true rfl) fun C hC => ?_
 simp only [List.map, argEnv, Nat.reduceAdd]
 refine nK2 ?_
 refine za ?_
 refine ze ?_
 refine zb ?_
 refine nK2 ?_
 refine za ?_
 refine zc ?_
 refine rpZ 8 rfl (op_eqlnilp rfl (oT rfl)) ?_
 refine zc ?_
 refine zl ?_
 refine zct ?_
 refine zbd ?_
 refine zc ?_
 refine zl ?_
 refine zl ?_
 refine zdj ?_
 refine zck ?_
 refine zdk ?_
 refine rgZ 19 rfl rfl tG (op_len_sl rfl (oO rfl tO)) ?_
 refine zdr ?_
 refine zbd ?_
 refine zb ?_
 refine nK2 ?_
 refine n_cond _ rfl (fun hb => ?_) (fun hb => ?_)
 ·exfalso; simp at hb; omega
 refine nK2 ?_
 refine za ?_
 refine zc ?_
 refine zw ?_
 refine zf ?_
 refine zbb ?_
 refine zc ?_
 refine zdz ?_
 refine zh ?_
 refine zbq ?_
 refine zb ?_
 refine nK2 ?_
 refine n_cond _ rfl (fun hb => ?_) (fun hb => ?_)
 ·have hneg : h.place v < 0 := by simpa using hb
  have hpu : putH h v k = ⟨h.it ++ [v], h.pl.set v h.it.length, h.ky.set v k⟩ := by unfold putH insH; rw [if_pos hneg]
  have e4 : (putH h v k).it.length = h.it.length + 1 := by rw [hpu]; simp
  have q1 : (putH h v k).it = h.it ++ [v] := by rw [hpu]
  have q2 : (putH h v k).pl = h.pl.set v h.it.length := by rw [hpu]
  have q3 : (putH h v k).ky = h.ky.set v k := by rw [hpu]
  refine nK2 ?_
  refine s_draw mixed ?_
  refine zc ?_
  refine zw ?_
  refine zf ?_
  refine zbb ?_
  refine zc ?_
  refine zc ?_
  refine zw ?_
  refine zf ?_
  refine zbb ?_
  refine zbl ?_
  refine zdz ?_
  refine zdf ?_
  refine zq ?_
  refine nK2 ?_
  refine za ?_
  refine zc ?_
  refine zc ?_
  refine zw ?_
  refine zf ?_
  refine zbb ?_
  refine zc ?_
  refine zqqz ?_
  refine zed ?_
  refine zw ?_
  refine zf ?_
  refine zcb ?_
  refine zb ?_
  refine nK2 ?_
  refine za ?_
  refine zc ?_
  refine zw ?_
  refine zf ?_
  refine zbb ?_
  refine zc ?_
  refine zc ?_
  refine zdz ?_
  refine zg ?_
  refine zb ?_
  refine nK2 ?_
  generalize putH h v k = p at *
  refine Next.weak [0, 1, 2, 3, 4] [] (by rfl) (keepsN hC _ rfl) (G' := [(0, .ptr 0 3 0 0), (1, IV .i64 v)]) (H' := HX p) wG (by exact ⟨ent_same rfl rfl (by rw [q1, q2, q3]; simp only [List.length_append, List.length_set, List.length_singleton]; rfl) tL, ⟨ent_same rfl rfl (flEq rfl (by rw [q1, List.map_append]; rfl)) trivial, ⟨ent_same rfl rfl (flEq rfl (by rw [q2, List.map_set]; rfl)) trivial, ⟨ent_same rfl rfl (flEq rfl (by rw [q3, List.map_set]; rfl)) trivial, trivial⟩⟩⟩⟩) wN ?_
  generalize hpp : p.place v = pv at *
  refine nK2 ?_
  refine s_draw mixed ?_
  refine zc ?_
  refine zw ?_
  refine zf ?_
  refine zbb ?_
  refine zc ?_
  refine rpZ 63 rfl (op_idx_sl0 v rfl (oT rfl) (oT rfl) (by intro _; exact ⟨rfl, by omega⟩)) ?_
  refine zh ?_
  refine zc ?_
  refine zw ?_
  refine zf ?_
  refine zbb ?_
  refine zbl ?_
  refine zc ?_
  refine zeb ?_
  refine zc ?_
  refine zeb ?_
  refine Run.effW (dd := some 74) rfl rfl (op_call (n := 4) (n' := 4) [0, 4, 2, 3] (fun _ => hst _ _ (by omega) rfl) rfl (Opd.func _) (oS (oT rfl) (oS (oT rfl) (oS (oT rfl) (oS (oT rfl) Opds.nil)))) rfl rfl (Lent.of rfl rfl (by exact ⟨⟨rfl, rfl, rfl, tL⟩, ⟨rfl, rfl, rfl, trivial⟩, ⟨rfl, rfl, rfl, trivial⟩, ⟨rfl, rfl, rfl, trivial⟩, trivial⟩) rfl) rfl rfl rfl rfl rfl) (by first | exact ext_call | exact tE) ?_
  refine zq ?_
  refine nK2 ?_
  refine za ?_
  refine ze ?_
  refine zb ?_
  refine nK2 ?_
  refine Next.weak [0, 1, 2, 3, 4] [] (by rfl) (keepsN hC _ rfl) (G' := [(6, BV true)]) (H' := HX (setH h v k)) wG wR wN ?_
  exact n_out1 rfl (by rfl) rfl rfl
 have hneg : ¬ h.place v < 0 := by simpa using hb
 have hpu : putH h v k = ⟨h.it, h.pl, h.ky.set v k⟩ := by unfold putH insH; rw [if_neg hneg]
 have q1 : (putH h v k).it = h.it := by rw [hpu]
 have q2 : (putH h v k).pl = h.pl := by rw [hpu]
 have q3 : (putH h v k).ky = h.ky.set v k := by rw [hpu]
 refine nK2 ?_
 refine za ?_
 refine zc ?_
 refine zw ?_
 refine zf ?_
 refine zbb ?_
 refine zc ?_
 refine zc ?_
 refine zdz ?_
 refine zg ?_
 refine zb ?_
 refine nK2 ?_
 refine Next.retagCell 0 0 0 rfl rfl rfl rfl rfl ?_
 generalize putH h v k = p at *
 refine Next.weak [0, 1, 2, 3, 4] [] (by rfl) (keepsN hC _ rfl) (G' := [(0, .ptr 0 3 0 0), (1, IV .i64 v)]) (H' := HX p) wG (by exact ⟨ent_same rfl rfl (by rw [q1, q2, q3]; simp only [List.length_set]; rfl) tL, ⟨ent_same rfl rfl (flEq rfl (by rw [q1])) trivial, ⟨ent_same rfl rfl (flEq rfl (by rw [q2])) trivial, ⟨ent_same rfl rfl (flEq rfl (by rw [q3, List.map_set]; rfl)) trivial, trivial⟩⟩⟩⟩) wN ?_
 generalize hpp : p.place v = pv at *
 refine nK2 ?_
 refine s_draw mixed ?_
 refine zc ?_
 refine zw ?_
 refine zf ?_
 refine zbb ?_
 refine zc ?_
 refine rpZ 63 rfl (op_idx_sl0 v rfl (oT rfl) (oT rfl) (by intro _; exact ⟨rfl, by omega⟩)) ?_
 refine zh ?_
 refine zc ?_
 refine zw ?_
 refine zf ?_
 refine zbb ?_
 refine zbl ?_
 refine zc ?_
 refine zeb ?_
 refine zc ?_
 refine zeb ?_
 refine Run.effW (dd := some 74) rfl rfl (op_call (n := 4) (n' := 4) [0, 4, 2, 3] (fun _ => hst _ _ (by omega) rfl) rfl (Opd.func _) (oS (oT rfl) (oS (oT rfl) (oS (oT rfl) (oS (oT rfl) Opds.nil)))) rfl rfl (Lent.of rfl rfl (by exact ⟨⟨rfl, rfl, rfl, tL⟩, ⟨rfl, rfl, rfl, trivial⟩, ⟨rfl, rfl, rfl, trivial⟩, ⟨rfl, rfl, rfl, trivial⟩, trivial⟩) rfl) rfl rfl rfl rfl rfl) (by first | exact ext_call | exact tE) ?_
 refine zq ?_
 refine nK2 ?_
 refine za ?_
 refine ze ?_
 refine zb ?_
 refine nK2 ?_
 refine Next.weak [0, 1, 2, 3, 4] [] (by rfl) (keepsN hC _ rfl) (G' := [(6, BV true)]) (H' := HX (setH h v k)) wG wR wN ?_
 exact n_out1 rfl (by rfl) rfl rfl
open Go Go.RT Go.Proofs Go.Pl
set_option maxRecDepth 20000
set_option maxHeartbeats 4000000
theorem drop_c (h : Hq) (o : HI h) (v : Nat) (hv : v < h.pl.length) (hp : 0 ≤ h.place v) (hm : h.it.length ≤ 1999999) : Meets Tryz.prog 151 [.ptr 0 3 0 0, IV .i64 v] 4 (HH h) (BV true) (HX (dropH h v)) 5 := by
 have hh := has_c h v hv
 have rv := row_of encN h.pl v 0 hv
 have hpd : h.pl.getD v 0 = h.place v := rfl
 rw [hpd] at rv
 have hlt := o.lt hv hp
 have hsw := fun a b ha hb => swap_i h o.ok a b (h.place v).toNat (h.it.length - 1) ha hb hlt (by omega)
 obtain ⟨s1, s2, s3⟩ := swapH_len h (h.place v).toNat (h.it.length - 1)
 obtain ⟨oc, c1, c2, c3⟩ := o.cut hv hp
 have hst : (h.place v).toNat < h.it.length - 1 → ∀ a b, a = ((h.place v).toNat : Int) → b = ((h.it.length - 1 : Nat) : Int) → Meets Tryz.prog 147 [IV .i64 a, IV .i64 b, .clo 148 [.ptr 0 3 0 0] [], .clo 149 [.ptr 0 3 0 0] []] 4 (HH (cutH h v)) (.fz (.tup [])) (HH (settleH (cutH h v) (h.place v).toNat (h.it.length - 1))) 4 := fun hh a b ha hb => by
  have := settle_i (cutH h v) oc a b (h.place v).toNat ha (by rw [c1]; exact hb) (by rw [c1]; exact hh) (by omega)
  rwa [c1] at this
 have hd1 : (h.place v).toNat < h.it.length - 1 → dropH h v = settleH (cutH h v) (h.place v).toNat (h.it.length - 1) := fun hh => by unfold dropH; rw [if_pos hh]
 have hd2 : ¬ (h.place v).toNat < h.it.length - 1 → dropH h v = cutH h v := fun hh => by unfold dropH; rw [if_neg hh]
 have q1 : (cutH h v).it = (swapH h (h.place v).toNat (h.it.length - 1)).it.take (h.it.length - 1) := rfl
 have q2 : (cutH h v).pl = (swapH h (h.place v).toNat (h.it.length - 1)).pl.set v (-1) := rfl
 have q3 : (cutH h v).ky = (swapH h (h.place v).toNat (h.it.length - 1)).ky := rfl
 generalize swapH h (h.place v).toNat (h.it.length - 1) = sw at *
 generalize cutH h v = ct at *
 have rsv := row_of encN sw.pl v 0 (by omega)
 refine Meets.intro Tryz.func151 rfl (Nat.le_of_ble_eq_true rfl) fun C hC => ?_
 simp only [List.map, argEnv, Nat.reduceAdd]
 refine nK2 ?_
 refine za ?_
 refine ze ?_
 refine zb ?_
 refine nK2 ?_
 refine za ?_
 refine zc ?_
 refine zc ?_
 refine rlZ 9 rfl (op_call_read (n := 4) [0, 1, 2, 3] (fun _ => hh) rfl (Opd.func _) (oS (oT rfl) (oS (oT rfl) Opds.nil)) rfl rfl (Lent.of rfl rfl (by exact ⟨⟨rfl, rfl, rfl, tL⟩, ⟨rfl, rfl, rfl, trivial⟩, ⟨rfl, rfl, rfl, trivial⟩, ⟨rfl, rfl, rfl, trivial⟩, trivial⟩) rfl) rfl) ?_
 refine zbj ?_
 refine zb ?_
 refine nK2 ?_
 refine n_cond _ rfl (fun hb => ?_) (fun hb => ?_)
 ·exfalso; simp at hb; omega
 refine nK2 ?_
 refine s_draw mixed ?_
 refine zc ?_
 refine zw ?_
 refine zf ?_
 refine zbb ?_
 refine zc ?_
 refine zdz ?_
 refine zh ?_
 refine zc ?_
 refine zw ?_
 refine zf ?_
 refine zbb ?_
 refine zbl ?_
 refine zbv ?_
 refine zd ?_
 refine zd ?_
 refine zq ?_
 refine nK2 ?_
 refine za ?_
 refine zc ?_
 refine zc ?_
 refine zc ?_
 refine Run.eff (dd := some 27) rfl rfl (op_call (n := 4) (n' := 4) [0, 1, 2, 3] (fun _ => hsw _ _ (by omega) (by omega)) rfl (Opd.func _) (oS (oT rfl) (oS (oT rfl) (oS (oT rfl) Opds.nil))) rfl rfl (Lent.of rfl rfl (by exact ⟨⟨rfl, rfl, rfl, tL⟩, ⟨rfl, rfl, rfl, trivial⟩, ⟨rfl, rfl, rfl, trivial⟩, ⟨rfl, rfl, rfl, trivial⟩, trivial⟩) rfl) rfl rfl rfl rfl rfl) ?_
 refine zb ?_
 refine nK2 ?_
 refine za ?_
 refine zc ?_
 refine zc ?_
 refine zw ?_
 refine zf ?_
 refine zbb ?_
 refine zc ?_
 refine Run.eff (dd := some 34) rfl rfl (op_slice_sl (h := h.it.length - 1) rfl (oT rfl) (Bnd.yes _ _ _ _ _ (oT rfl) (by intro _; omega)) (by intro _; omega) rfl (by rw [List.length_map])) ?_
 refine zw ?_
 refine zf ?_
 refine zcb ?_
 refine zb ?_
 refine nK2 ?_
 refine za ?_
 refine zc ?_
 refine zw ?_
 refine zf ?_
 refine zbb ?_
 refine zc ?_
 refine rpZ 42 rfl (op_idx_sl0 v rfl (oT rfl) (oT rfl) (by intro _; exact ⟨rfl, by omega⟩)) ?_
 refine Run.eff (dd := none) rfl rfl (op_store_flat rfl (oT rfl) oC tC rfl rfl (by first | rfl | assumption) tS) ?_
 refine zb ?_
 refine nK2 ?_
 refine za ?_
 refine zc ?_
 refine zc ?_
 refine zn ?_
 refine zb ?_
 refine nK2 ?_
 refine Next.weak [0, 1, 2, 3, 4] [] (by rfl) (keepsN hC _ rfl) (G' := [(0, .ptr 0 3 0 0), (5, IV .i64 (h.place v)), (6, IV .i64 ((h.it.length : Int) - 1)), (45, BV (decide (h.place v < (h.it.length : Int) - 1)))]) (H' := HX ct) wG (by exact ⟨ent_same rfl rfl (by rw [c1, q2, q3]; simp only [List.length_set]; rfl) tL, ⟨ent_same rfl rfl (flEq rfl (by rw [q1, List.map_take])) trivial, ⟨ent_same rfl rfl (flEq rfl (by rw [q2, List.map_set]; rfl)) trivial, ⟨ent_same rfl rfl (flEq rfl (by rw [q3])) trivial, trivial⟩⟩⟩⟩) wN ?_
 refine nK2 ?_
 refine n_cond _ rfl (fun hb => ?_) (fun hb => ?_)
 ·have hlt2 : (h.place v).toNat < h.it.length - 1 := by simp at hb; omega
  rw [hd1 hlt2]
  refine nK2 ?_
  refine za ?_
  refine zc ?_
  refine zc ?_
  refine zc ?_
  refine zeb ?_
  refine zc ?_
  refine zeb ?_
  refine Run.eff (dd := some 52) rfl rfl (op_call (n := 4) (n' := 4) [0, 4, 2, 3] (fun _ => hst hlt2 _ _ (by omega) (by omega)) rfl (Opd.func _) (oS (oT rfl) (oS (oT rfl) (oS (oT rfl) (oS (oT rfl) Opds.nil)))) rfl rfl (Lent.of rfl rfl (by exact ⟨⟨rfl, rfl, rfl, tL⟩, ⟨rfl, rfl, rfl, trivial⟩, ⟨rfl, rfl, rfl, trivial⟩, ⟨rfl, rfl, rfl, trivial⟩, trivial⟩) rfl) rfl rfl rfl rfl rfl) ?_
  refine zb ?_
  refine nK2 ?_
  refine za ?_
  refine ze ?_
  refine zb ?_
  refine nK2 ?_
  refine Next.weak [0, 1, 2, 3, 4] [] (by rfl) (keepsN hC _ rfl) (G' := [(4, BV true)]) (H' := HX (settleH ct (h.place v).toNat (h.it.length - 1))) wG wR wN ?_
  exact n_out1 rfl (by rfl) rfl rfl
 have hlt2 : ¬ (h.place v).toNat < h.it.length - 1 := by simp at hb; omega
 rw [hd2 hlt2]
 refine nK2 ?_
 refine za ?_
 refine ze ?_
 refine zb ?_
 refine nK2 ?_
 refine Next.weak [0, 1, 2, 3, 4] [] (by rfl) (keepsN hC _ rfl) (G' := [(4, BV true)]) (H' := HX ct) wG wR wN ?_
 exact n_out1 rfl (by rfl) rfl rfl
open Go Go.RT Go.Proofs Go.Pl
set_option maxRecDepth 20000
set_option maxHeartbeats 4000000
theorem pop_none (h : Hq) (o : HI h) (he : h.it = []) : Meets Tryz.prog 121 [.ptr 0 3 0 0] 4 (HH h) (.fz (.tup [If .i64 0, If .i64 0, Bf false])) (HH h) 4 := by
 have hmn := min_c h o.ok
 rw [if_pos he, show h.item 0 = 0 by unfold Hq.item; rw [he]; rfl, show (!h.it.isEmpty) = false by rw [he]; rfl, show ((0 : Nat) : Int) = 0 from rfl] at hmn
 refine Meets.intro Tryz.func121 rfl (Nat.le_of_ble_eq_true rfl) fun C hC => ?_
 simp only [List.map, argEnv, Nat.reduceAdd]
 refine nK2 ?_
 refine za ?_
 refine ze ?_
 refine ze ?_
 refine ze ?_
 refine zb ?_
 refine nK2 ?_
 refine za ?_
 refine zc ?_
 refine rlZ 7 rfl (op_call_read (n := 4) [0, 1, 2, 3] (fun _ => hmn) rfl (Opd.func _) (oS (oT rfl) Opds.nil) rfl rfl (Lent.of rfl rfl (by exact ⟨⟨rfl, rfl, rfl, tL⟩, ⟨rfl, rfl, rfl, trivial⟩, ⟨rfl, rfl, rfl, trivial⟩, ⟨rfl, rfl, rfl, trivial⟩, trivial⟩) rfl) rfl) ?_
 refine zc ?_
 refine zi ?_
 refine zi ?_
 refine zi ?_
 refine zd ?_
 refine zd ?_
 refine zd ?_
 refine zb ?_
 refine nK2 ?_
 refine za ?_
 refine zc ?_
 refine zb ?_
 refine nK2 ?_
 refine n_cond _ rfl (fun hb => ?_) (fun hb => ?_)
 ·exfalso; simp at hb
 refine nK2 ?_
 refine za ?_
 refine zc ?_
 refine zc ?_
 refine zc ?_
 refine zd ?_
 refine zd ?_
 refine zd ?_
 refine zb ?_
 refine nK2 ?_
 refine Next.weak [0, 1, 2, 3] [] (by rfl) (keepsN hC _ rfl) (G' := [(2, IV .i64 0), (3, IV .i64 0), (4, BV false)]) (H' := HH h) wG wR wN ?_
 exact n_out3 rfl (by rfl) rfl rfl (.inl ⟨_, _, _, rfl, rfl, rfl, rfl⟩)
theorem pop_some (h : Hq) (o : HI h) (hne : 0 < h.it.length) (hm : h.it.length ≤ 1999999) : Meets Tryz.prog 121 [.ptr 0 3 0 0] 4 (HH h) (.fz (.tup [If .i64 (h.item 0 : Nat), If .i64 (h.key (h.item 0)), Bf true])) (HX (dropH h (h.item 0))) 5 := by
 have hmn := min_c h o.ok
 rw [if_neg (fun e => by rw [e] at hne; exact absurd hne (by decide)), show (!h.it.isEmpty) = true by cases hq : h.it <;> simp_all] at hmn
 have hd := drop_c h o (h.item 0) (o.ok.item hne) (by rw [o.inv 0 hne]; decide) hm
 generalize h.item 0 = v at *
 generalize h.key v = k at *
 generalize dropH h v = h' at *
 refine Meets.intro Tryz.func121 rfl (Nat.le_of_ble_eq_true rfl) fun C hC => ?_
 simp only [List.map, argEnv, Nat.reduceAdd]
 refine nK2 ?_
 refine za ?_
 refine ze ?_
 refine ze ?_
 refine ze ?_
 refine zb ?_
 refine nK2 ?_
 refine za ?_
 refine zc ?_
 refine rlZ 7 rfl (op_call_read (n := 4) [0, 1, 2, 3] (fun _ => hmn) rfl (Opd.func _) (oS (oT rfl) Opds.nil) rfl rfl (Lent.of rfl rfl (by exact ⟨⟨rfl, rfl, rfl, tL⟩, ⟨rfl, rfl, rfl, trivial⟩, ⟨rfl, rfl, rfl, trivial⟩, ⟨rfl, rfl, rfl, trivial⟩, trivial⟩) rfl) rfl) ?_
 refine zc ?_
 refine zi ?_
 refine zi ?_
 refine zi ?_
 refine zd ?_
 refine zd ?_
 refine zd ?_
 refine zb ?_
 refine nK2 ?_
 refine za ?_
 refine zc ?_
 refine zb ?_
 refine nK2 ?_
 refine n_cond _ rfl (fun hb => ?_) (fun hb => ?_)
 ·refine nK2 ?_
  refine za ?_
  refine zc ?_
  refine zc ?_
  refine Run.eff (dd := some 14) rfl rfl (op_call (n := 4) (n' := 5) [0, 1, 2, 3] (fun _ => hd) rfl (Opd.func _) (oS (oT rfl) (oS (oT rfl) Opds.nil)) rfl rfl (Lent.of rfl rfl (by exact ⟨⟨rfl, rfl, rfl, tL⟩, ⟨rfl, rfl, rfl, trivial⟩, ⟨rfl, rfl, rfl, trivial⟩, ⟨rfl, rfl, rfl, trivial⟩, trivial⟩) rfl) rfl rfl rfl rfl rfl) ?_
  refine zb ?_
  refine nK2 ?_
  refine za ?_
  refine zc ?_
  refine zc ?_
  refine zc ?_
  refine zd ?_
  refine zd ?_
  refine zd ?_
  refine zb ?_
  refine nK2 ?_
  refine Next.weak [0, 1, 2, 3, 4] [] (by rfl) (keepsN hC _ rfl) (G' := [(2, IV .i64 v), (3, IV .i64 k), (4, BV true)]) (H' := HX h') wG wR wN ?_
  exact n_out3 rfl (by rfl) rfl rfl (.inl ⟨_, _, _, rfl, rfl, rfl, rfl⟩)
 exfalso; simp at hb
open Go Go.RT Go.Proofs Go.Pl
set_option maxRecDepth 20000
set_option maxHeartbeats 4000000
abbrev HN (n k : Nat) : Hp := [(0, some (.refs 3 [[.sl 1 1 0 0, .sl 2 1 0 n, .sl 3 1 0 n]])), (1, OT []), (2, OI (fillN n k)), (3, OI (List.replicate n 0))]
theorem new_c (n : Nat) (hn : n ≤ 65536) : Meets Tryz.prog 119 [IV .i64 n] 0 [] (.ptr 0 3 0 0) (HH (newH n)) 4 := by
 refine Meets.intro Tryz.func119 rfl (Nat.le_of_ble_eq_true rfl) fun C hC => ?_
 simp only [List.map, argEnv, Nat.reduceAdd]
 refine nK2 ?_
 refine za ?_
 refine ze ?_
 refine zb ?_
 refine nK2 ?_
 refine za ?_
 refine zc ?_
 refine zcn ?_
 refine rpZ 7 rfl (op_min rfl (oT rfl) oC) ?_
 refine zd ?_
 refine zb ?_
 refine nK2 ?_
 refine Next.weak [] [] (by rfl) (keepsN hC _ rfl) (G' := [(0, IV .i64 n)]) (H' := []) (by exact ⟨⟨_, rfl, .inl ⟨ivEq (by omega), rfl⟩⟩, trivial⟩) trivial wN ?_
 refine nK2 ?_
 refine draw_tree2 [(3, .ptr 0 3 0 0)] (HN n 0) 4 mixed (fun hK => ?_) ?_
 ·skip
  refine AnyN.two 0 2 (by kernel_rfl) (StepN.mk rfl (op_move rfl (oT rfl) _ _) rfl rfl (by kernel_rfl) ?_) (StepN.mk rfl (op_move rfl (oT rfl) _ _) rfl rfl (by kernel_rfl) ?_)
  ·skip
   refine AnyN.two 1 2 (by kernel_rfl) (StepN.mk rfl (op_make (l := n) (c := n) rfl (oT rfl) (oT rfl) rfl rfl rfl rfl (by intro _; refine ⟨rfl, rfl, ?_⟩; omega)) rfl rfl (by kernel_rfl) ?_) (StepN.mk rfl (op_move rfl (oT rfl) _ _) rfl rfl (by kernel_rfl) ?_)
   ·skip
    refine AnyN.one 2 (by kernel_rfl) (StepN.mk rfl (op_move rfl (oT rfl) _ _) rfl rfl (by kernel_rfl) ?_)
    refine AnyN.one 3 (by kernel_rfl) (StepN.mk rfl (op_make (l := n) (c := n) rfl (oT rfl) (oT rfl) rfl rfl rfl rfl (by intro _; refine ⟨rfl, rfl, ?_⟩; omega)) rfl rfl (by kernel_rfl) ?_)
    refine AnyN.one 4 (by kernel_rfl) (StepN.mk rfl (op_buildP rfl rfl rfl rfl (FillP.cons _ _ _ _ _ _ _ _ _ _ (by rfl) (oT rfl) tP (by rfl) tR (FillP.cons _ _ _ _ _ _ _ _ _ _ (by rfl) (oT rfl) tP (by rfl) tR (FillP.nil _))) _ _) rfl rfl (by kernel_rfl) ?_)
    refine AnyN.one 5 (by kernel_rfl) (StepN.mk rfl (op_box_refs rfl (oT rfl) tP rfl) rfl rfl (by kernel_rfl) ?_)
    refine AnyN.one 6 (by kernel_rfl) (StepN.mk rfl (op_assign rfl (oT rfl) _ _) rfl rfl (by kernel_rfl) ?_)
    refine AnyN.nil rfl ?_
    refine Next.adoptCell 2 0 0 1 rfl rfl rfl rfl (Next.weak [2, 3, 0, 1] [] (by rfl) (keepsN hC _ rfl) wG (by exact ⟨wS, ⟨wS, ⟨ent_same rfl rfl (flEq rfl (by rw [fillN_0, List.map_replicate]; rfl)) trivial, ⟨ent_same rfl rfl (flEq rfl (by rw [List.map_replicate]; rfl)) trivial, trivial⟩⟩⟩⟩) wN hK)
   skip
   refine AnyN.two 1 3 (by kernel_rfl) (StepN.mk rfl (op_make (l := n) (c := n) rfl (oT rfl) (oT rfl) rfl rfl rfl rfl (by intro _; refine ⟨rfl, rfl, ?_⟩; omega)) rfl rfl (by kernel_rfl) ?_) (StepN.mk rfl (op_make (l := n) (c := n) rfl (oT rfl) (oT rfl) rfl rfl rfl rfl (by intro _; refine ⟨rfl, rfl, ?_⟩; omega)) rfl rfl (by kernel_rfl) ?_)
   ·skip
    refine AnyN.one 3 (by kernel_rfl) (StepN.mk rfl (op_make (l := n) (c := n) rfl (oT rfl) (oT rfl) rfl rfl rfl rfl (by intro _; refine ⟨rfl, rfl, ?_⟩; omega)) rfl rfl (by kernel_rfl) ?_)
    refine AnyN.one 4 (by kernel_rfl) (StepN.mk rfl (op_buildP rfl rfl rfl rfl (FillP.cons _ _ _ _ _ _ _ _ _ _ (by rfl) (oT rfl) tP (by rfl) tR (FillP.cons _ _ _ _ _ _ _ _ _ _ (by rfl) (oT rfl) tP (by rfl) tR (FillP.nil _))) _ _) rfl rfl (by kernel_rfl) ?_)
    refine AnyN.one 5 (by kernel_rfl) (StepN.mk rfl (op_box_refs rfl (oT rfl) tP rfl) rfl rfl (by kernel_rfl) ?_)
    refine AnyN.one 6 (by kernel_rfl) (StepN.mk rfl (op_assign rfl (oT rfl) _ _) rfl rfl (by kernel_rfl) ?_)
    refine AnyN.nil rfl ?_
    refine Next.adoptCell 2 0 0 1 rfl rfl rfl rfl (Next.weak [2, 3, 0, 1] [] (by rfl) (keepsN hC _ rfl) wG (by exact ⟨wS, ⟨wS, ⟨ent_same rfl rfl (flEq rfl (by rw [fillN_0, List.map_replicate]; rfl)) trivial, ⟨ent_same rfl rfl (flEq rfl (by rw [List.map_replicate]; rfl)) trivial, trivial⟩⟩⟩⟩) wN hK)
   skip
   refine AnyN.one 1 (by kernel_rfl) (StepN.mk rfl (op_make (l := n) (c := n) rfl (oT rfl) (oT rfl) rfl rfl rfl rfl (by intro _; refine ⟨rfl, rfl, ?_⟩; omega)) rfl rfl (by kernel_rfl) ?_)
   refine AnyN.one 4 (by kernel_rfl) (StepN.mk rfl (op_buildP rfl rfl rfl rfl (FillP.cons _ _ _ _ _ _ _ _ _ _ (by rfl) (oT rfl) tP (by rfl) tR (FillP.cons _ _ _ _ _ _ _ _ _ _ (by rfl) (oT rfl) tP (by rfl) tR (FillP.nil _))) _ _) rfl rfl (by kernel_rfl) ?_)
   refine AnyN.one 5 (by kernel_rfl) (StepN.mk rfl (op_box_refs rfl (oT rfl) tP rfl) rfl rfl (by kernel_rfl) ?_)
   refine AnyN.one 6 (by kernel_rfl) (StepN.mk rfl (op_assign rfl (oT rfl) _ _) rfl rfl (by kernel_rfl) ?_)
   refine AnyN.nil rfl ?_
   refine Next.adoptCell 2 0 0 1 rfl rfl rfl rfl (Next.weak [2, 3, 1, 0] [] (by rfl) (keepsN hC _ rfl) wG (by exact ⟨wS, ⟨wS, ⟨ent_same rfl rfl (flEq rfl (by rw [fillN_0, List.map_replicate]; rfl)) trivial, ⟨ent_same rfl rfl (flEq rfl (by rw [List.map_replicate]; rfl)) trivial, trivial⟩⟩⟩⟩) wN hK)
  skip
  refine AnyN.two 0 3 (by kernel_rfl) (StepN.mk rfl (op_move rfl (oT rfl) _ _) rfl rfl (by kernel_rfl) ?_) (StepN.mk rfl (op_make (l := n) (c := n) rfl (oT rfl) (oT rfl) rfl rfl rfl rfl (by intro _; refine ⟨rfl, rfl, ?_⟩; omega)) rfl rfl (by kernel_rfl) ?_)
  ·skip
   refine AnyN.two 1 3 (by kernel_rfl) (StepN.mk rfl (op_make (l := n) (c := n) rfl (oT rfl) (oT rfl) rfl rfl rfl rfl (by intro _; refine ⟨rfl, rfl, ?_⟩; omega)) rfl rfl (by kernel_rfl) ?_) (StepN.mk rfl (op_make (l := n) (c := n) rfl (oT rfl) (oT rfl) rfl rfl rfl rfl (by intro _; refine ⟨rfl, rfl, ?_⟩; omega)) rfl rfl (by kernel_rfl) ?_)
   ·skip
    refine AnyN.one 3 (by kernel_rfl) (StepN.mk rfl (op_make (l := n) (c := n) rfl (oT rfl) (oT rfl) rfl rfl rfl rfl (by intro _; refine ⟨rfl, rfl, ?_⟩; omega)) rfl rfl (by kernel_rfl) ?_)
    refine AnyN.one 4 (by kernel_rfl) (StepN.mk rfl (op_buildP rfl rfl rfl rfl (FillP.cons _ _ _ _ _ _ _ _ _ _ (by rfl) (oT rfl) tP (by rfl) tR (FillP.cons _ _ _ _ _ _ _ _ _ _ (by rfl) (oT rfl) tP (by rfl) tR (FillP.nil _))) _ _) rfl rfl (by kernel_rfl) ?_)
    refine AnyN.one 5 (by kernel_rfl) (StepN.mk rfl (op_box_refs rfl (oT rfl) tP rfl) rfl rfl (by kernel_rfl) ?_)
    refine AnyN.one 6 (by kernel_rfl) (StepN.mk rfl (op_assign rfl (oT rfl) _ _) rfl rfl (by kernel_rfl) ?_)
    refine AnyN.nil rfl ?_
    refine Next.adoptCell 2 0 0 1 rfl rfl rfl rfl (Next.weak [2, 3, 0, 1] [] (by rfl) (keepsN hC _ rfl) wG (by exact ⟨wS, ⟨wS, ⟨ent_same rfl rfl (flEq rfl (by rw [fillN_0, List.map_replicate]; rfl)) trivial, ⟨ent_same rfl rfl (flEq rfl (by rw [List.map_replicate]; rfl)) trivial, trivial⟩⟩⟩⟩) wN hK)
   skip
   refine AnyN.one 1 (by kernel_rfl) (StepN.mk rfl (op_make (l := n) (c := n) rfl (oT rfl) (oT rfl) rfl rfl rfl rfl (by intro _; refine ⟨rfl, rfl, ?_⟩; omega)) rfl rfl (by kernel_rfl) ?_)
   refine AnyN.one 4 (by kernel_rfl) (StepN.mk rfl (op_buildP rfl rfl rfl rfl (FillP.cons _ _ _ _ _ _ _ _ _ _ (by rfl) (oT rfl) tP (by rfl) tR (FillP.cons _ _ _ _ _ _ _ _ _ _ (by rfl) (oT rfl) tP (by rfl) tR (FillP.nil _))) _ _) rfl rfl (by kernel_rfl) ?_)
   refine AnyN.one 5 (by kernel_rfl) (StepN.mk rfl (op_box_refs rfl (oT rfl) tP rfl) rfl rfl (by kernel_rfl) ?_)
   refine AnyN.one 6 (by kernel_rfl) (StepN.mk rfl (op_assign rfl (oT rfl) _ _) rfl rfl (by kernel_rfl) ?_)
   refine AnyN.nil rfl ?_
   refine Next.adoptCell 2 0 0 1 rfl rfl rfl rfl (Next.weak [2, 3, 1, 0] [] (by rfl) (keepsN hC _ rfl) wG (by exact ⟨wS, ⟨wS, ⟨ent_same rfl rfl (flEq rfl (by rw [fillN_0, List.map_replicate]; rfl)) trivial, ⟨ent_same rfl rfl (flEq rfl (by rw [List.map_replicate]; rfl)) trivial, trivial⟩⟩⟩⟩) wN hK)
  skip
  refine AnyN.one 0 (by kernel_rfl) (StepN.mk rfl (op_move rfl (oT rfl) _ _) rfl rfl (by kernel_rfl) ?_)
  refine AnyN.one 1 (by kernel_rfl) (StepN.mk rfl (op_make (l := n) (c := n) rfl (oT rfl) (oT rfl) rfl rfl rfl rfl (by intro _; refine ⟨rfl, rfl, ?_⟩; omega)) rfl rfl (by kernel_rfl) ?_)
  refine AnyN.one 4 (by kernel_rfl) (StepN.mk rfl (op_buildP rfl rfl rfl rfl (FillP.cons _ _ _ _ _ _ _ _ _ _ (by rfl) (oT rfl) tP (by rfl) tR (FillP.cons _ _ _ _ _ _ _ _ _ _ (by rfl) (oT rfl) tP (by rfl) tR (FillP.nil _))) _ _) rfl rfl (by kernel_rfl) ?_)
  refine AnyN.one 5 (by kernel_rfl) (StepN.mk rfl (op_box_refs rfl (oT rfl) tP rfl) rfl rfl (by kernel_rfl) ?_)
  refine AnyN.one 6 (by kernel_rfl) (StepN.mk rfl (op_assign rfl (oT rfl) _ _) rfl rfl (by kernel_rfl) ?_)
  refine AnyN.nil rfl ?_
  refine Next.adoptCell 2 0 0 1 rfl rfl rfl rfl (Next.weak [2, 3, 1, 0] [] (by rfl) (keepsN hC _ rfl) wG (by exact ⟨wS, ⟨wS, ⟨ent_same rfl rfl (flEq rfl (by rw [fillN_0, List.map_replicate]; rfl)) trivial, ⟨ent_same rfl rfl (flEq rfl (by rw [List.map_replicate]; rfl)) trivial, trivial⟩⟩⟩⟩) wN hK)
 refine nK2 ?_
 refine za ?_
 refine zc ?_
 refine zw ?_
 refine zf ?_
 refine zbb ?_
 refine zbl ?_
 refine zx ?_
 refine zb ?_
 refine nK2 ?_
 refine n_loop (ι := Nat) (fun k => ([(3, .ptr 0 3 0 0), (18, IV .i64 n), (19, IV .i64 k)], HN n k, 4)) (fun k => k ≤ n) (fun k => n - k) 0 (Nat.zero_le _) ?_ ?_
 ·refine Next.weak [0, 1, 2, 3] [] (by rfl) (keepsN hC _ rfl) wG wR wN rel_intro
 intro k hk K hK
 try dsimp only at hk ⊢
 refine nK2 ?_
 refine za ?_
 refine zn ?_
 refine zb ?_
 refine nK2 ?_
 refine n_cond _ rfl (fun hb => ?_) (fun hb => ?_)
 ·have hlt : k < n := by simpa using hb
  have hrow := row_of encN (fillN n k) k 0 (by rw [fillN_len _ _ hk]; exact hlt)
  refine nK2 ?_
  refine za ?_
  refine zc ?_
  refine zd ?_
  refine zb ?_
  refine nK2 ?_
  refine za ?_
  refine zc ?_
  refine zw ?_
  refine zf ?_
  refine zbb ?_
  refine zc ?_
  refine rpZ 27 rfl (op_idx_sl0 k rfl (oT rfl) (oT rfl) (by intro _; exact ⟨rfl, hlt⟩)) ?_
  refine Run.eff (dd := none) rfl rfl (op_store_flat rfl (oT rfl) oC tC rfl rfl hrow tS) ?_
  refine zb ?_
  refine nK2 ?_
  refine za ?_
  refine zj ?_
  refine zc ?_
  refine zb ?_
  refine nK2 ?_
  refine Next.weak [0, 1, 2, 3] [] (by rfl) (keepsN hC _ rfl) wG (by exact ⟨wS, ⟨wS, ⟨ent_same rfl rfl (flEq rfl (by rw [← fillN_set n k hlt, List.map_set]; rfl)) trivial, ⟨wS, trivial⟩⟩⟩⟩) wN (hK (k + 1) hlt (by omega))
 have hge : k = n := by simp at hb; omega
 subst hge
 refine nK2 ?_
 refine za ?_
 refine zc ?_
 refine zd ?_
 refine zb ?_
 refine nK2 ?_
 refine Next.weak [0, 1, 2, 3] [] (by rfl) (keepsN hC _ rfl) (G' := [(2, .ptr 0 3 0 0)]) (H' := HH (newH k)) wG (by exact ⟨ent_same rfl rfl (by simp only [newH, List.length_replicate]; rfl) tL, ⟨ent_same rfl rfl rfl trivial, ⟨ent_same rfl rfl (flEq rfl (by rw [fillN_n]; rfl)) trivial, ⟨ent_same rfl rfl rfl trivial, trivial⟩⟩⟩⟩) wN ?_
 exact n_out1 rfl (by rfl) rfl rfl
open Go Go.RT Go.Proofs Go.Pl
set_option maxRecDepth 20000
set_option maxHeartbeats 2000000
abbrev HD (h : Hq) : Hp := [(1, some (.refs 3 [[.sl 2 1 0 h.it.length, .sl 3 1 0 h.pl.length, .sl 4 1 0 h.ky.length]])), (2, OT h.it), (3, OI h.pl), (4, OI h.ky)]
abbrev HDS (d : List Int) (h : Hq) : Hp := (0, OI d) :: HD h
theorem set_i (h : Hq) (o : HI h) (b : Int) (v : Nat) (k : Int) (e : b = v) (hv : v < h.pl.length) (hm : h.it.length ≤ 1999999) : Meets Tryz.prog 120 [.ptr 0 3 0 0, IV .i64 b, IV .i64 k] 4 (HH h) (BV true) (HX (setH h v k)) 5 := by subst e; exact set_c h o v k hv hm
theorem key_i (h : Hq) (o : h.Ok) (b : Int) (v : Nat) (e : b = v) (hv : v < h.pl.length) : Meets Tryz.prog 122 [.ptr 0 3 0 0, IV .i64 b] 4 (HH h) (.fz (.tup [If .i64 (if 0 ≤ h.place v then h.key v else 0), Bf (decide (0 ≤ h.place v))])) (HH h) 4 := by subst e; exact hkey_c h o v hv
theorem dist_c (g : Gr) (a : Nat) (d : List Int) (hg : checkI g = 0) (hok : okG g) (ha : a < (g.r + g.n).toNat) (hd : d.length = (g.r + g.n).toNat) (hD : ∀ v, v < (g.r + g.n).toNat → IsD g.es a v (gt0 d v)) : Pure Tryz.prog 78 [.agg (encG g), If .i64 a] (VI d) := by
 obtain ⟨vg, hr0, hn0⟩ := checkI_vg hg
 have hn := vg.n128
 have hel := vg.e1024
 have hrn : g.r + g.n = ((g.r + g.n).toNat : Int) := by omega
 generalize hN : (g.r + g.n).toNat = n at *
 refine Meets.intro Tryz.func78 rfl (Nat.le_of_ble_eq_true rfl) fun C hC => ?_
 simp only [List.map, argEnv, Nat.reduceAdd]
 refine nK2 ?_
 refine za ?_
 refine zu ?_
 refine ze ?_
 refine zb ?_
 refine nK2 ?_
 refine za ?_
 refine zf ?_
 refine zh ?_
 refine zf ?_
 refine zh ?_
 refine zbm ?_
 refine Run.eff (dd := some 23) rfl rfl (op_make (l := n) (c := n) rfl (oT rfl) (oT rfl) rfl rfl rfl rfl (by intro _; refine ⟨hrn, hrn, ?_⟩; omega)) ?_
 refine zd ?_
 refine zb ?_
 refine nK2 ?_
 refine Next.weak [0, 1] [] (by rfl) (keepsN hC _ rfl) (G' := [(1, IV .i64 a), (2, .ptr 0 3 0 0), (5, .sl 1 1 0 n)]) (H' := [(0, OG g), (1, OI (fillN n 0))]) wG (by exact ⟨wS, ⟨ent_same rfl rfl (flEq rfl (by rw [fillN_0, List.map_replicate]; rfl)) trivial, trivial⟩⟩) wN ?_
 refine nK2 ?_
 refine za ?_
 refine zc ?_
 refine zbl ?_
 refine zx ?_
 refine zb ?_
 refine nK2 ?_
 refine n_loop (ι := Nat) (fun k => ([(1, IV .i64 a), (2, .ptr 0 3 0 0), (5, .sl 1 1 0 n), (25, IV .i64 n), (26, IV .i64 k)], [(0, OG g), (1, OI (fillN n k))], 2)) (fun k => k ≤ n) (fun k => n - k) 0 (Nat.zero_le _) ?_ ?_
 ·refine Next.weak [0, 1] [] (by rfl) (keepsN hC _ rfl) wG wR wN rel_intro
 intro k hk K hK
 try dsimp only at hk ⊢
 refine nK2 ?_
 refine za ?_
 refine zn ?_
 refine zb ?_
 refine nK2 ?_
 refine n_cond _ rfl (fun hb => ?_) (fun hb => ?_)
 ·have hlt : k < n := by simpa using hb
  have hrow := row_of encN (fillN n k) k 0 (by rw [fillN_len _ _ hk]; exact hlt)
  refine nK2 ?_
  refine za ?_
  refine zc ?_
  refine zd ?_
  refine zb ?_
  refine nK2 ?_
  refine za ?_
  refine zc ?_
  refine zc ?_
  refine rpZ 31 rfl (op_idx_sl0 k rfl (oT rfl) (oT rfl) (by intro _; exact ⟨rfl, hlt⟩)) ?_
  refine Run.eff (dd := none) rfl rfl (op_store_flat rfl (oT rfl) oC tC rfl rfl hrow tS) ?_
  refine zb ?_
  refine nK2 ?_
  refine za ?_
  refine zj ?_
  refine zc ?_
  refine zb ?_
  refine nK2 ?_
  refine Next.weak [0, 1] [] (by rfl) (keepsN hC _ rfl) wG (by exact ⟨wS, ⟨ent_same rfl rfl (flEq rfl (by rw [← fillN_set n k hlt, List.map_set]; rfl)) trivial, trivial⟩⟩) wN (hK (k + 1) hlt (by omega))
 have hge : k = n := by simp at hb; omega
 subst hge
 rw [fillN_n]
 refine nK2 ?_
 refine za ?_
 refine zc ?_
 refine zbl ?_
 refine Run.eff (dd := some 35) rfl rfl (op_make (l := k) (c := k) rfl (oT rfl) (oT rfl) rfl rfl rfl rfl (by intro _; refine ⟨rfl, rfl, ?_⟩; omega)) ?_
 refine zd ?_
 refine zb ?_
 refine nK2 ?_
 refine Next.toOwn 2 3 k rfl ?_
 refine Next.weak [0, 1, 2] [] (by rfl) (keepsN hC _ rfl) (G' := [(1, IV .i64 a), (2, .ptr 0 3 0 0), (5, .sl 1 1 0 k), (7, .sl 2 1 0 k)]) (H' := [(0, OG g), (1, OI (List.replicate k (-1))), (2, some (.refs 1 (ownL 3 (rowsE [] k))))]) wG (by exact ⟨wS, ⟨wS, ⟨ent_own rfl rfl (by rw [rowsE_nil, ← ownL_rep]; rfl), trivial⟩⟩⟩) wN ?_
 refine nK2 ?_
 refine za ?_
 refine zf ?_
 refine zh ?_
 refine zk ?_
 refine zx ?_
 refine zb ?_
 refine nK2 ?_
 refine n_loop (ι := Nat) (fun i => ([(1, IV .i64 a), (5, .sl 1 1 0 k), (7, .sl 2 1 0 k), (37, .fz (VE g.es)), (38, IV .i64 g.es.length), (39, IV .i64 i)], [(0, OG g), (1, OI (List.replicate k (-1))), (2, some (.refs 1 (ownL 3 (rowsE (g.es.take i) k))))], 3)) (fun i => i ≤ g.es.length) (fun i => g.es.length - i) 0 (Nat.zero_le _) ?_ ?_
 ·refine Next.weak [0, 1, 2] [] (by rfl) (keepsN hC _ rfl) wG (by exact ⟨wS, ⟨wS, ⟨ent_own rfl rfl rfl, trivial⟩⟩⟩) wN rel_intro
 intro i hi K hK
 try dsimp only at hi ⊢
 refine nK2 ?_
 refine za ?_
 refine zn ?_
 refine zb ?_
 refine nK2 ?_
 refine n_cond _ rfl (fun hb => ?_) (fun hb => ?_)
 ·have hlt : i < g.es.length := by simp at hb; omega
  have hr1 := row_at' encE g.es i hlt
  have hef := vg.f _ (List.getElem_mem hlt)
  have hst := rowsE_succ (n := k) hlt hef.1
  have hrg := rowsE_get (g.es.take i) (n := k) (v := g.es[i].f.toNat) (by omega)
  have hlen : (outE (g.es.take i) g.es[i].f.toNat).length ≤ 1024 := by
   have h1 : (outE (g.es.take i) g.es[i].f.toNat).length ≤ (g.es.take i).length := List.length_filter_le _ _
   have h2 : (g.es.take i).length ≤ g.es.length := List.length_take_le' _ _
   omega
  have hK1 := hK (i + 1) (by omega) (by omega)
  rw [← hst] at hK1
  have hrl := rowsE_len (g.es.take i) k
  generalize rowsE (g.es.take i) k = irs at *
  generalize outE (g.es.take i) g.es[i].f.toNat = row at *
  generalize g.es[i] = e at *
  refine nK2 ?_
  refine za ?_
  refine zr ?_
  refine zv ?_
  refine zo ?_
  refine zg ?_
  refine zb ?_
  refine nK2 ?_
  refine Next.take 2 e.f.toNat 0 rfl (ownL_get hrg) rfl rfl ?_
  have hs1 := set_get (ownL 3 irs) e.f.toNat [.sl 4 3 0 (row.map encE).length] (by rw [ownL_len, hrl]; omega)
  refine nK2 ?_
  refine s_draw mixed ?_
  refine zc ?_
  refine zf ?_
  refine zh ?_
  refine zc ?_
  refine zf ?_
  refine zh ?_
  refine rpZ 49 rfl (op_idx_sl0 e.f.toNat rfl (oT rfl) (oT rfl) (by intro _; omega)) ?_
  refine rlZ 50 rfl (op_load1_refs rfl (oT rfl) (by intro _; exact ⟨rfl, hs1⟩) rfl) ?_
  refine zm ?_
  refine zqqz ?_
  refine zdy ?_
  refine rpZ 54 rfl (op_idx_sl0 e.f.toNat rfl (oT rfl) (oT rfl) (by intro _; omega)) ?_
  refine Run.effW (dd := none) rfl rfl (op_store_refs rfl (oT rfl) (oT rfl) tP rfl rfl hs1 tS) (by first | exact ext_call | exact tE) ?_
  refine zq ?_
  refine nK2 ?_
  refine za ?_
  refine zj ?_
  refine zc ?_
  refine zb ?_
  refine nK2 ?_
  refine Next.untake 2 e.f.toNat 0 rfl (set_get _ _ _ (by rw [List.length_set, ownL_len, hrl]; omega)) rfl rfl (by simp) rfl ?_
  refine Next.weak [0, 1, 2] [] (by rfl) (keepsN hC _ rfl) wG (by exact ⟨wS, ⟨wS, ⟨ent_own rfl rfl (congrArg (fun r => some (Ob.refs 1 r)) own_back), trivial⟩⟩⟩) wN hK1
 have hge : i = g.es.length := by simp at hb; omega
 subst hge
 rw [List.take_length]
 refine Next.freezeOwn 2 rfl rfl ?_
 have hFl : (fzL 3 (rowsE g.es k)).length = k := by rw [fzL_len, rowsE_len]
 refine Next.weakS [5] [7] (by rfl) (keepsN hC _ rfl) (G' := [(1, IV .i64 a), (5, .sl 0 1 0 k), (7, .fz (.vals 1 (fzL 3 (rowsE g.es k))))]) (H' := [(0, OI (List.replicate k (-1)))]) (by exact ⟨⟨_, rfl, .inl ⟨rfl, rfl⟩⟩, ⟨_, rfl, .inl ⟨rfl, rfl⟩⟩, ⟨_, rfl, .inr ⟨_, rfl, .sl _ _ _ _ _ _ rfl rfl (take_all0 hFl) (by rw [hFl])⟩⟩, trivial⟩) wR rfl ?_
 have hSet := set_c (newH k) (HG.new k).hi a 0 (by simpa [newH] using ha) (by simp [newH])
 obtain ⟨hDJ, hcnt0⟩ := DJ.start vg ha
 refine nK2 ?_
 refine za ?_
 refine zc ?_
 refine zbl ?_
 refine Run.eff (dd := some 58) rfl rfl (op_call (n := 0) (n' := 4) [] (fun _ => new_c k (by omega)) rfl (Opd.func _) (oS (oT rfl) Opds.nil) rfl rfl (Lent.of rfl rfl trivial rfl) rfl rfl rfl rfl rfl) ?_
 refine zd ?_
 refine zb ?_
 refine nK2 ?_
 refine za ?_
 refine zc ?_
 refine zc ?_
 refine Run.eff (dd := some 61) rfl rfl (op_call (n := 4) (n' := 5) [1, 2, 3, 4] (fun _ => hSet) rfl (Opd.func _) (oS (oT rfl) (oS (oT rfl) (oS oC Opds.nil))) rfl rfl (Lent.of rfl rfl (by exact ⟨⟨rfl, rfl, rfl, tL⟩, ⟨rfl, rfl, rfl, trivial⟩, ⟨rfl, rfl, rfl, trivial⟩, ⟨rfl, rfl, rfl, trivial⟩, trivial⟩) rfl) rfl rfl rfl rfl rfl) ?_
 refine zb ?_
 refine nK2 ?_
 refine n_loop (ι := List Int × Hq) (fun s => ([(5, .sl 0 1 0 k), (7, .fz (.vals 1 (fzL 3 (rowsE g.es k)))), (10, .ptr 1 3 0 0)], HDS s.1 s.2, 5)) (fun s => DJ g.es k a s.1 s.2 []) (fun s => k - cntP s.1) (List.replicate k (-1), setH (newH k) a 0) hDJ ?_ ?_
 ·refine Next.weak [0, 1, 5, 3, 4] [] (by rfl) (keepsN hC _ rfl) wG wR wN rel_intro
 intro ⟨dist, h⟩ hI K hK
 try dsimp only at hI hK ⊢
 have hok' := hI.hg.hi
 have hdl := hI.dl
 have hpl := hI.hl
 have hsm := hok'.small
 by_cases hit : h.it = []
 ·have hpn := pop_none h hok' hit
  refine nK2 ?_
  refine za ?_
  refine zc ?_
  refine rlZ 64 rfl (op_call_read (n := 4) [1, 2, 3, 4] (fun _ => hpn) rfl (Opd.func _) (oS (oT rfl) Opds.nil) rfl rfl (Lent.of rfl rfl (by exact ⟨⟨rfl, rfl, rfl, tL⟩, ⟨rfl, rfl, rfl, trivial⟩, ⟨rfl, rfl, rfl, trivial⟩, ⟨rfl, rfl, rfl, trivial⟩, trivial⟩) rfl) rfl) ?_
  refine zc ?_
  refine zi ?_
  refine zi ?_
  refine zi ?_
  refine zd ?_
  refine zd ?_
  refine zd ?_
  refine zb ?_
  refine nK2 ?_
  refine za ?_
  refine zc ?_
  refine zbj ?_
  refine zb ?_
  refine nK2 ?_
  refine n_cond _ rfl (fun hb => ?_) (fun hb => ?_)
  ·have hde : dist = d := by
    apply List.ext_getElem (by omega)
    intro v h1 h2
    have := (hI.done vg ha hit (v := v) (by omega)).uniq (hD v (by omega))
    simpa [gt0, List.getD_eq_getElem?_getD, h1, h2] using this
   subst hde
   refine nK2 ?_
   refine za ?_
   refine zc ?_
   refine zd ?_
   refine zb ?_
   refine nK2 ?_
   refine Next.weakS [] [4] (by rfl) (keeps0 hC _) (G' := [(4, .fz (VI dist))]) (H' := []) ⟨⟨_, rfl, .inr ⟨_, rfl, .sl _ _ _ _ _ _ rfl rfl (take_all0 (by rw [List.length_map]; exact hdl)) (by rw [List.length_map]; omega)⟩⟩, trivial⟩ trivial rfl ?_
   exact n_out1 rfl (by rfl) rfl rfl
  simp at hb
 have hne : 0 < h.it.length := Nat.pos_of_ne_zero fun e => hit (List.length_eq_zero_iff.1 e)
 have hps := pop_some h hok' hne (by omega)
 obtain ⟨x1, x2, x3, x4, x5, x6⟩ := hI.pop vg ha hne
 have hrx := row_of encN dist (h.item 0) 0 (by omega)
 have hcl := cntP_le (dist.set (h.item 0) (h.key (h.item 0)))
 rw [List.length_set] at hcl
 have hrE := fzL_get (sz := 3) (rowsE_get g.es x1)
 have hLsub : ∀ e ∈ outE g.es (h.item 0), e ∈ g.es ∧ e.f = (h.item 0 : Nat) := fun e he => by simpa [outE] using he
 have hLl : (outE g.es (h.item 0)).length ≤ 1024 := by
  have : (outE g.es (h.item 0)).length ≤ g.es.length := List.length_filter_le _ _
  omega
 have hdx : gt0 (dist.set (h.item 0) (h.key (h.item 0))) (h.item 0) = h.key (h.item 0) := by rw [gt0, getD_set _ _ _ _ _ (by omega), if_pos rfl]
 change DJ g.es k a (dist.set (h.item 0) (h.key (h.item 0))) (dropH h (h.item 0)) (outE g.es (h.item 0)) at x6
 generalize h.item 0 = x at *
 generalize h.key x = kx at *
 generalize dropH h x = h1 at *
 generalize outE g.es x = L at *
 refine nK2 ?_
 refine za ?_
 refine zc ?_
 refine Run.eff (dd := some 64) rfl rfl (op_call (n := 4) (n' := 5) [1, 2, 3, 4] (fun _ => hps) rfl (Opd.func _) (oS (oT rfl) Opds.nil) rfl rfl (Lent.of rfl rfl (by exact ⟨⟨rfl, rfl, rfl, tL⟩, ⟨rfl, rfl, rfl, trivial⟩, ⟨rfl, rfl, rfl, trivial⟩, ⟨rfl, rfl, rfl, trivial⟩, trivial⟩) rfl) rfl rfl rfl rfl rfl) ?_
 refine zc ?_
 refine zi ?_
 refine zi ?_
 refine zi ?_
 refine zd ?_
 refine zd ?_
 refine zd ?_
 refine zb ?_
 refine nK2 ?_
 refine za ?_
 refine zc ?_
 refine zbj ?_
 refine zb ?_
 refine nK2 ?_
 refine n_cond _ rfl (fun hb => ?_) (fun hb => ?_)
 ·simp at hb
 refine nK2 ?_
 refine za ?_
 refine zc ?_
 refine zc ?_
 refine zc ?_
 refine rpZ 73 rfl (op_idx_sl0 x rfl (oT rfl) (oT rfl) (by intro _; exact ⟨rfl, x1⟩)) ?_
 refine Run.eff (dd := none) rfl rfl (op_store_flat rfl (oT rfl) (oT rfl) tC rfl rfl hrx tS) ?_
 refine zb ?_
 refine nK2 ?_
 refine za ?_
 refine zc ?_
 refine zc ?_
 refine rpZ 76 rfl (op_idx_fz x rfl (oT rfl) (oT rfl) (by intro _; exact ⟨rfl, hrE⟩)) ?_
 refine zt ?_
 refine zk ?_
 refine zx ?_
 refine zb ?_
 refine nK2 ?_
 refine n_loop (ι := Nat × Hq) (fun s => ([(5, .sl 0 1 0 k), (7, .fz (.vals 1 (fzL 3 (rowsE g.es k)))), (10, .ptr 1 3 0 0), (12, IV .i64 kx), (77, .fz (VE L)), (78, IV .i64 L.length), (79, IV .i64 s.1)], HDS (dist.set x kx) s.2, 5)) (fun s => s.1 ≤ L.length ∧ DJ g.es k a (dist.set x kx) s.2 (L.drop s.1)) (fun s => L.length - s.1) (0, h1) ⟨Nat.zero_le _, x6⟩ ?_ ?_
 ·refine Next.weak [0, 1, 5, 3, 4] [] (by rfl) (keepsN hC _ rfl) wG (by exact ⟨ent_same rfl rfl (flEq rfl (by rw [List.map_set]; rfl)) trivial, ⟨wS, ⟨wS, ⟨wS, ⟨wS, trivial⟩⟩⟩⟩⟩) wN rel_intro
 intro ⟨j, h2⟩ ⟨hj, hJ⟩ K2 hK2
 try dsimp only at hj hJ hK2 ⊢
 refine nK2 ?_
 refine za ?_
 refine zn ?_
 refine zb ?_
 refine nK2 ?_
 refine n_cond _ rfl (fun hb => ?_) (fun hb => ?_)
 ·have hlt : j < L.length := by simp at hb; omega
  have hr1 := row_at' encE L j hlt
  obtain ⟨he, hef⟩ := hLsub _ (List.getElem_mem hlt)
  rw [List.drop_eq_getElem_cons hlt] at hJ
  have hK3 := fun h3 hh => hK2 (j + 1, h3) ⟨by dsimp only; omega, hh⟩ (by dsimp only; omega)
  dsimp only at hK3
  generalize L[j] = e at *
  have het := vg.t e he
  have hec := vg.c e he
  have hJo := hJ.hg.hi
  have hJl := hJ.hl
  have hJs := hJo.small
  have hJd := hJ.dl
  have hket := key_i h2 hJo.ok e.t e.t.toNat (by omega) (by omega)
  have hrt := row_of encN (dist.set x kx) e.t.toNat 0 (by omega)
  have hput := fun hc => hJ.put vg he (by rw [hef, Int.toNat_natCast, hdx]; exact x3) (by rw [hef, Int.toNat_natCast, hdx, x5]; omega) hc
  have hskip := fun hc => hJ.skip vg hc
  have hset := set_i h2 hJo e.t e.t.toNat (kx + e.c) (by omega) (by omega) (by omega)
  have hfx : gt0 (dist.set x kx) e.f.toNat = kx := by rw [hef, Int.toNat_natCast]; exact hdx
  rw [hfx] at hput hskip
  have hgt : (dist.set x kx).getD e.t.toNat 0 = gt0 (dist.set x kx) e.t.toNat := rfl
  rw [hgt] at hrt
  have hqb := hJ.q e.t.toNat (by omega)
  refine nK2 ?_
  refine za ?_
  refine zr ?_
  refine zv ?_
  refine zo ?_
  refine zg ?_
  refine zb ?_
  refine nK2 ?_
  refine za ?_
  refine zc ?_
  refine zf ?_
  refine zh ?_
  refine rlZ 87 rfl (op_call_read (n := 4) [1, 2, 3, 4] (fun _ => hket) rfl (Opd.func _) (oS (oT rfl) (oS (oT rfl) Opds.nil)) rfl rfl (Lent.of rfl rfl (by exact ⟨⟨rfl, rfl, rfl, tL⟩, ⟨rfl, rfl, rfl, trivial⟩, ⟨rfl, rfl, rfl, trivial⟩, ⟨rfl, rfl, rfl, trivial⟩, trivial⟩) rfl) rfl) ?_
  refine zc ?_
  refine zi ?_
  refine zi ?_
  refine zd ?_
  refine zd ?_
  refine zb ?_
  refine nK2 ?_
  refine za ?_
  refine zc ?_
  refine zf ?_
  refine zh ?_
  refine rpZ 93 rfl (op_idx_sl0 e.t.toNat rfl (oT rfl) (oT rfl) (by intro _; omega)) ?_
  refine rlZ 94 rfl (op_load1_flat rfl (oT rfl) (by intro _; exact ⟨rfl, hrt⟩) rfl) ?_
  refine zbq ?_
  refine zc ?_
  refine zl ?_
  refine zca ?_
  refine zce ?_
  refine zl ?_
  refine zp ?_
  refine zs ?_
  refine zdw ?_
  refine zl ?_
  refine zcv ?_
  refine zda ?_
  refine zy ?_
  refine zb ?_
  refine nK2 ?_
  refine n_cond _ rfl (fun hb => ?_) (fun hb => ?_)
  ·have hc : gt0 (dist.set x kx) e.t.toNat < 0 ∧ (h2.place e.t.toNat < 0 ∨ kx + e.c < h2.key e.t.toNat) := by
    simp only [Bool.and_eq_true, Bool.or_eq_true, Bool.not_eq_true', decide_eq_true_eq, decide_eq_false_iff_not] at hb
    refine ⟨hb.1, ?_⟩
    rcases hb.2 with h5 | h5
    ·exact .inl (by omega)
    by_cases h6 : 0 ≤ h2.place e.t.toNat
    ·rw [if_pos h6] at h5; exact .inr h5
    exact .inl (by omega)
   refine nK2 ?_
   refine za ?_
   refine zc ?_
   refine zf ?_
   refine zh ?_
   refine zc ?_
   refine zf ?_
   refine zh ?_
   refine zbm ?_
   refine Run.eff (dd := some 115) rfl rfl (op_call (n := 4) (n' := 5) [1, 2, 3, 4] (fun _ => hset) rfl (Opd.func _) (oS (oT rfl) (oS (oT rfl) (oS (oT rfl) Opds.nil))) rfl rfl (Lent.of rfl rfl (by exact ⟨⟨rfl, rfl, rfl, tL⟩, ⟨rfl, rfl, rfl, trivial⟩, ⟨rfl, rfl, rfl, trivial⟩, ⟨rfl, rfl, rfl, trivial⟩, trivial⟩) rfl) rfl rfl rfl rfl rfl) ?_
   refine zb ?_
   refine nK2 ?_
   refine za ?_
   refine zj ?_
   refine zc ?_
   refine zb ?_
   refine nK2 ?_
   refine Next.weak [0, 1, 6, 3, 4] [] (by rfl) (keepsN hC _ rfl) wG wR wN (hK3 _ (hput hc))
  have hc : ¬ (gt0 (dist.set x kx) e.t.toNat < 0 ∧ (h2.place e.t.toNat < 0 ∨ kx + e.c < h2.key e.t.toNat)) := fun hc => by
   rw [Bool.eq_false_iff] at hb
   apply hb
   simp only [Bool.and_eq_true, Bool.or_eq_true, Bool.not_eq_true', decide_eq_true_eq, decide_eq_false_iff_not]
   refine ⟨hc.1, ?_⟩
   by_cases h6 : 0 ≤ h2.place e.t.toNat
   ·rw [if_pos h6]
    rcases hc.2 with h5 | h5
    ·omega
    exact .inr h5
   exact .inl (by omega)
  refine nK2 ?_
  refine za ?_
  refine zj ?_
  refine zc ?_
  refine zb ?_
  refine nK2 ?_
  refine Next.weak [0, 1, 2, 3, 4] [] (by rfl) (keepsN hC _ rfl) wG wR wN (hK3 _ (hskip hc))
 have hje : j = L.length := by simp at hb; omega
 subst hje
 rw [List.drop_length] at hJ
 refine nK2 ?_
 refine Next.weak [0, 1, 2, 3, 4] [] (by rfl) (keepsN hC _ rfl) wG wR wN (hK (dist.set x kx, h2) hJ (by dsimp only; omega))
open Go Go.RT Go.Proofs Go.Pl
set_option maxRecDepth 20000
set_option maxHeartbeats 2000000
theorem parents_c (g : Gr) (a : Nat) (d : List Int) (hg : checkI g = 0) (hd : d.length = (g.r + g.n).toNat) (hD : ∀ v, v < (g.r + g.n).toNat → -1 ≤ gt0 d v ∧ gt0 d v ≤ 10000000) : Pure Tryz.prog 79 [.agg (encG g), If .i64 a, VI d] (VLL (parL g.es a d (g.r + g.n).toNat)) := by
 obtain ⟨vg, hr0, hn0⟩ := checkI_vg hg
 have hn := vg.n128
 have hel := vg.e1024
 generalize hN : (g.r + g.n).toNat = n at *
 refine Meets.intro Tryz.func79 rfl (Nat.le_of_ble_eq_true rfl) fun C hC => ?_
 simp only [List.map, argEnv, Nat.reduceAdd]
 refine nK2 ?_
 refine za ?_
 refine zu ?_
 refine ze ?_
 refine zb ?_
 refine nK2 ?_
 refine za ?_
 refine zc ?_
 refine zk ?_
 refine Run.eff (dd := some 12) rfl rfl (op_make (l := n) (c := n) rfl (oT rfl) (oT rfl) rfl rfl rfl rfl (by intro _; rw [hd]; refine ⟨rfl, rfl, ?_⟩; omega)) ?_
 refine zd ?_
 refine zb ?_
 refine nK2 ?_
 refine Next.toOwn 1 1 n rfl ?_
 refine Next.weak [0, 1] [] (by rfl) (keepsN hC _ rfl) (G' := [(1, IV .i64 a), (2, .fz (VI d)), (3, .ptr 0 3 0 0), (7, .sl 1 1 0 n)]) (H' := [(0, OG g), (1, some (.refs 1 (ownL 1 (rowsI (parL [] a d n)))))]) wG (by exact ⟨wS, ⟨ent_own rfl rfl (by rw [parL_nil, rowsI_nil, ← ownL_rep]; rfl), trivial⟩⟩) wN ?_
 refine nK2 ?_
 refine za ?_
 refine zf ?_
 refine zh ?_
 refine zk ?_
 refine zx ?_
 refine zb ?_
 refine nK2 ?_
 refine n_loop (ι := Nat) (fun i => ([(1, IV .i64 a), (2, .fz (VI d)), (7, .sl 0 1 0 n), (14, .fz (VE g.es)), (15, IV .i64 g.es.length), (16, IV .i64 i)], [(0, some (.refs 1 (ownL 1 (rowsI (parL (g.es.take i) a d n)))))], 1)) (fun i => i ≤ g.es.length) (fun i => g.es.length - i) 0 (Nat.zero_le _) ?_ ?_
 ·refine Next.weak [1] [] (by rfl) (keepsN hC _ rfl) wG (by exact ⟨ent_own rfl rfl rfl, trivial⟩) wN rel_intro
 intro i hi K hK
 try dsimp only at hi ⊢
 refine nK2 ?_
 refine za ?_
 refine zn ?_
 refine zb ?_
 refine nK2 ?_
 refine n_cond _ rfl (fun hb => ?_) (fun hb => ?_)
 ·have hlt : i < g.es.length := by simp at hb; omega
  have hr1 := row_at' encE g.es i hlt
  have hef := vg.f _ (List.getElem_mem hlt)
  have het := vg.t _ (List.getElem_mem hlt)
  have hec := vg.c _ (List.getElem_mem hlt)
  have hyes := parL_yes (n := n) (a := a) (d := d) hlt het.1
  have hno := parL_no (n := n) (a := a) (d := d) hlt
  have hgt := parL_get (g.es.take i) a d (n := n) (v := g.es[i].t.toNat) (by omega)
  have hpl := parL_len (g.es.take i) a d n
  have hlen : (parE (g.es.take i) a d g.es[i].t.toNat).length ≤ 1024 := by
   have h1 : (parE (g.es.take i) a d g.es[i].t.toNat).length ≤ (g.es.take i).length := by unfold parE; rw [List.length_map]; exact List.length_filter_le _ _
   have h2 : (g.es.take i).length ≤ g.es.length := List.length_take_le' _ _
   omega
  have hK1 := hK (i + 1) (by omega) (by omega)
  generalize parL (g.es.take (i + 1)) a d n = ll2 at *
  generalize parL (g.es.take i) a d n = ll at *
  have hrg := rowsI_get (ll := ll) (v := g.es[i].t.toNat) (by omega)
  rw [hgt] at hrg
  generalize parE (g.es.take i) a d g.es[i].t.toNat = row at *
  generalize g.es[i] = e at *
  have hrf := row_of encN d e.f.toNat 0 (by omega)
  have hrt := row_of encN d e.t.toNat 0 (by omega)
  have hDf := hD e.f.toNat (by omega)
  have hgf : d.getD e.f.toNat 0 = gt0 d e.f.toNat := rfl
  have hgt2 : d.getD e.t.toNat 0 = gt0 d e.t.toNat := rfl
  rw [hgf] at hrf; rw [hgt2] at hrt
  refine nK2 ?_
  refine za ?_
  refine zr ?_
  refine zv ?_
  refine zo ?_
  refine zg ?_
  refine zb ?_
  refine nK2 ?_
  refine s_draw mixed ?_
  refine zf ?_
  refine zh ?_
  refine zc ?_
  refine zbk ?_
  refine zc ?_
  refine zl ?_
  refine zp ?_
  refine zs ?_
  refine rgZ 28 rfl rfl tG (op_idx_fz e.f.toNat rfl (oO rfl tO) (oO rfl tO) (by intro _; exact ⟨by omega, hrf⟩)) ?_
  refine zbt ?_
  refine zdu ?_
  refine zy ?_
  refine zc ?_
  refine zl ?_
  refine zp ?_
  refine zs ?_
  refine rgZ 36 rfl rfl tG (op_idx_fz e.f.toNat rfl (oO rfl tO) (oO rfl tO) (by intro _; exact ⟨by omega, hrf⟩)) ?_
  refine zbt ?_
  refine zp ?_
  refine zs ?_
  refine zdw ?_
  refine zl ?_
  refine zp ?_
  refine zs ?_
  refine rgZ 44 rfl rfl tG (op_idx_fz e.t.toNat rfl (oO rfl tO) (oO rfl tO) (by intro _; exact ⟨by omega, hrt⟩)) ?_
  refine zbt ?_
  refine zbp ?_
  refine zy ?_
  refine zq ?_
  refine nK2 ?_
  refine n_cond _ rfl (fun hb => ?_) (fun hb => ?_)
  ·rw [← hyes hb] at hK1
   refine nK2 ?_
   refine Next.take 0 e.t.toNat 0 rfl (ownL_get hrg) rfl rfl ?_
   have hs1 := set_get (ownL 1 (rowsI ll)) e.t.toNat [.sl 2 1 0 (row.map encN).length] (by rw [ownL_len, rowsI_len, hpl]; omega)
   refine nK2 ?_
   refine s_draw mixed ?_
   refine zc ?_
   refine zf ?_
   refine zh ?_
   refine zc ?_
   refine zf ?_
   refine zh ?_
   refine rpZ 54 rfl (op_idx_sl0 e.t.toNat rfl (oT rfl) (oT rfl) (by intro _; omega)) ?_
   refine rlZ 55 rfl (op_load1_refs rfl (oT rfl) (by intro _; exact ⟨rfl, hs1⟩) rfl) ?_
   refine zf ?_
   refine zh ?_
   refine zqqz ?_
   refine zdy ?_
   refine rpZ 60 rfl (op_idx_sl0 e.t.toNat rfl (oT rfl) (oT rfl) (by intro _; omega)) ?_
   refine Run.effW (dd := none) rfl rfl (op_store_refs rfl (oT rfl) (oT rfl) tP rfl rfl hs1 tS) (by first | exact ext_call | exact tE) ?_
   refine zq ?_
   refine nK2 ?_
   refine za ?_
   refine zj ?_
   refine zc ?_
   refine zb ?_
   refine nK2 ?_
   refine Next.untake 0 e.t.toNat 0 rfl (set_get _ _ _ (by rw [List.length_set, ownL_len, rowsI_len, hpl]; omega)) rfl rfl (by simp) rfl ?_
   refine Next.weak [0] [] (by rfl) (keepsN hC _ rfl) wG (by exact ⟨ent_own rfl rfl (congrArg (fun r => some (Ob.refs 1 r)) (own_back.trans (congrArg _ (by rw [← rowsI_set, List.map_append]; rfl)))), trivial⟩) wN hK1
  rw [← hno (by rw [Bool.not_eq_true]; exact hb)] at hK1
  refine nK2 ?_
  refine za ?_
  refine zj ?_
  refine zc ?_
  refine zb ?_
  refine nK2 ?_
  refine Next.weak [0] [] (by rfl) (keepsN hC _ rfl) wG (by exact ⟨ent_own rfl rfl rfl, trivial⟩) wN hK1
 have hge : i = g.es.length := by simp at hb; omega
 subst hge
 rw [List.take_length]
 refine Next.freezeOwn 0 rfl rfl ?_
 refine nK2 ?_
 refine za ?_
 refine zc ?_
 refine zd ?_
 refine zb ?_
 refine nK2 ?_
 have hFl : (fzL 1 (rowsI (parL g.es a d n))).length = n := by rw [fzL_len, rowsI_len, parL_len]
 refine Next.weakS [] [6] (by rfl) (keeps0 hC _) (G' := [(6, .fz (VLL (parL g.es a d n)))]) (H' := []) ⟨⟨_, rfl, .inr ⟨_, rfl, .sl _ _ _ _ _ _ rfl rfl ((take_all0 hFl).trans (fz_rowsI _)) (by rw [← fz_rowsI, hFl])⟩⟩, trivial⟩ trivial rfl ?_
 exact n_out1 rfl (by rfl) rfl rfl
end Go.Proofs.YtoeckbdgemnngaaGreat
/- The kit's contract of slices.SortFunc at elements of one cell, with a closure over frozen data. -/
namespace Go.RT
open Go Go.Proofs Go.Sort Go.Shelf
set_option linter.all false
variable {P : Program} {ρ : Ren}
theorem cmp_lays1 {g : Nat} {β : Type} [Inhabited β] {ev : β → Value} {cf : β → β → Int} {caps : List FV} (hc : ∀ x y, Pure P g ([.lit (ev x), .lit (ev y)] ++ caps) (If .i64 (cf x y))) {blk off size : Nat} {w : World} {S : Nat → Prop} {cb : Array Value} (hblk : ¬ S blk) (hS : ∀ b, S b → b < w.heap.size)
    (hcl : cb.size = caps.length) (hcr : ∀ (i : Nat) (v : Value) (f : FV), cb[i]? = some v → caps[i]? = some f → FRep w S v f) {c : Array Value} {e : TypeId} (hb : w.heap[blk]? = some (.cells c e (0, 0))) : CmpLays1 P g cb ev cf blk off size w := by
  intro m os dk _ x y
  have hsame : ∀ b, S b → (sortWorld ev w blk off m dk os).heap[b]? = w.heap[b]? := fun b hs => by
    have hbl := hS b hs
    have hne : b ≠ blk := fun e => hblk (e ▸ hs)
    unfold sortWorld putRow
    rw [mapBlock_setRow (w := Go.Sort.ahead w m) (b := blk) (c := c) (e := e) (fr := (0, 0)) _ hb]
    have : (grow ((Go.Sort.ahead w m).setRow blk (putCells ev off dk c)) os) = grown (w.setRow blk (putCells ev off dk c)) os m := rfl
    rw [this, grown_old _ _ _ (by simpa using hbl), setRow_other w blk b _ hne]
  have hsz : w.heap.size ≤ (sortWorld ev w blk off m dk os).heap.size := by
    unfold sortWorld putRow
    rw [mapBlock_setRow (w := Go.Sort.ahead w m) (b := blk) (c := c) (e := e) (fr := (0, 0)) _ hb]
    have : (grow ((Go.Sort.ahead w m).setRow blk (putCells ev off dk c)) os) = grown (w.setRow blk (putCells ev off dk c)) os m := rfl
    rw [this]; simp [grown]
  generalize sortWorld ev w blk off m dk os = W at hsame hsz
  let C : Cx := ⟨W, fun _ => False, S, fun _ => none, 0, []⟩
  have hm : Mem C [] 0 C.S0 C.m0 C.w0 := ⟨⟨rfl, Nat.le_refl _⟩, rfl, rfl, fun _ _ => rfl, Nat.le_refl _, fun _ _ _ => rfl, Le.refl _ _ _, fun b h => .inl h, fun i x hx => (by cases hx), fun i o h => (by cases h), fun i o b h => (by cases h), fun i j o1 o2 b h => (by cases h), fun b hb => Nat.lt_of_lt_of_le (hS b hb) hsz, fun _ _ => rfl, nst_nil⟩
  have := (hc x y).run C ([ev x, ev y] ++ cb.toList) rfl hm (by simp [hcl]) (fun i v p hi hp => by
    rw [List.getElem?_map] at hp
    obtain ⟨f, hf, rfl⟩ := Option.map_eq_some_iff.1 hp
    match i with
    | 0 => simp at hi hf; subst hi; subst hf; exact .fz _ _ (.lit _)
    | 1 => simp at hi hf; subst hi; subst hf; exact .fz _ _ (.lit _)
    | i + 2 =>
      simp at hi hf
      exact .fz _ _ ((hcr i v f hi hf).mono (fun _ h => h) hsame))
  have h2 : Calls P g (#[ev x, ev y] ++ cb) W (fun e w' => ∃ v S' m', e = .returned v ∧ Mem C [] 0 S' m' w' ∧ Rep w' S' m' v (.fz (If .i64 (cf x y)))) := by
    have e1 : ([ev x, ev y] ++ cb.toList).toArray = #[ev x, ev y] ++ cb := by simp
    rw [e1] at this; exact this
  refine h2.mono fun e w' ⟨v, S', m', he, hm', hr⟩ => ?_
  obtain ⟨q, os', hw⟩ := hm'.is_grown (fun b h => h)
  refine ⟨by rw [he]; cases hr with | fz _ _ h => cases h; rfl, q, os', hw⟩
theorem sort1_meets (L : SlLaysF.n6 P ρ) {β : Type} [Inhabited β] {ev : β → Value} (h1 : OneCell ev) {cf : β → β → Int} (hO : SWO (ltOf cf)) {g : Nat} [FnB P g] {caps : List FV}
    (hc : ∀ x y, Pure P g ([.lit (ev x), .lit (ev y)] ++ caps) (If .i64 (cf x y))) {l : List β} (hl : l.length < 4611686018427387904) :
    Meets P (ρ.f 6) [.sl 0 1 0 l.length, .fz (.clo g caps)] 1 [(0, some (.flat 1 (l.map fun x => [.lit (ev x)])))] (.fz (.tup [])) [(0, some (.flat 1 ((sortBy cf l).map fun x => [.lit (ev x)])))] 1 := by
  refine ⟨fun C vs hn hm hlv hr => ?_⟩
  have hg : ∀ args w, (callFunc g args).run P w = .ok (.enter g args) w := fun args w => by
    obtain ⟨fn, q1, q2, q3⟩ := (inferInstance : FnB P g).h
    have h4 : ¬ (fn.body = none) := by intro e; rw [e] at q3; cases q3
    have h5 : ¬ (fn.name = "runtime.NumGoroutine") := by simpa using q2
    simp [callFunc, q1, h4, h5]
  have tupR : ∀ w' S' m', Rep w' S' m' (.tuple #[]) (.fz (.tup [])) := fun w' S' m' => .fz _ _ (.tup #[] [] rfl (fun i c f hc => by simp at hc))
  match vs, hlv, hr with
  | [v0, v1], _, hr =>
  have r0 := hr 0 v0 _ rfl rfl
  have r1 := (hr 1 v1 _ rfl rfl).frz
  have ho := hm.objs 0 _ rfl
  obtain ⟨hs1, hs2, _⟩ := sortBy_spec cf hO l
  cases r1 with
  | clo _ cb _ hcl hcr =>
  generalize hll : l.length = n at r0 hl
  cases r0 with
  | sl0 =>
    have : l = [] := List.length_eq_zero_iff.1 hll
    subst this
    have e : sortBy cf ([] : List β) = [] := List.length_eq_zero_iff.1 hs2
    rw [e]
    refine (AnyF.slices_SortFunc_none (P := P) (ρ := ρ) { L with } none 0 (.func (.func g) #[] cb) C.w0).mono fun e w' ⟨he, hw⟩ => ?_
    subst hw
    exact ⟨_, _, _, he, hm, tupR _ _ _⟩
  | sl _ _ _ _ b cap h hroom hcap hmx =>
    rcases ho with ⟨h2, _⟩ | ⟨b', c, e, h2, h3, h4⟩
    · rw [h] at h2; cases h2
    · rw [h] at h2; cases h2
      obtain ⟨hsz, _, hR⟩ := h4
      obtain ⟨hb1, hb2, hb3⟩ := hm.blk 0 _ b rfl h
      have hcells : ∀ j (hj : j < l.length), c[j]? = some (ev l[j]) := fun j hj => by
        obtain ⟨u, hu, _, hf⟩ := hR j 0 [.lit (ev l[j])] (.lit (ev l[j])) (by simp [hj]) rfl
        cases hf
        simpa using hu
      have hH : Holds ev C.w0 b (0 * 1) l.toArray := by
        intro j hj
        simp at hj
        refine ⟨?_, ?_⟩
        · simp only [World.cell?, h3, Nat.zero_mul, Nat.zero_add]
          rw [getElem!_pos _ j (by simpa using hj)]
          simpa using hcells j hj
        · simp [World.frozen?, h3]
      have hcall := Any.slices_SortFunc_eq L ev h1 cf hO g cb b (0 * 1) cap l.toArray C.w0 hg (cmp_lays1 hc hb1 hm.stab hcl hcr h3) hH hb2 (by simpa [hll] using hl)
      rw [show l.toArray.size = n by simpa using hll] at hcall
      refine hcall.mono fun ex w' ⟨he, q, os, hw⟩ => ?_
      subst hw
      have hd : pdq (ltOf cf) l.toArray 0 n (Lib.bitLen n) true true = (sortBy cf l).toArray := by rw [← hll]; simp [sortBy]
      rw [hd]
      have hset : sortWorld ev C.w0 b (0 * 1) q (sortBy cf l).toArray os = grown (C.w0.setRow b (putCells ev 0 (sortBy cf l).toArray c)) os q := by
        unfold sortWorld putRow
        rw [mapBlock_setRow (w := Go.Sort.ahead C.w0 q) (b := b) (c := c) (e := e) (fr := (0, 0)) _ h3, Nat.zero_mul]
        rfl
      rw [hset]
      have hps : (putCells ev 0 (sortBy cf l).toArray c).size = c.size := by simp [putCells]
      have hrr : ∀ w' : World, RowsRep (FRep w' C.S0) (putCells ev 0 (sortBy cf l).toArray c) 1 ((sortBy cf l).map fun x => [FV.lit (ev x)]) := fun w' => by
        refine ⟨by rw [hps]; simpa [hs2] using hsz, fun r hr => ?_, fun i j r p hi hj => ?_⟩
        · obtain ⟨x, _, rfl⟩ := List.mem_map.1 hr
          rfl
        · rw [List.getElem?_map] at hi
          obtain ⟨x, hx, rfl⟩ := Option.map_eq_some_iff.1 hi
          have hin : i < (sortBy cf l).length := (List.getElem?_eq_some_iff.1 hx).1
          match j, hj with
          | 0, hj =>
            cases hj
            have hlt2 : i < c.size := by simp at hsz; omega
            refine ⟨ev x, ?_, h1 x, .lit _⟩
            unfold putCells
            rw [Nat.mul_one, Nat.add_zero, Array.getElem?_mapIdx, Array.getElem?_eq_getElem hlt2]
            simp only [Option.map_some, Nat.zero_le, true_and, Nat.zero_add, List.size_toArray, Nat.sub_zero]
            rw [if_pos hin, getElem!_pos _ i (by simpa using hin)]
            rw [List.getElem?_eq_getElem hin] at hx
            cases hx; simp
          | j + 1, hj => simp at hj
      obtain ⟨m1, hle1⟩ := hm.write (id := 0) (o' := .flat 1 ((sortBy cf l).map fun x => [.lit (ev x)])) rfl h h3 hps (plain_hown (by exact trivial)) (fun w' hle hb => .inr ⟨b, _, e, h, hb, hrr w'⟩)
      refine ⟨_, _, _, he, ((m1.reheap (H' := [(0, some (.flat 1 ((sortBy cf l).map fun x => [.lit (ev x)])))]) (fun id => ?_)).grow os q).1, tupR _ _ _⟩
      simp only [hlook]
      cases Nat.beq 0 id <;> rfl
end Go.RT
namespace Go.Proofs.YtoeckbdgemnngaaGreat
open Go Go.RT Go.Proofs Go.Pl
set_option linter.all false
set_option maxRecDepth 20000
set_option maxHeartbeats 2000000
instance : FnOv Tryz.prog 156 76   := ⟨_, 4, Tryz.func156, by decide +kernel, rfl, by kernel_rfl, by kernel_rfl⟩
theorem inserti_c (l : List Int) (x : Int) (i : Nat) (hn : l.length ≤ 2000000) (hi : i ≤ l.length) : Meets Tryz.prog 127 [.sl 0 1 0 l.length, IV .i64 i, .sl 1 1 0 1] 2 [(0, OI l), (1, OI [x])] (.sl 2 1 0 (l.length + 1)) [(2, OI (insL l i x))] 3 := by
 have hil := insL_len l i x hi
 have e0 : ∀ xs ys : List Int, List.map encN (xs ++ ys) = xs.map encN ++ ys.map encN := fun xs ys => List.map_append
 refine Meets.intro Tryz.func127 rfl (Nat.le_of_ble_eq_true rfl) fun C hC => ?_
 simp only [List.map, argEnv, Nat.reduceAdd]
 by_cases hie : i = l.length
 ·refine nK ?_
  refine za ?_
  refine ze ?_
  refine zb ?_
  refine nK ?_
  refine za ?_
  refine zc ?_
  refine zc ?_
  refine rlZ 12 rfl (op_slice_end (l := i) (h := l.length) rfl (oT rfl) (Bnd.yes _ _ _ _ _ (oT rfl) tQ) (Bnd.no _) (by intro _; refine ⟨rfl, ?_⟩; rw [List.length_map]; omega)) ?_
  refine zb ?_
  refine nK ?_
  refine za ?_
  refine zc ?_
  refine zbl ?_
  refine zd ?_
  refine zb ?_
  refine nK ?_
  refine za ?_
  refine zc ?_
  refine zba ?_
  refine zb ?_
  refine nK ?_
  refine n_cond _ rfl (fun hb => ?_) (fun hb => ?_)
  ·simp at hb
  refine nK ?_
  refine za ?_
  refine zc ?_
  refine zbl ?_
  refine zd ?_
  refine zb ?_
  refine nK ?_
  refine za ?_
  refine zc ?_
  refine zc ?_
  refine zbx ?_
  refine zb ?_
  refine nK ?_
  refine n_cond _ rfl (fun hb => ?_) (fun hb => ?_)
  ·have e4 : insL l i x = l ++ [x] := by rw [hie]; simp [insL]
   refine nK ?_
   refine za ?_
   refine zc ?_
   refine zc ?_
   refine zdd ?_
   refine zd ?_
   refine zb ?_
   refine nK ?_
   refine Next.weakS [0, 2, 6] [] (by rfl) (keepsN hC _ rfl) (G' := [(6, .sl 2 1 0 (l.length + 1))]) (H' := [(2, OI (insL l i x))]) (by exact ⟨⟨_, rfl, .inl ⟨rfl, rfl⟩⟩, trivial⟩) (by exact ⟨ent_same rfl rfl (by rw [e4, e0]; rfl) trivial, trivial⟩) rfl ?_
   exact n_out1 rfl (by rfl) rfl rfl
  exfalso; simp at hb; omega
 refine nK ?_
 refine za ?_
 refine ze ?_
 refine zb ?_
 refine nK ?_
 refine za ?_
 refine zc ?_
 refine zc ?_
 refine rlZ 12 rfl (op_slice_view (l := i) (h := l.length) rfl (oT rfl) (Bnd.yes _ _ _ _ _ (oT rfl) tQ) (Bnd.no _) (by intro _; refine ⟨rfl, ?_⟩; rw [List.length_map]; omega)) ?_
 refine zb ?_
 refine nK ?_
 refine za ?_
 refine zc ?_
 refine zbl ?_
 refine zd ?_
 refine zb ?_
 refine nK ?_
 refine za ?_
 refine zc ?_
 refine zba ?_
 refine zb ?_
 refine nK ?_
 refine n_cond _ rfl (fun hb => ?_) (fun hb => ?_)
 ·simp at hb
 refine nK ?_
 refine za ?_
 refine zc ?_
 refine zbl ?_
 refine zd ?_
 refine zb ?_
 refine nK ?_
 refine za ?_
 refine zc ?_
 refine zc ?_
 refine zbx ?_
 refine zb ?_
 refine nK ?_
 refine n_cond _ rfl (fun hb => ?_) (fun hb => ?_)
 ·exfalso; simp at hb; omega
 refine Next.capE 0 rfl rfl rfl (Nat.zero_le _) fun cap hc1 hc2 hc3 => ?_
 unfold maxLen at hc3
 refine nK ?_
 refine za ?_
 refine zc ?_
 refine zc ?_
 refine zbm ?_
 refine zc ?_
 refine rpZ 30 rfl (op_cap rfl (oT rfl)) ?_
 refine zbz ?_
 refine zb ?_
 refine nK ?_
 refine n_cond _ rfl (fun hb => ?_) (fun hb => ?_)
 ·have hc4 : cap < l.length + 1 := by simp at hb; omega
  have hlen2 : ((l.map encN).take i ++ List.replicate (l.length + 1 - i) (encN 0)).length = l.length + 1 := by simp; omega
  refine nK ?_
  refine za ?_
  refine zc ?_
  refine zc ?_
  refine rpZ 34 rfl (op_slice_room (h := i) rfl (oT rfl) (Bnd.yes _ _ _ _ _ (oT rfl) tQ) (by intro _; omega)) ?_
  refine zc ?_
  refine zc ?_
  refine zbm ?_
  refine zc ?_
  refine zdg ?_
  refine Run.eff (dd := some 40) rfl rfl (op_append_zg (k := l.length + 1 - i) (zs := encN 0) rfl (oT rfl) (opdI (oT rfl) (by omega)) rfl rfl rfl rfl rfl (by rw [List.length_map]; omega) (by omega) (by omega) (by omega) (by omega)) ?_
  refine zd ?_
  refine zb ?_
  refine nK ?_
  have hz : ∀ k : Nat, (some (Ob.flat 1 ((l.map encN).take i ++ List.replicate k [If .i64 0]))) = some (.flat 1 ((l.map encN).take i ++ List.replicate k (encN 0))) := fun _ => rfl
  refine nK ?_
  refine za ?_
  refine zc ?_
  refine zc ?_
  refine rlZ 43 rfl (op_slice_view (l := i) (h := i + (l.length + 1 - i)) rfl (oT rfl) (Bnd.yes _ _ _ _ _ (oT rfl) tQ) (Bnd.no _) (by intro _; refine ⟨rfl, ?_⟩; rw [hlen2]; omega)) ?_
  refine zc ?_
  refine Run.eff (dd := some 45) rfl rfl (op_copy (n := 1) (rs := [x].map encN) rfl (oT rfl) (oT rfl) rfl rfl (by show min _ _ = _; omega) rfl rfl (by rw [hlen2]; omega)) ?_
  refine zb ?_
  refine nK ?_
  have hlen3 : (((l.map encN).take i ++ List.replicate (l.length + 1 - i) (encN 0)).take (0 + i) ++ [x].map encN ++ ((l.map encN).take i ++ List.replicate (l.length + 1 - i) (encN 0)).drop (0 + i + 1)).length = l.length + 1 := by simp; omega
  refine nK ?_
  refine s_draw mixed ?_
  refine zc ?_
  refine zc ?_
  refine zc ?_
  refine zbm ?_
  refine rlZ 50 rfl (op_slice_view (l := i + 1) (h := i + (l.length + 1 - i)) rfl (oT rfl) (Bnd.yes _ _ _ _ _ (oT rfl) tQ) (Bnd.no _) (by intro _; refine ⟨rfl, ?_⟩; rw [hlen3]; omega)) ?_
  refine zc ?_
  refine zc ?_
  refine rlZ 53 rfl (op_slice_view (l := i) (h := l.length) rfl (Opd.wc _ _ _ (oT rfl)) (Bnd.yes _ _ _ _ _ (oT rfl) tQ) (Bnd.no _) (by intro _; refine ⟨rfl, ?_⟩; rw [List.length_map]; omega)) ?_
  refine Run.effW (dd := some 54) rfl rfl (op_copy (n := l.length - i) (rs := (l.map encN).drop i) rfl (oT rfl) (oT rfl) rfl rfl (by show min _ _ = _; omega) (by rw [Nat.zero_add, List.take_of_length_le (by simp)]) (by simp) (by rw [hlen3]; omega)) tE ?_
  refine zq ?_
  refine nK ?_
  have hgr := ins_grow (l.map encN) i (encN x) (encN 0) (by rw [List.length_map]; omega)
  rw [List.length_map, ← insL_map] at hgr
  refine nK ?_
  refine za ?_
  refine zc ?_
  refine zd ?_
  refine zb ?_
  refine nK ?_
  refine Next.weakS [0, 2, 6] [] (by rfl) (keepsN hC _ rfl) (G' := [(6, .sl 2 1 0 (l.length + 1))]) (H' := [(2, OI (insL l i x))]) (by exact ⟨⟨_, rfl, .inl ⟨slEq rfl (by omega), rfl⟩⟩, trivial⟩) (by exact ⟨ent_same rfl rfl (by rw [← hgr]; simp only [Nat.zero_add]; rfl) trivial, trivial⟩) rfl ?_
  exact n_out1 rfl (by rfl) rfl rfl
 have hc4 : l.length + 1 ≤ cap := by simp at hb; omega
 refine nK ?_
 refine za ?_
 refine zc ?_
 refine zc ?_
 refine zc ?_
 refine zbm ?_
 refine rpZ 60 rfl (op_slice_room (h := l.length + 1) rfl (oT rfl) (Bnd.yes _ _ _ _ _ (oT rfl) (by intro _; simp)) (by intro _; omega)) ?_
 refine zd ?_
 refine zb ?_
 refine nK ?_
 refine nK ?_
 refine za ?_
 refine zc ?_
 refine zc ?_
 refine zc ?_
 refine zc ?_
 refine zbm ?_
 refine rpZ 66 rfl (op_slice_fromR (l := i + 1) rfl (oT rfl) (Bnd.yes _ _ _ _ _ (oT rfl) tQ) (by intro _; omega)) ?_
 refine rlZ 67 rfl (op_overlaps rfl (oT rfl) (oT rfl) rfl rfl rfl (by rw [List.length_map]; omega) rfl) ?_
 refine zbj ?_
 refine zb ?_
 refine nK ?_
 refine n_cond _ rfl (fun hb => ?_) (fun hb => ?_)
 ·refine nK ?_
  refine s_draw mixed ?_
  refine zc ?_
  refine zc ?_
  refine zc ?_
  refine zbm ?_
  refine rpZ 73 rfl (op_slice_fromR (l := i + 1) rfl (oT rfl) (Bnd.yes _ _ _ _ _ (oT rfl) tQ) (by intro _; omega)) ?_
  refine zc ?_
  refine zc ?_
  refine rpZ 76 rfl (op_slice_fromR (l := i) rfl (oT rfl) (Bnd.yes _ _ _ _ _ (oT rfl) tQ) (by intro _; omega)) ?_
  refine Run.effW (dd := some 77) rfl rfl (op_copy (n := l.length - i) (rs := (l.map encN).drop i) rfl (oT rfl) (oT rfl) rfl rfl (by show min _ _ = _; omega) (by rw [Nat.zero_add, List.take_of_length_le (by simp)]) (by simp) (by rw [List.length_map]; omega)) tE ?_
  refine zq ?_
  refine nK ?_
  have hl5 : ((l.map encN).take (0 + (i + 1)) ++ (l.map encN).drop i ++ (l.map encN).drop (0 + (i + 1) + (l.length - i))).length = l.length + 1 := by simp; omega
  have hgr := ins_room (l.map encN) i (encN x) (by rw [List.length_map]; omega)
  rw [List.length_map, ← insL_map] at hgr
  refine nK ?_
  refine za ?_
  refine zc ?_
  refine zc ?_
  refine rlZ 80 rfl (op_slice_view (l := i) (h := l.length + 1) rfl (Opd.wc _ _ _ (oT rfl)) (Bnd.yes _ _ _ _ _ (oT rfl) tQ) (Bnd.no _) (by intro _; refine ⟨rfl, ?_⟩; rw [hl5]; omega)) ?_
  refine zc ?_
  refine Run.eff (dd := some 82) rfl rfl (op_copy (n := 1) (rs := [x].map encN) rfl (oT rfl) (oT rfl) rfl rfl (by show min _ _ = _; omega) rfl rfl (by rw [hl5]; omega)) ?_
  refine zb ?_
  refine nK ?_
  refine za ?_
  refine zc ?_
  refine zd ?_
  refine zb ?_
  refine nK ?_
  refine Next.unwc 6 rfl ?_
  refine Next.retag 6 rfl rfl ?_
  refine Next.weakS [0, 2, 6] [] (by rfl) (keepsN hC _ rfl) (G' := [(6, .sl 2 1 0 (l.length + 1))]) (H' := [(2, OI (insL l i x))]) (by exact ⟨⟨_, rfl, .inl ⟨rfl, rfl⟩⟩, trivial⟩) (by exact ⟨ent_same rfl rfl (by rw [← hgr]; simp only [Nat.zero_add]; rfl) trivial, trivial⟩) rfl ?_
  exact n_out1 rfl (by rfl) rfl rfl
 exfalso; simp at hb
open Go Go.RT Go.Proofs Go.Pl
set_option maxRecDepth 20000
set_option maxHeartbeats 2000000
theorem wHIS14a {α : Prop} (h : α := by repeat (first | exact trivial | refine ⟨⟨_, rfl, .inl ⟨rfl, rfl⟩⟩, ?_⟩)) : α := h
theorem wHIS14b {α : Prop} (h : α := by repeat (first | exact trivial | refine ⟨wS, ?_⟩ | refine ⟨ent_same rfl rfl (rfEq rfl tU) tL, ?_⟩ | refine ⟨ent_same rfl rfl (flEq rfl (by first | (simp; done) | (simp; omega) | (simp [encE, encN, encB, encT, encLL]; done) | simp [maxC, minC])) trivial, ?_⟩)) : α := h
theorem snan_c (a : Int) : Pure Tryz.prog 155 [If .i64 a] (Bf false) := by
 refine Meets.intro Tryz.func155 rfl (Nat.le_of_ble_eq_true rfl) fun C hC => ?_
 simp only [List.map, argEnv, Nat.reduceAdd]
 refine nK ?_
 refine za ?_
 refine ze ?_
 refine zb ?_
 refine nK ?_
 refine za ?_
 refine zc ?_
 refine zc ?_
 refine zbk ?_
 refine zd ?_
 refine zb ?_
 refine nK ?_
 refine Next.weakS [] [] (by rfl) (keeps0 hC _) (G' := [(2, BV false)]) (H' := []) ⟨⟨_, rfl, .inl ⟨by simp [renP], rfl⟩⟩, trivial⟩ trivial rfl ?_
 exact wO hC
theorem cless_c (a b : Int) : Pure Tryz.prog 154 [If .i64 a, If .i64 b] (Bf (decide (a < b))) := by
 refine Meets.intro Tryz.func154 rfl (Nat.le_of_ble_eq_true rfl) fun C hC => ?_
 simp only [List.map, argEnv, Nat.reduceAdd]
 refine nK ?_
 refine za ?_
 refine ze ?_
 refine zb ?_
 refine nK ?_
 refine za ?_
 refine zc ?_
 refine rpZ 6 rfl (op_call_pure (fun _ => nan_c _) rfl (Opd.func _) (oS (oT rfl) Opds.nil)) ?_
 refine zc ?_
 refine zl ?_
 refine rgZ 9 rfl rfl tG (op_call_pure (fun _ => nan_c _) rfl (Opd.func _) (oS (oO rfl tO) Opds.nil)) ?_
 refine zca ?_
 refine zy ?_
 refine zc ?_
 refine zl ?_
 refine zl ?_
 refine zcv ?_
 refine zbd ?_
 refine zd ?_
 refine zb ?_
 refine nK ?_
 exact wO hC
theorem bsearchi_c (l : List Int) (x : Int) (hn : l.length ≤ 2000000) : Pure Tryz.prog 126 [VI l, If .i64 x] (.tup [If .i64 (bsGo (fun e => decide (e < x)) l 0 l.length : Nat), Bf (hitAt (fun e => decide (e = x)) l (bsGo (fun e => decide (e < x)) l 0 l.length))]) := by
 refine Meets.intro Tryz.func126 rfl (Nat.le_of_ble_eq_true rfl) fun C hC => ?_
 simp only [List.map, argEnv, Nat.reduceAdd]
 refine nK ?_
 refine za ?_
 refine ze ?_
 refine ze ?_
 refine zb ?_
 refine nK ?_
 refine za ?_
 refine zc ?_
 refine zk ?_
 refine zd ?_
 refine zb ?_
 refine nK ?_
 refine za ?_
 refine zc ?_
 refine ze ?_
 refine zd ?_
 refine zb ?_
 refine nK ?_
 refine n_loop (ι := Nat × Nat) (fun g => ([(0, .fz (VI l)), (1, IV .i64 x), (6, IV .i64 l.length), (7, IV .i64 g.1), (8, IV .i64 g.2)], [], 0)) (fun g => g.1 ≤ g.2 ∧ g.2 ≤ l.length ∧ bsGo (fun e => decide (e < x)) l g.1 g.2 = bsGo (fun e => decide (e < x)) l 0 l.length) (fun g => g.2 - g.1) (0, l.length) ⟨Nat.zero_le _, Nat.le_refl _, rfl⟩ ?_ ?_
 ·refine Next.weak [] [] (by rfl) (keeps0 hC _) wHIS14a wHIS14b wN rel_intro
 intro ⟨i, j⟩ ⟨hi, hj, ho⟩ K hK
 dsimp only at hi hj ho ⊢
 refine nK ?_
 refine za ?_
 refine zc ?_
 refine zc ?_
 refine zn ?_
 refine zb ?_
 refine nK ?_
 refine n_cond _ rfl (fun hb => ?_) (fun hb => ?_)
 ·have hlt : i < j := by simp at hb; omega
  have hm : (i + j) / 2 < l.length := by omega
  have hr1 := row_at' encN l ((i + j) / 2) hm
  have hst := bsGo_step (fun e => decide (e < x)) l i j hlt hj
  rw [ho] at hst
  have hKl := fun h => hK (((i + j) / 2) + 1, j) ⟨by dsimp only; omega, by dsimp only; omega, h⟩ (by dsimp only; omega)
  have hKr := fun h => hK (i, (i + j) / 2) ⟨by dsimp only; omega, by dsimp only; omega, h⟩ (by dsimp only; omega)
  generalize l[(i + j) / 2] = e at *
  refine nK ?_
  refine za ?_
  refine zc ?_
  refine zc ?_
  refine zbm ?_
  refine zbh ?_
  refine rpZ 20 rfl (op_shr (n := 1) rfl (oT rfl) oC (by intro _; simp only [IntKind.bits]; omega)) ?_
  refine zbh ?_
  refine zd ?_
  refine zb ?_
  refine nK ?_
  refine za ?_
  refine zc ?_
  refine zc ?_
  refine rpZ 24 rfl (op_idx_fz ((i + j) / 2) rfl (oT rfl) (oT rfl) (by intro _; exact ⟨by omega, hr1⟩)) ?_
  refine zt ?_
  refine zc ?_
  refine rpZ 27 rfl (op_call_pure (fun _ => cless_c _ _) rfl (Opd.func _) (oS (oT rfl) (oS (oT rfl) Opds.nil))) ?_
  refine zb ?_
  refine nK ?_
  refine n_cond _ rfl (fun hb => ?_) (fun hb => ?_)
  ·simp only [hb, cond_true] at hst
   refine nK ?_
   refine za ?_
   refine zc ?_
   refine zj ?_
   refine zd ?_
   refine zb ?_
   refine nK ?_
   refine Next.weak [] [] (by rfl) (keeps0 hC _) wHIS14a wHIS14b wN (hKl hst.symm)
  simp only [hb, cond_false] at hst
  refine nK ?_
  refine za ?_
  refine zc ?_
  refine zd ?_
  refine zb ?_
  refine nK ?_
  refine Next.weak [] [] (by rfl) (keeps0 hC _) wHIS14a wHIS14b wN (hKr hst.symm)
 have hie : i = j := by simp at hb; omega
 rw [hie, bsGo_end] at ho
 rw [← ho]
 rw [hie] at hi ⊢
 obtain ⟨q, hq, hh⟩ := hitAt_eq l j (fun e => decide (e = x))
 rw [hh]
 have hr : j < l.length → (l.map encN)[j]? = some (encN q) := fun h => by rw [List.getElem?_map, hq h]; rfl
 refine nK ?_
 refine za ?_
 refine zc ?_
 refine zc ?_
 refine zc ?_
 refine zn ?_
 refine zc ?_
 refine zl ?_
 refine zl ?_
 refine rgZ 38 rfl rfl tG (op_idx_fz j rfl (oO rfl tO) (oO rfl tO) (by intro hg; exact ⟨rfl, hr (by simp at hg; omega)⟩)) ?_
 refine zbt ?_
 refine zl ?_
 refine zbp ?_
 refine zce ?_
 refine zl ?_
 refine zl ?_
 refine rgZ 45 rfl rfl tG (op_idx_fz j rfl (oO rfl tO) (oO rfl tO) (by intro hg; exact ⟨rfl, hr (by simp at hg; omega)⟩)) ?_
 refine zbt ?_
 refine rgZ 47 rfl rfl tG (op_call_pure (fun _ => snan_c _) rfl (Opd.func _) (oS (oO rfl tO) Opds.nil)) ?_
 refine zce ?_
 refine zl ?_
 refine rgZ 50 rfl rfl tG (op_call_pure (fun _ => snan_c _) rfl (Opd.func _) (oS (oO rfl tO) Opds.nil)) ?_
 refine zco ?_
 refine zda ?_
 refine zy ?_
 refine zd ?_
 refine zd ?_
 refine zb ?_
 refine nK ?_
 refine Next.weakS [] [] (by rfl) (keeps0 hC _) (G' := [(4, IV .i64 j), (5, BV (decide ((j : Int) < (l.length : Int)) && decide (q = x)))]) (H' := []) ⟨⟨_, rfl, .inl ⟨rfl, rfl⟩⟩, ⟨_, rfl, .inl ⟨by simp [renP], rfl⟩⟩, trivial⟩ trivial rfl ?_
 exact wO hC
open Go Go.RT Go.Proofs Go.Pl
set_option maxRecDepth 20000
set_option maxHeartbeats 2000000
theorem hcmp_c (d : List Int) (x y : Nat) (hx : x < d.length) (hy : y < d.length) : Pure Tryz.prog 124 [If .i64 x, If .i64 y, .cellp [VI d]] (If .i64 (ordH d x y)) := by
 have rx := row_of encN d x 0 hx
 have ry := row_of encN d y 0 hy
 have hgx : d.getD x 0 = gt0 d x := rfl
 have hgy : d.getD y 0 = gt0 d y := rfl
 rw [hgx] at rx; rw [hgy] at ry
 unfold ordH
 refine Meets.intro Tryz.func124 rfl (Nat.le_of_ble_eq_true rfl) fun C hC => ?_
 simp only [List.map, argEnv, Nat.reduceAdd]
 refine nK ?_
 refine za ?_
 refine ze ?_
 refine zb ?_
 refine nK ?_
 refine s_draw mixed ?_
 refine zt ?_
 refine zc ?_
 refine rpZ 8 rfl (op_idx_fz x rfl (oT rfl) (oT rfl) (by intro _; exact ⟨rfl, rx⟩)) ?_
 refine zt ?_
 refine zt ?_
 refine zc ?_
 refine rpZ 12 rfl (op_idx_fz y rfl (oT rfl) (oT rfl) (by intro _; exact ⟨rfl, ry⟩)) ?_
 refine zt ?_
 refine rpZ 14 rfl (op_call_pure (fun _ => cmp_c _ _) rfl (Opd.func _) (oS (oT rfl) (oS (oT rfl) Opds.nil))) ?_
 refine zc ?_
 refine zc ?_
 refine rpZ 17 rfl (op_call_pure (fun _ => cmp_c _ _) rfl (Opd.func _) (oS (oT rfl) (oS (oT rfl) Opds.nil))) ?_
 refine zcw ?_
 refine rpZ 19 rfl (op_call_pure (fun _ => or_c [_, _] (by simp)) rfl (Opd.func _) (oS (oT rfl) Opds.nil)) ?_
 refine zd ?_
 refine zq ?_
 refine nK ?_
 exact wO hC
theorem swo_h (d : List Int) (n : Nat) : Go.Sort.SWO (ltOf fun x y : Fin n => ordH d x y) := by
 have e : ∀ x y : Fin n, ltOf (fun x y : Fin n => ordH d x y) x y = decide (gt0 d x < gt0 d y ∨ gt0 d x = gt0 d y ∧ y.val < x.val) := fun x y => by
  unfold ltOf; rw [Bool.eq_iff_iff]; simp [ordH_neg]
 refine ⟨fun x => ?_, fun x y z h1 h2 => ?_, fun x y z h1 h2 => ?_⟩
 ·rw [e]; simp
 ·rw [e] at *; simp only [decide_eq_true_eq] at *; omega
 rw [e] at *; simp only [decide_eq_false_iff_not] at *; omega
theorem sorth_c (d : List Int) (l l2 : List Nat) (hd : 0 < d.length) (hl : ∀ v ∈ l, v < d.length) (hm : l.length ≤ 2000000) (hp : l2.Perm l) (hs : l2.Pairwise (ltHd d)) : Meets Tryz.prog 123 [.sl 0 1 0 l.length, .fz (.clo 124 [.cellp [VI d]])] 1 [(0, OT l)] (.fz (.tup [])) [(0, OT l2)] 1 := by
 haveI : Inhabited (Fin d.length) := ⟨⟨0, hd⟩⟩
 have hl' : ∀ v ∈ l, v < d.length := hl
 let lf : List (Fin d.length) := l.pmap (fun v h => ⟨v, h⟩) hl'
 have hlf : lf.map (fun x => x.val) = l := by simp [lf, List.map_pmap]
 have hll : lf.length = l.length := by simp [lf]
 obtain ⟨s1, s2, s3⟩ := sortBy_spec (fun x y : Fin d.length => ordH d x y) (swo_h d d.length) lf
 have hr : (sortBy (fun x y : Fin d.length => ordH d x y) lf).map (fun x => x.val) = l2 := by
  refine perm_sorted_eq (le := fun x y => ¬ ltHd d y x) (fun a b h1 h2 => by unfold ltHd at *; omega) _ _ ?_ ?_ ?_
  ·exact ((s1.map _).trans (by rw [hlf])).trans hp.symm
  ·rw [List.pairwise_map, List.pairwise_iff_getElem]
   intro i j hi hj hij h
   exact s3 i j _ _ hij (List.getElem?_eq_getElem hi) (List.getElem?_eq_getElem hj) ((ordH_neg _ _ _).2 h)
  exact hs.imp fun h1 h2 => by unfold ltHd at *; omega
 have := sort1_meets (ρ := Tryz.sortFI_ren) Tryz.sortFI (ev := fun x : Fin d.length => .int .i64 (x.val : Int)) (fun x => rfl) (swo_h d d.length) (g := 124) (caps := [.cellp [VI d]]) (fun x y => hcmp_c d x y x.isLt y.isLt) (l := lf) (by omega)
 rw [hll] at this
 have e1 : ∀ q : List (Fin d.length), q.map (fun x => [FV.lit (.int .i64 (x.val : Int))]) = (q.map (fun x => x.val)).map encT := fun q => by rw [List.map_map]; rfl
 rw [e1, e1, hlf, hr] at this
 exact this
open Go Go.RT Go.Proofs Go.Pl
set_option maxRecDepth 20000
set_option maxHeartbeats 2000000
theorem merge_c (g : Gr) (u v n k0 : Nat) (ru : List Int) (ll : List (List Int)) (h : Int) (huv : u ≠ v) (hll : ll.length = n) (hv : v < n) (hn : n ≤ 128) (hrow : (ll.getD v []).length ≤ 2000) : Meets Tryz.prog 125 [IV .i64 h, .fz (.cellp (encG g)), .fz (.cellp [If .i64 v]), .ptr 0 1 0 0] 3 [(0, some (.refs 1 [[.sl 1 1 0 n]])), (1, some (.refs 1 (tkL (rowsI ll) u k0))), (2, OI ru)] (.fz (.tup [])) [(0, some (.refs 1 [[.sl 1 1 0 n]])), (1, some (.refs 1 (tkL (rowsI (mergeL g.r v ll h)) u k0))), (2, OI ru)] 3 := by
 have hrg := rowsI_get (ll := ll) (v := v) (by omega)
 unfold mergeL capV rowAt'
 generalize ll.getD v [] = row at *
 refine Meets.intro Tryz.func125 rfl (Nat.le_of_ble_eq_true rfl) fun C hC => ?_
 simp only [List.map, argEnv, Nat.reduceAdd]
 refine Next.take 1 v 0 rfl (tk_get huv hrg) rfl rfl ?_
 have hs1 := set_get (tkL (rowsI ll) u k0) v [.sl 3 1 0 (row.map encN).length] (by rw [tk_len, rowsI_len]; omega)
 refine nK ?_
 refine za ?_
 refine zc ?_
 refine zbf ?_
 refine zt ?_
 refine zdt ?_
 refine zb ?_
 refine nK ?_
 refine n_cond _ rfl (fun hb => ?_) (fun hb => ?_)
 ·have hq0 : g.r ≤ h := by simpa using hb
  rw [if_pos hq0]
  refine nK ?_
  refine za ?_
  refine zt ?_
  refine zd ?_
  refine zb ?_
  refine nK ?_
  generalize hqe : (v : Int) = hq at *
  have hbs := bsearchi_c row hq (by omega)
  have hble := bsI_le row hq
  have hiu : insU row hq = if hitI row hq = true then row else insL row (bsI row hq) hq := rfl
  change Pure Tryz.prog 126 [VI row, If .i64 hq] (.tup [If .i64 (bsI row hq : Nat), Bf (hitI row hq)]) at hbs
  rw [hiu]
  generalize bsI row hq = k at *
  generalize hitI row hq = hit at *
  refine nK ?_
  refine za ?_
  refine zbb ?_
  refine zt ?_
  refine rpZ 15 rfl (op_idx_sl0 v rfl (oT rfl) (oT rfl) (by intro _; exact ⟨by omega, by omega⟩)) ?_
  refine rlZ 16 rfl (op_load1_refs rfl (oT rfl) (by intro _; exact ⟨rfl, hs1⟩) rfl) ?_
  refine zc ?_
  refine rlZ 18 rfl (op_call_lend [3] (fun _ => hbs) rfl (Opd.func _) (oS (oT rfl) (oS (oT rfl) Opds.nil)) (by exact .cons _ _ _ _ tW (.cons _ _ _ _ tW .nil)) rfl rfl) ?_
  refine zc ?_
  refine zi ?_
  refine zi ?_
  refine zd ?_
  refine zd ?_
  refine zb ?_
  refine nK ?_
  refine za ?_
  refine zc ?_
  refine zbj ?_
  refine zb ?_
  refine nK ?_
  refine n_cond _ rfl (fun hb => ?_) (fun hb => ?_)
  ·have hh : hit = false := by simpa using hb
   subst hh
   rw [if_neg (by simp)]
   have hins := inserti_c row hq k (by omega) hble
   have hil := insL_len row k hq hble
   have hle : (row.map encN).length = row.length := List.length_map _
   rw [← hle] at hins
   refine nK ?_
   refine s_draw mixed ?_
   refine zbb ?_
   refine zt ?_
   refine zbb ?_
   refine zt ?_
   refine rpZ 27 rfl (op_idx_sl0 v rfl (oT rfl) (oT rfl) (by intro _; exact ⟨by omega, by omega⟩)) ?_
   refine rlZ 28 rfl (op_load1_refs rfl (oT rfl) (by intro _; exact ⟨rfl, hs1⟩) rfl) ?_
   refine zc ?_
   refine zc ?_
   refine zeo ?_
   refine Run.effW (dd := some 32) rfl rfl (op_call (n := 2) (n' := 3) [3, 4] (fun _ => hins) rfl (Opd.func _) (oS (oT rfl) (oS (oT rfl) (oS (oT rfl) Opds.nil))) rfl rfl (Lent.of rfl rfl (by exact ⟨⟨rfl, rfl, rfl, trivial⟩, ⟨rfl, rfl, rfl, trivial⟩, trivial⟩) rfl) rfl rfl rfl rfl rfl) (by first | exact ext_call | exact tE) ?_
   refine rpZ 33 rfl (op_idx_sl0 v rfl (oT rfl) (oT rfl) (by intro _; exact ⟨by omega, by omega⟩)) ?_
   refine Run.effW (dd := none) rfl rfl (op_store_refs rfl (oT rfl) (oT rfl) tP rfl rfl hs1 tS) (by first | exact ext_call | exact tE) ?_
   refine zq ?_
   refine Next.untake 1 v 0 rfl (set_get _ _ _ (by rw [List.length_set, tk_len, rowsI_len]; omega)) rfl rfl (by rw [List.length_map, hil, hle]) rfl ?_
   refine Next.weak [0, 1, 2] [] (by rfl) (keepsN hC _ rfl) (G' := []) (H' := [(0, some (.refs 1 [[.sl 1 1 0 n]])), (1, some (.refs 1 (tkL (rowsI (ll.set v (insL row k hq))) u k0))), (2, OI ru)]) trivial (by exact ⟨wS, ⟨ent_tk rfl rfl rfl (by decide) (congrArg (fun r => some (Ob.refs 1 r)) ((tk_back huv).trans (by rw [rowsI_set]))), ⟨wS, trivial⟩⟩⟩) wN ?_
   exact n_out0 rfl
  have hh : hit = true := by simpa using hb
  subst hh
  rw [if_pos rfl]
  refine Next.untake 1 v 0 rfl hs1 rfl rfl (by rw [List.length_map]) rfl ?_
  refine Next.weak [0, 1, 2] [] (by rfl) (keepsN hC _ rfl) (G' := []) (H' := [(0, some (.refs 1 [[.sl 1 1 0 n]])), (1, some (.refs 1 (tkL (rowsI (ll.set v (row))) u k0))), (2, OI ru)]) trivial (by exact ⟨wS, ⟨ent_tk rfl rfl rfl (by decide) (congrArg (fun r => some (Ob.refs 1 r)) ((tk_back2 huv).trans (by rw [rowsI_set]))), ⟨wS, trivial⟩⟩⟩) wN ?_
  refine nK2 ?_
  exact n_out0 rfl
 have hq0 : ¬ g.r ≤ h := by simpa using hb
 rw [if_neg hq0]
 refine nK ?_
 generalize hqe : h = hq at *
 have hbs := bsearchi_c row hq (by omega)
 have hble := bsI_le row hq
 have hiu : insU row hq = if hitI row hq = true then row else insL row (bsI row hq) hq := rfl
 change Pure Tryz.prog 126 [VI row, If .i64 hq] (.tup [If .i64 (bsI row hq : Nat), Bf (hitI row hq)]) at hbs
 rw [hiu]
 generalize bsI row hq = k at *
 generalize hitI row hq = hit at *
 refine nK ?_
 refine za ?_
 refine zbb ?_
 refine zt ?_
 refine rpZ 15 rfl (op_idx_sl0 v rfl (oT rfl) (oT rfl) (by intro _; exact ⟨by omega, by omega⟩)) ?_
 refine rlZ 16 rfl (op_load1_refs rfl (oT rfl) (by intro _; exact ⟨rfl, hs1⟩) rfl) ?_
 refine zc ?_
 refine rlZ 18 rfl (op_call_lend [3] (fun _ => hbs) rfl (Opd.func _) (oS (oT rfl) (oS (oT rfl) Opds.nil)) (by exact .cons _ _ _ _ tW (.cons _ _ _ _ tW .nil)) rfl rfl) ?_
 refine zc ?_
 refine zi ?_
 refine zi ?_
 refine zd ?_
 refine zd ?_
 refine zb ?_
 refine nK ?_
 refine za ?_
 refine zc ?_
 refine zbj ?_
 refine zb ?_
 refine nK ?_
 refine n_cond _ rfl (fun hb => ?_) (fun hb => ?_)
 ·have hh : hit = false := by simpa using hb
  subst hh
  rw [if_neg (by simp)]
  have hins := inserti_c row hq k (by omega) hble
  have hil := insL_len row k hq hble
  have hle : (row.map encN).length = row.length := List.length_map _
  rw [← hle] at hins
  refine nK ?_
  refine s_draw mixed ?_
  refine zbb ?_
  refine zt ?_
  refine zbb ?_
  refine zt ?_
  refine rpZ 27 rfl (op_idx_sl0 v rfl (oT rfl) (oT rfl) (by intro _; exact ⟨by omega, by omega⟩)) ?_
  refine rlZ 28 rfl (op_load1_refs rfl (oT rfl) (by intro _; exact ⟨rfl, hs1⟩) rfl) ?_
  refine zc ?_
  refine zc ?_
  refine zeo ?_
  refine Run.effW (dd := some 32) rfl rfl (op_call (n := 2) (n' := 3) [3, 4] (fun _ => hins) rfl (Opd.func _) (oS (oT rfl) (oS (oT rfl) (oS (oT rfl) Opds.nil))) rfl rfl (Lent.of rfl rfl (by exact ⟨⟨rfl, rfl, rfl, trivial⟩, ⟨rfl, rfl, rfl, trivial⟩, trivial⟩) rfl) rfl rfl rfl rfl rfl) (by first | exact ext_call | exact tE) ?_
  refine rpZ 33 rfl (op_idx_sl0 v rfl (oT rfl) (oT rfl) (by intro _; exact ⟨by omega, by omega⟩)) ?_
  refine Run.effW (dd := none) rfl rfl (op_store_refs rfl (oT rfl) (oT rfl) tP rfl rfl hs1 tS) (by first | exact ext_call | exact tE) ?_
  refine zq ?_
  refine Next.untake 1 v 0 rfl (set_get _ _ _ (by rw [List.length_set, tk_len, rowsI_len]; omega)) rfl rfl (by rw [List.length_map, hil, hle]) rfl ?_
  refine Next.weak [0, 1, 2] [] (by rfl) (keepsN hC _ rfl) (G' := []) (H' := [(0, some (.refs 1 [[.sl 1 1 0 n]])), (1, some (.refs 1 (tkL (rowsI (ll.set v (insL row k hq))) u k0))), (2, OI ru)]) trivial (by exact ⟨wS, ⟨ent_tk rfl rfl rfl (by decide) (congrArg (fun r => some (Ob.refs 1 r)) ((tk_back huv).trans (by rw [rowsI_set]))), ⟨wS, trivial⟩⟩⟩) wN ?_
  exact n_out0 rfl
 have hh : hit = true := by simpa using hb
 subst hh
 rw [if_pos rfl]
 refine Next.untake 1 v 0 rfl hs1 rfl rfl (by rw [List.length_map]) rfl ?_
 refine Next.weak [0, 1, 2] [] (by rfl) (keepsN hC _ rfl) (G' := []) (H' := [(0, some (.refs 1 [[.sl 1 1 0 n]])), (1, some (.refs 1 (tkL (rowsI (ll.set v (row))) u k0))), (2, OI ru)]) trivial (by exact ⟨wS, ⟨ent_tk rfl rfl rfl (by decide) (congrArg (fun r => some (Ob.refs 1 r)) ((tk_back2 huv).trans (by rw [rowsI_set]))), ⟨wS, trivial⟩⟩⟩) wN ?_
 refine nK2 ?_
 exact n_out0 rfl
open Go Go.RT Go.Proofs Go.Pl
set_option maxRecDepth 20000
set_option maxHeartbeats 4000000
theorem hops_c (g : Gr) (a n : Nat) (d : List Int) (up : List (List Int)) (l2 : List Nat) (hn : n ≤ 128) (hd : d.length = n) (ha : a < n) (hup : UpOk n up) (hp : l2.Perm (ordA d a n)) (hs : l2.Pairwise (ltHd d)) : Pure Tryz.prog 80 [.agg (encG g), If .i64 a, VI d, VLL up] (VLL (hopsL g.r a n up l2)) := by
 have hl2 : ∀ v ∈ l2, v < n := fun v hv => ordA_lt (hp.mem_iff.1 hv)
 have hso := sorth_c d (ordA d a n) l2 (by omega) (fun v hv => by have := ordA_lt hv; omega) (by have := ordA_len d a n; omega) hp hs
 have hl2l : l2.length = (ordA d a n).length := hp.length_eq
 have hl2n := ordA_len d a n
 refine Meets.intro Tryz.func80 rfl (Nat.le_of_ble_eq_true rfl) fun C hC => ?_
 simp only [List.map, argEnv, Nat.reduceAdd]
 refine nK ?_
 refine za ?_
 refine zu ?_
 refine zu ?_
 refine ze ?_
 refine zb ?_
 refine nK ?_
 refine za ?_
 refine ze ?_
 refine zb ?_
 refine nK ?_
 refine Next.weakS [] [4, 6] (by rfl) (keeps0 hC _) (G' := [(1, IV .i64 a), (3, .fz (VLL up)), (4, .fz (.cellp (encG g))), (6, .fz (.cellp [VI d])), (9, .fz (.lit (.slice none 0 0)))]) (H' := []) wF trivial rfl ?_
 refine Next.adopt 9 1 rfl ?_
 refine nK ?_
 refine za ?_
 refine zt ?_
 refine zk ?_
 refine zx ?_
 refine zb ?_
 refine nK ?_
 refine n_loop (ι := Nat) (fun i => ([(1, IV .i64 a), (3, .fz (VLL up)), (4, .fz (.cellp (encG g))), (6, .fz (.cellp [VI d])), (9, .sl 0 1 0 (ordA d a i).length), (20, .fz (VI d)), (21, IV .i64 n), (22, IV .i64 i)], [(0, OT (ordA d a i))], 1)) (fun i => i ≤ n) (fun i => n - i) 0 (Nat.zero_le _) ?_ ?_
 ·refine Next.weak [0] [] (by rfl) (keepsN hC _ rfl) (by repeat (first | exact trivial | refine ⟨⟨_, rfl, .inl ⟨rfl, rfl⟩⟩, ?_⟩ | refine ⟨⟨_, rfl, .inl ⟨ivEq (by rw [List.length_map, hd]), rfl⟩⟩, ?_⟩ | refine ⟨⟨_, rfl, .inl ⟨ivEq (by rw [hd]), rfl⟩⟩, ?_⟩)) wR wN rel_intro
 intro i hi K hK
 try dsimp only at hi hK ⊢
 have hol := ordA_len d a i
 refine nK ?_
 refine za ?_
 refine zn ?_
 refine zb ?_
 refine nK ?_
 refine n_cond _ rfl (fun hb => ?_) (fun hb => ?_)
 ·have hlt : i < n := by simp at hb; omega
  have hri := row_of encN d i 0 (by omega)
  have hgi : d.getD i 0 = gt0 d i := rfl
  rw [hgi] at hri
  have hK1 := hK (i + 1) (by omega) (by omega)
  rw [ordA_succ] at hK1
  refine nK ?_
  refine za ?_
  refine zc ?_
  refine rpZ 25 rfl (op_idx_fz i rfl (oT rfl) (oT rfl) (by intro _; exact ⟨rfl, hri⟩)) ?_
  refine zt ?_
  refine zd ?_
  refine zd ?_
  refine zb ?_
  refine nK ?_
  refine za ?_
  refine zc ?_
  refine zbe ?_
  refine zc ?_
  refine zl ?_
  refine zl ?_
  refine zdm ?_
  refine zy ?_
  refine zb ?_
  refine nK ?_
  refine n_cond _ rfl (fun hb => ?_) (fun hb => ?_)
  ·rw [if_pos (show ordP d a i = true from hb)] at hK1
   refine nK ?_
   refine za ?_
   refine zc ?_
   refine zc ?_
   refine zqqz ?_
   refine zed ?_
   refine zd ?_
   refine zb ?_
   refine nK ?_
   refine za ?_
   refine zj ?_
   refine zc ?_
   refine zb ?_
   refine nK ?_
   refine Next.weak [1] [] (by rfl) (keepsN hC _ rfl) wG (by exact ⟨ent_same rfl rfl (flEq rfl (by rw [List.map_append]; rfl)) trivial, trivial⟩) wN hK1
  rw [if_neg (show ¬ ordP d a i = true by rw [Bool.not_eq_true]; exact hb), List.append_nil] at hK1
  refine nK ?_
  refine za ?_
  refine zj ?_
  refine zc ?_
  refine zb ?_
  refine nK ?_
  refine Next.weak [0] [] (by rfl) (keepsN hC _ rfl) wG wR wN hK1
 have hie : n = i := by simp at hb; omega
 subst hie
 refine nK ?_
 refine za ?_
 refine zc ?_
 refine rpZ 40 rfl (op_makeFuncF (fs := [.cellp [VI d]]) rfl (oS (oT rfl) Opds.nil)) ?_
 refine Run.eff (dd := some 41) rfl rfl (op_call (n := 1) (n' := 1) [0] (fun _ => hso) rfl (Opd.func _) (oS (oT rfl) (oS (oT rfl) Opds.nil)) rfl rfl (Lent.of rfl rfl (by exact ⟨⟨rfl, rfl, rfl, trivial⟩, trivial⟩) rfl) rfl rfl rfl rfl rfl) ?_
 refine zb ?_
 refine nK ?_
 refine za ?_
 refine zt ?_
 refine zk ?_
 refine Run.eff (dd := some 44) rfl rfl (op_make (l := n) (c := n) rfl (oT rfl) (oT rfl) rfl rfl rfl rfl (by intro _; rw [hd]; refine ⟨rfl, rfl, ?_⟩; omega)) ?_
 refine zec ?_
 refine zcb ?_
 refine zb ?_
 refine nK ?_
 refine Next.toOwn 1 1 n rfl ?_
 refine Next.weak [2, 1] [0] (by rfl) (keepsN hC _ rfl) (G' := [(1, IV .i64 a), (3, .fz (VLL up)), (4, .fz (.cellp (encG g))), (9, .fz (.vals 1 (l2.map encT))), (12, .ptr 0 1 0 0)]) (H' := [(0, some (.refs 1 [[.sl 1 1 0 n]])), (1, some (.refs 1 (ownL 1 (rowsI (List.replicate n [])))))]) (by exact ⟨⟨_, rfl, .inl ⟨rfl, rfl⟩⟩, ⟨_, rfl, .inl ⟨rfl, rfl⟩⟩, ⟨_, rfl, .inl ⟨rfl, rfl⟩⟩, ⟨_, rfl, .inr ⟨_, rfl, .sl _ _ _ _ _ _ rfl rfl (take_all0 (by rw [List.length_map]; exact hl2l)) (by rw [List.length_map]; omega)⟩⟩, ⟨_, rfl, .inl ⟨rfl, rfl⟩⟩, trivial⟩) (by exact ⟨wS, ⟨ent_own rfl rfl (by rw [rowsI_nil, ← ownL_rep]; rfl), trivial⟩⟩) (fun id h => by simp at h; subst h; exact ⟨_, rfl⟩) ?_
 refine nK ?_
 refine za ?_
 refine zc ?_
 refine zk ?_
 refine zx ?_
 refine zb ?_
 refine nK ?_
 refine n_loop (ι := Nat) (fun i => ([(1, IV .i64 a), (3, .fz (VLL up)), (4, .fz (.cellp (encG g))), (12, .ptr 0 1 0 0), (45, .fz (.vals 1 (l2.map encT))), (46, IV .i64 l2.length), (47, IV .i64 i)], [(0, some (.refs 1 [[.sl 1 1 0 n]])), (1, some (.refs 1 (ownL 1 (rowsI ((l2.take i).foldl (hopsV g.r a up) (List.replicate n []))))))], 2)) (fun i => i ≤ l2.length) (fun i => l2.length - i) 0 (Nat.zero_le _) ?_ ?_
 ·refine Next.weak [0, 1] [] (by rfl) (keepsN hC _ rfl) wG (by exact ⟨wS, ⟨ent_own rfl rfl rfl, trivial⟩⟩) wN rel_intro
 intro i hi K2 hK2
 try dsimp only at hi hK2 ⊢
 have hli : LLok n ((l2.take i).foldl (hopsV g.r a up) (List.replicate n [])) := LLok.hops hup _ (LLok.nil n) fun x hx => hl2 x (List.mem_of_mem_take hx)
 refine nK ?_
 refine za ?_
 refine zn ?_
 refine zb ?_
 refine nK ?_
 refine n_cond _ rfl (fun hb => ?_) (fun hb => ?_)
 ·have hlt : i < l2.length := by simp at hb; omega
  have hri := row_at' encT l2 i hlt
  have hv := hl2 _ (List.getElem_mem hlt)
  have hK3 := hK2 (i + 1) (by omega) (by omega)
  rw [foldl_take_succ _ _ _ _ hlt] at hK3
  generalize (l2.take i).foldl (hopsV g.r a up) (List.replicate n []) = ll0 at *
  generalize l2[i] = v at *
  have hru := row_of encLL up v [] (by rw [hup.len]; exact hv)
  obtain ⟨hrl, hrow⟩ := hup.row v hv
  have hhv : hopsV g.r a up ll0 v = (rowAt' up v).foldl (stepU g.r a v) ll0 := rfl
  have hgu : up.getD v [] = rowAt' up v := rfl
  rw [hhv] at hK3
  rw [hgu] at hru
  generalize rowAt' up v = row at *
  refine nK ?_
  refine za ?_
  refine zr ?_
  refine zt ?_
  refine zo ?_
  refine zg ?_
  refine zb ?_
  refine nK ?_
  refine Next.weak [0, 1] [2] (by rfl) (keepsN hC _ rfl) (G' := [(1, IV .i64 a), (3, .fz (VLL up)), (4, .fz (.cellp (encG g))), (12, .ptr 0 1 0 0), (45, .fz (.vals 1 (l2.map encT))), (46, IV .i64 l2.length), (47, IV .i64 i), (14, .fz (.cellp [If .i64 v]))]) (H' := [(0, some (.refs 1 [[.sl 1 1 0 n]])), (1, some (.refs 1 (ownL 1 (rowsI ll0))))]) (by repeat (first | exact trivial | refine ⟨⟨_, rfl, .inl ⟨rfl, rfl⟩⟩, ?_⟩ | refine ⟨⟨_, rfl, .inr ⟨_, rfl, tW⟩⟩, ?_⟩)) (by exact ⟨wS, ⟨ent_own rfl rfl rfl, trivial⟩⟩) (fun id h => by simp at h; subst h; exact ⟨_, rfl⟩) ?_
  refine nK ?_
  refine za ?_
  refine rpZ 51 rfl (op_makeFunc rfl Opds.nil (oS (oT rfl) (oS (oT rfl) (oS (oT rfl) Opds.nil)))) ?_
  refine zd ?_
  refine zb ?_
  refine nK ?_
  refine za ?_
  refine zc ?_
  refine zt ?_
  refine rpZ 54 rfl (op_idx_fz v rfl (oT rfl) (oT rfl) (by intro _; exact ⟨rfl, hru⟩)) ?_
  refine zt ?_
  refine zk ?_
  refine zx ?_
  refine zb ?_
  refine nK ?_
  refine n_loop (ι := Nat) (fun j => ([(1, IV .i64 a), (3, .fz (VLL up)), (4, .fz (.cellp (encG g))), (12, .ptr 0 1 0 0), (45, .fz (.vals 1 (l2.map encT))), (46, IV .i64 l2.length), (47, IV .i64 i), (14, .fz (.cellp [If .i64 v])), (15, .clo 125 [] [.fz (.cellp (encG g)), .fz (.cellp [If .i64 v]), .ptr 0 1 0 0]), (55, .fz (VI row)), (56, IV .i64 row.length), (57, IV .i64 j)], [(0, some (.refs 1 [[.sl 1 1 0 n]])), (1, some (.refs 1 (ownL 1 (rowsI ((row.take j).foldl (stepU g.r a v) ll0)))))], 2)) (fun j => j ≤ row.length) (fun j => row.length - j) 0 (Nat.zero_le _) ?_ ?_
  ·refine Next.weak [0, 1] [] (by rfl) (keepsN hC _ rfl) wG (by exact ⟨wS, ⟨ent_own rfl rfl rfl, trivial⟩⟩) wN rel_intro
  intro j hj K3 hK4
  try dsimp only at hj hK4 ⊢
  have hlj : LLok n ((row.take j).foldl (stepU g.r a v) ll0) := LLok.steps hv _ hli fun x hx => by have := hrow x (List.mem_of_mem_take hx); omega
  refine nK ?_
  refine za ?_
  refine zn ?_
  refine zb ?_
  refine nK ?_
  refine n_cond _ rfl (fun hb => ?_) (fun hb => ?_)
  ·have hltj : j < row.length := by simp at hb; omega
   have hrj := row_at' encN row j hltj
   obtain ⟨hu0, hu1, huv0⟩ := hrow _ (List.getElem_mem hltj)
   have hK3 := hK4 (j + 1) (by omega) (by omega)
   rw [foldl_take_succ _ _ _ _ hltj] at hK3
   generalize (row.take j).foldl (stepU g.r a v) ll0 = ll at *
   generalize row[j] = u at *
   have huv : u.toNat ≠ v := by omega
   have hrgu := rowsI_get (ll := ll) (v := u.toNat) (by rw [hlj.len]; omega)
   have hruok := (hlj.row u.toNat (by omega)).2
   have hrul := (hlj.row u.toNat (by omega)).len
   have hstp : stepU g.r a v ll u = (rowAt' ll u.toNat).foldl (mergeL g.r v) (if u = (a : Int) then mergeL g.r v ll (v : Int) else ll) := rfl
   have hge : ll.getD u.toNat [] = rowAt' ll u.toNat := rfl
   have hmo := merge_other g.r v ll (v : Int) huv
   have hruq : rowAt' ll u.toNat = rowAt' ll u.toNat := rfl
   rw [hge] at hrgu
   generalize hrue : rowAt' ll u.toNat = ru at *
   have hmv := merge_c g u.toNat v n ru.length ru ll v huv hlj.len hv hn (Nat.le_trans (hlj.row v hv).len (by omega))
   refine nK ?_
   refine za ?_
   refine rpZ 59 rfl (op_idx_fz j rfl (oT rfl) (oT rfl) (by intro _; exact ⟨rfl, hrj⟩)) ?_
   refine zt ?_
   refine zd ?_
   refine zb ?_
   refine nK ?_
   refine Next.take 1 u.toNat 0 rfl (ownL_get hrgu) rfl (rows' := tkL (rowsI ll) u.toNat ru.length) (by rw [List.length_map]; rfl) ?_
   refine nK ?_
   refine za ?_
   refine zc ?_
   refine zc ?_
   refine zbx ?_
   refine zb ?_
   refine nK ?_
   refine n_cond _ rfl (fun hb => ?_) (fun hb => ?_)
   ·have hua : u = (a : Int) := by simpa using hb
    rw [if_pos hua] at hstp
    have hl1 := hlj.merge g.r hv (x := (v : Int)) (by omega)
    refine nK ?_
    refine za ?_
    refine zc ?_
    refine zt ?_
    refine Run.eff (dd := some 66) rfl rfl (op_call (n := 3) (n' := 3) [0, 1, 2] (fun _ => hmv) rfl (oT rfl) (oS (oT rfl) Opds.nil) rfl rfl (Lent.of rfl rfl (by exact ⟨⟨rfl, rfl, rfl, tL⟩, ⟨rfl, rfl, congrArg some (renO_tk rfl _ _ _).symm, ltO_tk (by decide) _ _ _⟩, ⟨rfl, rfl, rfl, trivial⟩, trivial⟩) rfl) rfl rfl rfl rfl rfl) ?_
    refine zb ?_
    refine nK ?_
    refine Next.weak [0, 1, 2] [] (by rfl) (keepsN hC _ rfl) (G' := [(1, IV .i64 a), (3, .fz (VLL up)), (4, .fz (.cellp (encG g))), (12, .ptr 0 1 0 0), (45, .fz (.vals 1 (l2.map encT))), (46, IV .i64 l2.length), (47, IV .i64 i), (14, .fz (.cellp [If .i64 v])), (15, .clo 125 [] [.fz (.cellp (encG g)), .fz (.cellp [If .i64 v]), .ptr 0 1 0 0]), (55, .fz (VI row)), (56, IV .i64 row.length), (57, IV .i64 j), (17, IV .i64 u)]) (H' := [(0, some (.refs 1 [[.sl 1 1 0 n]])), (1, some (.refs 1 (tkL (rowsI (mergeL g.r v ll (v : Int))) u.toNat ru.length))), (2, OI ru)]) wG (by exact ⟨wS, ⟨ent_tk rfl rfl rfl (by decide) (congrArg some (renO_tk rfl _ _ _)), ⟨wS, trivial⟩⟩⟩) wN ?_
    generalize mergeL g.r v ll (v : Int) = ll1 at *
    have hl1 : LLok n ll1 := hl1
    have hru1 : rowAt' ll1 u.toNat = ru := hmo
    have hfin : ru.foldl (mergeL g.r v) ll1 = stepU g.r a v ll u := hstp.symm
    rw [← hfin] at hK3
    clear hfin
    refine nK ?_
    refine za ?_
    refine zbb ?_
    refine zc ?_
    refine rpZ 69 rfl (op_idx_sl0 u.toNat rfl (oT rfl) (oT rfl) (by intro _; omega)) ?_
    refine rlZ 70 rfl (op_load1_refs rfl (oT rfl) (by intro _; exact ⟨rfl, set_get (ownL 1 (rowsI ll1)) u.toNat [.sl 2 1 0 ru.length] (by rw [ownL_len, rowsI_len, hl1.len]; omega)⟩) rfl) ?_
    refine zbl ?_
    refine zx ?_
    refine zb ?_
    refine nK ?_
    refine n_loop (ι := Nat) (fun k => ([(1, IV .i64 a), (3, .fz (VLL up)), (4, .fz (.cellp (encG g))), (12, .ptr 0 1 0 0), (45, .fz (.vals 1 (l2.map encT))), (46, IV .i64 l2.length), (47, IV .i64 i), (14, .fz (.cellp [If .i64 v])), (15, .clo 125 [] [.fz (.cellp (encG g)), .fz (.cellp [If .i64 v]), .ptr 0 1 0 0]), (55, .fz (VI row)), (56, IV .i64 row.length), (57, IV .i64 j), (70, .sl 2 1 0 ru.length), (71, IV .i64 ru.length), (72, IV .i64 k)], [(0, some (.refs 1 [[.sl 1 1 0 n]])), (1, some (.refs 1 (tkL (rowsI ((ru.take k).foldl (mergeL g.r v) ll1)) u.toNat ru.length))), (2, OI ru)], 3)) (fun k => k ≤ ru.length) (fun k => ru.length - k) 0 (Nat.zero_le _) ?_ ?_
    ·refine Next.weak [0, 1, 2] [] (by rfl) (keepsN hC _ rfl) wG (by exact ⟨wS, ⟨ent_tk rfl rfl rfl (by decide) rfl, ⟨wS, trivial⟩⟩⟩) wN rel_intro
    intro k hk K4 hK4
    try dsimp only at hk hK4 ⊢
    have hlk : LLok n ((ru.take k).foldl (mergeL g.r v) ll1) := LLok.fold hv _ hl1 fun x hx => hruok x (List.mem_of_mem_take hx)
    have hok := fold_other (r := g.r) (v := v) (u := u.toNat) huv (ru.take k) ll1
    refine nK ?_
    refine za ?_
    refine zn ?_
    refine zb ?_
    refine nK ?_
    refine n_cond _ rfl (fun hb => ?_) (fun hb => ?_)
    ·have hkl : k < ru.length := by simp at hb; omega
     have hrk := row_at' encN ru k hkl
     have hxk := hruok _ (List.getElem_mem hkl)
     have hK5 := hK4 (k + 1) (by omega) (by omega)
     rw [foldl_take_succ _ _ _ _ hkl] at hK5
     have hmg := fun x => merge_c g u.toNat v n ru.length ru ((ru.take k).foldl (mergeL g.r v) ll1) x huv hlk.len hv hn (Nat.le_trans (hlk.row v hv).len (by omega))
     generalize (ru.take k).foldl (mergeL g.r v) ll1 = llk at *
     generalize ru[k] = x at *
     refine nK ?_
     refine za ?_
     refine rpZ 74 rfl (op_idx_sl0 k rfl (oT rfl) (oT rfl) (by intro _; exact ⟨rfl, hkl⟩)) ?_
     refine rlZ 75 rfl (op_load1_flat rfl (oT rfl) (by intro _; exact ⟨rfl, hrk⟩) rfl) ?_
     refine zd ?_
     refine zb ?_
     refine nK ?_
     refine za ?_
     refine zc ?_
     refine zc ?_
     refine Run.eff (dd := some 78) rfl rfl (op_call (n := 3) (n' := 3) [0, 1, 2] (fun _ => hmg x) rfl (oT rfl) (oS (oT rfl) Opds.nil) rfl rfl (Lent.of rfl rfl (by exact ⟨⟨rfl, rfl, rfl, tL⟩, ⟨rfl, rfl, congrArg some (renO_tk rfl _ _ _).symm, ltO_tk (by decide) _ _ _⟩, ⟨rfl, rfl, rfl, trivial⟩, trivial⟩) rfl) rfl rfl rfl rfl rfl) ?_
     refine zb ?_
     refine nK ?_
     refine za ?_
     refine zj ?_
     refine zc ?_
     refine zb ?_
     refine nK ?_
     refine Next.weak [0, 1, 2] [] (by rfl) (keepsN hC _ rfl) wG (by exact ⟨wS, ⟨ent_tk rfl rfl rfl (by decide) (congrArg some (renO_tk rfl _ _ _)), ⟨wS, trivial⟩⟩⟩) wN hK5
    have hke : k = ru.length := by simp at hb; omega
    subst hke
    rw [List.take_length] at *
    refine nK ?_
    refine za ?_
    refine zj ?_
    refine zc ?_
    refine zb ?_
    refine nK ?_
    refine Next.untake 1 u.toNat 0 rfl (set_get _ _ _ (by rw [ownL_len, rowsI_len, hlk.len]; omega)) rfl rfl (List.length_map _) (tk_put (by rw [rowsI_get (by rw [hlk.len]; omega)]; exact congrArg (fun r => some (r.map encN)) (hok.trans hru1))) ?_
    refine Next.weak [0, 1] [] (by rfl) (keepsN hC _ rfl) wG (by exact ⟨wS, ⟨ent_own rfl rfl rfl, trivial⟩⟩) wN hK3
   have hua : ¬ u = (a : Int) := by simpa using hb
   rw [if_neg hua] at hstp
   have hl1 : LLok n ll := hlj
   have hru1 : rowAt' ll u.toNat = ru := hrue
   have hfin : ru.foldl (mergeL g.r v) ll = stepU g.r a v ll u := hstp.symm
   rw [← hfin] at hK3
   clear hfin
   refine nK ?_
   refine za ?_
   refine zbb ?_
   refine zc ?_
   refine rpZ 69 rfl (op_idx_sl0 u.toNat rfl (oT rfl) (oT rfl) (by intro _; omega)) ?_
   refine rlZ 70 rfl (op_load1_refs rfl (oT rfl) (by intro _; exact ⟨rfl, set_get (ownL 1 (rowsI ll)) u.toNat [.sl 2 1 0 ru.length] (by rw [ownL_len, rowsI_len, hl1.len]; omega)⟩) rfl) ?_
   refine zbl ?_
   refine zx ?_
   refine zb ?_
   refine nK ?_
   refine n_loop (ι := Nat) (fun k => ([(1, IV .i64 a), (3, .fz (VLL up)), (4, .fz (.cellp (encG g))), (12, .ptr 0 1 0 0), (45, .fz (.vals 1 (l2.map encT))), (46, IV .i64 l2.length), (47, IV .i64 i), (14, .fz (.cellp [If .i64 v])), (15, .clo 125 [] [.fz (.cellp (encG g)), .fz (.cellp [If .i64 v]), .ptr 0 1 0 0]), (55, .fz (VI row)), (56, IV .i64 row.length), (57, IV .i64 j), (70, .sl 2 1 0 ru.length), (71, IV .i64 ru.length), (72, IV .i64 k)], [(0, some (.refs 1 [[.sl 1 1 0 n]])), (1, some (.refs 1 (tkL (rowsI ((ru.take k).foldl (mergeL g.r v) ll)) u.toNat ru.length))), (2, OI ru)], 3)) (fun k => k ≤ ru.length) (fun k => ru.length - k) 0 (Nat.zero_le _) ?_ ?_
   ·refine Next.weak [0, 1, 2] [] (by rfl) (keepsN hC _ rfl) wG (by exact ⟨wS, ⟨ent_tk rfl rfl rfl (by decide) rfl, ⟨wS, trivial⟩⟩⟩) wN rel_intro
   intro k hk K4 hK4
   try dsimp only at hk hK4 ⊢
   have hlk : LLok n ((ru.take k).foldl (mergeL g.r v) ll) := LLok.fold hv _ hl1 fun x hx => hruok x (List.mem_of_mem_take hx)
   have hok := fold_other (r := g.r) (v := v) (u := u.toNat) huv (ru.take k) ll
   refine nK ?_
   refine za ?_
   refine zn ?_
   refine zb ?_
   refine nK ?_
   refine n_cond _ rfl (fun hb => ?_) (fun hb => ?_)
   ·have hkl : k < ru.length := by simp at hb; omega
    have hrk := row_at' encN ru k hkl
    have hxk := hruok _ (List.getElem_mem hkl)
    have hK5 := hK4 (k + 1) (by omega) (by omega)
    rw [foldl_take_succ _ _ _ _ hkl] at hK5
    have hmg := fun x => merge_c g u.toNat v n ru.length ru ((ru.take k).foldl (mergeL g.r v) ll) x huv hlk.len hv hn (Nat.le_trans (hlk.row v hv).len (by omega))
    generalize (ru.take k).foldl (mergeL g.r v) ll = llk at *
    generalize ru[k] = x at *
    refine nK ?_
    refine za ?_
    refine rpZ 74 rfl (op_idx_sl0 k rfl (oT rfl) (oT rfl) (by intro _; exact ⟨rfl, hkl⟩)) ?_
    refine rlZ 75 rfl (op_load1_flat rfl (oT rfl) (by intro _; exact ⟨rfl, hrk⟩) rfl) ?_
    refine zd ?_
    refine zb ?_
    refine nK ?_
    refine za ?_
    refine zc ?_
    refine zc ?_
    refine Run.eff (dd := some 78) rfl rfl (op_call (n := 3) (n' := 3) [0, 1, 2] (fun _ => hmg x) rfl (oT rfl) (oS (oT rfl) Opds.nil) rfl rfl (Lent.of rfl rfl (by exact ⟨⟨rfl, rfl, rfl, tL⟩, ⟨rfl, rfl, congrArg some (renO_tk rfl _ _ _).symm, ltO_tk (by decide) _ _ _⟩, ⟨rfl, rfl, rfl, trivial⟩, trivial⟩) rfl) rfl rfl rfl rfl rfl) ?_
    refine zb ?_
    refine nK ?_
    refine za ?_
    refine zj ?_
    refine zc ?_
    refine zb ?_
    refine nK ?_
    refine Next.weak [0, 1, 2] [] (by rfl) (keepsN hC _ rfl) wG (by exact ⟨wS, ⟨ent_tk rfl rfl rfl (by decide) (congrArg some (renO_tk rfl _ _ _)), ⟨wS, trivial⟩⟩⟩) wN hK5
   have hke : k = ru.length := by simp at hb; omega
   subst hke
   rw [List.take_length] at *
   refine nK ?_
   refine za ?_
   refine zj ?_
   refine zc ?_
   refine zb ?_
   refine nK ?_
   refine Next.untake 1 u.toNat 0 rfl (set_get _ _ _ (by rw [ownL_len, rowsI_len, hlk.len]; omega)) rfl rfl (List.length_map _) (tk_put (by rw [rowsI_get (by rw [hlk.len]; omega)]; exact congrArg (fun r => some (r.map encN)) (hok.trans hru1))) ?_
   refine Next.weak [0, 1] [] (by rfl) (keepsN hC _ rfl) wG (by exact ⟨wS, ⟨ent_own rfl rfl rfl, trivial⟩⟩) wN hK3
  have hje : j = row.length := by simp at hb; omega
  subst hje
  rw [List.take_length] at *
  refine nK ?_
  refine za ?_
  refine zj ?_
  refine zc ?_
  refine zb ?_
  refine nK ?_
  refine Next.weak [0, 1] [] (by rfl) (keepsN hC _ rfl) wG (by exact ⟨wS, ⟨ent_own rfl rfl rfl, trivial⟩⟩) wN hK3
 have hie : i = l2.length := by simp at hb; omega
 subst hie
 rw [List.take_length] at *
 refine Next.freezeOwn 1 rfl rfl ?_
 refine nK ?_
 refine za ?_
 refine zbb ?_
 refine zd ?_
 refine zb ?_
 refine nK ?_
 have hFl : (fzL 1 (rowsI (hopsL g.r a n up l2))).length = n := by rw [fzL_len, rowsI_len]; exact hli.len
 refine Next.weakS [] [8] (by rfl) (keeps0 hC _) (G' := [(8, .fz (VLL (hopsL g.r a n up l2)))]) (H' := []) ⟨⟨_, rfl, .inr ⟨_, rfl, .sl _ _ _ _ _ _ rfl rfl ((take_all0 hFl).trans (fz_rowsI _)) (by rw [← fz_rowsI, hFl])⟩⟩, trivial⟩ trivial rfl ?_
 exact n_out1 rfl (by rfl) rfl rfl
open Go Go.RT Go.Proofs Go.Pl
set_option maxRecDepth 20000
set_option maxHeartbeats 2000000
theorem run_c (g : Gr) (a : Nat) (t : Tr) (hok : okG g) (h : RunOk g a t) : Pure Tryz.prog 43 [.agg (encG g), If .i64 a] (.tup [.agg (encTr t), If .i64 0]) := by
 obtain ⟨vg, h0, h1⟩ := checkI_vg h.ok
 have hlt := h.lt
 obtain ⟨l2, p, q, hh⟩ := h.hops
 have hd := dist_c g a t.dist h.ok hok (by omega) h.dl h.dist
 have hp := parents_c g a t.dist h.ok h.dl (fun v hv => by have := (h.dist v hv).small vg (by omega) hv; omega)
 have hup := parL_ok vg a t.dist
 rw [← h.par] at hp hup
 have hho := hops_c g a (g.r + g.n).toNat t.dist t.par l2 vg.n128 h.dl (by omega) hup p q
 rw [← hh] at hho
 have hck := h.ok
 obtain ⟨rt, d, hs, pr⟩ := t
 have hrt : rt = a := h.root
 subst hrt
 dsimp only at hd hp hho
 clear hh h hup q p
 refine Meets.intro Tryz.func43 rfl (Nat.le_of_ble_eq_true rfl) fun C hC => ?_
 simp only [List.map, argEnv, Nat.reduceAdd]
 refine nK ?_
 refine za ?_
 refine zu ?_
 refine zo ?_
 refine ze ?_
 refine zb ?_
 refine nK ?_
 refine za ?_
 refine zm ?_
 refine rpZ 9 rfl (op_call_pure (fun _ => check_c _ (by assumption)) rfl (Opd.func _) (oS (oT rfl) Opds.nil)) ?_
 refine zd ?_
 refine zb ?_
 refine nK ?_
 refine za ?_
 refine zc ?_
 refine zbe ?_
 refine zb ?_
 refine nK ?_
 refine n_cond _ rfl (fun hb => ?_) (fun hb => ?_)
 ·simp at hb; omega
 refine nK ?_
 refine za ?_
 refine zc ?_
 refine zbq ?_
 refine zc ?_
 refine zl ?_
 refine zp ?_
 refine zs ?_
 refine zdr ?_
 refine zbd ?_
 refine zb ?_
 refine nK ?_
 refine n_cond _ rfl (fun hb => ?_) (fun hb => ?_)
 ·simp at hb; omega
 refine nK ?_
 refine za ?_
 refine zc ?_
 refine zm ?_
 refine zc ?_
 refine rpZ 26 rfl (op_call_pure (fun _ => hd) rfl (Opd.func _) (oS (oT rfl) (oS (oT rfl) Opds.nil))) ?_
 refine zbn ?_
 refine zo ?_
 refine zg ?_
 refine zb ?_
 refine nK ?_
 refine za ?_
 refine zm ?_
 refine zc ?_
 refine zf ?_
 refine zh ?_
 refine rpZ 32 rfl (op_call_pure (fun _ => hp) rfl (Opd.func _) (oS (oT rfl) (oS (oT rfl) (oS (oT rfl) Opds.nil)))) ?_
 refine zf ?_
 refine zg ?_
 refine zb ?_
 refine nK ?_
 refine za ?_
 refine zm ?_
 refine zc ?_
 refine zf ?_
 refine zh ?_
 refine zf ?_
 refine zh ?_
 refine rpZ 40 rfl (op_call_pure (fun _ => hho) rfl (Opd.func _) (oS (oT rfl) (oS (oT rfl) (oS (oT rfl) (oS (oT rfl) Opds.nil))))) ?_
 refine zf ?_
 refine zg ?_
 refine zb ?_
 refine nK ?_
 refine za ?_
 refine zm ?_
 refine zg ?_
 refine ze ?_
 refine zb ?_
 refine nK ?_
 exact wO hC
open Go Go.RT Go.Proofs Go.Pl
set_option maxRecDepth 20000
set_option maxHeartbeats 4000000
theorem within_c (n lo hi : Int) : Pure Tryz.prog 106 [If .i64 n, If .i64 lo, If .i64 hi] (Bf (inB n lo hi)) := by
 unfold inB
 refine Meets.intro Tryz.func106 rfl (Nat.le_of_ble_eq_true rfl) fun C hC => ?_
 simp only [List.map, argEnv, Nat.reduceAdd]
 refine nK ?_
 refine za ?_
 refine ze ?_
 refine zb ?_
 refine nK ?_
 refine za ?_
 refine zc ?_
 refine zc ?_
 refine zdt ?_
 refine zc ?_
 refine zl ?_
 refine zl ?_
 refine zcr ?_
 refine zy ?_
 refine zd ?_
 refine zb ?_
 refine nK ?_
 exact wO hC
theorem numbers_c (a b : Int) : Pure Tryz.prog 109 [If .i64 a, If .i64 b] (If .i64 (cmpI a b)) := by
 unfold cmpI
 refine Meets.intro Tryz.func109 rfl (Nat.le_of_ble_eq_true rfl) fun C hC => ?_
 simp only [List.map, argEnv, Nat.reduceAdd]
 refine nK ?_
 refine za ?_
 refine ze ?_
 refine zb ?_
 refine nK ?_
 refine za ?_
 refine zc ?_
 refine zc ?_
 refine zn ?_
 refine zb ?_
 refine nK ?_
 refine n_cond _ rfl (fun hb => ?_) (fun hb => ?_)
 ·rw [if_pos (by simpa using hb)]
  refine nK ?_
  refine za ?_
  refine ze ?_
  refine zb ?_
  refine nK ?_
  exact wO hC
 rw [if_neg (by simpa using hb)]
 refine nK ?_
 refine za ?_
 refine zc ?_
 refine zc ?_
 refine zbz ?_
 refine zb ?_
 refine nK ?_
 refine n_cond _ rfl (fun hb => ?_) (fun hb => ?_)
 ·rw [if_pos (by simpa using hb)]
  refine nK ?_
  refine za ?_
  refine ze ?_
  refine zb ?_
  refine nK ?_
  exact wO hC
 rw [if_neg (by simpa using hb)]
 refine nK ?_
 refine za ?_
 refine ze ?_
 refine zb ?_
 refine nK ?_
 exact wO hC
theorem words_c (a b : Int) : Pure Tryz.prog 110 [If .u32 a, If .u32 b] (If .i64 (cmpI a b)) := by
 unfold cmpI
 refine Meets.intro Tryz.func110 rfl (Nat.le_of_ble_eq_true rfl) fun C hC => ?_
 simp only [List.map, argEnv, Nat.reduceAdd]
 refine nK ?_
 refine za ?_
 refine ze ?_
 refine zb ?_
 refine nK ?_
 refine za ?_
 refine zc ?_
 refine zc ?_
 refine zn ?_
 refine zb ?_
 refine nK ?_
 refine n_cond _ rfl (fun hb => ?_) (fun hb => ?_)
 ·rw [if_pos (by simpa using hb)]
  refine nK ?_
  refine za ?_
  refine ze ?_
  refine zb ?_
  refine nK ?_
  exact wO hC
 rw [if_neg (by simpa using hb)]
 refine nK ?_
 refine za ?_
 refine zc ?_
 refine zc ?_
 refine zbz ?_
 refine zb ?_
 refine nK ?_
 refine n_cond _ rfl (fun hb => ?_) (fun hb => ?_)
 ·rw [if_pos (by simpa using hb)]
  refine nK ?_
  refine za ?_
  refine ze ?_
  refine zb ?_
  refine nK ?_
  exact wO hC
 rw [if_neg (by simpa using hb)]
 refine nK ?_
 refine za ?_
 refine ze ?_
 refine zb ?_
 refine nK ?_
 exact wO hC
theorem key_c (h : Hdr) : Pure Tryz.prog 70 [.agg (encH h)] (.agg (encK (keyA h))) := by
 refine Meets.intro Tryz.func70 rfl (Nat.le_of_ble_eq_true rfl) fun C hC => ?_
 simp only [List.map, argEnv, Nat.reduceAdd]
 refine nK ?_
 refine za ?_
 refine zu ?_
 refine zo ?_
 refine zb ?_
 refine nK ?_
 refine za ?_
 refine zf ?_
 refine zh ?_
 refine zf ?_
 refine zh ?_
 refine zf ?_
 refine zh ?_
 refine zf ?_
 refine zh ?_
 refine zej ?_
 refine zg ?_
 refine zb ?_
 refine nK ?_
 exact wO hC
theorem keyL_c (h : Hdr) : Pure Tryz.prog 48 [.agg (encH h)] (.agg (encK (keyA h))) := by
 refine Meets.intro Tryz.func48 rfl (Nat.le_of_ble_eq_true rfl) fun C hC => ?_
 simp only [List.map, argEnv, Nat.reduceAdd]
 refine nK ?_
 refine za ?_
 refine zu ?_
 refine zo ?_
 refine zb ?_
 refine nK ?_
 refine za ?_
 refine zf ?_
 refine zh ?_
 refine zf ?_
 refine zh ?_
 refine zf ?_
 refine zh ?_
 refine zf ?_
 refine zh ?_
 refine zej ?_
 refine zg ?_
 refine zb ?_
 refine nK ?_
 exact wO hC
theorem lnk_c (a b : Lnk) : Pure Tryz.prog 139 [.agg (encL a), .agg (encL b)] (If .i64 (lnkI a b)) := by
 unfold lnkI
 refine Meets.intro Tryz.func139 rfl (Nat.le_of_ble_eq_true rfl) fun C hC => ?_
 simp only [List.map, argEnv, Nat.reduceAdd]
 refine nK ?_
 refine za ?_
 refine zu ?_
 refine zu ?_
 refine ze ?_
 refine zb ?_
 refine nK ?_
 refine za ?_
 refine zf ?_
 refine zh ?_
 refine zf ?_
 refine zh ?_
 refine zbk ?_
 refine zb ?_
 refine nK ?_
 refine n_cond _ rfl (fun hb => ?_) (fun hb => ?_)
 ·rw [if_pos (by simpa using hb)]
  refine nK ?_
  refine za ?_
  refine zf ?_
  refine zh ?_
  refine zf ?_
  refine zh ?_
  refine rpZ 14 rfl (op_call_pure (fun _ => numbers_c _ _) rfl (Opd.func _) (oS (oT rfl) (oS (oT rfl) Opds.nil))) ?_
  refine zd ?_
  refine zb ?_
  refine nK ?_
  exact wO hC
 rw [if_neg (by simpa using hb)]
 refine nK ?_
 refine za ?_
 refine zf ?_
 refine zh ?_
 refine zf ?_
 refine zh ?_
 refine zbk ?_
 refine zb ?_
 refine nK ?_
 refine n_cond _ rfl (fun hb => ?_) (fun hb => ?_)
 ·rw [if_pos (by simpa using hb)]
  refine nK ?_
  refine za ?_
  refine zf ?_
  refine zh ?_
  refine zf ?_
  refine zh ?_
  refine rpZ 24 rfl (op_call_pure (fun _ => words_c _ _) rfl (Opd.func _) (oS (oT rfl) (oS (oT rfl) Opds.nil))) ?_
  refine zd ?_
  refine zb ?_
  refine nK ?_
  exact wO hC
 rw [if_neg (by simpa using hb)]
 refine nK ?_
 refine za ?_
 refine zf ?_
 refine zh ?_
 refine zf ?_
 refine zh ?_
 refine rpZ 29 rfl (op_call_pure (fun _ => words_c _ _) rfl (Opd.func _) (oS (oT rfl) (oS (oT rfl) Opds.nil))) ?_
 refine zd ?_
 refine zb ?_
 refine nK ?_
 exact wO hC
theorem ckeys_c (a b : KeyA) : Pure Tryz.prog 69 [.agg (encK a), .agg (encK b)] (If .i64 (keyI a b)) := by
 unfold keyI
 refine Meets.intro Tryz.func69 rfl (Nat.le_of_ble_eq_true rfl) fun C hC => ?_
 simp only [List.map, argEnv, Nat.reduceAdd]
 refine nK ?_
 refine za ?_
 refine zu ?_
 refine zu ?_
 refine ze ?_
 refine zb ?_
 refine nK ?_
 refine za ?_
 refine zf ?_
 refine zh ?_
 refine zf ?_
 refine zh ?_
 refine zbk ?_
 refine zb ?_
 refine nK ?_
 refine n_cond _ rfl (fun hb => ?_) (fun hb => ?_)
 ·rw [if_pos (by simpa using hb)]
  refine nK ?_
  refine za ?_
  refine zf ?_
  refine zh ?_
  refine zf ?_
  refine zh ?_
  refine rpZ 14 rfl (op_call_pure (fun _ => numbers_c _ _) rfl (Opd.func _) (oS (oT rfl) (oS (oT rfl) Opds.nil))) ?_
  refine zd ?_
  refine zb ?_
  refine nK ?_
  exact wO hC
 rw [if_neg (by simpa using hb)]
 refine nK ?_
 refine za ?_
 refine zf ?_
 refine zh ?_
 refine zf ?_
 refine zh ?_
 refine zbk ?_
 refine zb ?_
 refine nK ?_
 refine n_cond _ rfl (fun hb => ?_) (fun hb => ?_)
 ·rw [if_pos (by simpa using hb)]
  refine nK ?_
  refine za ?_
  refine zf ?_
  refine zh ?_
  refine zf ?_
  refine zh ?_
  refine rpZ 24 rfl (op_call_pure (fun _ => words_c _ _) rfl (Opd.func _) (oS (oT rfl) (oS (oT rfl) Opds.nil))) ?_
  refine zd ?_
  refine zb ?_
  refine nK ?_
  exact wO hC
 rw [if_neg (by simpa using hb)]
 refine nK ?_
 refine za ?_
 refine zf ?_
 refine zh ?_
 refine zf ?_
 refine zh ?_
 refine zbk ?_
 refine zb ?_
 refine nK ?_
 refine n_cond _ rfl (fun hb => ?_) (fun hb => ?_)
 ·rw [if_pos (by simpa using hb)]
  refine nK ?_
  refine za ?_
  refine zf ?_
  refine zh ?_
  refine zf ?_
  refine zh ?_
  refine rpZ 34 rfl (op_call_pure (fun _ => numbers_c _ _) rfl (Opd.func _) (oS (oT rfl) (oS (oT rfl) Opds.nil))) ?_
  refine zd ?_
  refine zb ?_
  refine nK ?_
  exact wO hC
 rw [if_neg (by simpa using hb)]
 refine nK ?_
 refine za ?_
 refine zf ?_
 refine zh ?_
 refine zf ?_
 refine zh ?_
 refine rpZ 39 rfl (op_call_pure (fun _ => words_c _ _) rfl (Opd.func _) (oS (oT rfl) (oS (oT rfl) Opds.nil))) ?_
 refine zd ?_
 refine zb ?_
 refine nK ?_
 exact wO hC
open Go Go.RT Go.Proofs Go.Pl
set_option maxRecDepth 20000
set_option maxHeartbeats 4000000
theorem wHI21a {α : Prop} (h : α := by repeat (first | exact trivial | refine ⟨⟨_, rfl, .inl ⟨rfl, rfl⟩⟩, ?_⟩)) : α := h
theorem wHI21b {α : Prop} (h : α := by repeat (first | exact trivial | refine ⟨wS, ?_⟩ | refine ⟨ent_same rfl rfl (rfEq rfl tU) tL, ?_⟩ | refine ⟨ent_same rfl rfl (flEq rfl (by first | (simp; done) | (simp; omega) | (simp [encA, encH, encL, encU, encK, encV]; done) | simp [maxC, minC])) trivial, ?_⟩)) : α := h
theorem fits_c (id n : Int) (hid : inr .u32 id) : Pure Tryz.prog 138 [If .u32 id, If .i64 n] (Bf (fitsB id n)) := by
 obtain ⟨x, rfl⟩ : ∃ x : Nat, id = (x : Int) := ⟨id.toNat, by simp only [inr] at hid; omega⟩
 have hx : x < 2 ^ 32 := by simp only [inr] at hid; omega
 refine Meets.intro Tryz.func138 rfl (Nat.le_of_ble_eq_true rfl) fun C hC => ?_
 simp only [List.map, argEnv, Nat.reduceAdd]
 refine nK ?_
 refine za ?_
 refine ze ?_
 refine zb ?_
 refine nK ?_
 refine za ?_
 refine zc ?_
 refine zbq ?_
 refine zc ?_
 refine zl ?_
 refine zbo ?_
 refine zbd ?_
 refine zb ?_
 refine nK ?_
 refine n_cond _ rfl (fun hb => ?_) (fun hb => ?_)
 ·have e : fitsB (x : Int) n = false := by unfold fitsB; rw [hb]; rfl
  rw [e]
  refine nK ?_
  refine za ?_
  refine ze ?_
  refine zb ?_
  refine nK ?_
  exact wO hC
 have hn : 0 ≤ n ∧ n ≤ 32 := by simp at hb; omega
 obtain ⟨m, rfl⟩ : ∃ m : Nat, n = (m : Int) := ⟨n.toNat, by omega⟩
 have hm : m ≤ 32 := by omega
 refine nK ?_
 refine za ?_
 refine zc ?_
 refine zd ?_
 refine zb ?_
 refine nK ?_
 refine n_loop (ι := Nat) (fun i => ([(0, IV .u32 x), (5, IV .i64 i)], [], 0)) (fun i => m ≤ i ∧ i ≤ 32 ∧ ∀ j : Nat, m ≤ j → j < i → bitA x j = false) (fun i => 32 - i) m ⟨Nat.le_refl _, hm, fun j h1 h2 => absurd h1 (by omega)⟩ ?_ ?_
 ·refine Next.weak [] [] (by rfl) (keeps0 hC _) wHI21a wHI21b wN rel_intro
 intro i ⟨h1, h2, h3⟩ K hK
 have hd : x / 2 ^ (31 - i) ≤ x := Nat.div_le_self _ _
 have hmm : x / 2 ^ (31 - i) % 2 < 2 := Nat.mod_lt _ (by omega)
 refine nK ?_
 refine za ?_
 refine zc ?_
 refine zbq ?_
 refine zb ?_
 refine nK ?_
 refine n_cond _ rfl (fun hb => ?_) (fun hb => ?_)
 ·have hi : i < 32 := by simp at hb; omega
  refine nK ?_
  refine za ?_
  refine zc ?_
  refine zc ?_
  refine rpZ 19 rfl (op_sub rfl oC (oT rfl) tI) ?_
  refine zbh ?_
  refine rpZ 21 rfl (op_shrN (31 - i) rfl (oT rfl) (oT rfl) (by intro _; simp only [IntKind.bits]; omega)) ?_
  refine rpZ 22 rfl (op_and1 rfl (oT rfl) oC (by intro _; simp only [IntKind.bits]; omega) (by simp [IntKind.bits])) ?_
  refine zba ?_
  refine zb ?_
  refine nK ?_
  refine n_cond _ rfl (fun hb => ?_) (fun hb => ?_)
  ·have e : fitsB (x : Int) m = false := by
    unfold fitsB
    rw [Bool.and_eq_false_iff]
    refine .inr (List.all_eq_false.2 ⟨i, by simpa using hi, ?_⟩)
    have : bitA x i = true := by unfold bitA; rw [decide_eq_true_eq] at hb ⊢; rw [Int.toNat_natCast]; omega
    simp [this]; omega
   rw [e]
   refine nK ?_
   refine za ?_
   refine ze ?_
   refine zb ?_
   refine nK ?_
   exact wO hC
  have hbit : bitA x i = false := by unfold bitA; rw [decide_eq_false_iff_not] at hb ⊢; rw [Int.toNat_natCast]; omega
  refine nK ?_
  refine za ?_
  refine zc ?_
  refine zj ?_
  refine zd ?_
  refine zb ?_
  refine nK ?_
  refine Next.weak [] [] (by rfl) (keeps0 hC _) wHI21a wHI21b wN (hK (i + 1) ⟨by omega, by omega, fun j h4 h5 => by
   by_cases h6 : j = i
   ·rw [h6]; exact hbit
   exact h3 j h4 (by omega)⟩ (by omega))
 have hi : i = 32 := by simp at hb; omega
 have e : fitsB (x : Int) m = true := by
  unfold fitsB
  rw [Bool.and_eq_true_iff]
  refine ⟨by simp; omega, List.all_eq_true.2 fun j hj => ?_⟩
  by_cases h6 : m ≤ j
  ·rw [h3 j h6 (by simp at hj; omega)]; simp
  have : (j : Int) < m := by omega
  simp [this]
 rw [e]
 refine nK ?_
 refine za ?_
 refine ze ?_
 refine zb ?_
 refine nK ?_
 exact wO hC
theorem head_c (h : Hdr) (ho : okH h) : Pure Tryz.prog 102 [.agg (encH h)] (If .i64 (headI h)) := by
 obtain ⟨o1, o2, o3, o4, o5, o6, o7⟩ := ho
 unfold headI
 refine Meets.intro Tryz.func102 rfl (Nat.le_of_ble_eq_true rfl) fun C hC => ?_
 simp only [List.map, argEnv, Nat.reduceAdd]
 refine nK ?_
 refine za ?_
 refine zu ?_
 refine ze ?_
 refine zb ?_
 refine nK ?_
 refine za ?_
 refine zf ?_
 refine zh ?_
 refine rpZ 5 rfl (op_call_pure (fun _ => within_c _ _ _) rfl (Opd.func _) (oS (oT rfl) (oS oC (oS oC Opds.nil)))) ?_
 refine zbj ?_
 refine zb ?_
 refine nK ?_
 refine n_cond _ rfl (fun hb => ?_) (fun hb => ?_)
 ·rw [ifT hb]
  refine nK ?_
  refine za ?_
  refine ze ?_
  refine zb ?_
  refine nK ?_
  exact wO hC
 rw [ifF hb]
 refine nK ?_
 refine za ?_
 refine zf ?_
 refine zh ?_
 refine zba ?_
 refine zc ?_
 refine zp ?_
 refine zs ?_
 refine rgZ 13 rfl rfl tG (op_call_pure (fun _ => within_c _ _ _) rfl (Opd.func _) (oS (oO rfl tO) (oS oC (oS oC Opds.nil)))) ?_
 refine zca ?_
 refine zbd ?_
 refine zc ?_
 refine zp ?_
 refine zs ?_
 refine rgZ 19 rfl rfl tG (op_call_pure (fun _ => within_c _ _ _) rfl (Opd.func _) (oS (oO rfl tO) (oS oC (oS oC Opds.nil)))) ?_
 refine zca ?_
 refine zbd ?_
 refine zc ?_
 refine zp ?_
 refine zs ?_
 refine rgZ 25 rfl rfl tG (op_call_pure (fun _ => within_c _ _ _) rfl (Opd.func _) (oS (oO rfl tO) (oS oC (oS oC Opds.nil)))) ?_
 refine zca ?_
 refine zbd ?_
 refine zb ?_
 refine nK ?_
 refine n_cond _ rfl (fun hb => ?_) (fun hb => ?_)
 ·rw [ifT hb]
  refine nK ?_
  refine za ?_
  refine ze ?_
  refine zb ?_
  refine nK ?_
  exact wO hC
 rw [ifF hb]
 refine nK ?_
 refine za ?_
 refine zf ?_
 refine zh ?_
 refine zba ?_
 refine zc ?_
 refine zp ?_
 refine zs ?_
 refine zbw ?_
 refine zbd ?_
 refine zb ?_
 refine nK ?_
 refine n_cond _ rfl (fun hb => ?_) (fun hb => ?_)
 ·rw [ifT hb]
  refine nK ?_
  refine za ?_
  refine zf ?_
  refine zh ?_
  refine zbe ?_
  refine zb ?_
  refine nK ?_
  refine n_cond _ rfl (fun hb => ?_) (fun hb => ?_)
  ·rw [ifT hb]
   refine nK ?_
   refine za ?_
   refine ze ?_
   refine zb ?_
   refine nK ?_
   exact wO hC
  rw [ifF hb]
  refine nK ?_
  refine za ?_
  refine zf ?_
  refine zh ?_
  refine zba ?_
  refine zc ?_
  refine zp ?_
  refine zs ?_
  refine zp ?_
  refine zs ?_
  refine zdm ?_
  refine zy ?_
  refine zb ?_
  refine nK ?_
  refine n_cond _ rfl (fun hb => ?_) (fun hb => ?_)
  ·rw [ifT hb]
   refine nK ?_
   refine za ?_
   refine ze ?_
   refine zb ?_
   refine nK ?_
   exact wO hC
  rw [ifF hb]
  refine nK ?_
  refine za ?_
  refine zf ?_
  refine zh ?_
  refine zba ?_
  refine zc ?_
  refine zp ?_
  refine zs ?_
  refine zbw ?_
  refine zbd ?_
  refine zc ?_
  refine zp ?_
  refine zs ?_
  refine zp ?_
  refine zs ?_
  refine rgZ 66 rfl rfl tG (op_call_pure (fun _ => fits_c _ _ (by assumption)) rfl (Opd.func _) (oS (oO rfl tO) (oS (oO rfl tO) Opds.nil))) ?_
  refine zca ?_
  refine zy ?_
  refine zb ?_
  refine nK ?_
  refine n_cond _ rfl (fun hb => ?_) (fun hb => ?_)
  ·rw [ifT hb]
   refine nK ?_
   refine za ?_
   refine ze ?_
   refine zb ?_
   refine nK ?_
   exact wO hC
  rw [ifF hb]
  refine nK ?_
  refine za ?_
  refine zf ?_
  refine zh ?_
  refine zba ?_
  refine zc ?_
  refine zp ?_
  refine zs ?_
  refine zbw ?_
  refine zbd ?_
  refine zc ?_
  refine zp ?_
  refine zs ?_
  refine zbw ?_
  refine zy ?_
  refine zb ?_
  refine nK ?_
  refine n_cond _ rfl (fun hb => ?_) (fun hb => ?_)
  ·rw [ifT hb]
   refine nK ?_
   refine za ?_
   refine ze ?_
   refine zb ?_
   refine nK ?_
   exact wO hC
  rw [ifF hb]
  refine nK ?_
  refine za ?_
  refine ze ?_
  refine zb ?_
  refine nK ?_
  exact wO hC
 rw [ifF hb]
 refine nK ?_
 refine za ?_
 refine zf ?_
 refine zh ?_
 refine rpZ 41 rfl (op_call_pure (fun _ => within_c _ _ _) rfl (Opd.func _) (oS (oT rfl) (oS oC (oS oC Opds.nil)))) ?_
 refine zbj ?_
 refine zb ?_
 refine nK ?_
 refine n_cond _ rfl (fun hb => ?_) (fun hb => ?_)
 ·rw [ifT hb]
  refine nK ?_
  refine za ?_
  refine ze ?_
  refine zb ?_
  refine nK ?_
  exact wO hC
 rw [ifF hb]
 refine nK ?_
 refine za ?_
 refine zf ?_
 refine zh ?_
 refine zba ?_
 refine zc ?_
 refine zp ?_
 refine zs ?_
 refine zp ?_
 refine zs ?_
 refine zdm ?_
 refine zy ?_
 refine zb ?_
 refine nK ?_
 refine n_cond _ rfl (fun hb => ?_) (fun hb => ?_)
 ·rw [ifT hb]
  refine nK ?_
  refine za ?_
  refine ze ?_
  refine zb ?_
  refine nK ?_
  exact wO hC
 rw [ifF hb]
 refine nK ?_
 refine za ?_
 refine zf ?_
 refine zh ?_
 refine zba ?_
 refine zc ?_
 refine zp ?_
 refine zs ?_
 refine zbw ?_
 refine zbd ?_
 refine zc ?_
 refine zp ?_
 refine zs ?_
 refine zp ?_
 refine zs ?_
 refine rgZ 66 rfl rfl tG (op_call_pure (fun _ => fits_c _ _ (by assumption)) rfl (Opd.func _) (oS (oO rfl tO) (oS (oO rfl tO) Opds.nil))) ?_
 refine zca ?_
 refine zy ?_
 refine zb ?_
 refine nK ?_
 refine n_cond _ rfl (fun hb => ?_) (fun hb => ?_)
 ·rw [ifT hb]
  refine nK ?_
  refine za ?_
  refine ze ?_
  refine zb ?_
  refine nK ?_
  exact wO hC
 rw [ifF hb]
 refine nK ?_
 refine za ?_
 refine zf ?_
 refine zh ?_
 refine zba ?_
 refine zc ?_
 refine zp ?_
 refine zs ?_
 refine zbw ?_
 refine zbd ?_
 refine zc ?_
 refine zp ?_
 refine zs ?_
 refine zbw ?_
 refine zy ?_
 refine zb ?_
 refine nK ?_
 refine n_cond _ rfl (fun hb => ?_) (fun hb => ?_)
 ·rw [ifT hb]
  refine nK ?_
  refine za ?_
  refine ze ?_
  refine zb ?_
  refine nK ?_
  exact wO hC
 rw [ifF hb]
 refine nK ?_
 refine za ?_
 refine ze ?_
 refine zb ?_
 refine nK ?_
 exact wO hC
abbrev OA (l : Lsa) : Option Ob := some (.flat 15 [encA l])
theorem unused_c (l : Lsa) (ho : okA l) : Pure Tryz.prog 103 [.agg (encA l)] (Bf (unusedB l)) := by
 unfold unusedB
 refine Meets.intro Tryz.func103 rfl (Nat.le_of_ble_eq_true rfl) fun C hC => ?_
 simp only [List.map, argEnv, Nat.reduceAdd]
 refine nK ?_
 refine za ?_
 refine zu ?_
 refine ze ?_
 refine zb ?_
 refine nK ?_
 refine za ?_
 refine zf ?_
 refine zf ?_
 refine zh ?_
 refine zd ?_
 refine zb ?_
 refine nK ?_
 refine za ?_
 refine zc ?_
 refine zbe ?_
 refine zc ?_
 refine zp ?_
 refine zs ?_
 refine zce ?_
 refine zp ?_
 refine zs ?_
 refine zda ?_
 refine zce ?_
 refine zp ?_
 refine zs ?_
 refine zci ?_
 refine zbo ?_
 refine zda ?_
 refine zy ?_
 refine zb ?_
 refine nK ?_
 refine n_cond _ rfl (fun hb => ?_) (fun hb => ?_)
 ·rw [ifT hb]
  refine nK ?_
  refine za ?_
  refine ze ?_
  refine zb ?_
  refine nK ?_
  exact wO hC
 rw [ifF hb]
 refine nK ?_
 refine za ?_
 refine zc ?_
 refine zbe ?_
 refine zc ?_
 refine zp ?_
 refine zs ?_
 refine zci ?_
 refine zbo ?_
 refine zy ?_
 refine zb ?_
 refine nK ?_
 refine n_cond _ rfl (fun hb => ?_) (fun hb => ?_)
 ·rw [ifT hb]
  refine nK ?_
  refine za ?_
  refine ze ?_
  refine zb ?_
  refine nK ?_
  exact wO hC
 rw [ifF hb]
 refine nK ?_
 refine za ?_
 refine zc ?_
 refine zbq ?_
 refine zc ?_
 refine zp ?_
 refine zs ?_
 refine zdu ?_
 refine zy ?_
 refine zb ?_
 refine nK ?_
 refine n_cond _ rfl (fun hb => ?_) (fun hb => ?_)
 ·rw [ifT hb]
  refine nK ?_
  refine za ?_
  refine ze ?_
  refine zb ?_
  refine nK ?_
  exact wO hC
 rw [ifF hb]
 refine nK ?_
 refine za ?_
 refine zc ?_
 refine zba ?_
 refine zc ?_
 refine zp ?_
 refine zs ?_
 refine zca ?_
 refine zce ?_
 refine zp ?_
 refine zs ?_
 refine zbw ?_
 refine zco ?_
 refine zce ?_
 refine zp ?_
 refine zs ?_
 refine zbw ?_
 refine zco ?_
 refine zbd ?_
 refine zd ?_
 refine zb ?_
 refine nK ?_
 exact wO hC
theorem links_c (l : Lsa) (ho : okA l) : Pure Tryz.prog 104 [.agg (encA l)] (If .i64 (linksI l)) := by
 obtain ⟨oh, ol, ou, _⟩ := ho
 unfold linksI
 refine Meets.intro Tryz.func104 rfl (Nat.le_of_ble_eq_true rfl) fun C hC => ?_
 simp only [List.map, argEnv, Nat.reduceAdd]
 refine nK ?_
 refine za ?_
 refine zu ?_
 refine ze ?_
 refine zb ?_
 refine nK ?_
 refine za ?_
 refine zf ?_
 refine zh ?_
 refine zk ?_
 refine zbu ?_
 refine zb ?_
 refine nK ?_
 refine n_cond _ rfl (fun hb => ?_) (fun hb => ?_)
 ·rw [if_pos (by simp at hb; omega)]
  refine nK ?_
  refine za ?_
  refine ze ?_
  refine zb ?_
  refine nK ?_
  exact wO hC
 have hlen : l.ls.length ≤ 64 := by simp at hb; omega
 rw [if_neg (by omega)]
 refine nK ?_
 refine za ?_
 refine ze ?_
 refine zb ?_
 refine nK ?_
 refine n_loop (ι := Nat) (fun i => ([(1, .ptr 0 15 0 0), (3, IV .i64 i)], [(0, OA l)], 1)) (fun i => i ≤ l.ls.length ∧ linksGo l.h.rt (prevG l.ls i) (l.ls.drop i) = linksGo l.h.rt none l.ls) (fun i => l.ls.length - i) 0 ⟨Nat.zero_le _, rfl⟩ ?_ ?_
 ·refine Next.weakS [1] [] (by rfl) (wK hC) wG wHI21b rfl (rel_intro)
 intro i ⟨hi, ho⟩ K hK
 refine nK ?_
 refine za ?_
 refine zc ?_
 refine zf ?_
 refine zh ?_
 refine zk ?_
 refine zn ?_
 refine zb ?_
 refine nK ?_
 refine n_cond _ rfl (fun hb => ?_) (fun hb => ?_)
 ·have hlt : i < l.ls.length := by simp at hb; omega
  have hr1 := row_at' encL l.ls i hlt
  rw [links_step hlt] at ho
  have hK1 := fun h => hK (i + 1) ⟨by omega, h⟩ (by omega)
  obtain ⟨k1, k2, k3, k4⟩ := ol l.ls[i] (List.getElem_mem hlt)
  have k3' : 0 ≤ l.ls[i].d ∧ l.ls[i].d ≤ 4294967295 := by simpa only [inr] using k3
  have hE : linkE l.h.rt l.ls[i] = linkE l.h.rt l.ls[i] := rfl
  conv at hE => rhs; unfold linkE
  refine nK ?_
  refine za ?_
  refine zf ?_
  refine zh ?_
  refine zc ?_
  refine zr ?_
  refine zv ?_
  refine zo ?_
  refine zg ?_
  refine zb ?_
  refine nK ?_
  refine za ?_
  refine zf ?_
  refine zh ?_
  refine rpZ 23 rfl (op_call_pure (fun _ => within_c _ _ _) rfl (Opd.func _) (oS (oT rfl) (oS oC (oS oC Opds.nil)))) ?_
  refine zbj ?_
  refine zb ?_
  refine nK ?_
  refine n_cond _ rfl (fun hb => ?_) (fun hb => ?_)
  ·rw [ifT hb] at hE
   rw [hE, if_pos (by decide)] at ho
   rw [← ho]
   refine nK ?_
   refine za ?_
   refine ze ?_
   refine zb ?_
   refine nK ?_
   exact wO hC
  rw [ifF hb] at hE
  refine nK ?_
  refine za ?_
  refine zf ?_
  refine zh ?_
  refine rpZ 27 rfl (op_call_pure (fun _ => within_c _ _ _) rfl (Opd.func _) (oS (oT rfl) (oS oC (oS oC Opds.nil)))) ?_
  refine zbj ?_
  refine zb ?_
  refine nK ?_
  refine n_cond _ rfl (fun hb => ?_) (fun hb => ?_)
  ·rw [ifT hb] at hE
   rw [hE, if_pos (by decide)] at ho
   rw [← ho]
   refine nK ?_
   refine za ?_
   refine ze ?_
   refine zb ?_
   refine nK ?_
   exact wO hC
  rw [ifF hb] at hE
  refine nK ?_
  refine za ?_
  refine zf ?_
  refine zh ?_
  refine zba ?_
  refine zc ?_
  refine zp ?_
  refine zs ?_
  refine zbw ?_
  refine zce ?_
  refine zp ?_
  refine zs ?_
  refine zp ?_
  refine zck ?_
  refine zs ?_
  refine zbp ?_
  refine zda ?_
  refine zy ?_
  refine zb ?_
  refine nK ?_
  refine n_cond _ rfl (fun hb => ?_) (fun hb => ?_)
  ·rw [ifT hb] at hE
   rw [hE, if_pos (by decide)] at ho
   rw [← ho]
   refine nK ?_
   refine za ?_
   refine ze ?_
   refine zb ?_
   refine nK ?_
   exact wO hC
  rw [ifF hb] at hE
  refine nK ?_
  refine za ?_
  refine zf ?_
  refine zh ?_
  refine zba ?_
  refine zc ?_
  refine zp ?_
  refine zs ?_
  refine zbo ?_
  refine zce ?_
  refine zp ?_
  refine zs ?_
  refine zp ?_
  refine zs ?_
  refine zde ?_
  refine rgZ 58 rfl rfl tG (op_call_pure (fun _ => fits_c _ _ (by assumption)) rfl (Opd.func _) (oS (oO rfl tO) (oS (oO rfl tO) Opds.nil))) ?_
  refine zca ?_
  refine zda ?_
  refine zy ?_
  refine zb ?_
  refine nK ?_
  refine n_cond _ rfl (fun hb => ?_) (fun hb => ?_)
  ·rw [ifT hb] at hE
   rw [hE, if_pos (by decide)] at ho
   rw [← ho]
   refine nK ?_
   refine za ?_
   refine ze ?_
   refine zb ?_
   refine nK ?_
   exact wO hC
  rw [ifF hb] at hE
  rw [if_neg (by rw [hE]; decide)] at ho
  have hp : ∃ q, (0 < i → prevG l.ls i = some q ∧ (l.ls.map encL)[i - 1]? = some (encL q)) := by
   by_cases h0 : 0 < i
   ·exact ⟨l.ls[i - 1], fun _ => ⟨by simp [prevG]; omega, row_at' encL l.ls (i - 1) (by omega)⟩⟩
   exact ⟨⟨0, 0, 0, 0⟩, fun h => absurd h h0⟩
  obtain ⟨q, hq⟩ := hp
  refine nK ?_
  refine s_draw mixed ?_
  refine zc ?_
  refine zbu ?_
  refine zc ?_
  refine zp ?_
  refine zs ?_
  refine zl ?_
  refine zcf ?_
  refine rgZ 69 rfl rfl tG (op_idx_fz (i - 1) rfl (oO rfl tO) (oO rfl tO) (by intro hg; have h0 : 0 < i := (by simp at hg; omega); exact ⟨by omega, (hq h0).2⟩)) ?_
  refine zdv ?_
  refine zby ?_
  refine rgZ 72 rfl rfl tG (op_call_pure (fun _ => lnk_c _ _) rfl (Opd.func _) (oS (oO rfl tO) (oS (oO rfl tO) Opds.nil))) ?_
  refine zds ?_
  refine zy ?_
  refine zq ?_
  refine nK ?_
  refine n_cond _ rfl (fun hb => ?_) (fun hb => ?_)
  ·have h0 : 0 < i := by simp at hb; omega
   rw [(hq h0).1, if_pos (by simp at hb; simpa [badL] using hb.2)] at ho
   rw [← ho]
   refine nK ?_
   refine za ?_
   refine ze ?_
   refine zb ?_
   refine nK ?_
   exact wO hC
  have hc : ¬ badL (prevG l.ls i) l.ls[i] = true := by
   by_cases h0 : 0 < i
   ·rw [(hq h0).1]; simp [h0, badL] at hb ⊢; exact hb
   have : i = 0 := by omega
   subst this; simp [prevG, badL]
  rw [if_neg hc] at ho
  refine nK ?_
  refine za ?_
  refine zc ?_
  refine zj ?_
  refine zd ?_
  refine zb ?_
  refine nK ?_
  refine Next.weakS [1] [] (by rfl) (wK hC) wG wHI21b rfl ((hK1 ho))
 have hie : i = l.ls.length := by simp at hb; omega
 rw [hie, List.drop_length] at ho
 rw [← ho]
 simp only [linksGo]
 refine nK ?_
 refine za ?_
 refine ze ?_
 refine zb ?_
 refine nK ?_
 exact wO hC
theorem att_c (l : Lsa) (ho : okA l) : Pure Tryz.prog 105 [.agg (encA l)] (If .i64 (attI l)) := by
 obtain ⟨oh, ol, ou, _⟩ := ho
 unfold attI
 refine Meets.intro Tryz.func105 rfl (Nat.le_of_ble_eq_true rfl) fun C hC => ?_
 simp only [List.map, argEnv, Nat.reduceAdd]
 refine nK ?_
 refine za ?_
 refine zu ?_
 refine ze ?_
 refine zb ?_
 refine nK ?_
 refine za ?_
 refine zf ?_
 refine zh ?_
 refine zk ?_
 refine zbu ?_
 refine zb ?_
 refine nK ?_
 refine n_cond _ rfl (fun hb => ?_) (fun hb => ?_)
 ·rw [if_pos (by simp at hb; omega)]
  refine nK ?_
  refine za ?_
  refine ze ?_
  refine zb ?_
  refine nK ?_
  exact wO hC
 have hlen : l.att.length ≤ 64 := by simp at hb; omega
 rw [if_neg (by omega)]
 refine nK ?_
 refine za ?_
 refine ze ?_
 refine zb ?_
 refine nK ?_
 refine za ?_
 refine ze ?_
 refine zb ?_
 refine nK ?_
 refine n_loop (ι := Nat) (fun i => ([(1, .ptr 0 15 0 0), (3, BV ((l.att.take i).contains l.h.rt)), (4, IV .i64 i)], [(0, OA l)], 1)) (fun i => i ≤ l.att.length ∧ attGo (prevG l.att i) (l.att.drop i) = attGo none l.att) (fun i => l.att.length - i) 0 ⟨Nat.zero_le _, rfl⟩ ?_ ?_
 ·refine Next.weakS [1] [] (by rfl) (wK hC) wG wHI21b rfl (rel_intro)
 intro i ⟨hi, ho⟩ K hK
 refine nK ?_
 refine za ?_
 refine zc ?_
 refine zf ?_
 refine zh ?_
 refine zk ?_
 refine zn ?_
 refine zb ?_
 refine nK ?_
 refine n_cond _ rfl (fun hb => ?_) (fun hb => ?_)
 ·have hlt : i < l.att.length := by simp at hb; omega
  have hr1 := row_at' encU l.att i hlt
  rw [att_step hlt] at ho
  have hK1 := fun h => hK (i + 1) ⟨by omega, h⟩ (by omega)
  have hp : ∃ q, (0 < i → prevG l.att i = some q ∧ (l.att.map encU)[i - 1]? = some (encU q)) := by
   by_cases h0 : 0 < i
   ·exact ⟨l.att[i - 1], fun _ => ⟨by simp [prevG]; omega, row_at' encU l.att (i - 1) (by omega)⟩⟩
   exact ⟨0, fun h => absurd h h0⟩
  obtain ⟨q, hq⟩ := hp
  refine nK ?_
  refine s_draw mixed ?_
  refine zf ?_
  refine zh ?_
  refine zc ?_
  refine zr ?_
  refine zt ?_
  refine zba ?_
  refine zc ?_
  refine zl ?_
  refine zbo ?_
  refine zce ?_
  refine zp ?_
  refine zs ?_
  refine zl ?_
  refine zcu ?_
  refine zbt ?_
  refine zp ?_
  refine zs ?_
  refine zl ?_
  refine zcf ?_
  refine rgZ 35 rfl rfl tG (op_idx_fz (i - 1) rfl (oO rfl tO) (oO rfl tO) (by intro hg; have h0 : 0 < i := (by simp at hg; omega); exact ⟨by omega, (hq h0).2⟩)) ?_
  refine zbt ?_
  refine zcr ?_
  refine zco ?_
  refine zbd ?_
  refine zq ?_
  refine nK ?_
  refine n_cond _ rfl (fun hb => ?_) (fun hb => ?_)
  ·have hbad : (decide (l.att[i] = 0) || badU (prevG l.att i) l.att[i]) = true := by
    by_cases h0 : 0 < i
    ·rw [(hq h0).1]; simpa [h0, badU] using hb
    have : i = 0 := by omega
    subst this; simpa [prevG, badU] using hb
   rw [if_pos hbad] at ho
   rw [if_pos ho.symm]
   refine nK ?_
   refine za ?_
   refine ze ?_
   refine zb ?_
   refine nK ?_
   exact wO hC
  have hbad : (decide (l.att[i] = 0) || badU (prevG l.att i) l.att[i]) = false := by
   by_cases h0 : 0 < i
   ·rw [(hq h0).1]; simpa [h0, badU] using hb
   have : i = 0 := by omega
   subst this; simpa [prevG, badU] using hb
  rw [if_neg (by rw [hbad]; decide)] at ho
  have hK2 := hK1 ho
  have htk : (l.att.take (i + 1)).contains l.h.rt = ((l.att.take i).contains l.h.rt || decide (l.att[i] = l.h.rt)) := by
   rw [List.take_succ_eq_append_getElem hlt, Bool.eq_iff_iff]; simp only [List.contains_eq_mem, List.mem_append, List.mem_singleton, decide_eq_true_eq, Bool.or_eq_true]; exact or_congr Iff.rfl eq_comm
  rw [htk] at hK2
  refine nK ?_
  refine s_draw mixed ?_
  refine zf ?_
  refine zh ?_
  refine zc ?_
  refine zr ?_
  refine zt ?_
  refine zf ?_
  refine zf ?_
  refine zh ?_
  refine zbx ?_
  refine zq ?_
  refine nK ?_
  refine n_cond _ rfl (fun hb => ?_) (fun hb => ?_)
  ·rw [hb, Bool.or_true] at hK2
   refine nK ?_
   refine za ?_
   refine ze ?_
   refine zb ?_
   refine nK ?_
   refine za ?_
   refine zc ?_
   refine zj ?_
   refine zd ?_
   refine zb ?_
   refine nK ?_
   refine Next.weakS [1] [] (by rfl) (wK hC) wG wHI21b rfl (hK2)
  rw [hb, Bool.or_false] at hK2
  refine nK ?_
  refine za ?_
  refine zc ?_
  refine zj ?_
  refine zd ?_
  refine zb ?_
  refine nK ?_
  refine Next.weakS [1] [] (by rfl) (wK hC) wG wHI21b rfl (hK2)
 have hie : i = l.att.length := by simp at hb; omega
 rw [hie, List.drop_length] at ho
 rw [hie, List.take_length]
 have ho' : attGo none l.att = true := by rw [← ho]; rfl
 rw [if_neg (by simp [ho'])]
 refine nK ?_
 refine za ?_
 refine zc ?_
 refine zbj ?_
 refine zb ?_
 refine nK ?_
 refine n_cond _ rfl (fun hb => ?_) (fun hb => ?_)
 ·rw [if_neg (by simpa using hb)]
  refine nK ?_
  refine za ?_
  refine ze ?_
  refine zb ?_
  refine nK ?_
  exact wO hC
 rw [if_pos (by simpa using hb)]
 refine nK ?_
 refine za ?_
 refine ze ?_
 refine zb ?_
 refine nK ?_
 exact wO hC
theorem chkA_c (l : Lsa) (ho : okA l) : Pure Tryz.prog 65 [.agg (encA l)] (If .i64 (chkA l)) := by
 have ho1 := ho.1
 unfold chkA
 refine Meets.intro Tryz.func65 rfl (Nat.le_of_ble_eq_true rfl) fun C hC => ?_
 simp only [List.map, argEnv, Nat.reduceAdd]
 refine nK ?_
 refine za ?_
 refine zu ?_
 refine ze ?_
 refine zb ?_
 refine nK ?_
 refine za ?_
 refine zf ?_
 refine zbc ?_
 refine rpZ 6 rfl (op_call_pure (fun _ => head_c _ (by assumption)) rfl (Opd.func _) (oS (oT rfl) Opds.nil)) ?_
 refine zd ?_
 refine zb ?_
 refine nK ?_
 refine za ?_
 refine zc ?_
 refine zbe ?_
 refine zb ?_
 refine nK ?_
 refine n_cond _ rfl (fun hb => ?_) (fun hb => ?_)
 ·rw [if_pos (by simpa using hb)]
  refine nK ?_
  refine za ?_
  refine zc ?_
  refine zd ?_
  refine zb ?_
  refine nK ?_
  exact wO hC
 rw [if_neg (by simpa using hb)]
 refine nK ?_
 refine za ?_
 refine zm ?_
 refine rpZ 11 rfl (op_call_pure (fun _ => unused_c _ (by assumption)) rfl (Opd.func _) (oS (oT rfl) Opds.nil)) ?_
 refine zbj ?_
 refine zb ?_
 refine nK ?_
 refine n_cond _ rfl (fun hb => ?_) (fun hb => ?_)
 ·rw [ifT hb]
  refine nK ?_
  refine za ?_
  refine ze ?_
  refine zb ?_
  refine nK ?_
  exact wO hC
 rw [ifF hb]
 refine nK ?_
 refine za ?_
 refine zf ?_
 refine zf ?_
 refine zh ?_
 refine zb ?_
 refine nK ?_
 refine za ?_
 refine zba ?_
 refine zd ?_
 refine zb ?_
 refine nK ?_
 refine n_cond _ rfl (fun hb => ?_) (fun hb => ?_)
 ·rw [if_pos (by simpa using hb)]
  refine nK ?_
  refine za ?_
  refine zm ?_
  refine rpZ 19 rfl (op_call_pure (fun _ => links_c _ (by assumption)) rfl (Opd.func _) (oS (oT rfl) Opds.nil)) ?_
  refine zd ?_
  refine zb ?_
  refine nK ?_
  exact wO hC
 rw [if_neg (by simpa using hb)]
 refine nK ?_
 refine za ?_
 refine zba ?_
 refine zd ?_
 refine zb ?_
 refine nK ?_
 refine n_cond _ rfl (fun hb => ?_) (fun hb => ?_)
 ·rw [if_pos (by simpa using hb)]
  refine nK ?_
  refine za ?_
  refine zm ?_
  refine rpZ 23 rfl (op_call_pure (fun _ => att_c _ (by assumption)) rfl (Opd.func _) (oS (oT rfl) Opds.nil)) ?_
  refine zd ?_
  refine zb ?_
  refine nK ?_
  exact wO hC
 rw [if_neg (by simpa using hb)]
 refine nK ?_
 refine za ?_
 refine zf ?_
 refine zh ?_
 refine rpZ 26 rfl (op_call_pure (fun _ => within_c _ _ _) rfl (Opd.func _) (oS (oT rfl) (oS oC (oS oC Opds.nil)))) ?_
 refine zbj ?_
 refine zc ?_
 refine zp ?_
 refine zs ?_
 refine rgZ 31 rfl rfl tG (op_call_pure (fun _ => within_c _ _ _) rfl (Opd.func _) (oS (oO rfl tO) (oS oC (oS oC Opds.nil)))) ?_
 refine zca ?_
 refine zbd ?_
 refine zb ?_
 refine nK ?_
 refine n_cond _ rfl (fun hb => ?_) (fun hb => ?_)
 ·rw [ifT hb]
  refine nK ?_
  refine za ?_
  refine ze ?_
  refine zb ?_
  refine nK ?_
  exact wO hC
 rw [ifF hb]
 refine nK ?_
 refine za ?_
 refine ze ?_
 refine zb ?_
 refine nK ?_
 exact wO hC
open Go Go.RT Go.Proofs Go.Pl
set_option maxRecDepth 20000
set_option maxHeartbeats 4000000
theorem wHI22a {α : Prop} (h : α := by repeat (first | exact trivial | refine ⟨wS, ?_⟩ | refine ⟨ent_same rfl rfl (rfEq rfl tU) tL, ?_⟩ | refine ⟨ent_same rfl rfl (flEq rfl (by first | (simp; done) | (simp; omega) | (simp [encA, encH, encL, encU, encK, encV, Pl.encY]; done) | simp [maxC, minC])) trivial, ?_⟩)) : α := h
theorem wHI22b {α : Prop} (h : α := by repeat (first | exact trivial | refine ⟨⟨rfl, rfl, rfl, tL⟩, ?_⟩)) : α := h
theorem flags_c (a b : Bool) : Pure Tryz.prog 162 [Bf a, Bf b] (If .u64 (flagI a b)) := by
 refine Meets.intro Tryz.func162 rfl (Nat.le_of_ble_eq_true rfl) fun C hC => ?_
 simp only [List.map, argEnv, Nat.reduceAdd]
 refine nK ?_
 refine za ?_
 refine ze ?_
 refine zb ?_
 refine nK ?_
 refine za ?_
 refine ze ?_
 refine zb ?_
 refine nK ?_
 refine za ?_
 refine zc ?_
 refine zb ?_
 refine nK ?_
 refine n_cond _ rfl (fun hb => ?_) (fun hb => ?_)
 ·have ha : a = true := hb
  subst ha
  refine nK ?_
  refine za ?_
  refine ze ?_
  refine zb ?_
  refine nK ?_
  refine za ?_
  refine zc ?_
  refine zb ?_
  refine nK ?_
  refine n_cond _ rfl (fun hb => ?_) (fun hb => ?_)
  ·have hb' : b = true := hb
   subst hb'
   refine nK ?_
   refine za ?_
   refine zc ?_
   refine zj ?_
   refine zd ?_
   refine zb ?_
   refine nK ?_
   refine za ?_
   refine zc ?_
   refine zd ?_
   refine zb ?_
   refine nK ?_
   exact wO hC
  have hb' : b = false := hb
  subst hb'
  refine nK ?_
  refine za ?_
  refine zc ?_
  refine zd ?_
  refine zb ?_
  refine nK ?_
  exact wO hC
 have ha : a = false := hb
 subst ha
 refine nK ?_
 refine za ?_
 refine zc ?_
 refine zb ?_
 refine nK ?_
 refine n_cond _ rfl (fun hb => ?_) (fun hb => ?_)
 ·have hb' : b = true := hb
  subst hb'
  refine nK ?_
  refine za ?_
  refine zc ?_
  refine zj ?_
  refine zd ?_
  refine zb ?_
  refine nK ?_
  refine za ?_
  refine zc ?_
  refine zd ?_
  refine zb ?_
  refine nK ?_
  exact wO hC
 have hb' : b = false := hb
 subst hb'
 refine nK ?_
 refine za ?_
 refine zc ?_
 refine zd ?_
 refine zb ?_
 refine nK ?_
 exact wO hC
theorem put_c (b : List Int) (m n : Nat) (x : Int) (hb : b.length = m) (hn : n ≤ 4) (hm : m ≤ 4000000) (hx : inr .u64 x) : Meets Tryz.prog 143 [.sl 0 1 0 m, IV .i64 n, IV .u64 x] 1 [(0, OY b)] (.sl 1 1 0 (m + n)) [(1, OY (b ++ putB n x))] 2 := by
 obtain ⟨xx, rfl⟩ : ∃ xx : Nat, x = (xx : Int) := ⟨x.toNat, by simp only [inr] at hx; omega⟩
 refine Meets.intro Tryz.func143 rfl (Nat.le_of_ble_eq_true rfl) fun C hC => ?_
 simp only [List.map, argEnv, Nat.reduceAdd]
 refine nK ?_
 refine za ?_
 refine ze ?_
 refine zb ?_
 refine nK ?_
 refine Next.retag 0 rfl rfl ?_
 subst hb
 have hlen := putB_len (xx : Int) n
 refine nK ?_
 refine za ?_
 refine zc ?_
 refine zbv ?_
 refine zd ?_
 refine zb ?_
 refine nK ?_
 refine n_loop (ι := Nat × List Int) (fun p => ([(0, .sl 1 1 0 p.2.length), (2, IV .u64 (xx : Int)), (7, IV .i64 ((p.1 : Int) - 1))], [(1, OY p.2)], 2)) (fun p => p.1 ≤ n ∧ p.2 ++ putB p.1 xx = b ++ putB n xx) (fun p => p.1) (n, b) ⟨Nat.le_refl _, rfl⟩ ?_ ?_
 ·refine Next.weakS [1, 0] [] (by rfl) (wK hC) wG wHI22a rfl (rel_intro)
 intro ⟨j, c⟩ ⟨hj, hc⟩ K hK
 dsimp only at hj hc ⊢
 have hcl : c.length + j = b.length + n := by have := congrArg List.length hc; simpa [putB_len] using this
 refine nK ?_
 refine za ?_
 refine zc ?_
 refine zcg ?_
 refine zb ?_
 refine nK ?_
 refine n_cond _ rfl (fun hb => ?_) (fun hb => ?_)
 ·obtain ⟨i, rfl⟩ : ∃ i, j = i + 1 := ⟨j - 1, by simp at hb; omega⟩
  have hK1 := hK (i, c ++ [byteAt xx i]) ⟨by omega, by rw [← hc]; simp [putB]⟩ (by dsimp only; omega)
  dsimp only at hK1
  have hel : (c ++ [byteAt xx i]).length = c.length + 1 := by simp
  rw [hel] at hK1
  have hby : IntKind.u8.wrap ((xx / 2 ^ (8 * i) : Nat) : Int) = byteAt xx i := rfl
  refine nK ?_
  refine za ?_
  refine zc ?_
  refine zc ?_
  refine zc ?_
  refine zdh ?_
  refine zbh ?_
  refine rpZ 19 rfl (op_shrN (8 * i) rfl (oT rfl) (oT rfl) (by intro _; simp only [IntKind.bits]; omega)) ?_
  refine rpZ 20 rfl (castP (fun _ => congrArg (IV .u8) hby) (op_convw rfl (oT rfl))) ?_
  refine zcz ?_
  refine zdd ?_
  refine zd ?_
  refine zb ?_
  refine nK ?_
  refine za ?_
  refine zc ?_
  refine zbv ?_
  refine zd ?_
  refine zb ?_
  refine nK ?_
  refine Next.weakS [1, 0] [] (by rfl) (wK hC) wG wHI22a rfl (hK1)
 have hj0 : j = 0 := by simp at hb; omega
 subst hj0
 simp only [putB, List.append_nil] at hc
 rw [← hc]
 have e : c.length = b.length + n := by omega
 refine nK ?_
 refine za ?_
 refine zc ?_
 refine zd ?_
 refine zb ?_
 refine nK ?_
 refine Next.weakS [1, 6] [] (by rfl) (keepsN hC _ rfl) (G' := [(6, .sl 1 1 0 (b.length + n))]) (H' := [(1, OY c)]) (by exact ⟨⟨_, rfl, .inl ⟨slEq rfl e, rfl⟩⟩, trivial⟩) wHI22a rfl ?_
 exact n_out1 rfl (by rfl) rfl rfl
theorem put0_c (n : Nat) (x : Int) (hn : n ≤ 4) (hx : inr .u64 x) : Meets Tryz.prog 143 [.fz (.lit (.slice none 0 0)), IV .i64 n, IV .u64 x] 0 [] (.sl 0 1 0 n) [(0, OY (putB n x))] 1 := by
 obtain ⟨xx, rfl⟩ : ∃ xx : Nat, x = (xx : Int) := ⟨x.toNat, by simp only [inr] at hx; omega⟩
 refine Meets.intro Tryz.func143 rfl (Nat.le_of_ble_eq_true rfl) fun C hC => ?_
 simp only [List.map, argEnv, Nat.reduceAdd]
 refine nK ?_
 refine za ?_
 refine ze ?_
 refine zb ?_
 refine nK ?_
 refine Next.adopt 0 1 rfl ?_
 have hlen := putB_len (xx : Int) n
 refine nK ?_
 refine za ?_
 refine zc ?_
 refine zbv ?_
 refine zd ?_
 refine zb ?_
 refine nK ?_
 refine n_loop (ι := Nat × List Int) (fun p => ([(0, .sl 0 1 0 p.2.length), (2, IV .u64 (xx : Int)), (7, IV .i64 ((p.1 : Int) - 1))], [(0, OY p.2)], 1)) (fun p => p.1 ≤ n ∧ p.2 ++ putB p.1 xx = putB n xx) (fun p => p.1) (n, []) ⟨Nat.le_refl _, rfl⟩ ?_ ?_
 ·refine Next.weakS [0] [] (by rfl) (wK hC) wG wHI22a rfl (rel_intro)
 intro ⟨j, c⟩ ⟨hj, hc⟩ K hK
 dsimp only at hj hc ⊢
 have hcl : c.length + j = n := by have := congrArg List.length hc; simpa [putB_len] using this
 refine nK ?_
 refine za ?_
 refine zc ?_
 refine zcg ?_
 refine zb ?_
 refine nK ?_
 refine n_cond _ rfl (fun hb => ?_) (fun hb => ?_)
 ·obtain ⟨i, rfl⟩ : ∃ i, j = i + 1 := ⟨j - 1, by simp at hb; omega⟩
  have hK1 := hK (i, c ++ [byteAt xx i]) ⟨by omega, by rw [← hc]; simp [putB]⟩ (by dsimp only; omega)
  dsimp only at hK1
  have hel : (c ++ [byteAt xx i]).length = c.length + 1 := by simp
  rw [hel] at hK1
  have hby : IntKind.u8.wrap ((xx / 2 ^ (8 * i) : Nat) : Int) = byteAt xx i := rfl
  refine nK ?_
  refine za ?_
  refine zc ?_
  refine zc ?_
  refine zc ?_
  refine zdh ?_
  refine zbh ?_
  refine rpZ 19 rfl (op_shrN (8 * i) rfl (oT rfl) (oT rfl) (by intro _; simp only [IntKind.bits]; omega)) ?_
  refine rpZ 20 rfl (castP (fun _ => congrArg (IV .u8) hby) (op_convw rfl (oT rfl))) ?_
  refine zcz ?_
  refine zdd ?_
  refine zd ?_
  refine zb ?_
  refine nK ?_
  refine za ?_
  refine zc ?_
  refine zbv ?_
  refine zd ?_
  refine zb ?_
  refine nK ?_
  refine Next.weakS [0] [] (by rfl) (wK hC) wG wHI22a rfl (hK1)
 have hj0 : j = 0 := by simp at hb; omega
 subst hj0
 simp only [putB, List.append_nil] at hc
 rw [← hc]
 have e : c.length = n := by omega
 refine nK ?_
 refine za ?_
 refine zc ?_
 refine zd ?_
 refine zb ?_
 refine nK ?_
 refine Next.weakS [6] [] (by rfl) (keeps0 hC _) (G' := [(6, .sl 0 1 0 n)]) (H' := [(0, OY c)]) (by exact ⟨⟨_, rfl, .inl ⟨slEq rfl e, rfl⟩⟩, trivial⟩) wHI22a rfl ?_
 exact wO hC
theorem hdr_c (h : Hdr) (ho : okH h) : Meets Tryz.prog 144 ([.agg (encH h)].map PV.fz) 0 [] (.sl 0 1 0 18) [(0, OY (hdrB h))] 1 := by
 refine Meets.intro Tryz.func144 rfl (Nat.le_of_ble_eq_true rfl) fun C hC => ?_
 simp only [List.map, argEnv, Nat.reduceAdd]
 refine nK ?_
 refine za ?_
 refine zu ?_
 refine ze ?_
 refine zb ?_
 refine nK ?_
 refine za ?_
 refine zf ?_
 refine zh ?_
 refine zz ?_
 refine Run.eff (dd := some 7) rfl rfl (op_call (n := 0) (n' := 1) [] (fun _ => put0_c 2 _ (by omega) (w64_ok _)) rfl (Opd.func _) (oS oC (oS oC (oS (oT rfl) Opds.nil))) rfl rfl (Lent.of rfl rfl wHI22b rfl) rfl rfl rfl rfl rfl) ?_
 refine zd ?_
 refine zb ?_
 refine nK ?_
 refine nK ?_
 refine za ?_
 refine zc ?_
 refine zf ?_
 refine zh ?_
 refine zz ?_
 refine Run.eff (dd := some 12) rfl rfl (op_call (n := 1) (n' := 2) [1] (fun _ => put_c (putB 2 (w64 h.ag)) 2 1 (w64 h.ty) (by simp [putB_len]) (by omega) (by omega) (w64_ok _)) rfl (Opd.func _) (oS (oT rfl) (oS oC (oS (oT rfl) Opds.nil))) rfl rfl (Lent.of rfl rfl wHI22b rfl) rfl rfl rfl rfl rfl) ?_
 refine zd ?_
 refine zb ?_
 refine nK ?_
 refine za ?_
 refine zc ?_
 refine zf ?_
 refine zh ?_
 refine zz ?_
 refine Run.eff (dd := some 17) rfl rfl (op_call (n := 1) (n' := 2) [2] (fun _ => put_c (putB 2 (w64 h.ag) ++ putB 1 (w64 h.ty)) 3 1 (w64 h.ln) (by simp [putB_len]) (by omega) (by omega) (w64_ok _)) rfl (Opd.func _) (oS (oT rfl) (oS oC (oS (oT rfl) Opds.nil))) rfl rfl (Lent.of rfl rfl wHI22b rfl) rfl rfl rfl rfl rfl) ?_
 refine zd ?_
 refine zb ?_
 refine nK ?_
 refine za ?_
 refine zc ?_
 refine zf ?_
 refine zh ?_
 refine zz ?_
 refine Run.eff (dd := some 22) rfl rfl (op_call (n := 1) (n' := 2) [3] (fun _ => put_c (putB 2 (w64 h.ag) ++ putB 1 (w64 h.ty) ++ putB 1 (w64 h.ln)) 4 4 (w64 h.id) (by simp [putB_len]) (by omega) (by omega) (w64_ok _)) rfl (Opd.func _) (oS (oT rfl) (oS oC (oS (oT rfl) Opds.nil))) rfl rfl (Lent.of rfl rfl wHI22b rfl) rfl rfl rfl rfl rfl) ?_
 refine zd ?_
 refine zb ?_
 refine nK ?_
 refine za ?_
 refine zc ?_
 refine zf ?_
 refine zh ?_
 refine zz ?_
 refine Run.eff (dd := some 27) rfl rfl (op_call (n := 1) (n' := 2) [4] (fun _ => put_c (putB 2 (w64 h.ag) ++ putB 1 (w64 h.ty) ++ putB 1 (w64 h.ln) ++ putB 4 (w64 h.id)) 8 4 (w64 h.rt) (by simp [putB_len]) (by omega) (by omega) (w64_ok _)) rfl (Opd.func _) (oS (oT rfl) (oS oC (oS (oT rfl) Opds.nil))) rfl rfl (Lent.of rfl rfl wHI22b rfl) rfl rfl rfl rfl rfl) ?_
 refine zd ?_
 refine zb ?_
 refine nK ?_
 refine za ?_
 refine zc ?_
 refine zf ?_
 refine zh ?_
 refine zz ?_
 refine Run.eff (dd := some 32) rfl rfl (op_call (n := 1) (n' := 2) [5] (fun _ => put_c (putB 2 (w64 h.ag) ++ putB 1 (w64 h.ty) ++ putB 1 (w64 h.ln) ++ putB 4 (w64 h.id) ++ putB 4 (w64 h.rt)) 12 4 (w64 h.sq) (by simp [putB_len]) (by omega) (by omega) (w64_ok _)) rfl (Opd.func _) (oS (oT rfl) (oS oC (oS (oT rfl) Opds.nil))) rfl rfl (Lent.of rfl rfl wHI22b rfl) rfl rfl rfl rfl rfl) ?_
 refine zd ?_
 refine zb ?_
 refine nK ?_
 refine za ?_
 refine zc ?_
 refine zf ?_
 refine zh ?_
 refine zz ?_
 refine Run.eff (dd := some 37) rfl rfl (op_call (n := 1) (n' := 2) [6] (fun _ => put_c (putB 2 (w64 h.ag) ++ putB 1 (w64 h.ty) ++ putB 1 (w64 h.ln) ++ putB 4 (w64 h.id) ++ putB 4 (w64 h.rt) ++ putB 4 (w64 h.sq)) 16 2 (w64 h.sm) (by simp [putB_len]) (by omega) (by omega) (w64_ok _)) rfl (Opd.func _) (oS (oT rfl) (oS oC (oS (oT rfl) Opds.nil))) rfl rfl (Lent.of rfl rfl wHI22b rfl) rfl rfl rfl rfl rfl) ?_
 refine zd ?_
 refine zb ?_
 refine nK ?_
 refine Next.weakS [2] [] (by rfl) (keeps0 hC _) (G' := [(2, .sl 0 1 0 18)]) (H' := [(0, OY (hdrB h))]) wG wHI22a rfl ?_
 exact wO hC
abbrev outB (l : Lsa) : PV := .sl 0 1 0 (bodyB l).length
theorem body_c (l : Lsa) (ho : okA l) (hl1 : l.ls.length ≤ 64) (hl2 : l.att.length ≤ 64) : Meets Tryz.prog 142 ([.agg (encA l)].map PV.fz) 0 [] (.sl 0 1 0 (bodyB l).length) [(0, OY (bodyB l))] 1 := by
 have hbl := bodyB_len hl1 hl2
 refine Meets.intro Tryz.func142 rfl (Nat.le_of_ble_eq_true rfl) fun C hC => ?_
 simp only [List.map, argEnv, Nat.reduceAdd]
 refine nK ?_
 refine za ?_
 refine zu ?_
 refine ze ?_
 refine zb ?_
 refine nK ?_
 refine za ?_
 refine zcx ?_
 refine zd ?_
 refine zb ?_
 refine nK ?_
 refine za ?_
 refine zf ?_
 refine zf ?_
 refine zh ?_
 refine zb ?_
 refine nK ?_
 refine za ?_
 refine zba ?_
 refine zd ?_
 refine zb ?_
 refine nK ?_
 refine n_cond _ rfl (fun hb => ?_) (fun hb => ?_)
 ·have ht : l.h.ty = 1 := by simpa using hb
  have e : bodyB l = putB 1 (flagI l.bo l.bd) ++ putB 1 (w64 (l.ls.length : Int)) ++ l.ls.flatMap linkB := by unfold bodyB; rw [if_pos ht]
  refine nK ?_
  refine za ?_
  refine zc ?_
  refine zf ?_
  refine zh ?_
  refine zf ?_
  refine zh ?_
  refine rpZ 17 rfl (op_call_pure (fun _ => flags_c _ _) rfl (Opd.func _) (oS (oT rfl) (oS (oT rfl) Opds.nil))) ?_
  refine Run.eff (dd := some 18) rfl rfl (op_call (n := 1) (n' := 2) [1] (fun _ => put_c ([]) (0) 1 (flagI l.bo l.bd) rfl (by omega) (by first | omega | (simp only [List.length_append, putB_len]; omega)) (flagI_ok _ _)) rfl (Opd.func _) (oS (oT rfl) (oS oC (oS (oT rfl) Opds.nil))) rfl rfl (Lent.of rfl rfl wHI22b rfl) rfl rfl rfl rfl rfl) ?_
  refine zd ?_
  refine zb ?_
  refine nK ?_
  refine za ?_
  refine zc ?_
  refine zf ?_
  refine zh ?_
  refine zk ?_
  refine zz ?_
  refine Run.eff (dd := some 24) rfl rfl (op_call (n := 1) (n' := 2) [2] (fun _ => put_c (putB 1 (flagI l.bo l.bd)) (1) 1 (w64 (l.ls.length : Int)) (by simp [putB_len]) (by omega) (by first | omega | (simp only [List.length_append, putB_len]; omega)) (w64_ok _)) rfl (Opd.func _) (oS (oT rfl) (oS oC (oS (oT rfl) Opds.nil))) rfl rfl (Lent.of rfl rfl wHI22b rfl) rfl rfl rfl rfl rfl) ?_
  refine zd ?_
  refine zb ?_
  refine nK ?_
  refine za ?_
  refine ze ?_
  refine zb ?_
  refine nK ?_
  refine n_loop (ι := Nat × List Int) (fun p => ([(1, .ptr 0 15 0 0), (3, .sl 1 1 0 p.2.length), (4, IV .i64 p.1)], [(0, OA l), (1, OY p.2)], 2)) (fun p => p.1 ≤ l.ls.length ∧ p.2 = putB 1 (flagI l.bo l.bd) ++ putB 1 (w64 (l.ls.length : Int)) ++ (l.ls.take p.1).flatMap linkB) (fun p => l.ls.length - p.1) (0, putB 1 (flagI l.bo l.bd) ++ putB 1 (w64 (l.ls.length : Int))) ⟨Nat.zero_le _, by simp⟩ ?_ ?_
  ·refine Next.weakS [1, 3] [] (by rfl) (wK hC) wG wHI22a rfl (rel_intro)
  intro ⟨i, c⟩ ⟨hi, hc⟩ K hK
  dsimp only at hi hc ⊢
  have hcl : c.length = 2 + i * 11 := by rw [hc]; simp only [List.length_append, putB_len, flat_len linkB 11 linkB_len, List.length_take]; rw [Nat.min_eq_left hi]
  refine nK ?_
  refine za ?_
  refine zc ?_
  refine zf ?_
  refine zh ?_
  refine zk ?_
  refine zn ?_
  refine zb ?_
  refine nK ?_
  refine n_cond _ rfl (fun hb => ?_) (fun hb => ?_)
  ·have hlt : i < l.ls.length := by simp at hb; omega
   have hr1 := row_at' encL l.ls i hlt
   have hft := flat_take linkB hlt
   have hK1 := hK (i + 1, c ++ putB 1 (w64 l.ls[i].k) ++ putB 4 (w64 l.ls[i].id) ++ putB 4 (w64 l.ls[i].d) ++ putB 2 (w64 l.ls[i].c)) ⟨by dsimp only; omega, by dsimp only; rw [hft, hc]; simp [linkB]⟩ (by dsimp only; omega)
   dsimp only at hK1
   have hel : (c ++ putB 1 (w64 l.ls[i].k) ++ putB 4 (w64 l.ls[i].id) ++ putB 4 (w64 l.ls[i].d) ++ putB 2 (w64 l.ls[i].c)).length = c.length + 1 + 4 + 4 + 2 := by simp [putB_len]
   rw [hel] at hK1
   refine nK ?_
   refine za ?_
   refine zc ?_
   refine zf ?_
   refine zh ?_
   refine zc ?_
   refine zr ?_
   refine zbf ?_
   refine zt ?_
   refine zz ?_
   refine Run.eff (dd := some 40) rfl rfl (op_call (n := 1) (n' := 2) [1] (fun _ => put_c (c) (c.length) 1 (w64 l.ls[i].k) rfl (by omega) (by first | omega | (simp only [List.length_append, putB_len]; omega)) (w64_ok _)) rfl (Opd.func _) (oS (oT rfl) (oS oC (oS (oT rfl) Opds.nil))) rfl rfl (Lent.of rfl rfl wHI22b rfl) rfl rfl rfl rfl rfl) ?_
   refine zd ?_
   refine zb ?_
   refine nK ?_
   refine za ?_
   refine zc ?_
   refine zf ?_
   refine zh ?_
   refine zc ?_
   refine zr ?_
   refine zbf ?_
   refine zt ?_
   refine zz ?_
   refine Run.eff (dd := some 49) rfl rfl (op_call (n := 1) (n' := 2) [2] (fun _ => put_c (c ++ putB 1 (w64 l.ls[i].k)) (c.length + 1) 4 (w64 l.ls[i].id) (by simp [putB_len]) (by omega) (by first | omega | (simp only [List.length_append, putB_len]; omega)) (w64_ok _)) rfl (Opd.func _) (oS (oT rfl) (oS oC (oS (oT rfl) Opds.nil))) rfl rfl (Lent.of rfl rfl wHI22b rfl) rfl rfl rfl rfl rfl) ?_
   refine zd ?_
   refine zb ?_
   refine nK ?_
   refine za ?_
   refine zc ?_
   refine zf ?_
   refine zh ?_
   refine zc ?_
   refine zr ?_
   refine zbf ?_
   refine zt ?_
   refine zz ?_
   refine Run.eff (dd := some 58) rfl rfl (op_call (n := 1) (n' := 2) [3] (fun _ => put_c (c ++ putB 1 (w64 l.ls[i].k) ++ putB 4 (w64 l.ls[i].id)) (c.length + 1 + 4) 4 (w64 l.ls[i].d) (by simp [putB_len]) (by omega) (by first | omega | (simp only [List.length_append, putB_len]; omega)) (w64_ok _)) rfl (Opd.func _) (oS (oT rfl) (oS oC (oS (oT rfl) Opds.nil))) rfl rfl (Lent.of rfl rfl wHI22b rfl) rfl rfl rfl rfl rfl) ?_
   refine zd ?_
   refine zb ?_
   refine nK ?_
   refine za ?_
   refine zc ?_
   refine zf ?_
   refine zh ?_
   refine zc ?_
   refine zr ?_
   refine zbf ?_
   refine zt ?_
   refine zz ?_
   refine Run.eff (dd := some 67) rfl rfl (op_call (n := 1) (n' := 2) [4] (fun _ => put_c (c ++ putB 1 (w64 l.ls[i].k) ++ putB 4 (w64 l.ls[i].id) ++ putB 4 (w64 l.ls[i].d)) (c.length + 1 + 4 + 4) 2 (w64 l.ls[i].c) (by simp [putB_len]) (by omega) (by first | omega | (simp only [List.length_append, putB_len]; omega)) (w64_ok _)) rfl (Opd.func _) (oS (oT rfl) (oS oC (oS (oT rfl) Opds.nil))) rfl rfl (Lent.of rfl rfl wHI22b rfl) rfl rfl rfl rfl rfl) ?_
   refine zd ?_
   refine zb ?_
   refine nK ?_
   refine za ?_
   refine zc ?_
   refine zj ?_
   refine zd ?_
   refine zb ?_
   refine nK ?_
   refine Next.weakS [1, 3] [] (by rfl) (wK hC) wG wHI22a rfl (hK1)
  have hie : i = l.ls.length := by simp at hb; omega
  rw [hie, List.take_length, ← e] at hc
  rw [← hc]
  refine nK ?_
  refine za ?_
  refine zc ?_
  refine zd ?_
  refine zb ?_
  refine nK ?_
  exact wO hC
 have ht : ¬ l.h.ty = 1 := by simpa using hb
 refine nK ?_
 refine za ?_
 refine zba ?_
 refine zd ?_
 refine zb ?_
 refine nK ?_
 refine n_cond _ rfl (fun hb => ?_) (fun hb => ?_)
 ·have ht2 : l.h.ty = 2 := by simpa using hb
  have e : bodyB l = putB 1 (w64 (l.att.length : Int)) ++ l.att.flatMap (fun x => putB 4 (w64 x)) := by unfold bodyB; rw [if_neg ht, if_pos ht2]
  refine nK ?_
  refine za ?_
  refine zc ?_
  refine zf ?_
  refine zh ?_
  refine zk ?_
  refine zz ?_
  refine Run.eff (dd := some 75) rfl rfl (op_call (n := 1) (n' := 2) [1] (fun _ => put_c ([]) (0) 1 (w64 (l.att.length : Int)) rfl (by omega) (by first | omega | (simp only [List.length_append, putB_len]; omega)) (w64_ok _)) rfl (Opd.func _) (oS (oT rfl) (oS oC (oS (oT rfl) Opds.nil))) rfl rfl (Lent.of rfl rfl wHI22b rfl) rfl rfl rfl rfl rfl) ?_
  refine zd ?_
  refine zb ?_
  refine nK ?_
  refine za ?_
  refine ze ?_
  refine zb ?_
  refine nK ?_
  refine n_loop (ι := Nat × List Int) (fun p => ([(1, .ptr 0 15 0 0), (3, .sl 1 1 0 p.2.length), (5, IV .i64 p.1)], [(0, OA l), (1, OY p.2)], 2)) (fun p => p.1 ≤ l.att.length ∧ p.2 = putB 1 (w64 (l.att.length : Int)) ++ (l.att.take p.1).flatMap (fun x => putB 4 (w64 x))) (fun p => l.att.length - p.1) (0, putB 1 (w64 (l.att.length : Int))) ⟨Nat.zero_le _, by simp⟩ ?_ ?_
  ·refine Next.weakS [1, 3] [] (by rfl) (wK hC) wG wHI22a rfl (rel_intro)
  intro ⟨i, c⟩ ⟨hi, hc⟩ K hK
  dsimp only at hi hc ⊢
  have hcl : c.length = 1 + i * 4 := by rw [hc]; simp only [List.length_append, putB_len, flat_len (fun x => putB 4 (w64 x)) 4 (fun x => putB_len _ 4), List.length_take]; rw [Nat.min_eq_left hi]
  refine nK ?_
  refine za ?_
  refine zc ?_
  refine zf ?_
  refine zh ?_
  refine zk ?_
  refine zn ?_
  refine zb ?_
  refine nK ?_
  refine n_cond _ rfl (fun hb => ?_) (fun hb => ?_)
  ·have hlt : i < l.att.length := by simp at hb; omega
   have hr1 := row_at' encU l.att i hlt
   have hft := flat_take (fun x => putB 4 (w64 x)) hlt
   have hK1 := hK (i + 1, c ++ putB 4 (w64 l.att[i])) ⟨by dsimp only; omega, by dsimp only; rw [hft, hc]; simp⟩ (by dsimp only; omega)
   dsimp only at hK1
   have hel : (c ++ putB 4 (w64 l.att[i])).length = c.length + 4 := by simp [putB_len]
   rw [hel] at hK1
   refine nK ?_
   refine za ?_
   refine zc ?_
   refine zf ?_
   refine zh ?_
   refine zc ?_
   refine zr ?_
   refine zt ?_
   refine zz ?_
   refine Run.eff (dd := some 90) rfl rfl (op_call (n := 1) (n' := 2) [1] (fun _ => put_c (c) (c.length) 4 (w64 l.att[i]) rfl (by omega) (by first | omega | (simp only [List.length_append, putB_len]; omega)) (w64_ok _)) rfl (Opd.func _) (oS (oT rfl) (oS oC (oS (oT rfl) Opds.nil))) rfl rfl (Lent.of rfl rfl wHI22b rfl) rfl rfl rfl rfl rfl) ?_
   refine zd ?_
   refine zb ?_
   refine nK ?_
   refine za ?_
   refine zc ?_
   refine zj ?_
   refine zd ?_
   refine zb ?_
   refine nK ?_
   refine Next.weakS [1, 3] [] (by rfl) (wK hC) wG wHI22a rfl (hK1)
  have hie : i = l.att.length := by simp at hb; omega
  rw [hie, List.take_length, ← e] at hc
  rw [← hc]
  refine nK ?_
  refine za ?_
  refine zc ?_
  refine zd ?_
  refine zb ?_
  refine nK ?_
  exact wO hC
 have ht2 : ¬ l.h.ty = 2 := by simpa using hb
 refine nK ?_
 refine za ?_
 refine zba ?_
 refine zd ?_
 refine zb ?_
 refine nK ?_
 refine n_cond _ rfl (fun hb => ?_) (fun hb => ?_)
 ·have ht3 : l.h.ty = 3 := by simpa using hb
  have e : bodyB l = putB 4 (w64 l.co) := by unfold bodyB; rw [if_neg ht, if_neg ht2, if_pos (by omega)]
  rw [e, putB_len]
  refine nK ?_
  refine n_cond _ rfl (fun hb => ?_) (fun hb => ?_)
  ·refine nK ?_
   refine za ?_
   refine zc ?_
   refine zf ?_
   refine zh ?_
   refine zz ?_
   refine Run.eff (dd := some 98) rfl rfl (op_call (n := 1) (n' := 2) [1] (fun _ => put_c ([]) (0) 4 (w64 l.co) rfl (by omega) (by first | omega | (simp only [List.length_append, putB_len]; omega)) (w64_ok _)) rfl (Opd.func _) (oS (oT rfl) (oS oC (oS (oT rfl) Opds.nil))) rfl rfl (Lent.of rfl rfl wHI22b rfl) rfl rfl rfl rfl rfl) ?_
   refine zd ?_
   refine zb ?_
   refine nK ?_
   refine za ?_
   refine zc ?_
   refine zd ?_
   refine zb ?_
   refine nK ?_
   exact wO hC
  exfalso; simp at hb; omega
 have ht3 : ¬ l.h.ty = 3 := by simpa using hb
 refine nK ?_
 refine za ?_
 refine zba ?_
 refine zd ?_
 refine zb ?_
 refine nK ?_
 refine n_cond _ rfl (fun hb => ?_) (fun hb => ?_)
 ·have ht3 : l.h.ty = 4 := by simpa using hb
  have e : bodyB l = putB 4 (w64 l.co) := by unfold bodyB; rw [if_neg ht, if_neg ht2, if_pos (by omega)]
  rw [e, putB_len]
  refine nK ?_
  refine za ?_
  refine zc ?_
  refine zf ?_
  refine zh ?_
  refine zz ?_
  refine Run.eff (dd := some 98) rfl rfl (op_call (n := 1) (n' := 2) [1] (fun _ => put_c ([]) (0) 4 (w64 l.co) rfl (by omega) (by first | omega | (simp only [List.length_append, putB_len]; omega)) (w64_ok _)) rfl (Opd.func _) (oS (oT rfl) (oS oC (oS (oT rfl) Opds.nil))) rfl rfl (Lent.of rfl rfl wHI22b rfl) rfl rfl rfl rfl rfl) ?_
  refine zd ?_
  refine zb ?_
  refine nK ?_
  refine za ?_
  refine zc ?_
  refine zd ?_
  refine zb ?_
  refine nK ?_
  exact wO hC
 have ht4 : ¬ l.h.ty = 4 := by simpa using hb
 refine nK ?_
 refine za ?_
 refine zba ?_
 refine zd ?_
 refine zb ?_
 refine nK ?_
 refine n_cond _ rfl (fun hb => ?_) (fun hb => ?_)
 ·have ht5 : l.h.ty = 5 := by simpa using hb
  have e : bodyB l = putB 1 (flagI l.se false) ++ putB 4 (w64 l.co) ++ putB 4 (w64 l.fw) ++ putB 4 (w64 l.tg) := by unfold bodyB; rw [if_neg ht, if_neg ht2, if_neg (by omega), if_pos ht5]
  have el : (bodyB l).length = 13 := by rw [e]; simp [putB_len]
  rw [el, e]
  refine nK ?_
  refine za ?_
  refine zc ?_
  refine zf ?_
  refine zh ?_
  refine rpZ 104 rfl (op_call_pure (fun _ => flags_c _ _) rfl (Opd.func _) (oS (oT rfl) (oS oC Opds.nil))) ?_
  refine Run.eff (dd := some 105) rfl rfl (op_call (n := 1) (n' := 2) [1] (fun _ => put_c ([]) (0) 1 (flagI l.se false) rfl (by omega) (by first | omega | (simp only [List.length_append, putB_len]; omega)) (flagI_ok _ _)) rfl (Opd.func _) (oS (oT rfl) (oS oC (oS (oT rfl) Opds.nil))) rfl rfl (Lent.of rfl rfl wHI22b rfl) rfl rfl rfl rfl rfl) ?_
  refine zd ?_
  refine zb ?_
  refine nK ?_
  refine za ?_
  refine zc ?_
  refine zf ?_
  refine zh ?_
  refine zz ?_
  refine Run.eff (dd := some 110) rfl rfl (op_call (n := 1) (n' := 2) [2] (fun _ => put_c (putB 1 (flagI l.se false)) (1) 4 (w64 l.co) (by simp [putB_len]) (by omega) (by first | omega | (simp only [List.length_append, putB_len]; omega)) (w64_ok _)) rfl (Opd.func _) (oS (oT rfl) (oS oC (oS (oT rfl) Opds.nil))) rfl rfl (Lent.of rfl rfl wHI22b rfl) rfl rfl rfl rfl rfl) ?_
  refine zd ?_
  refine zb ?_
  refine nK ?_
  refine za ?_
  refine zc ?_
  refine zf ?_
  refine zh ?_
  refine zz ?_
  refine Run.eff (dd := some 115) rfl rfl (op_call (n := 1) (n' := 2) [3] (fun _ => put_c (putB 1 (flagI l.se false) ++ putB 4 (w64 l.co)) (5) 4 (w64 l.fw) (by simp [putB_len]) (by omega) (by first | omega | (simp only [List.length_append, putB_len]; omega)) (w64_ok _)) rfl (Opd.func _) (oS (oT rfl) (oS oC (oS (oT rfl) Opds.nil))) rfl rfl (Lent.of rfl rfl wHI22b rfl) rfl rfl rfl rfl rfl) ?_
  refine zd ?_
  refine zb ?_
  refine nK ?_
  refine za ?_
  refine zc ?_
  refine zf ?_
  refine zh ?_
  refine zz ?_
  refine Run.eff (dd := some 120) rfl rfl (op_call (n := 1) (n' := 2) [4] (fun _ => put_c (putB 1 (flagI l.se false) ++ putB 4 (w64 l.co) ++ putB 4 (w64 l.fw)) (9) 4 (w64 l.tg) (by simp [putB_len]) (by omega) (by first | omega | (simp only [List.length_append, putB_len]; omega)) (w64_ok _)) rfl (Opd.func _) (oS (oT rfl) (oS oC (oS (oT rfl) Opds.nil))) rfl rfl (Lent.of rfl rfl wHI22b rfl) rfl rfl rfl rfl rfl) ?_
  refine zd ?_
  refine zb ?_
  refine nK ?_
  refine za ?_
  refine zc ?_
  refine zd ?_
  refine zb ?_
  refine nK ?_
  exact wO hC
 have ht5 : ¬ l.h.ty = 5 := by simpa using hb
 have e : bodyB l = [] := by unfold bodyB; rw [if_neg ht, if_neg ht2, if_neg (by omega), if_neg ht5]
 rw [e]
 refine nK ?_
 refine za ?_
 refine zc ?_
 refine zd ?_
 refine zb ?_
 refine nK ?_
 exact wO hC
end Go.Proofs.YtoeckbdgemnngaaGreat
