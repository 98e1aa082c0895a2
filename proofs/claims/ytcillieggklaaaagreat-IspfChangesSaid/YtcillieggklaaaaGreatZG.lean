/- A part of the proof: X208, X209, X210, X211, IP13, X212, X213, LX. -/
import Derived.Test.YtcillieggklaaaaGreatZF
set_option linter.all false
namespace Go.Proofs.YtcillieggklaaaaGreat
open Go Go.RT Go.Proofs Go.Pl
set_option linter.all false
set_option maxRecDepth 20000
set_option maxHeartbeats 4000000
theorem wHX208a {α : Prop} (h : α := by repeat (first | exact trivial | refine ⟨⟨_, rfl, .inl ⟨rfl, rfl⟩⟩, ?_⟩)) : α := h
theorem wHX208b {α : Prop} (h : α := by repeat (first | exact trivial | refine ⟨wS, ?_⟩ | refine ⟨ent_same rfl rfl (rfEq rfl tU) tL, ?_⟩ | refine ⟨ent_same rfl rfl (flEq rfl (by first | (simp; done) | (simp; omega) | (simp [encE, encN, encB, encT, encL]; done) | simp [maxC, minC])) trivial, ?_⟩)) : α := h
theorem same3_c (a b : List Int) (ha : a.length ≤ 9223372036854775807) (hb0 : b.length ≤ 9223372036854775807) : Pure Tryz.prog 17 [VI a, VI b] (Bf (decide (a = b))) := by
 refine Meets.intro Tryz.func17 rfl (Nat.le_of_ble_eq_true rfl) fun C hC => ?_
 simp only [List.map, argEnv, Nat.reduceAdd]
 refine nK ?_
 refine zb ?_
 refine ze ?_
 refine zc ?_
 refine nK ?_
 refine zb ?_
 refine za ?_
 refine zo ?_
 refine za ?_
 refine zo ?_
 refine zbg ?_
 refine zc ?_
 refine nK ?_
 refine n_cond _ rfl (fun hb => ?_) (fun hb => ?_)
 ·have e : decide (a = b) = false := by
   rw [decide_eq_false_iff_not]; rintro rfl; simp at hb
  rw [e]
  refine nK ?_
  refine zb ?_
  refine ze ?_
  refine zc ?_
  refine nK ?_
  exact wO hC
 have hl : a.length = b.length := by simp at hb; omega
 refine nK ?_
 refine zb ?_
 refine za ?_
 refine zo ?_
 refine zbb ?_
 refine zc ?_
 refine nK ?_
 refine n_loop (ι := Nat) (fun i => ([(1, .fz (VI b)), (12, .fz (VI a)), (13, IV .i64 a.length), (14, IV .i64 i)], [], 0)) (fun i => i ≤ a.length ∧ (a = b ↔ a.drop i = b.drop i)) (fun i => a.length - i) 0 ⟨Nat.zero_le _, Iff.rfl⟩ ?_ ?_
 ·refine Next.weak [] [] (by rfl) (keeps0 hC _) wHX208a wHX208b wN rel_intro
 intro i ⟨hi, ho⟩ K hK
 refine nK ?_
 refine zb ?_
 refine zp ?_
 refine zc ?_
 refine nK ?_
 refine n_cond _ rfl (fun hb => ?_) (fun hb => ?_)
 ·have hlt : i < a.length := by simp at hb; omega
  have hlt2 : i < b.length := by omega
  rw [same_step hlt hlt2] at ho
  have hr1 := row_at' encN a i hlt
  have hr2 := row_at' encN b i hlt2
  have hK1 := fun h => hK (i + 1) ⟨by omega, h⟩ (by omega)
  generalize a[i] = x at *
  generalize b[i] = y at *
  refine nK ?_
  refine zb ?_
  refine za ?_
  refine zz ?_
  refine zj ?_
  refine zd ?_
  refine zd ?_
  refine zc ?_
  refine nK ?_
  refine zb ?_
  refine za ?_
  refine za ?_
  refine za ?_
  refine zz ?_
  refine zj ?_
  refine zbg ?_
  refine zc ?_
  refine nK ?_
  refine n_cond _ rfl (fun hb => ?_) (fun hb => ?_)
  ·have e : decide (a = b) = false := by
    rw [decide_eq_false_iff_not, ho]; simp at hb; exact fun h => hb h.1
   rw [e]
   refine nK ?_
   refine zb ?_
   refine ze ?_
   refine zc ?_
   refine nK ?_
   exact wO hC
  refine nK ?_
  refine zb ?_
  refine zl ?_
  refine za ?_
  refine zc ?_
  refine nK ?_
  refine Next.weak [] [] (by rfl) (keeps0 hC _) wHX208a wHX208b wN (hK1 (ho.trans ⟨fun h => h.2, fun h => ⟨by simpa using hb, h⟩⟩))
 have hie : i = a.length := by simp at hb; omega
 have e : decide (a = b) = true := by
  rw [decide_eq_true_iff, ho, hie, List.drop_length, hl, List.drop_length]
 rw [e]
 refine nK ?_
 refine zb ?_
 refine ze ?_
 refine zc ?_
 refine nK ?_
 exact wO hC
theorem sameC_c (a b : List Edg) (ha : a.length ≤ 9223372036854775807) (hb0 : b.length ≤ 9223372036854775807) : Pure Tryz.prog 22 [VE a, VE b] (Bf (decide (a = b))) := by
 refine Meets.intro Tryz.func22 rfl (Nat.le_of_ble_eq_true rfl) fun C hC => ?_
 simp only [List.map, argEnv, Nat.reduceAdd]
 refine nK ?_
 refine zb ?_
 refine ze ?_
 refine zc ?_
 refine nK ?_
 refine zb ?_
 refine za ?_
 refine zo ?_
 refine za ?_
 refine zo ?_
 refine zbg ?_
 refine zc ?_
 refine nK ?_
 refine n_cond _ rfl (fun hb => ?_) (fun hb => ?_)
 ·have e : decide (a = b) = false := by
   rw [decide_eq_false_iff_not]; rintro rfl; simp at hb
  rw [e]
  refine nK ?_
  refine zb ?_
  refine ze ?_
  refine zc ?_
  refine nK ?_
  exact wO hC
 have hl : a.length = b.length := by simp at hb; omega
 refine nK ?_
 refine zb ?_
 refine za ?_
 refine zo ?_
 refine zbb ?_
 refine zc ?_
 refine nK ?_
 refine n_loop (ι := Nat) (fun i => ([(1, .fz (VE b)), (12, .fz (VE a)), (13, IV .i64 a.length), (14, IV .i64 i)], [], 0)) (fun i => i ≤ a.length ∧ (a = b ↔ a.drop i = b.drop i)) (fun i => a.length - i) 0 ⟨Nat.zero_le _, Iff.rfl⟩ ?_ ?_
 ·refine Next.weak [] [] (by rfl) (keeps0 hC _) wHX208a wHX208b wN rel_intro
 intro i ⟨hi, ho⟩ K hK
 refine nK ?_
 refine zb ?_
 refine zp ?_
 refine zc ?_
 refine nK ?_
 refine n_cond _ rfl (fun hb => ?_) (fun hb => ?_)
 ·have hlt : i < a.length := by simp at hb; omega
  have hlt2 : i < b.length := by omega
  rw [same_step hlt hlt2] at ho
  have hr1 := row_at' encE a i hlt
  have hr2 := row_at' encE b i hlt2
  have hK1 := fun h => hK (i + 1) ⟨by omega, h⟩ (by omega)
  generalize a[i] = x at *
  generalize b[i] = y at *
  refine nK ?_
  refine zb ?_
  refine za ?_
  refine zz ?_
  refine zbf ?_
  refine zu ?_
  refine zd ?_
  refine zr ?_
  refine zc ?_
  refine nK ?_
  refine s_draw mixed ?_
  refine zk ?_
  refine za ?_
  refine za ?_
  refine zz ?_
  refine zbf ?_
  refine rpZ 24 rfl (op_neS rfl (oT rfl) (oT rfl) (by kernel_rfl)) ?_
  refine zs ?_
  refine nK ?_
  refine n_cond _ rfl (fun hb => ?_) (fun hb => ?_)
  ·have e : decide (a = b) = false := by
    rw [decide_eq_false_iff_not, ho]; rw [eqFs_encE] at hb; simp at hb; exact fun h => hb h.1
   rw [e]
   refine nK ?_
   refine zb ?_
   refine ze ?_
   refine zc ?_
   refine nK ?_
   exact wO hC
  rw [eqFs_encE] at hb
  refine nK ?_
  refine zb ?_
  refine zl ?_
  refine za ?_
  refine zc ?_
  refine nK ?_
  refine Next.weak [] [] (by rfl) (keeps0 hC _) wHX208a wHX208b wN (hK1 (ho.trans ⟨fun h => h.2, fun h => ⟨by simpa using hb, h⟩⟩))
 have hie : i = a.length := by simp at hb; omega
 have e : decide (a = b) = true := by
  rw [decide_eq_true_iff, ho, hie, List.drop_length, hl, List.drop_length]
 rw [e]
 refine nK ?_
 refine zb ?_
 refine ze ?_
 refine zc ?_
 refine nK ?_
 exact wO hC
theorem raffected_c (a b : Tr) (ha : smT a) (hb0 : smT b) (hn : affN a b ≤ 1000000) : Pure Tryz.prog 19 [.agg (encTr a), .agg (encTr b)] (VI (fil (affP a b) (affN a b))) := by
 have hN : (max (max (max (max (max (a.dist.length : Int) b.dist.length) a.hops.length) b.hops.length) a.par.length) b.par.length) = (affN a b : Nat) := by unfold affN; omega
 generalize affN a b = n at *
 refine Meets.intro Tryz.func19 rfl (Nat.le_of_ble_eq_true rfl) fun C hC => ?_
 simp only [List.map, argEnv, Nat.reduceAdd]
 refine nK ?_
 refine zb ?_
 refine zq ?_
 refine zq ?_
 refine ze ?_
 refine zc ?_
 refine nK ?_
 refine zb ?_
 refine ze ?_
 refine zc ?_
 refine nK ?_
 refine Next.weakS [] [2, 3] (by rfl) (keepsN hC _ rfl) (G' := [(2, .fz (.cellp (encTr a))), (3, .fz (.cellp (encTr b))), (5, .fz (.lit (.slice none 0 0)))]) (H' := []) wF trivial rfl ?_
 refine Next.adopt 5 1 rfl ?_
 refine nK ?_
 refine zb ?_
 refine zx ?_
 refine zj ?_
 refine zo ?_
 refine zx ?_
 refine zj ?_
 refine zo ?_
 refine zx ?_
 refine zj ?_
 refine zo ?_
 refine zx ?_
 refine zj ?_
 refine zo ?_
 refine zx ?_
 refine zj ?_
 refine zo ?_
 refine zx ?_
 refine zj ?_
 refine zo ?_
 refine rpZ 34 rfl (op_max6 rfl (oT rfl) (oT rfl) (oT rfl) (oT rfl) (oT rfl) (oT rfl)) ?_
 refine zd ?_
 refine zc ?_
 refine nK ?_
 refine zb ?_
 refine ze ?_
 refine zc ?_
 refine nK ?_
 refine n_loop (ι := Nat) (fun i => ([(2, .fz (.cellp (encTr a))), (3, .fz (.cellp (encTr b))), (5, .sl 0 1 0 (fil (affP a b) i).length), (6, IV .i64 n), (7, IV .i64 i)], [(0, OI (fil (affP a b) i))], 1)) (fun i => i ≤ n) (fun i => n - i) 0 (Nat.zero_le _) ?_ ?_
 ·refine Next.weak [0] [] (by rfl) (keepsN hC _ rfl) (by exact ⟨⟨_, rfl, .inl ⟨rfl, rfl⟩⟩, ⟨⟨_, rfl, .inl ⟨rfl, rfl⟩⟩, ⟨⟨_, rfl, .inl ⟨rfl, rfl⟩⟩, ⟨⟨_, rfl, .inl ⟨ivEq hN, rfl⟩⟩, ⟨⟨_, rfl, .inl ⟨rfl, rfl⟩⟩, trivial⟩⟩⟩⟩⟩) wR wN rel_intro
 intro i hi K hK
 try dsimp only at hi hK ⊢
 have hfl := fil_len (affP a b) i
 refine nK ?_
 refine zb ?_
 refine za ?_
 refine za ?_
 refine zp ?_
 refine zc ?_
 refine nK ?_
 refine n_cond _ rfl (fun hb => ?_) (fun hb => ?_)
 ·have hlt : i < n := by simp at hb; omega
  have hK1 := hK (i + 1) (by omega) (by omega)
  rw [fil_succ] at hK1
  have h1 := smL_row ha.2.1 i
  have h2 := smL_row hb0.2.1 i
  have h3 := smL_row ha.2.2 i
  have h4 := smL_row hb0.2.2 i
  have hap : affP a b i = !(decide (gt0 a.dist i = gt0 b.dist i) && decide (i < a.dist.length ↔ i < b.dist.length) && decide (rowAt' a.hops i = rowAt' b.hops i) && decide (rowAt' a.par i = rowAt' b.par i)) := rfl
  have hiff : decide (i < a.dist.length ↔ i < b.dist.length) = decide (decide ((i : Int) < (a.dist.length : Int)) = decide ((i : Int) < (b.dist.length : Int))) := by
   by_cases qa : i < a.dist.length <;> by_cases qb : i < b.dist.length <;> simp [qa, qb]
  rw [hiff] at hap
  generalize affP a b i = ap at *
  generalize fil (affP a b) i = F at *
  refine nK ?_
  refine zb ?_
  refine zbf ?_
  refine za ?_
  refine rpZ 43 rfl (op_call_pure (fun _ => row_c _ _) rfl (Opd.func _) (oS (oT rfl) (oS (oT rfl) Opds.nil))) ?_
  refine za ?_
  refine zi ?_
  refine zi ?_
  refine zi ?_
  refine zi ?_
  refine zd ?_
  refine zd ?_
  refine zd ?_
  refine zd ?_
  refine zc ?_
  refine nK ?_
  refine zb ?_
  refine zbf ?_
  refine za ?_
  refine rpZ 51 rfl (op_call_pure (fun _ => row_c _ _) rfl (Opd.func _) (oS (oT rfl) (oS (oT rfl) Opds.nil))) ?_
  refine za ?_
  refine zi ?_
  refine zi ?_
  refine zi ?_
  refine zi ?_
  refine zd ?_
  refine zd ?_
  refine zd ?_
  refine zd ?_
  refine zc ?_
  refine nK ?_
  refine zb ?_
  refine za ?_
  refine za ?_
  refine zbg ?_
  refine za ?_
  refine zf ?_
  refine zf ?_
  refine rgZ 62 rfl rfl tG (op_neqB rfl (oO rfl tO) (oO rfl tO)) ?_
  refine zv ?_
  refine za ?_
  refine zf ?_
  refine zf ?_
  refine rgZ 67 rfl rfl tG (op_call_pure (fun _ => same3_c _ _ (by assumption) (by assumption)) rfl (Opd.func _) (oS (oO rfl tO) (oS (oO rfl tO) Opds.nil))) ?_
  refine zbl ?_
  refine zv ?_
  refine za ?_
  refine zf ?_
  refine zf ?_
  refine rgZ 73 rfl rfl tG (op_call_pure (fun _ => same3_c _ _ (by assumption) (by assumption)) rfl (Opd.func _) (oS (oO rfl tO) (oS (oO rfl tO) Opds.nil))) ?_
  refine zbl ?_
  refine zv ?_
  refine zc ?_
  refine nK ?_
  refine n_cond _ rfl (fun hb => ?_) (fun hb => ?_)
  ·have e : ap = true := by
    rw [hap, ← hb]
    simp
   rw [if_pos e] at hK1
   refine nK ?_
   refine zb ?_
   refine za ?_
   refine za ?_
   refine zbh ?_
   refine zbu ?_
   refine zd ?_
   refine zc ?_
   refine nK ?_
   refine zb ?_
   refine za ?_
   refine zl ?_
   refine zd ?_
   refine zc ?_
   refine nK ?_
   refine Next.weak [1] [] (by rfl) (keepsN hC _ rfl) wG (by exact ⟨ent_same rfl rfl (flEq rfl (by rw [List.map_append]; rfl)) trivial, trivial⟩) wN hK1
  have e : ap = false := by
   rw [hap, ← hb]
   simp
  rw [if_neg (by rw [e]; simp), List.append_nil] at hK1
  refine nK ?_
  refine zb ?_
  refine za ?_
  refine zl ?_
  refine zd ?_
  refine zc ?_
  refine nK ?_
  refine Next.weak [0] [] (by rfl) (keepsN hC _ rfl) wG wR wN hK1
 have hie : i = n := by simp at hb; omega
 subst hie
 refine nK ?_
 refine zb ?_
 refine za ?_
 refine zd ?_
 refine zc ?_
 refine nK ?_
 refine Next.weakS [] [4] (by rfl) (keeps0 hC _) (G' := [(4, .fz (VI (fil (affP a b) i)))]) (H' := []) (by exact ⟨⟨_, rfl, .inr ⟨_, rfl, .sl _ _ _ _ _ _ rfl rfl (take_all0 (List.length_map _)) (List.length_map _)⟩⟩, trivial⟩) trivial rfl ?_
 exact wO hC
open Go Go.RT Go.Proofs Go.Pl
set_option maxRecDepth 20000
set_option maxHeartbeats 4000000
theorem wHX209a {α : Prop} (h : α := by repeat (first | exact trivial | refine ⟨⟨_, rfl, .inl ⟨rfl, rfl⟩⟩, ?_⟩)) : α := h
theorem wHX209b {α : Prop} (h : α := by repeat (first | exact trivial | refine ⟨wS, ?_⟩ | refine ⟨ent_same rfl rfl (rfEq rfl tU) tL, ?_⟩ | refine ⟨ent_same rfl rfl (flEq rfl (by first | (simp; done) | (simp; omega) | (simp [encE, encN, encB, encT, encL]; done) | simp [maxC, minC])) trivial, ?_⟩)) : α := h
theorem ore_c (l : List Int) (hn : l.length ≤ 1000000) : Pure Tryz.prog 46 [VI l] (If .i64 (orI l)) := by
 refine Meets.intro Tryz.func46 rfl (Nat.le_of_ble_eq_true rfl) fun C hC => ?_
 simp only [List.map, argEnv, Nat.reduceAdd]
 refine nK ?_
 refine zb ?_
 refine ze ?_
 refine zc ?_
 refine nK ?_
 refine zb ?_
 refine ze ?_
 refine zc ?_
 refine nK ?_
 refine zb ?_
 refine za ?_
 refine zo ?_
 refine zbb ?_
 refine zc ?_
 refine nK ?_
 refine n_loop (ι := Nat) (fun i => ([(3, IV .i64 0), (6, .fz (VI l)), (7, IV .i64 l.length), (8, IV .i64 i)], [], 0)) (fun i => i ≤ l.length ∧ orI (l.drop i) = orI l) (fun i => l.length - i) 0 ⟨Nat.zero_le _, rfl⟩ ?_ ?_
 ·refine Next.weak [] [] (by rfl) (keeps0 hC _) wHX209a wHX209b wN rel_intro
 intro i ⟨hi, ho⟩ K hK
 refine nK ?_
 refine zb ?_
 refine zp ?_
 refine zc ?_
 refine nK ?_
 refine n_cond _ rfl (fun hb => ?_) (fun hb => ?_)
 ·have hlt : i < l.length := by simp at hb; omega
  have hr1 := row_at' encN l i hlt
  rw [List.drop_eq_getElem_cons hlt] at ho
  simp only [orI] at ho
  have hK1 := fun h => hK (i + 1) ⟨by omega, h⟩ (by omega)
  generalize l[i] = x at *
  refine nK ?_
  refine zb ?_
  refine zz ?_
  refine zj ?_
  refine zd ?_
  refine zc ?_
  refine nK ?_
  refine zb ?_
  refine za ?_
  refine za ?_
  refine zbg ?_
  refine zc ?_
  refine nK ?_
  refine n_cond _ rfl (fun hb => ?_) (fun hb => ?_)
  ·rw [if_pos (by simpa using hb)] at ho
   rw [← ho]
   refine nK ?_
   refine zb ?_
   refine za ?_
   refine zd ?_
   refine zc ?_
   refine nK ?_
   exact wO hC
  rw [if_neg (by simpa using hb)] at ho
  refine nK ?_
  refine zb ?_
  refine zl ?_
  refine za ?_
  refine zc ?_
  refine nK ?_
  refine Next.weak [] [] (by rfl) (keeps0 hC _) wHX209a wHX209b wN (hK1 ho)
 have hie : i = l.length := by simp at hb; omega
 rw [hie, List.drop_length] at ho
 rw [← ho]
 refine nK ?_
 refine zb ?_
 refine za ?_
 refine zd ?_
 refine zc ?_
 refine nK ?_
 exact wO hC
def chgsE (a b : Gr) : Int := if checkI a ≠ 0 then checkI a else if checkI b ≠ 0 then checkI b else if a.r ≠ b.r ∨ a.n ≠ b.n then 14 else 0
def chgsL (a b : Gr) : List Edg := if chgsE a b ≠ 0 then [] else chM a.es b.es
theorem or2_eq (x y : Int) : orI [x, y] = if x ≠ 0 then x else y := by
 simp only [orI]
 by_cases h : x = 0 <;> by_cases h2 : y = 0 <;> simp [h, h2]
theorem changes_err (a b : Gr) (ha : okG a) (hb0 : okG b) (he : chgsE a b ≠ 0) : Pure Tryz.prog 20 [.agg (encG a), .agg (encG b)] (.tup [VE [], If .i64 (chgsE a b)]) := by
 have ho := or2_eq (checkI a) (checkI b)
 have hE : chgsE a b = if orI [checkI a, checkI b] ≠ 0 then orI [checkI a, checkI b] else if a.r ≠ b.r ∨ a.n ≠ b.n then 14 else 0 := by
  rw [ho]; unfold chgsE
  by_cases h1 : checkI a = 0 <;> by_cases h2 : checkI b = 0 <;> simp [h1, h2]
 generalize chgsE a b = E at *
 generalize hO : orI [checkI a, checkI b] = O at *
 refine Meets.intro Tryz.func20 rfl (Nat.le_of_ble_eq_true rfl) fun C hC => ?_
 simp only [List.map, argEnv, Nat.reduceAdd]
 refine nK ?_
 refine zb ?_
 refine zq ?_
 refine zq ?_
 refine ze ?_
 refine ze ?_
 refine zc ?_
 refine nK ?_
 refine s_draw mixed ?_
 refine zk ?_
 refine rpZ 12 rfl (op_call_pure (fun _ => check_c _ (by assumption)) rfl (Opd.func _) (oS (oT rfl) Opds.nil)) ?_
 refine zk ?_
 refine rpZ 14 rfl (op_call_pure (fun _ => check_c _ (by assumption)) rfl (Opd.func _) (oS (oT rfl) Opds.nil)) ?_
 refine zcs ?_
 refine rpZ 16 rfl (op_call_pure (fun _ => ore_c [_, _] (by simp)) rfl (Opd.func _) (oS (oT rfl) Opds.nil)) ?_
 refine zd ?_
 refine zs ?_
 refine nK ?_
 rw [hO]
 refine nK ?_
 refine zb ?_
 refine za ?_
 refine zbd ?_
 refine zc ?_
 refine nK ?_
 refine n_cond _ rfl (fun hb => ?_) (fun hb => ?_)
 ·have hz : O ≠ 0 := by simpa using hb
  rw [if_pos hz] at hE
  subst hE
  refine nK ?_
  refine zb ?_
  refine za ?_
  refine ze ?_
  refine zd ?_
  refine zc ?_
  refine nK ?_
  (refine Next.weakS [] [] (by rfl) (keeps0 hC _) (G' := [(4, .fz (VE [])), (5, .fz _)]) (H' := []) wF trivial rfl ?_; exact wO hC)
 have hz : O = 0 := by simpa using hb
 rw [if_neg (by simp [hz])] at hE
 refine nK ?_
 refine zb ?_
 refine zg ?_
 refine zh ?_
 refine zg ?_
 refine zh ?_
 refine zbg ?_
 refine za ?_
 refine zn ?_
 refine zm ?_
 refine zn ?_
 refine zm ?_
 refine zcl ?_
 refine zv ?_
 refine zc ?_
 refine nK ?_
 refine n_cond _ rfl (fun hb => ?_) (fun hb => ?_)
 ·have hm : a.r ≠ b.r ∨ a.n ≠ b.n := by simpa using hb
  rw [if_pos hm] at hE
  subst hE
  refine nK ?_
  refine zb ?_
  refine ze ?_
  refine ze ?_
  refine zc ?_
  refine nK ?_
  (refine Next.weakS [] [] (by rfl) (keeps0 hC _) (G' := [(4, .fz (VE [])), (5, .fz _)]) (H' := []) wF trivial rfl ?_; exact wO hC)
 have hm : ¬ (a.r ≠ b.r ∨ a.n ≠ b.n) := by simpa using hb
 rw [if_neg hm] at hE
 exact absurd hE he
theorem rchanges_err (a b : Gr) (ha : okG a) (hb0 : okG b) (he : chgsE a b ≠ 0) : Pure Tryz.prog 21 [.agg (encG a), .agg (encG b)] (.tup [VE [], If .i64 (chgsE a b)]) := by
 have hE : chgsE a b = if checkI a ≠ 0 then checkI a else if checkI b ≠ 0 then checkI b else if a.r ≠ b.r ∨ a.n ≠ b.n then 14 else 0 := rfl
 generalize chgsE a b = E at *
 refine Meets.intro Tryz.func21 rfl (Nat.le_of_ble_eq_true rfl) fun C hC => ?_
 simp only [List.map, argEnv, Nat.reduceAdd]
 refine nK ?_
 refine zb ?_
 refine zq ?_
 refine zq ?_
 refine ze ?_
 refine ze ?_
 refine zc ?_
 refine nK ?_
 refine zb ?_
 refine zk ?_
 refine rpZ 17 rfl (op_call_pure (fun _ => rcheck_c _ (by assumption)) rfl (Opd.func _) (oS (oT rfl) Opds.nil)) ?_
 refine zd ?_
 refine zc ?_
 refine nK ?_
 refine zb ?_
 refine za ?_
 refine zbd ?_
 refine zc ?_
 refine nK ?_
 refine n_cond _ rfl (fun hb => ?_) (fun hb => ?_)
 ·have hz : checkI a ≠ 0 := by simpa using hb
  rw [if_pos hz] at hE
  subst hE
  refine nK ?_
  refine zb ?_
  refine za ?_
  refine ze ?_
  refine zd ?_
  refine zc ?_
  refine nK ?_
  (refine Next.weakS [] [] (by rfl) (keeps0 hC _) (G' := [(4, .fz (VE [])), (5, .fz _)]) (H' := []) wF trivial rfl ?_; exact wO hC)
 have hz : checkI a = 0 := by simpa using hb
 rw [if_neg (by simp [hz])] at hE
 refine nK ?_
 refine zb ?_
 refine zk ?_
 refine rpZ 22 rfl (op_call_pure (fun _ => rcheck_c _ (by assumption)) rfl (Opd.func _) (oS (oT rfl) Opds.nil)) ?_
 refine zd ?_
 refine zc ?_
 refine nK ?_
 refine zb ?_
 refine za ?_
 refine zbd ?_
 refine zc ?_
 refine nK ?_
 refine n_cond _ rfl (fun hb => ?_) (fun hb => ?_)
 ·have hz2 : checkI b ≠ 0 := by simpa using hb
  rw [if_pos hz2] at hE
  subst hE
  refine nK ?_
  refine zb ?_
  refine za ?_
  refine ze ?_
  refine zd ?_
  refine zc ?_
  refine nK ?_
  (refine Next.weakS [] [] (by rfl) (keeps0 hC _) (G' := [(4, .fz (VE [])), (5, .fz _)]) (H' := []) wF trivial rfl ?_; exact wO hC)
 have hz2 : checkI b = 0 := by simpa using hb
 rw [if_neg (by simp [hz2])] at hE
 refine nK ?_
 refine zb ?_
 refine zg ?_
 refine zh ?_
 refine zg ?_
 refine zh ?_
 refine zbg ?_
 refine za ?_
 refine zn ?_
 refine zm ?_
 refine zn ?_
 refine zm ?_
 refine zcl ?_
 refine zv ?_
 refine zc ?_
 refine nK ?_
 refine n_cond _ rfl (fun hb => ?_) (fun hb => ?_)
 ·have hm : a.r ≠ b.r ∨ a.n ≠ b.n := by simpa using hb
  rw [if_pos hm] at hE
  subst hE
  refine nK ?_
  refine zb ?_
  refine ze ?_
  refine ze ?_
  refine zc ?_
  refine nK ?_
  (refine Next.weakS [] [] (by rfl) (keeps0 hC _) (G' := [(4, .fz (VE [])), (5, .fz _)]) (H' := []) wF trivial rfl ?_; exact wO hC)
 have hm : ¬ (a.r ≠ b.r ∨ a.n ≠ b.n) := by simpa using hb
 rw [if_neg hm] at hE
 exact absurd hE he
theorem changes_ok (a b : Gr) (ha : checkI a = 0) (hb0 : checkI b = 0) (hr : a.r = b.r) (hn : a.n = b.n) : Pure Tryz.prog 20 [.agg (encG a), .agg (encG b)] (.tup [VE (chM a.es b.es), If .i64 0]) := by
 have oka := okG_of ha
 have okb := okG_of hb0
 have hla := (checkI_ok ha).2.1
 have hlb := (checkI_ok hb0).2.1
 have hO : orI [checkI a, checkI b] = 0 := by rw [or2_eq, ha, hb0]; rfl
 refine Meets.intro Tryz.func20 rfl (Nat.le_of_ble_eq_true rfl) fun C hC => ?_
 simp only [List.map, argEnv, Nat.reduceAdd]
 refine nK ?_
 refine zb ?_
 refine zq ?_
 refine zq ?_
 refine ze ?_
 refine ze ?_
 refine zc ?_
 refine nK ?_
 refine s_draw mixed ?_
 refine zk ?_
 refine rpZ 12 rfl (op_call_pure (fun _ => check_c _ (by assumption)) rfl (Opd.func _) (oS (oT rfl) Opds.nil)) ?_
 refine zk ?_
 refine rpZ 14 rfl (op_call_pure (fun _ => check_c _ (by assumption)) rfl (Opd.func _) (oS (oT rfl) Opds.nil)) ?_
 refine zcs ?_
 refine rpZ 16 rfl (op_call_pure (fun _ => ore_c [_, _] (by simp)) rfl (Opd.func _) (oS (oT rfl) Opds.nil)) ?_
 refine zd ?_
 refine zs ?_
 refine nK ?_
 rw [hO]
 refine Next.weakS [] [2, 3] (by rfl) (keepsN hC _ rfl) (G' := [(2, .fz (.cellp (encG a))), (3, .fz (.cellp (encG b))), (6, IV .i64 0)]) (H' := []) wF trivial rfl ?_
 refine nK ?_
 refine zb ?_
 refine za ?_
 refine zbd ?_
 refine zc ?_
 refine nK ?_
 refine n_cond _ rfl (fun hb => ?_) (fun hb => ?_)
 ·simp at hb
 refine nK ?_
 refine zb ?_
 refine zx ?_
 refine zj ?_
 refine zx ?_
 refine zj ?_
 refine zbg ?_
 refine za ?_
 refine zbq ?_
 refine zw ?_
 refine zbq ?_
 refine zw ?_
 refine zcl ?_
 refine zv ?_
 refine zc ?_
 refine nK ?_
 refine n_cond _ rfl (fun hb => ?_) (fun hb => ?_)
 ·exfalso; simp at hb; omega
 clear hb
 refine nK ?_
 refine zb ?_
 refine ze ?_
 refine zc ?_
 refine nK ?_
 refine zb ?_
 refine ze ?_
 refine ze ?_
 refine zc ?_
 refine nK ?_
 refine Next.weakS [] [] (by rfl) (keepsN hC _ rfl) (G' := [(2, .fz (.cellp (encG a))), (3, .fz (.cellp (encG b))), (7, .fz (.lit (.slice none 0 0))), (8, IV .i64 0), (9, IV .i64 0)]) (H' := []) wF trivial rfl ?_
 refine Next.adopt 7 3 rfl ?_
 refine nK ?_
 generalize hRR : chM a.es b.es = RR at *
 refine n_loop (ι := List Edg × Nat × Nat) (fun s => ([(2, .fz (.cellp (encG a))), (3, .fz (.cellp (encG b))), (7, .sl 0 3 0 s.1.length), (8, IV .i64 (s.2.1 : Nat)), (9, IV .i64 (s.2.2 : Nat))], [(0, OE s.1)], 1)) (fun s => s.2.1 ≤ a.es.length ∧ s.2.2 ≤ b.es.length ∧ s.1.length ≤ s.2.1 + s.2.2 ∧ s.1 ++ chM (a.es.drop s.2.1) (b.es.drop s.2.2) = RR) (fun s => (a.es.length - s.2.1) + (b.es.length - s.2.2)) ([], 0, 0) ⟨Nat.zero_le _, Nat.zero_le _, Nat.le_refl _, by simpa using hRR⟩ ?_ ?_
 ·refine Next.weak [0] [] (by rfl) (keepsN hC _ rfl) wG wR wN rel_intro
 intro ⟨out, i, j⟩ ⟨hi, hj, hol, hR⟩ K hK
 try dsimp only at hi hj hol hR hK ⊢
 refine nK ?_
 refine zb ?_
 refine za ?_
 refine zx ?_
 refine zj ?_
 refine zo ?_
 refine zp ?_
 refine za ?_
 refine zf ?_
 refine zbq ?_
 refine zw ?_
 refine zbt ?_
 refine zbk ?_
 refine zv ?_
 refine zc ?_
 refine nK ?_
 refine n_cond _ rfl (fun hb => ?_) (fun hb => ?_)
 ·have hij : i < a.es.length ∨ j < b.es.length := by
   simp only [Bool.or_eq_true, decide_eq_true_eq] at hb; omega
  have hst := chM_drop hi hj hij
  have hle := ordV_le hi hj hij
  have hrA := fun h => row_of encE a.es i zE h
  have hrB := fun h => row_of encE b.es j zE h
  have hxA : ∀ h : i < a.es.length, a.es[i] = a.es.getD i zE := fun h => by simp [List.getD_eq_getElem?_getD, h]
  have hyB : ∀ h : j < b.es.length, b.es[j] = b.es.getD j zE := fun h => by simp [List.getD_eq_getElem?_getD, h]
  have vE : i < a.es.length → j < b.es.length → ordV (a.es.drop i) (b.es.drop j) = ordE (a.es.getD i zE) (b.es.getD j zE) := fun h1 h2 => by rw [ordV_both h1 h2, hxA h1, hyB h2]
  have hN : i < a.es.length → ordV (a.es.drop i) (b.es.drop j) < 0 → headC (a.es.drop i) (b.es.drop j) = [⟨(a.es.getD i zE).f, (a.es.getD i zE).t, -1⟩] := fun h1 h2 => by rw [headC_neg h1 h2, hxA h1]
  have hP : j < b.es.length → (0 < ordV (a.es.drop i) (b.es.drop j) ∨ ordV (a.es.drop i) (b.es.drop j) = 0 ∧ (a.es.getD i zE).c ≠ (b.es.getD j zE).c) → headC (a.es.drop i) (b.es.drop j) = [b.es.getD j zE] := fun h1 h2 => by
   rw [headC_put h1 (h2.imp id fun q => ⟨q.1, fun h3 => by rw [hxA h3, hyB h1]; exact q.2⟩), hyB h1]
  have hQ : i < a.es.length → j < b.es.length → ordV (a.es.drop i) (b.es.drop j) = 0 → (a.es.getD i zE).c = (b.es.getD j zE).c → headC (a.es.drop i) (b.es.drop j) = [] := fun h1 h2 h3 h4 => headC_no h1 h2 h3 (by rw [hxA h1, hyB h2]; exact h4)
  have hO1 : ¬ i < a.es.length → j < b.es.length → ordV (a.es.drop i) (b.es.drop j) = 1 := fun h1 h2 => ordV_one h1 h2
  have hO2 : j = b.es.length → ordV (a.es.drop i) (b.es.drop j) = -1 := fun h => ordV_end h
  have hhl := headC_len (a.es.drop i) (b.es.drop j)
  rw [hst] at hR
  clear hst hxA hyB hb
  generalize a.es.getD i zE = x at *
  generalize b.es.getD j zE = y at *
  have hor : ordE x y = orI [cmpI x.f y.f, cmpI x.t y.t] := by
   rw [or2_eq]; rfl
  generalize ordV (a.es.drop i) (b.es.drop j) = o at *
  generalize headC (a.es.drop i) (b.es.drop j) = hd at *
  have hK1 := hK (out ++ hd, i + (if o ≤ 0 then 1 else 0), j + (if 0 ≤ o then 1 else 0)) ⟨by dsimp only; have := hle.1; split <;> omega, by dsimp only; have := hle.2; split <;> omega, by dsimp only; rw [List.length_append]; split <;> split <;> omega, by dsimp only; rw [List.append_assoc]; exact hR⟩ (by dsimp only; have h1 := hle.1; have h2 := hle.2; split <;> split <;> omega)
  dsimp only at hK1
  clear hK hR
  refine nK ?_
  refine zb ?_
  refine ze ?_
  refine zc ?_
  refine nK ?_
  refine zb ?_
  refine za ?_
  refine zx ?_
  refine zj ?_
  refine zo ?_
  refine zbr ?_
  refine zd ?_
  refine zc ?_
  refine nK ?_
  refine n_joinB [(2, .fz (.cellp (encG a))), (3, .fz (.cellp (encG b))), (7, .sl 0 3 0 out.length), (8, IV .i64 (i : Nat)), (9, IV .i64 (j : Nat)), (10, IV .i64 o)] [(0, OE out)] 1 ?_ ?_
  ·refine nK ?_
   refine n_cond _ rfl (fun hb => ?_) (fun hb => ?_)
   ·have hjl : j = b.es.length := by simp at hb; omega
    rw [hO2 hjl]
    refine nK ?_
    refine zb ?_
    refine ze ?_
    refine zc ?_
    refine nK ?_
    refine Next.weak [0] [] (by rfl) (keepsN hC _ rfl) wG wR wN rel_intro
   have hjl : j < b.es.length := by simp at hb; omega
   refine nK ?_
   refine zb ?_
   refine za ?_
   refine zx ?_
   refine zj ?_
   refine zo ?_
   refine zp ?_
   refine zd ?_
   refine zc ?_
   refine nK ?_
   refine n_cond _ rfl (fun hb => ?_) (fun hb => ?_)
   ·have hil : i < a.es.length := by simp at hb; omega
    have hxr := hrA hil
    have hyr := hrB hjl
    rw [vE hil hjl, hor]
    refine nK ?_
    refine s_draw mixed ?_
    refine zx ?_
    refine zj ?_
    refine za ?_
    refine rpZ 59 rfl (op_idx_fz i rfl (oT rfl) (oT rfl) (by intro _; exact ⟨rfl, hxr⟩)) ?_
    refine zx ?_
    refine zj ?_
    refine zx ?_
    refine zj ?_
    refine za ?_
    refine rpZ 65 rfl (op_idx_fz j rfl (oT rfl) (oT rfl) (by intro _; exact ⟨rfl, hyr⟩)) ?_
    refine zx ?_
    refine zj ?_
    refine rpZ 68 rfl (op_call_pure (fun _ => cmp_c _ _) rfl (Opd.func _) (oS (oT rfl) (oS (oT rfl) Opds.nil))) ?_
    refine zx ?_
    refine zj ?_
    refine za ?_
    refine rpZ 72 rfl (op_idx_fz i rfl (oT rfl) (oT rfl) (by intro _; exact ⟨rfl, hxr⟩)) ?_
    refine zx ?_
    refine zj ?_
    refine zx ?_
    refine zj ?_
    refine za ?_
    refine rpZ 78 rfl (op_idx_fz j rfl (oT rfl) (oT rfl) (by intro _; exact ⟨rfl, hyr⟩)) ?_
    refine zx ?_
    refine zj ?_
    refine rpZ 81 rfl (op_call_pure (fun _ => cmp_c _ _) rfl (Opd.func _) (oS (oT rfl) (oS (oT rfl) Opds.nil))) ?_
    refine zcs ?_
    refine rpZ 83 rfl (op_call_pure (fun _ => or_c [_, _] (by simp)) rfl (Opd.func _) (oS (oT rfl) Opds.nil)) ?_
    refine zd ?_
    refine zs ?_
    refine nK ?_
    refine Next.weak [0] [] (by rfl) (keepsN hC _ rfl) wG wR wN rel_intro
   have hil : ¬ i < a.es.length := by simp at hb; omega
   rw [hO1 hil hjl]
   refine nK ?_
   refine Next.weak [0] [] (by rfl) (keepsN hC _ rfl) wG wR wN rel_intro
  clear hO1 hO2 vE hor
  refine nK ?_
  refine zb ?_
  refine za ?_
  refine zbn ?_
  refine zd ?_
  refine zc ?_
  refine nK ?_
  refine n_joinB [(2, .fz (.cellp (encG a))), (3, .fz (.cellp (encG b))), (7, .sl 0 3 0 (out ++ hd).length), (8, IV .i64 (i : Nat)), (9, IV .i64 (j : Nat)), (10, IV .i64 o)] [(0, OE (out ++ hd))] 1 ?_ ?_
  ·refine nK ?_
   refine n_cond _ rfl (fun hb => ?_) (fun hb => ?_)
   ·have ho : o < 0 := by simpa using hb
    have hil := hle.1 (by omega)
    have hxr := hrA hil
    rw [hN hil ho]
    refine nK ?_
    refine s_draw mixed ?_
    refine za ?_
    refine zx ?_
    refine zj ?_
    refine za ?_
    refine rpZ 91 rfl (op_idx_fz i rfl (oT rfl) (oT rfl) (by intro _; exact ⟨rfl, hxr⟩)) ?_
    refine zx ?_
    refine zj ?_
    refine zx ?_
    refine zj ?_
    refine za ?_
    refine rpZ 97 rfl (op_idx_fz i rfl (oT rfl) (oT rfl) (by intro _; exact ⟨rfl, hxr⟩)) ?_
    refine zx ?_
    refine zj ?_
    refine zdj ?_
    refine zbh ?_
    refine zco ?_
    refine zd ?_
    refine zs ?_
    refine nK ?_
    refine Next.weak [1] [] (by rfl) (keepsN hC _ rfl) wG (by exact ⟨ent_same rfl rfl (flEq rfl (by rw [List.map_append]; rfl)) trivial, trivial⟩) wN rel_intro
   have ho : 0 ≤ o := by simpa using hb
   have hjl := hle.2 ho
   have hyr := hrB hjl
   refine nK ?_
   refine s_draw mixed ?_
   refine za ?_
   refine zcg ?_
   refine za ?_
   refine zbq ?_
   refine zw ?_
   refine zf ?_
   refine rgZ 110 rfl rfl tG (op_idx_fz i rfl (oO rfl tO) (oO rfl tO) (by intro hg; simp at hg; exact ⟨rfl, hrA (hle.1 (by omega))⟩)) ?_
   refine zdg ?_
   refine zw ?_
   refine zbq ?_
   refine zw ?_
   refine zf ?_
   refine rgZ 116 rfl rfl tG (op_idx_fz j rfl (oO rfl tO) (oO rfl tO) (by intro _; exact ⟨rfl, hyr⟩)) ?_
   refine zdg ?_
   refine zw ?_
   refine zcl ?_
   refine zv ?_
   refine zd ?_
   refine zs ?_
   refine nK ?_
   refine n_cond _ rfl (fun hb => ?_) (fun hb => ?_)
   ·have hc : 0 < o ∨ o = 0 ∧ x.c ≠ y.c := by
     simp only [Bool.or_eq_true, decide_eq_true_eq, Bool.not_eq_true', decide_eq_false_iff_not] at hb
     rcases hb with h | h
     ·left; omega
     by_cases h0 : 0 < o
     ·exact .inl h0
     exact .inr ⟨by omega, h⟩
    rw [hP hjl hc]
    refine nK ?_
    refine zb ?_
    refine za ?_
    refine zx ?_
    refine zj ?_
    refine za ?_
    refine rpZ 125 rfl (op_idx_fz j rfl (oT rfl) (oT rfl) (by intro _; exact ⟨rfl, hyr⟩)) ?_
    refine zbf ?_
    refine zbh ?_
    refine zbu ?_
    refine zd ?_
    refine zc ?_
    refine nK ?_
    refine Next.weak [1] [] (by rfl) (keepsN hC _ rfl) wG (by exact ⟨ent_same rfl rfl (flEq rfl (by rw [List.map_append]; rfl)) trivial, trivial⟩) wN rel_intro
   have hc : o = 0 ∧ x.c = y.c := by
    simp at hb
    exact ⟨by omega, hb.2⟩
   rw [hQ (hle.1 (by omega)) hjl hc.1 hc.2, List.append_nil]
   refine nK ?_
   refine Next.weak [0] [] (by rfl) (keepsN hC _ rfl) wG wR wN rel_intro
  generalize out ++ hd = out2 at *
  refine nK ?_
  refine zb ?_
  refine za ?_
  refine rpZ 130 rfl (op_leq rfl (oT rfl) oC) ?_
  refine zc ?_
  refine nK ?_
  refine n_join [(2, .fz (.cellp (encG a))), (3, .fz (.cellp (encG b))), (7, .sl 0 3 0 out2.length), (8, IV .i64 (i + (if o ≤ 0 then 1 else 0) : Nat)), (9, IV .i64 (j : Nat)), (10, IV .i64 o)] [(0, OE out2)] 1 ?_ ?_
  ·refine nK ?_
   refine n_cond _ rfl (fun hb => ?_) (fun hb => ?_)
   ·rw [if_pos (by simpa using hb)]
    refine nK ?_
    refine zb ?_
    refine za ?_
    refine zl ?_
    refine zd ?_
    refine zc ?_
    refine nK ?_
    refine Next.weak [0] [] (by rfl) (keepsN hC _ rfl) wG wR wN rel_intro
   rw [if_neg (by simpa using hb), Nat.add_zero]
   refine nK ?_
   refine Next.weak [0] [] (by rfl) (keepsN hC _ rfl) wG wR wN rel_intro
  generalize i + (if o ≤ 0 then 1 else 0) = i2 at *
  refine nK ?_
  refine zb ?_
  refine za ?_
  refine zby ?_
  refine zc ?_
  refine nK ?_
  refine n_cond _ rfl (fun hb => ?_) (fun hb => ?_)
  ·rw [if_pos (by simpa using hb)] at hK1
   refine nK ?_
   refine zb ?_
   refine za ?_
   refine zl ?_
   refine zd ?_
   refine zc ?_
   refine nK ?_
   refine Next.weak [0] [] (by rfl) (keepsN hC _ rfl) wG wR wN hK1
  rw [if_neg (by simpa using hb), Nat.add_zero] at hK1
  refine nK ?_
  refine Next.weak [0] [] (by rfl) (keepsN hC _ rfl) wG wR wN hK1
 have hie : i = a.es.length ∧ j = b.es.length := by
  simp at hb; omega
 obtain ⟨rfl, rfl⟩ := hie
 rw [List.drop_length, List.drop_length, show chM [] [] = [] by simp [chM], List.append_nil] at hR
 subst hR
 refine nK ?_
 refine zb ?_
 refine za ?_
 refine zd ?_
 refine ze ?_
 refine zc ?_
 refine nK ?_
 refine Next.weakS [] [4] (by rfl) (keeps0 hC _) (G' := [(4, .fz (VE out)), (5, IV .i64 0)]) (H' := []) (by exact ⟨⟨_, rfl, .inr ⟨_, rfl, .sl _ _ _ _ _ _ rfl rfl (take_all0 (List.length_map _)) (List.length_map _)⟩⟩, ⟨⟨_, rfl, .inl ⟨rfl, rfl⟩⟩, trivial⟩⟩) trivial rfl ?_
 exact wO hC
open Go Go.RT Go.Proofs Go.Pl
set_option maxRecDepth 20000
set_option maxHeartbeats 4000000
theorem chRow_len (A B : List Edg) (f : Nat) : ∀ i, (chRow A B f i).length ≤ i
 | 0 => by simp [chRow]
 | i + 1 => by
  have := chRow_len A B f i
  have h2 := cellC_len A B (f : Int) (i : Int)
  rw [chRow_succ, List.length_append]; omega
theorem chR_len (A B : List Edg) (n : Nat) : ∀ i, (chR A B n i).length ≤ i * n
 | 0 => by simp [chR]
 | i + 1 => by
  have := chR_len A B n i
  have h2 := chRow_len A B i n
  rw [chR_succ, List.length_append, Nat.add_mul]; omega
theorem rchanges_ok (a b : Gr) (ha : checkI a = 0) (hb0 : checkI b = 0) (hr : a.r = b.r) (hn : a.n = b.n) : Pure Tryz.prog 21 [.agg (encG a), .agg (encG b)] (.tup [VE (chM a.es b.es), If .i64 0]) := by
 have oka := okG_of ha
 have okb := okG_of hb0
 have hla := (checkI_ok ha).2.1
 have hlb := (checkI_ok hb0).2.1
 obtain ⟨vga, ra, na⟩ := checkI_vg ha
 obtain ⟨vgb, _, _⟩ := checkI_vg hb0
 have hm128 : a.m ≤ 128 := vga.n128
 have hmr : a.r + a.n = (a.m : Int) := by unfold Gr.m; omega
 have hmb : (b.r + b.n).toNat = a.m := by rw [← hr, ← hn]
 have hma : (a.r + a.n).toNat = a.m := rfl
 have hq := chR_eq (n := a.m) vga.asc vgb.asc (fun e he => ⟨vga.f e he, vga.t e he⟩) (fun e he => by
  have h1 := vgb.f e he
  have h2 := vgb.t e he
  rw [hmb] at h1 h2
  exact ⟨h1, h2⟩)
 rw [← hq]
 clear hq hma hmb
 refine Meets.intro Tryz.func21 rfl (Nat.le_of_ble_eq_true rfl) fun C hC => ?_
 simp only [List.map, argEnv, Nat.reduceAdd]
 refine nK ?_
 refine zb ?_
 refine zq ?_
 refine zq ?_
 refine ze ?_
 refine ze ?_
 refine zc ?_
 refine nK ?_
 refine zb ?_
 refine zk ?_
 refine rpZ 17 rfl (op_call_pure (fun _ => rcheck_c _ (by assumption)) rfl (Opd.func _) (oS (oT rfl) Opds.nil)) ?_
 refine zd ?_
 refine zc ?_
 refine nK ?_
 refine zb ?_
 refine za ?_
 refine zbd ?_
 refine zc ?_
 refine nK ?_
 refine n_cond _ rfl (fun hb => ?_) (fun hb => ?_)
 ·simp at hb; omega
 refine nK ?_
 refine zb ?_
 refine zk ?_
 refine rpZ 22 rfl (op_call_pure (fun _ => rcheck_c _ (by assumption)) rfl (Opd.func _) (oS (oT rfl) Opds.nil)) ?_
 refine zd ?_
 refine zc ?_
 refine nK ?_
 refine zb ?_
 refine za ?_
 refine zbd ?_
 refine zc ?_
 refine nK ?_
 refine n_cond _ rfl (fun hb => ?_) (fun hb => ?_)
 ·simp at hb; omega
 refine nK ?_
 refine zb ?_
 refine zg ?_
 refine zh ?_
 refine zg ?_
 refine zh ?_
 refine zbg ?_
 refine za ?_
 refine zn ?_
 refine zm ?_
 refine zn ?_
 refine zm ?_
 refine zcl ?_
 refine zv ?_
 refine zc ?_
 refine nK ?_
 refine n_cond _ rfl (fun hb => ?_) (fun hb => ?_)
 ·exfalso; simp at hb; omega
 refine nK ?_
 refine zb ?_
 refine ze ?_
 refine zc ?_
 refine nK ?_
 refine zb ?_
 refine zg ?_
 refine zh ?_
 refine zg ?_
 refine zh ?_
 refine zbc ?_
 refine zd ?_
 refine zc ?_
 refine nK ?_
 refine Next.weakS [] [2, 3] (by rfl) (keepsN hC _ rfl) (G' := [(2, .fz (.cellp (encG a))), (3, .fz (.cellp (encG b))), (8, .fz (.lit (.slice none 0 0))), (9, IV .i64 (a.m : Nat))]) (H' := []) (by exact ⟨⟨_, rfl, .inr ⟨_, rfl, tW⟩⟩, ⟨⟨_, rfl, .inr ⟨_, rfl, tW⟩⟩, ⟨⟨_, rfl, .inl ⟨rfl, rfl⟩⟩, ⟨⟨_, rfl, .inl ⟨ivEq hmr, rfl⟩⟩, trivial⟩⟩⟩⟩) trivial rfl ?_
 refine Next.adopt 8 3 rfl ?_
 clear hmr hb
 generalize a.m = n at *
 refine nK ?_
 refine zb ?_
 refine ze ?_
 refine zc ?_
 refine nK ?_
 refine n_loop (ι := Nat) (fun f => ([(2, .fz (.cellp (encG a))), (3, .fz (.cellp (encG b))), (8, .sl 0 3 0 (chR a.es b.es n f).length), (9, IV .i64 (n : Nat)), (10, IV .i64 (f : Nat))], [(0, OE (chR a.es b.es n f))], 1)) (fun f => f ≤ n) (fun f => n - f) 0 (Nat.zero_le _) ?_ ?_
 ·refine Next.weak [0] [] (by rfl) (keepsN hC _ rfl) wG wR wN rel_intro
 intro f hf K hK
 try dsimp only at hf hK ⊢
 have hRl := chR_len a.es b.es n f
 have hRl2 : f * n ≤ 128 * 128 := Nat.mul_le_mul (by omega) hm128
 refine nK ?_
 refine zb ?_
 refine za ?_
 refine za ?_
 refine zp ?_
 refine zc ?_
 refine nK ?_
 refine n_cond _ rfl (fun hb => ?_) (fun hb => ?_)
 ·have hlf : f < n := by simp at hb; omega
  have hK1 := hK (f + 1) (by omega) (by omega)
  rw [chR_succ] at hK1
  generalize chR a.es b.es n f = R at *
  clear hK
  refine nK ?_
  refine zb ?_
  refine ze ?_
  refine zc ?_
  refine nK ?_
  refine n_loop (ι := Nat) (fun t => ([(2, .fz (.cellp (encG a))), (3, .fz (.cellp (encG b))), (8, .sl 0 3 0 (R ++ chRow a.es b.es f t).length), (9, IV .i64 (n : Nat)), (10, IV .i64 (f : Nat)), (11, IV .i64 (t : Nat))], [(0, OE (R ++ chRow a.es b.es f t))], 1)) (fun t => t ≤ n) (fun t => n - t) 0 (Nat.zero_le _) ?_ ?_
  ·dsimp only
   rw [show chRow a.es b.es f 0 = [] from rfl, List.append_nil]
   refine Next.weak [0] [] (by rfl) (keepsN hC _ rfl) wG wR wN rel_intro
  intro t ht K2 hK2
  try dsimp only at ht hK2 ⊢
  have hwl := chRow_len a.es b.es f t
  have hol : (R ++ chRow a.es b.es f t).length ≤ 20000 := by rw [List.length_append]; omega
  refine nK ?_
  refine zb ?_
  refine za ?_
  refine za ?_
  refine zp ?_
  refine zc ?_
  refine nK ?_
  refine n_cond _ rfl (fun hb => ?_) (fun hb => ?_)
  ·have hlt : t < n := by simp at hb; omega
   have hK3 := hK2 (t + 1) (by omega) (by omega)
   rw [chRow_succ, ← List.append_assoc] at hK3
   have hca := rcost_c a f t (by omega)
   have hcb := rcost_c b f t (by omega)
   have hce : cellC a.es b.es f t = if (costL f t a.es).2 = true ∧ (costL f t b.es).2 = false then [⟨f, t, -1⟩] else if (costL f t b.es).2 = true ∧ ((costL f t a.es).2 = false ∨ (costL f t a.es).1 ≠ (costL f t b.es).1) then [⟨f, t, (costL f t b.es).1⟩] else [] := rfl
   generalize R ++ chRow a.es b.es f t = out at *
   generalize costL f t a.es = pa at *
   generalize costL f t b.es = pb at *
   obtain ⟨ca, oa⟩ := pa
   obtain ⟨cb, ob⟩ := pb
   dsimp only at hca hcb hce
   rw [hce] at hK3
   clear hK2 hce
   refine nK ?_
   refine zb ?_
   refine zbf ?_
   refine za ?_
   refine za ?_
   refine rpZ 57 rfl (op_call_pure (fun _ => hca) rfl (Opd.func _) (oS (oT rfl) (oS (oT rfl) (oS (oT rfl) Opds.nil)))) ?_
   refine za ?_
   refine zi ?_
   refine zi ?_
   refine zd ?_
   refine zd ?_
   refine zc ?_
   refine nK ?_
   refine zb ?_
   refine zbf ?_
   refine za ?_
   refine za ?_
   refine rpZ 64 rfl (op_call_pure (fun _ => hcb) rfl (Opd.func _) (oS (oT rfl) (oS (oT rfl) (oS (oT rfl) Opds.nil)))) ?_
   refine za ?_
   refine zi ?_
   refine zi ?_
   refine zd ?_
   refine zd ?_
   refine zc ?_
   refine nK ?_
   refine zb ?_
   refine za ?_
   refine za ?_
   refine zf ?_
   refine zbl ?_
   refine zt ?_
   refine zd ?_
   refine zc ?_
   refine nK ?_
   refine n_cond _ rfl (fun hb => ?_) (fun hb => ?_)
   ·have hc : oa = true ∧ ob = false := by simpa using hb
    rw [if_pos hc] at hK3
    refine nK ?_
    refine zb ?_
    refine za ?_
    refine za ?_
    refine za ?_
    refine zdj ?_
    refine zbh ?_
    refine zbu ?_
    refine zd ?_
    refine zc ?_
    refine nK ?_
    refine zb ?_
    refine za ?_
    refine zl ?_
    refine zd ?_
    refine zc ?_
    refine nK ?_
    refine Next.weak [1] [] (by rfl) (keepsN hC _ rfl) wG (by exact ⟨ent_same rfl rfl (flEq rfl (by rw [List.map_append]; rfl)) trivial, trivial⟩) wN hK3
   have hc : ¬ (oa = true ∧ ob = false) := fun h => by rw [h.1, h.2] at hb; simp at hb
   rw [if_neg hc] at hK3
   refine nK ?_
   refine zb ?_
   refine za ?_
   refine za ?_
   refine zf ?_
   refine zbl ?_
   refine zbp ?_
   refine zf ?_
   refine zf ?_
   refine zcl ?_
   refine zcd ?_
   refine zt ?_
   refine zd ?_
   refine zc ?_
   refine nK ?_
   refine n_cond _ rfl (fun hb => ?_) (fun hb => ?_)
   ·have hc2 : ob = true ∧ (oa = false ∨ ca ≠ cb) := by
     revert hb; cases oa <;> cases ob <;> simp
    rw [if_pos hc2] at hK3
    refine nK ?_
    refine zb ?_
    refine za ?_
    refine za ?_
    refine za ?_
    refine za ?_
    refine zdb ?_
    refine zbh ?_
    refine zbu ?_
    refine zd ?_
    refine zc ?_
    refine nK ?_
    refine zb ?_
    refine za ?_
    refine zl ?_
    refine zd ?_
    refine zc ?_
    refine nK ?_
    refine Next.weak [1] [] (by rfl) (keepsN hC _ rfl) wG (by exact ⟨ent_same rfl rfl (flEq rfl (by rw [List.map_append]; rfl)) trivial, trivial⟩) wN hK3
   have hc2 : ¬ (ob = true ∧ (oa = false ∨ ca ≠ cb)) := by
    revert hb; cases oa <;> cases ob <;> simp
   rw [if_neg hc2, List.append_nil] at hK3
   refine nK ?_
   refine zb ?_
   refine za ?_
   refine zl ?_
   refine zd ?_
   refine zc ?_
   refine nK ?_
   refine Next.weak [0] [] (by rfl) (keepsN hC _ rfl) wG wR wN hK3
  have hte : t = n := by simp at hb; omega
  subst hte
  refine nK ?_
  refine zb ?_
  refine za ?_
  refine zl ?_
  refine zd ?_
  refine zc ?_
  refine nK ?_
  refine Next.weak [0] [] (by rfl) (keepsN hC _ rfl) wG wR wN hK1
 have hfe : f = n := by simp at hb; omega
 subst hfe
 generalize chR a.es b.es f f = R at *
 refine nK ?_
 refine zb ?_
 refine za ?_
 refine zd ?_
 refine ze ?_
 refine zc ?_
 refine nK ?_
 refine Next.weakS [] [4] (by rfl) (keeps0 hC _) (G' := [(4, .fz (VE R)), (5, IV .i64 0)]) (H' := []) (by exact ⟨⟨_, rfl, .inr ⟨_, rfl, .sl _ _ _ _ _ _ rfl rfl (take_all0 (List.length_map _)) (List.length_map _)⟩⟩, ⟨⟨_, rfl, .inl ⟨rfl, rfl⟩⟩, trivial⟩⟩) trivial rfl ?_
 exact wO hC
open Go Go.RT Go.Proofs Go.Pl
set_option maxRecDepth 20000
set_option maxHeartbeats 4000000
end Go.Proofs.YtcillieggklaaaaGreat
namespace Go.Pl
open Go Go.RT
set_option linter.all false
/- the example -/
def gL : Gr := ⟨3, 0, [⟨0, 1, 1⟩, ⟨1, 0, 1⟩, ⟨1, 2, 1⟩, ⟨2, 1, 1⟩]⟩
def gL1 : Gr := ⟨3, 0, [⟨0, 1, 1⟩, ⟨0, 2, 2⟩, ⟨1, 0, 1⟩, ⟨1, 2, 1⟩, ⟨2, 1, 1⟩]⟩
def gL2 : Gr := ⟨3, 0, [⟨0, 1, 1⟩, ⟨0, 2, 1⟩, ⟨1, 0, 1⟩, ⟨1, 2, 1⟩, ⟨2, 1, 1⟩]⟩
def tL : Tr := ⟨0, [0, 1, 2], [[], [1], [1]], [[], [0], [1]]⟩
def tL1 : Tr := ⟨0, [0, 1, 2], [[], [1], [1, 2]], [[], [0], [0, 1]]⟩
def tL2 : Tr := ⟨0, [0, 1, 1], [[], [1], [2]], [[], [0], [0]]⟩
theorem runL : RunOk gL 0 tL := by
  refine ⟨by decide, by decide, rfl, rfl, isD_cert (by decide) (by decide) fun v hv => ?_, by decide, [1, 2], by decide, ?_, by decide +kernel⟩
  · have hv4 : v < 3 := hv
    have w1 : Wk gL.es 0 1 1 := Wk.one .nil 0 1 rfl rfl (k := 1) (by decide)
    match v, hv4 with
    | 0, _ => exact .inr .nil
    | 1, _ => exact .inr w1
    | 2, _ => exact .inr (Wk.one w1 1 2 rfl rfl (k := 1) (by decide))
  · simp [ltHd, tL, gt0]
theorem runL1 : RunOk gL1 0 tL1 := by
  refine ⟨by decide, by decide, rfl, rfl, isD_cert (by decide) (by decide) fun v hv => ?_, by decide, [1, 2], by decide, ?_, by decide +kernel⟩
  · have hv4 : v < 3 := hv
    have w1 : Wk gL1.es 0 1 1 := Wk.one .nil 0 1 rfl rfl (k := 1) (by decide)
    match v, hv4 with
    | 0, _ => exact .inr .nil
    | 1, _ => exact .inr w1
    | 2, _ => exact .inr (Wk.one w1 1 2 rfl rfl (k := 1) (by decide))
  · simp [ltHd, tL1, gt0]
theorem runL2 : RunOk gL2 0 tL2 := by
  refine ⟨by decide, by decide, rfl, rfl, isD_cert (by decide) (by decide) fun v hv => ?_, by decide, [2, 1], by decide, ?_, by decide +kernel⟩
  · have hv4 : v < 3 := hv
    match v, hv4 with
    | 0, _ => exact .inr .nil
    | 1, _ => exact .inr (Wk.one .nil 0 1 rfl rfl (k := 1) (by decide))
    | 2, _ => exact .inr (Wk.one .nil 0 2 rfl rfl (k := 1) (by decide))
  · simp [ltHd, tL2, gt0]
theorem appL1 : applyF gL [⟨0, 2, 2⟩] = (gL1, 0) := by decide +kernel
theorem appL2 : applyF gL1 [⟨0, 2, 1⟩] = (gL2, 0) := by decide +kernel
theorem updL1 : updT gL tL [⟨0, 2, 2⟩] = (gL1, tL1, 0, 0) := by
  have e1 := trOf_uniq runL
  have e2 := trOf_uniq runL1
  rw [e1, updT_run runL.ok runL.lt, updF_yes (by rw [appL1])]
  rw [appL1]
  dsimp only
  rw [← e1, ← e2]
  simp only [updF]
  rw [← e2]
  decide +kernel
theorem updL2 : updT gL1 tL1 [⟨0, 2, 1⟩] = (gL2, tL2, 1, 0) := by
  have e1 := trOf_uniq runL1
  have e2 := trOf_uniq runL2
  rw [e1, updT_run runL1.ok runL1.lt, updF_yes (by rw [appL2])]
  rw [appL2]
  dsimp only
  rw [← e1, ← e2]
  simp only [updF]
  rw [← e2]
  decide +kernel
def largeB (g : Gr) : Bool := decide (24 < g.r) || decide (12 < g.n) || decide (120 < (g.es.length : Int))
end Go.Pl
namespace Go.Proofs.YtcillieggklaaaaGreat
open Go Go.RT Go.Proofs Go.Pl
set_option linter.all false
set_option maxRecDepth 20000
set_option maxHeartbeats 4000000
theorem updp_c (g : Gr) (n : Nat) (t : Tr) (cs : List Edg) (hg : checkI g = 0) (hn : (n : Int) < g.r) (et : t = trOf g n) (hcs : okEs cs) (hl : cs.length ≤ 1000000) : Pure Tryz.prog 11 [.agg (encG g), .agg (encTr t), VE cs] (.tup [.agg (encG (updT g t cs).1), .agg (encTr (updT g t cs).2.1), If .i64 ((updT g t cs).2.2.1 : Nat), If .i64 (updT g t cs).2.2.2]) := by
 have hk := trOf_ok hg hn
 have hsm := smT_run hk
 have hr := run_c g n _ (okG_of hg) hk
 have hck := scheck_c g (trOf g n) (trOf g n) 0 hsm hsm hr
 rw [decide_eq_true rfl, decide_eq_true rfl] at hck
 subst et
 rw [updT_run hg hn]
 exact update_run g n cs hg hn hcs hl hck
theorem large_c (g : Gr) : Pure Tryz.prog 9 [.agg (encG g)] (Bf (largeB g)) := by
 unfold largeB
 refine Meets.intro Tryz.func9 rfl (Nat.le_of_ble_eq_true rfl) fun C hC => ?_
 simp only [List.map, argEnv, Nat.reduceAdd]
 refine nK2 ?_
 refine zb ?_
 refine zq ?_
 refine ze ?_
 refine zc ?_
 refine nK2 ?_
 refine zb ?_
 refine zg ?_
 refine zh ?_
 refine zcg ?_
 refine za ?_
 refine zn ?_
 refine zm ?_
 refine zcb ?_
 refine zv ?_
 refine za ?_
 refine zn ?_
 refine zm ?_
 refine zbt ?_
 refine zcb ?_
 refine zv ?_
 refine zd ?_
 refine zc ?_
 refine nK2 ?_
 exact wO hC
theorem line_c : Pure Tryz.prog 23 [] (.agg (encG gL)) := by
 refine Meets.intro Tryz.func23 rfl (Nat.le_of_ble_eq_true rfl) fun C hC => ?_
 simp only [List.map, argEnv, Nat.reduceAdd]
 refine nK2 ?_
 refine zb ?_
 refine zu ?_
 refine zc ?_
 refine nK2 ?_
 refine zb ?_
 refine zcy ?_
 refine zcy ?_
 refine zcy ?_
 refine zcy ?_
 refine rpZ 5 rfl (op_buildSlice_fz rfl (RowsF.cons _ _ _ _ _ _ (oT rfl) tC (by rfl) (RowsF.cons _ _ _ _ _ _ (oT rfl) tC (by rfl) (RowsF.cons _ _ _ _ _ _ (oT rfl) tC (by rfl) (RowsF.cons _ _ _ _ _ _ (oT rfl) tC (by rfl) (RowsF.nil _))))) rfl rfl) ?_
 refine rpZ 6 rfl (op_build rfl rfl rfl (FillF.cons _ _ _ _ _ _ _ _ _ _ (by rfl) oC tC (by rfl) tR (FillF.cons _ _ _ _ _ _ _ _ _ _ (by rfl) (oT rfl) tC (by rfl) tR (FillF.nil _)))) ?_
 refine zr ?_
 refine zc ?_
 refine nK2 ?_
 exact wO hC
theorem awake_c : Pure Tryz.prog 10 [] (Bf true) := by
 have smL : smT tL := smT_run runL
 have smL1 : smT tL1 := smT_run runL1
 have k1 := updp_c gL 0 tL [⟨0, 2, 2⟩] runL.ok runL.lt (trOf_uniq runL) (by unfold okEs okE; decide) (by decide)
 have k2 := updp_c gL1 0 tL1 [⟨0, 2, 1⟩] runL1.ok runL1.lt (trOf_uniq runL1) (by unfold okEs okE; decide) (by decide)
 rw [updL1] at k1
 rw [updL2] at k2
 have s := fun a b ha hb => same3_c a b ha hb
 refine Meets.intro Tryz.func10 rfl (Nat.le_of_ble_eq_true rfl) fun C hC => ?_
 simp only [List.map, argEnv, Nat.reduceAdd]
 refine nK2 ?_
 refine zb ?_
 refine ze ?_
 refine zc ?_
 refine nK2 ?_
 refine zb ?_
 refine rpZ 10 rfl (op_buildSlice_fz rfl (RowsF.cons _ _ _ _ _ _ oC tC (by rfl) (RowsF.cons _ _ _ _ _ _ oC tC (by rfl) (RowsF.cons _ _ _ _ _ _ oC tC (by rfl) (RowsF.nil _)))) rfl rfl) ?_
 refine zdc ?_
 refine zdc ?_
 refine zdk ?_
 refine zdc ?_
 refine zdc ?_
 refine zdk ?_
 refine rpZ 17 rfl (op_buildP rfl rfl rfl rfl (FillP.cons _ _ _ _ _ _ _ _ _ _ (by rfl) (oT rfl) tP (by rfl) tR (FillP.cons _ _ _ _ _ _ _ _ _ _ (by rfl) (oT rfl) tP (by rfl) tR (FillP.cons _ _ _ _ _ _ _ _ _ _ (by rfl) (oT rfl) tP (by rfl) tR (FillP.nil _))))) ?_
 refine zdf ?_
 refine zcp ?_
 refine zc ?_
 refine nK2 ?_
 refine Next.weak [0, 1, 2] [] (by rfl) (keepsN hC _ rfl) (G' := [(1, .ptr 2 4 0 0)]) (H' := [(0, some (.flat 1 (tL.hops.map encL))), (1, some (.flat 1 (tL.par.map encL))), (2, some (.refs 4 [[.fz (If .i64 0), .fz (VI tL.dist), .sl 0 1 0 3, .sl 1 1 0 3]]))]) wG (by exact ⟨⟨rfl, rfl, .fflat _ _ _ rfl (.cons _ _ _ _ (.cons _ _ _ _ (.nil 1) .nil) (.cons _ _ _ _ (.cons _ _ _ _ (.fz _) .nil) (.cons _ _ _ _ (.cons _ _ _ _ (.fz _) .nil) .nil)))⟩, ⟨⟨rfl, rfl, .fflat _ _ _ rfl (.cons _ _ _ _ (.cons _ _ _ _ (.nil 1) .nil) (.cons _ _ _ _ (.cons _ _ _ _ (.fz _) .nil) (.cons _ _ _ _ (.cons _ _ _ _ (.fz _) .nil) .nil)))⟩, ⟨wS, trivial⟩⟩⟩) wN ?_
 refine Next.weak [2] [0, 1] (by rfl) (keepsN hC _ rfl) (G' := [(1, .ptr 0 4 0 0)]) (H' := [(0, OTr tL)]) wG (by exact ⟨⟨rfl, rfl, .flat _ _ _ rfl (AsRs.cons _ _ _ _ (AsR.cons _ _ _ _ (.fz _) (AsR.cons _ _ _ _ (.fz _) (AsR.cons _ _ _ _ (.sl _ _ _ _ _ _ rfl rfl (take_all0 rfl) rfl) (AsR.cons _ _ _ _ (.sl _ _ _ _ _ _ rfl rfl (take_all0 rfl) rfl) .nil)))) .nil)⟩, trivial⟩) (fun id h => by simp at h; rcases h with rfl | rfl <;> exact ⟨_, rfl⟩) ?_
 refine Next.weakS [] [1] (by rfl) (keepsN hC _ rfl) (G' := [(1, .fz (.cellp (encTr tL)))]) (H' := []) wF trivial rfl ?_
 refine nK2 ?_
 refine draw_y [(2, .ptr 0 3 0 0), (3, .ptr 1 4 0 0), (4, IV .i64 0), (5, IV .i64 0)] [(0, OG gL1), (1, OTr tL1)] 2 mixed (fun hK => ?_) ?_
 ·skip
  refine AnyY.virt (by kernel_rfl) 0 rfl (op_call_pure (fun _ => line_c) rfl (Opd.func _) Opds.nil) (by kernel_rfl) rfl (fun t h => by cases h; rfl) ?_
  refine AnyY.virt (by kernel_rfl) 1 rfl (op_loadn_fz rfl (oT rfl) tR) (by kernel_rfl) rfl (fun t h => by cases h; rfl) ?_
  refine AnyY.virt (by kernel_rfl) 2 rfl (op_build rfl rfl rfl (FillF.cons _ _ _ _ _ _ _ _ _ _ (by rfl) oC tC (by rfl) tR (FillF.cons _ _ _ _ _ _ _ _ _ _ (by rfl) oC tC (by rfl) tR (FillF.cons _ _ _ _ _ _ _ _ _ _ (by rfl) oC tC (by rfl) tR (FillF.nil _))))) (by kernel_rfl) rfl (fun t h => by cases h; rfl) ?_
  refine AnyY.virt (by kernel_rfl) 3 rfl (op_buildSlice_fz rfl (RowsF.cons _ _ _ _ _ _ (oT rfl) tC (by rfl) (RowsF.nil _)) rfl rfl) (by kernel_rfl) rfl (fun t h => by cases h; rfl) ?_
  refine AnyY.virt (by kernel_rfl) 4 rfl (op_call_pure (fun _ => k1) rfl (Opd.func _) (oS (oT rfl) (oS (oT rfl) (oS (oT rfl) Opds.nil)))) (by kernel_rfl) rfl (fun t h => by cases h; rfl) ?_
  refine AnyY.virt (by kernel_rfl) 5 rfl (op_move rfl (oT rfl)) (by kernel_rfl) rfl (fun t h => by cases h; rfl) ?_
  refine AnyY.virt (by kernel_rfl) 6 rfl (op_extract_fz rfl (oT rfl) rfl) (by kernel_rfl) rfl (fun t h => by cases h; rfl) ?_
  refine AnyY.virt (by kernel_rfl) 7 rfl (op_extract_fz rfl (oT rfl) rfl) (by kernel_rfl) rfl (fun t h => by cases h; rfl) ?_
  refine AnyY.virt (by kernel_rfl) 8 rfl (op_extract_fz rfl (oT rfl) rfl) (by kernel_rfl) rfl (fun t h => by cases h; rfl) ?_
  refine AnyY.virt (by kernel_rfl) 9 rfl (op_extract_fz rfl (oT rfl) rfl) (by kernel_rfl) rfl (fun t h => by cases h; rfl) ?_
  refine AnyY.two 10 11 (by kernel_rfl) rfl (by kernel_rfl) (StepY.mk rfl (op_alloc rfl rfl rfl rfl) (fun t h => by cases h; rfl) ?_) (StepY.mk rfl (op_alloc rfl rfl rfl rfl) (fun t h => by cases h; rfl) ?_)
  ·skip
   refine AnyY.one 11 (by kernel_rfl) rfl (by kernel_rfl) (StepY.mk rfl (op_alloc rfl rfl rfl rfl) (fun t h => by cases h; rfl) ?_)
   refine AnyY.one 12 (by kernel_rfl) rfl (by kernel_rfl) (StepY.mk rfl (op_store_flat rfl (oT rfl) (oT rfl) tC rfl rfl rfl tS) (fun t h => by cases h) ?_)
   refine AnyY.one 13 (by kernel_rfl) rfl (by kernel_rfl) (StepY.mk rfl (op_store_flat rfl (oT rfl) (oT rfl) tC rfl rfl rfl tS) (fun t h => by cases h) ?_)
   refine AnyY.virt (by kernel_rfl) 14 rfl (op_assign rfl (oT rfl)) (by kernel_rfl) rfl (fun t h => by cases h; rfl) ?_
   refine AnyY.virt (by kernel_rfl) 15 rfl (op_assign rfl (oT rfl)) (by kernel_rfl) rfl (fun t h => by cases h; rfl) ?_
   refine AnyY.nil (by kernel_rfl) rfl (by kernel_rfl) ?_
   exact Next.weak [0, 1] [] (by rfl) (keepsN hC _ rfl) wG wR wN hK
  skip
  refine AnyY.one 10 (by kernel_rfl) rfl (by kernel_rfl) (StepY.mk rfl (op_alloc rfl rfl rfl rfl) (fun t h => by cases h; rfl) ?_)
  refine AnyY.one 12 (by kernel_rfl) rfl (by kernel_rfl) (StepY.mk rfl (op_store_flat rfl (oT rfl) (oT rfl) tC rfl rfl rfl tS) (fun t h => by cases h) ?_)
  refine AnyY.one 13 (by kernel_rfl) rfl (by kernel_rfl) (StepY.mk rfl (op_store_flat rfl (oT rfl) (oT rfl) tC rfl rfl rfl tS) (fun t h => by cases h) ?_)
  refine AnyY.virt (by kernel_rfl) 14 rfl (op_assign rfl (oT rfl)) (by kernel_rfl) rfl (fun t h => by cases h; rfl) ?_
  refine AnyY.virt (by kernel_rfl) 15 rfl (op_assign rfl (oT rfl)) (by kernel_rfl) rfl (fun t h => by cases h; rfl) ?_
  refine AnyY.nil (by kernel_rfl) rfl (by kernel_rfl) ?_
  exact Next.weak [1, 0] [] (by rfl) (keepsN hC _ rfl) wG wR wN hK
 skip
 refine nK2 ?_
 refine zb ?_
 refine zk ?_
 refine zk ?_
 refine zcy ?_
 refine zbh ?_
 refine rpZ 33 rfl (op_call_pure (fun _ => k2) rfl (Opd.func _) (oS (oT rfl) (oS (oT rfl) (oS (oT rfl) Opds.nil)))) ?_
 refine za ?_
 refine zi ?_
 refine zi ?_
 refine zi ?_
 refine zi ?_
 refine zu ?_
 refine zu ?_
 refine zr ?_
 refine zr ?_
 refine zd ?_
 refine zd ?_
 refine zc ?_
 refine nK2 ?_
 refine Next.weakS [2, 3, 6, 7] [] (by rfl) (keepsN hC _ rfl) (G' := [(2, .ptr 0 3 0 0), (3, .ptr 1 4 0 0), (4, IV .i64 0), (5, IV .i64 0), (7, .ptr 3 4 0 0), (8, IV .i64 1), (9, IV .i64 0)]) (H' := [(0, OG gL1), (1, OTr tL1), (2, OG gL2), (3, OTr tL2)]) wG wR rfl ?_
 refine nK2 ?_
 refine zb ?_
 refine za ?_
 refine zci ?_
 refine za ?_
 refine zf ?_
 refine zce ?_
 refine zt ?_
 refine za ?_
 refine zf ?_
 refine zce ?_
 refine zt ?_
 refine za ?_
 refine zf ?_
 refine zce ?_
 refine zt ?_
 refine za ?_
 refine zn ?_
 refine zm ?_
 refine zbt ?_
 refine zce ?_
 refine zt ?_
 refine za ?_
 refine zn ?_
 refine zm ?_
 refine zdl ?_
 refine rgZ 62 rfl rfl tG (op_call_pure (fun _ => s [0, 1, 2] [0, 1, 2] (by decide) (by decide)) rfl (Opd.func _) (oS (oO rfl tO) (oS (oO rfl tO) Opds.nil))) ?_
 refine zt ?_
 refine za ?_
 refine zn ?_
 refine zm ?_
 refine zbt ?_
 refine zce ?_
 refine zt ?_
 refine za ?_
 refine zn ?_
 refine zm ?_
 refine rgZ 73 rfl rfl tG (op_idx_fz 2 rfl (oO rfl tO) oC (by intro _; exact ⟨rfl, rfl⟩)) ?_
 refine zw ?_
 refine rgZ 75 rfl rfl tG (op_buildSlice_fz rfl (RowsF.cons _ _ _ _ _ _ oC tC (by rfl) (RowsF.cons _ _ _ _ _ _ oC tC (by rfl) (RowsF.nil _))) rfl rfl) ?_
 refine rgZ 76 rfl rfl tG (op_call_pure (fun _ => s [1, 2] [1, 2] (by decide) (by decide)) rfl (Opd.func _) (oS (oO rfl tO) (oS (oO rfl tO) Opds.nil))) ?_
 refine zt ?_
 refine za ?_
 refine zn ?_
 refine zm ?_
 refine zdl ?_
 refine rgZ 82 rfl rfl tG (op_call_pure (fun _ => s [0, 1, 1] [0, 1, 1] (by decide) (by decide)) rfl (Opd.func _) (oS (oO rfl tO) (oS (oO rfl tO) Opds.nil))) ?_
 refine zt ?_
 refine zd ?_
 refine zc ?_
 refine nK2 ?_
 refine s_oB hC rfl rfl ?_
 decide
open Go Go.RT Go.Proofs Go.Pl
set_option maxRecDepth 20000
set_option maxHeartbeats 4000000
theorem affected_law (a b : Tr) (ha : smT a) (hb0 : smT b) (la : a.dist.length ≤ 2000000 ∧ a.hops.length ≤ 2000000 ∧ a.par.length ≤ 2000000) (lb : b.dist.length ≤ 2000000 ∧ b.hops.length ≤ 2000000 ∧ b.par.length ≤ 2000000) : Pure Tryz.prog 6 [.agg (encTr a), .agg (encTr b)] (Bf true) := by
 refine Meets.intro Tryz.func6 rfl (Nat.le_of_ble_eq_true rfl) fun C hC => ?_
 simp only [List.map, argEnv, Nat.reduceAdd]
 refine nK2 ?_
 refine zb ?_
 refine zq ?_
 refine zq ?_
 refine ze ?_
 refine zc ?_
 refine nK2 ?_
 refine zb ?_
 refine zg ?_
 refine zh ?_
 refine zo ?_
 refine zg ?_
 refine zh ?_
 refine zo ?_
 refine zbc ?_
 refine zg ?_
 refine zh ?_
 refine zo ?_
 refine zbc ?_
 refine zcg ?_
 refine za ?_
 refine zn ?_
 refine zm ?_
 refine zbt ?_
 refine zn ?_
 refine zm ?_
 refine zbt ?_
 refine zbs ?_
 refine zn ?_
 refine zm ?_
 refine zbt ?_
 refine zbs ?_
 refine zcb ?_
 refine zv ?_
 refine zc ?_
 refine nK2 ?_
 refine n_cond _ rfl (fun hb => ?_) (fun hb => ?_)
 ·refine nK2 ?_
  refine zb ?_
  refine rpZ 31 rfl (op_call_pure (fun _ => awake_c) rfl (Opd.func _) Opds.nil) ?_
  refine zd ?_
  refine zc ?_
  refine nK2 ?_
  exact wO hC
 have hh : (a.dist.length + a.hops.length + a.par.length ≤ 200) ∧ (b.dist.length + b.hops.length + b.par.length ≤ 200) := by
  simp at hb; omega
 have hn : affN a b ≤ 1000000 := by unfold affN; omega
 have hn2 : affN a a ≤ 1000000 := by unfold affN; omega
 have k1 := affected_c a b ha hb0 hn
 have k2 := raffected_c a b ha hb0 hn
 have k3 := affected_c a a ha ha hn2
 rw [fil_no (affP_self a)] at k3
 have hl := fil_len (affP a b) (affN a b)
 generalize fil (affP a b) (affN a b) = F at *
 have hs := same3_c F F (by omega) (by omega)
 clear hb
 refine nK2 ?_
 refine s_draw mixed ?_
 refine rpZ 32 rfl (op_call_pure (fun _ => awake_c) rfl (Opd.func _) Opds.nil) ?_
 refine za ?_
 refine zbe ?_
 refine zbe ?_
 refine rgZ 36 rfl rfl tG (op_call_pure (fun _ => k1) rfl (Opd.func _) (oS (oO rfl tO) (oS (oO rfl tO) Opds.nil))) ?_
 refine zbe ?_
 refine zbe ?_
 refine rgZ 39 rfl rfl tG (op_call_pure (fun _ => k2) rfl (Opd.func _) (oS (oO rfl tO) (oS (oO rfl tO) Opds.nil))) ?_
 refine rgZ 40 rfl rfl tG (op_call_pure (fun _ => hs) rfl (Opd.func _) (oS (oO rfl tO) (oS (oO rfl tO) Opds.nil))) ?_
 refine zt ?_
 refine za ?_
 refine zbe ?_
 refine zbe ?_
 refine rgZ 45 rfl rfl tG (op_call_pure (fun _ => k3) rfl (Opd.func _) (oS (oO rfl tO) (oS (oO rfl tO) Opds.nil))) ?_
 refine zbt ?_
 refine zce ?_
 refine zt ?_
 refine zd ?_
 refine zs ?_
 refine nK2 ?_
 refine s_oB hC rfl rfl ?_
 simp
theorem chgs_c (a b : Gr) (oka : okG a) (okb : okG b) : (chgsL a b).length ≤ 2048 ∧ Pure Tryz.prog 20 [.agg (encG a), .agg (encG b)] (.tup [VE (chgsL a b), If .i64 (chgsE a b)]) ∧ Pure Tryz.prog 21 [.agg (encG a), .agg (encG b)] (.tup [VE (chgsL a b), If .i64 (chgsE a b)]) := by
 by_cases he : chgsE a b = 0
 ·have e1 : chgsL a b = chM a.es b.es := by unfold chgsL; rw [if_neg (by simp [he])]
  have hh : checkI a = 0 ∧ checkI b = 0 ∧ a.r = b.r ∧ a.n = b.n := by
   unfold chgsE at he
   by_cases h1 : checkI a = 0
   ·by_cases h2 : checkI b = 0
    ·rw [if_neg (by simp [h1]), if_neg (by simp [h2])] at he
     by_cases h3 : a.r ≠ b.r ∨ a.n ≠ b.n
     ·rw [if_pos h3] at he; cases he
     exact ⟨h1, h2, by omega, by omega⟩
    rw [if_neg (by simp [h1]), if_pos h2] at he; exact absurd he h2
   rw [if_pos h1] at he; exact absurd he h1
  obtain ⟨h1, h2, h3, h4⟩ := hh
  have l1 := (checkI_ok h1).2.1
  have l2 := (checkI_ok h2).2.1
  have l3 := chM_len _ a.es b.es (Nat.le_refl _)
  rw [e1, he]
  exact ⟨by omega, changes_ok a b h1 h2 h3 h4, rchanges_ok a b h1 h2 h3 h4⟩
 have e1 : chgsL a b = [] := by unfold chgsL; rw [if_pos he]
 rw [e1]
 exact ⟨by simp, changes_err a b oka okb he, rchanges_err a b oka okb he⟩
theorem changes_law (a b : Gr) (oka : okG a) (okb : okG b) : Pure Tryz.prog 7 [.agg (encG a), .agg (encG b)] (Bf true) := by
 obtain ⟨hl, k1, k2⟩ := chgs_c a b oka okb
 have hs := sameC_c (chgsL a b) (chgsL a b) (by omega) (by omega)
 generalize chgsL a b = L at *
 generalize chgsE a b = E at *
 refine Meets.intro Tryz.func7 rfl (Nat.le_of_ble_eq_true rfl) fun C hC => ?_
 simp only [List.map, argEnv, Nat.reduceAdd]
 refine nK2 ?_
 refine zb ?_
 refine zq ?_
 refine zq ?_
 refine ze ?_
 refine zc ?_
 refine nK2 ?_
 refine zb ?_
 refine zk ?_
 refine rpZ 10 rfl (op_call_pure (fun _ => large_c _) rfl (Opd.func _) (oS (oT rfl) Opds.nil)) ?_
 refine za ?_
 refine zbe ?_
 refine rgZ 13 rfl rfl tG (op_call_pure (fun _ => large_c _) rfl (Opd.func _) (oS (oO rfl tO) Opds.nil)) ?_
 refine zv ?_
 refine zc ?_
 refine nK2 ?_
 refine n_cond _ rfl (fun hb => ?_) (fun hb => ?_)
 ·refine nK2 ?_
  refine zb ?_
  refine rpZ 15 rfl (op_call_pure (fun _ => awake_c) rfl (Opd.func _) Opds.nil) ?_
  refine zd ?_
  refine zc ?_
  refine nK2 ?_
  exact wO hC
 clear hb
 refine nK2 ?_
 refine zb ?_
 refine zk ?_
 refine zk ?_
 refine rpZ 19 rfl (op_call_pure (fun _ => k1) rfl (Opd.func _) (oS (oT rfl) (oS (oT rfl) Opds.nil))) ?_
 refine za ?_
 refine zi ?_
 refine zi ?_
 refine zd ?_
 refine zd ?_
 refine zc ?_
 refine nK2 ?_
 refine zb ?_
 refine zk ?_
 refine zk ?_
 refine rpZ 25 rfl (op_call_pure (fun _ => k2) rfl (Opd.func _) (oS (oT rfl) (oS (oT rfl) Opds.nil))) ?_
 refine za ?_
 refine zi ?_
 refine zi ?_
 refine zd ?_
 refine zd ?_
 refine zc ?_
 refine nK2 ?_
 refine zb ?_
 refine rpZ 28 rfl (op_call_pure (fun _ => awake_c) rfl (Opd.func _) Opds.nil) ?_
 refine za ?_
 refine zf ?_
 refine zf ?_
 refine rgZ 32 rfl rfl tG (op_call_pure (fun _ => hs) rfl (Opd.func _) (oS (oO rfl tO) (oS (oO rfl tO) Opds.nil))) ?_
 refine zt ?_
 refine za ?_
 refine zf ?_
 refine zf ?_
 refine zbo ?_
 refine zt ?_
 refine zd ?_
 refine zc ?_
 refine nK2 ?_
 refine s_oB hC rfl rfl ?_
 simp
end Go.Proofs.YtcillieggklaaaaGreat
/- How the arguments of the rows read. -/
namespace Go.Proofs.YtcillieggklaaaaGreat
open Go Go.RT Go.Proofs Go.Pl
set_option linter.all false
variable {H : Type} {enc : TypeId × Value → H} {W : World} {ok : DataW H → Prop} {B : Nat}
theorem rdc_n : RdC ok enc Tryz.prog W 3 (fun fs => ∃ n, inr .i64 n ∧ fs = [If .i64 n]) := rdc_int (P := Tryz.prog) (t := 3) inferInstance
theorem rdc_edge (dn : DnOk H ok B) : RdC ok enc Tryz.prog W 70 (fun fs => ∃ e : Edg, okE e ∧ fs = encE e) :=
  (rdc_struct (P := Tryz.prog) (t := 70) dn Tryz.underlying70 (by kernel_rfl) (.cons _ _ _ _ rdc_n (.cons _ _ _ _ rdc_n (.cons _ _ _ _ rdc_n .nil)))).imp fun fs h => by
    obtain ⟨_, _, rfl, ⟨a, ha, rfl⟩, _, _, rfl, ⟨b, hb, rfl⟩, _, _, rfl, ⟨c, hc, rfl⟩, rfl⟩ := h
    exact ⟨⟨a, b, c⟩, ⟨ha, hb, hc⟩, rfl⟩
theorem rdc_edges (dn : DnOk H ok B) : RdC ok enc Tryz.prog W 22 (fun fs => ∃ l : List Edg, okEs l ∧ l.length ≤ B ∧ fs = [VE l]) :=
  (rdc_slice (P := Tryz.prog) (t := 22) (e := 70) dn inferInstance inferInstance (by decide) (rdc_edge dn)).imp fun fs h => by
    obtain ⟨rows, hr, hl, rfl⟩ := h
    obtain ⟨l, rfl, ho⟩ := rows_of (fun fs h => h) hr
    exact ⟨l, ho, by simpa using hl, rfl⟩
theorem rdc_graph (dn : DnOk H ok B) : RdC ok enc Tryz.prog W 24 (fun fs => ∃ g : Gr, okG g ∧ g.es.length ≤ B ∧ fs = encG g) :=
  (rdc_struct (P := Tryz.prog) (t := 24) dn Tryz.underlying24 (by kernel_rfl) (.cons _ _ _ _ rdc_n (.cons _ _ _ _ rdc_n (.cons _ _ _ _ (rdc_edges dn) .nil)))).imp fun fs h => by
    obtain ⟨_, _, rfl, ⟨a, ha, rfl⟩, _, _, rfl, ⟨b, hb, rfl⟩, _, _, rfl, ⟨l, hl, hB, rfl⟩, rfl⟩ := h
    exact ⟨⟨a, b, l⟩, ⟨ha, hb, hl⟩, hB, rfl⟩
theorem rdc_ints (dn : DnOk H ok B) : RdC ok enc Tryz.prog W 25 (fun fs => ∃ l : List Int, (∀ x ∈ l, inr .i64 x) ∧ l.length ≤ B ∧ fs = [VI l]) :=
  (rdc_slice (P := Tryz.prog) (t := 25) (e := 3) dn inferInstance inferInstance (by decide) rdc_n).imp fun fs h => by
    obtain ⟨rows, hr, hl, rfl⟩ := h
    obtain ⟨l, rfl, ho⟩ := rows_of (enc := encN) (fun fs h => h) hr
    exact ⟨l, ho, by simpa using hl, rfl⟩
theorem rdc_lists (dn : DnOk H ok B) : RdC ok enc Tryz.prog W 26 (fun fs => ∃ ll : List (List Int), (∀ l ∈ ll, (∀ x ∈ l, inr .i64 x) ∧ l.length ≤ B) ∧ ll.length ≤ B ∧ fs = [VLL ll]) :=
  (rdc_slice (P := Tryz.prog) (t := 26) (e := 25) dn inferInstance inferInstance (by decide) (rdc_ints dn)).imp fun fs h => by
    obtain ⟨rows, hr, hl, rfl⟩ := h
    obtain ⟨l, rfl, ho⟩ := rows_of (enc := encL) (ok := fun l => (∀ x ∈ l, inr .i64 x) ∧ l.length ≤ B) (fun fs h => by obtain ⟨l, h1, h2, h3⟩ := h; exact ⟨l, ⟨h1, h2⟩, h3⟩) hr
    exact ⟨l, ho, by simpa using hl, rfl⟩
def okTr (B : Nat) (t : Tr) : Prop := inr .i64 t.root ∧ (∀ x ∈ t.dist, inr .i64 x) ∧ t.dist.length ≤ B ∧ (∀ l ∈ t.hops, (∀ x ∈ l, inr .i64 x) ∧ l.length ≤ B) ∧ t.hops.length ≤ B ∧ (∀ l ∈ t.par, (∀ x ∈ l, inr .i64 x) ∧ l.length ≤ B) ∧ t.par.length ≤ B
theorem smT_upto {t : Tr} (h : okTr 1048576 t) : smT t ∧ (t.dist.length ≤ 2000000 ∧ t.hops.length ≤ 2000000 ∧ t.par.length ≤ 2000000) := by
  obtain ⟨_, _, h1, h2, h3, h4, h5⟩ := h
  exact ⟨⟨by omega, ⟨by omega, fun l hl => by have := (h2 l hl).2; omega⟩, ⟨by omega, fun l hl => by have := (h4 l hl).2; omega⟩⟩, by omega, by omega, by omega⟩
theorem rdc_tree (dn : DnOk H ok B) : RdC ok enc Tryz.prog W 28 (fun fs => ∃ t : Tr, okTr B t ∧ fs = encTr t) :=
  (rdc_struct (P := Tryz.prog) (t := 28) dn Tryz.underlying28 (by kernel_rfl) (.cons _ _ _ _ rdc_n (.cons _ _ _ _ (rdc_ints dn) (.cons _ _ _ _ (rdc_lists dn) (.cons _ _ _ _ (rdc_lists dn) .nil))))).imp fun fs h => by
    obtain ⟨_, _, rfl, ⟨a, ha, rfl⟩, _, _, rfl, ⟨d, hd1, hd2, rfl⟩, _, _, rfl, ⟨hs, hh1, hh2, rfl⟩, _, _, rfl, ⟨p, hp1, hp2, rfl⟩, rfl⟩ := h
    exact ⟨⟨a, d, hs, p⟩, ⟨ha, hd1, hd2, hh1, hh2, hp1, hp2⟩, rfl⟩
end Go.Proofs.YtcillieggklaaaaGreat
