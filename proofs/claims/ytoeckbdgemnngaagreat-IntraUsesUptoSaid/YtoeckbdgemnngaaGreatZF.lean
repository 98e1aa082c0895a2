/- A part of the proof: I23, I24, I25, I32, I33, I34, S1, S2, S3, I35, I26, I27, I28, IN3, I36, I29, HP13, HP14, HP15, HP20, HP16, IN4, I37, IN5, SRT2, I38. -/
import Derived.Test.YtoeckbdgemnngaaGreatZE
import Derived.DeepKeys4
set_option linter.all false
namespace Go.Proofs.YtoeckbdgemnngaaGreat
open Go Go.RT Go.Proofs Go.Pl
set_option linter.all false
set_option maxRecDepth 20000
set_option maxHeartbeats 4000000
theorem wHI23b {α : Prop} (h : α := by repeat (first | exact trivial | refine ⟨⟨_, rfl, .inl ⟨rfl, rfl⟩⟩, ?_⟩)) : α := h
theorem wHI23c {α : Prop} (h : α := by repeat (first | exact trivial | refine ⟨wS, ?_⟩ | refine ⟨ent_same rfl rfl (rfEq rfl tU) tL, ?_⟩ | refine ⟨ent_same rfl rfl (flEq rfl (by first | (simp; done) | (simp; omega) | (simp [encA, encH, encL, encU, encK, encV, Pl.encY]; done) | simp [maxC, minC])) trivial, ?_⟩)) : α := h
theorem bodyP_c (l : Lsa) (ho : okA l) (hl1 : l.ls.length ≤ 64) (hl2 : l.att.length ≤ 64) : Pure Tryz.prog 142 [.agg (encA l)] (VY (bodyB l)) := (body_c l ho hl1 hl2).freeze (by simp)
theorem bytes_f (l : Lsa) (ho : okA l) (hl1 : l.ls.length ≤ 64) (hl2 : l.att.length ≤ 64) : Meets Tryz.prog 108 ([.agg (encA l)].map PV.fz) 0 [] (.sl 0 1 0 (bytesB l).length) [(0, OY (bytesB l))] 1 := by
 have hbl := bodyB_len hl1 hl2
 have e : (bytesB l).length = 18 + 2 + (bodyB l).length := by rw [bytesB_len]
 rw [e]
 refine Meets.intro Tryz.func108 rfl (Nat.le_of_ble_eq_true rfl) fun C hC => ?_
 simp only [List.map, argEnv, Nat.reduceAdd]
 refine nK ?_
 refine za ?_
 refine zu ?_
 refine ze ?_
 refine zb ?_
 refine nK ?_
 refine za ?_
 refine zm ?_
 refine rpZ 6 rfl (op_call_pure (fun _ => bodyP_c _ (by assumption) (by assumption) (by assumption)) rfl (Opd.func _) (oS (oT rfl) Opds.nil)) ?_
 refine zd ?_
 refine zb ?_
 refine nK ?_
 refine za ?_
 refine zf ?_
 refine zbc ?_
 refine Run.eff (dd := some 9) rfl rfl (op_call_fresh (fun _ => hdr_c _ ho.1) rfl (Opd.func _) (oS (oT rfl) Opds.nil)) ?_
 refine zc ?_
 refine zk ?_
 refine zz ?_
 refine Run.eff (dd := some 13) rfl rfl (op_call (n := 1) (n' := 2) [1] (fun _ => put_c (hdrB l.h) 18 2 (w64 ((bodyB l).length : Int)) (hdrB_len _) (by omega) (by omega) (w64_ok _)) rfl (Opd.func _) (oS (oT rfl) (oS oC (oS (oT rfl) Opds.nil))) rfl rfl (Lent.of rfl rfl (by repeat (first | exact trivial | refine ⟨⟨rfl, rfl, rfl, tL⟩, ?_⟩)) rfl) rfl rfl rfl rfl rfl) ?_
 refine zd ?_
 refine zb ?_
 refine nK ?_
 refine za ?_
 refine zc ?_
 refine zc ?_
 refine Run.eff (dd := some 16) rfl rfl (op_append rfl (oT rfl) (oT rfl) rfl (by simp [hdrB_len, putB_len]) rfl rfl (by rw [List.length_map]; omega) (by rw [List.length_map]; omega)) ?_
 refine zd ?_
 refine zb ?_
 refine nK ?_
 refine za ?_
 refine zc ?_
 refine zd ?_
 refine zb ?_
 refine nK ?_
 refine Next.weakS [2] [] (by rfl) (keeps0 hC _) (G' := [(2, .sl 0 1 0 (18 + 2 + (bodyB l).length))]) (H' := [(0, OY (bytesB l))]) (by exact ⟨⟨_, rfl, .inl ⟨slEq rfl (by simp), rfl⟩⟩, trivial⟩) (by exact ⟨ent_same rfl rfl (by simp only [bytesB, List.map_append]; rfl) trivial, trivial⟩) rfl ?_
 exact wO hC
theorem sums_c (b : List Int) (hy : okY b) (hn : b.length ≤ 4000000) : Pure Tryz.prog 140 [VY b] (.tup [If .i64 (sumsP b).1, If .i64 (sumsP b).2]) := by
 refine Meets.intro Tryz.func140 rfl (Nat.le_of_ble_eq_true rfl) fun C hC => ?_
 simp only [List.map, argEnv, Nat.reduceAdd]
 refine nK ?_
 refine za ?_
 refine ze ?_
 refine ze ?_
 refine zb ?_
 refine nK ?_
 refine za ?_
 refine ze ?_
 refine ze ?_
 refine zb ?_
 refine nK ?_
 refine za ?_
 refine ze ?_
 refine zb ?_
 refine nK ?_
 refine n_loop (ι := Nat × (Int × Int)) (fun p => ([(0, .fz (VY b)), (4, IV .i64 p.2.1), (5, IV .i64 p.2.2), (6, IV .i64 p.1)], [], 0)) (fun p => p.1 ≤ b.length ∧ ((0 ≤ p.2.1 ∧ p.2.1 < 255) ∧ (0 ≤ p.2.2 ∧ p.2.2 < 255)) ∧ sumsG b.length p.1 (b.drop p.1) p.2 = sumsP b) (fun p => b.length - p.1) (0, (0, 0)) ⟨Nat.zero_le _, ⟨⟨by decide, by decide⟩, by decide, by decide⟩, rfl⟩ ?_ ?_
 ·refine Next.weak [] [] (by rfl) (keeps0 hC _) wHI23b wHI23c wN rel_intro
 intro ⟨i, s, t⟩ ⟨hi, ⟨⟨hs1, hs2⟩, ht1, ht2⟩, hS⟩ K hK
 dsimp only at hi hs1 hs2 ht1 ht2 hS ⊢
 refine nK ?_
 refine za ?_
 refine zc ?_
 refine zc ?_
 refine zk ?_
 refine zn ?_
 refine zb ?_
 refine nK ?_
 refine n_cond _ rfl (fun hb => ?_) (fun hb => ?_)
 ·have hlt : i < b.length := by simp at hb; omega
  have hr1 := row_at' Pl.encY b i hlt
  have hyi := hy b[i] (List.getElem_mem hlt)
  simp only [inr] at hyi
  rw [sums_step hlt] at hS
  have hw1 : 0 ≤ ((b.length : Int) - i) % 255 := Int.emod_nonneg _ (by decide)
  have hw2 : ((b.length : Int) - i) % 255 < 255 := Int.emod_lt_of_pos _ (by decide)
  have hm1 : 0 ≤ ((b.length : Int) - i) % 255 * b[i] := Int.mul_nonneg hw1 hyi.1
  have hm2 : ((b.length : Int) - i) % 255 * b[i] ≤ 255 * 255 := Int.mul_le_mul (by omega) hyi.2 hyi.1 (by decide)
  have hK1 := hK (i + 1, ((s + b[i]) % 255, (t + ((b.length : Int) - i) % 255 * b[i]) % 255)) ⟨by omega, ⟨⟨Int.emod_nonneg _ (by decide), Int.emod_lt_of_pos _ (by decide)⟩, ⟨Int.emod_nonneg _ (by decide), Int.emod_lt_of_pos _ (by decide)⟩⟩, hS⟩ (by dsimp only; omega)
  refine nK ?_
  refine za ?_
  refine zc ?_
  refine zc ?_
  refine zc ?_
  refine zr ?_
  refine zt ?_
  refine zbh ?_
  refine zbm ?_
  refine zea ?_
  refine zd ?_
  refine zb ?_
  refine nK ?_
  refine za ?_
  refine zc ?_
  refine zc ?_
  refine zk ?_
  refine zc ?_
  refine zdg ?_
  refine zea ?_
  refine zc ?_
  refine zc ?_
  refine zr ?_
  refine zt ?_
  refine zbh ?_
  refine rpZ 32 rfl (op_mul rfl (oT rfl) (oT rfl) tI) ?_
  refine zbm ?_
  refine zea ?_
  refine zd ?_
  refine zb ?_
  refine nK ?_
  refine za ?_
  refine zc ?_
  refine zj ?_
  refine zd ?_
  refine zb ?_
  refine nK ?_
  refine Next.weak [] [] (by rfl) (keeps0 hC _) wHI23b wHI23c wN hK1
 have hie : i = b.length := by simp at hb; omega
 rw [hie, List.drop_length] at hS
 rw [← hS]
 refine nK ?_
 refine za ?_
 refine zc ?_
 refine zc ?_
 refine zd ?_
 refine zd ?_
 refine zb ?_
 refine nK ?_
 exact wO hC
theorem with_c (b : List Int) (i : Nat) (hi : i + 1 < b.length) (hn : b.length ≤ 4000000) : Pure Tryz.prog 141 [VY b, If .i64 i, If .i64 0] (VY ((b.set i 0).set (i + 1) 0)) := by
 refine Meets.freeze (len := b.length) (by simp) ?_
 have h1 := row_at' Pl.encY b i (by omega)
 refine Meets.intro Tryz.func141 rfl (Nat.le_of_ble_eq_true rfl) fun C hC => ?_
 simp only [List.map, argEnv, Nat.reduceAdd]
 refine nK ?_
 refine za ?_
 refine ze ?_
 refine zb ?_
 refine nK ?_
 refine za ?_
 refine zcx ?_
 refine zc ?_
 refine zcy ?_
 refine zd ?_
 refine zb ?_
 refine nK ?_
 refine Next.weakS [7] [] (by rfl) (keeps0 hC _) (G' := [(1, IV .i64 i), (2, IV .i64 0), (7, .sl 0 1 0 b.length)]) (H' := [(0, OY b)]) wG wHI23c rfl ?_
 refine nK ?_
 refine za ?_
 refine zc ?_
 refine zc ?_
 refine zc ?_
 refine rpZ 14 rfl (op_quo rfl (oT rfl) oC tM) ?_
 refine zbh ?_
 refine rpZ 16 rfl (op_idx_sl0 i rfl (oT rfl) (oT rfl) (by intro _; constructor <;> omega)) ?_
 refine Run.eff (dd := none) rfl rfl (op_store_flat rfl (oT rfl) (oT rfl) tC rfl rfl h1 tS) ?_
 refine zb ?_
 refine nK ?_
 refine Next.weakS [7] [] (by rfl) (keeps0 hC _) (G' := [(1, IV .i64 i), (2, IV .i64 0), (7, .sl 0 1 0 b.length)]) (H' := [(0, OY (b.set i 0))]) wG (by exact ⟨ent_same rfl rfl (by rw [List.map_set]; rfl) trivial, trivial⟩) rfl ?_
 have h2 := row_at' Pl.encY (b.set i 0) (i + 1) (by simp; omega)
 have hset : ((b.set i 0).map Pl.encY).set (i + 1) [If .u8 (0 % 256)] = ((b.set i 0).set (i + 1) 0).map Pl.encY := by simp only [List.map_set]; rfl
 refine nK ?_
 refine za ?_
 refine zc ?_
 refine zc ?_
 refine zj ?_
 refine zc ?_
 refine zea ?_
 refine zbh ?_
 refine rpZ 23 rfl (op_idx_sl0 (i + 1) rfl (oT rfl) (oT rfl) (by intro _; constructor <;> omega)) ?_
 refine Run.eff (dd := none) rfl rfl (op_store_flat rfl (oT rfl) (oT rfl) tC rfl rfl h2 tS) ?_
 refine zb ?_
 refine nK ?_
 refine za ?_
 refine zc ?_
 refine zd ?_
 refine zb ?_
 refine nK ?_
 refine Next.weakS [6] [] (by rfl) (keeps0 hC _) (G' := [(6, .sl 0 1 0 b.length)]) (H' := [(0, OY ((b.set i 0).set (i + 1) 0))]) wG (by exact ⟨ent_same rfl rfl (by rw [← hset]; rfl) trivial, trivial⟩) rfl ?_
 exact wO hC
theorem set0_ok {b : List Int} (h : okY b) (i : Nat) : okY (b.set i 0) := fun y hy => by
 rcases List.mem_or_eq_of_mem_set hy with h1 | h1
 ·exact h y h1
 rw [h1]; simp [inr]
theorem flet_c (b : List Int) (i : Nat) (hy : okY b) (hi : i + 1 < b.length) (hn : b.length ≤ 4000000) : Pure Tryz.prog 107 [VY b, If .i64 i] (.tup [If .i64 (fletP b i).1, Bf (fletP b i).2]) := by
 have hwi := with_c b i hi hn
 have hsu := sums_c ((b.set i 0).set (i + 1) 0) (set0_ok (set0_ok hy i) (i + 1)) (by simpa using hn)
 obtain ⟨⟨hs1, hs2⟩, ht1, ht2⟩ := sumsP_ok ((b.set i 0).set (i + 1) 0)
 unfold fletP
 generalize sumsP ((b.set i 0).set (i + 1) 0) = st at *
 obtain ⟨s, t⟩ := st
 dsimp only at *
 have hw1 : 0 ≤ ((b.length : Int) - i) % 255 := Int.emod_nonneg _ (by decide)
 have hw2 : ((b.length : Int) - i) % 255 < 255 := Int.emod_lt_of_pos _ (by decide)
 have hwe : ((b.length : Int) - i) % 255 = ((b.length : Int) - i) % 255 := rfl
 refine Meets.intro Tryz.func107 rfl (Nat.le_of_ble_eq_true rfl) fun C hC => ?_
 simp only [List.map, argEnv, Nat.reduceAdd]
 refine nK ?_
 refine za ?_
 refine ze ?_
 refine ze ?_
 refine zb ?_
 refine nK ?_
 refine za ?_
 refine zc ?_
 refine zbq ?_
 refine zc ?_
 refine zl ?_
 refine zl ?_
 refine zci ?_
 refine zcf ?_
 refine zdr ?_
 refine zbd ?_
 refine zb ?_
 refine nK ?_
 refine n_cond _ rfl (fun hb => ?_) (fun hb => ?_)
 ·exfalso; simp at hb; omega
 refine nK ?_
 refine za ?_
 refine zc ?_
 refine zc ?_
 refine rpZ 23 rfl (op_call_pure (fun _ => hwi) rfl (Opd.func _) (oS (oT rfl) (oS (oT rfl) (oS oC Opds.nil)))) ?_
 refine rpZ 24 rfl (op_call_pure (fun _ => hsu) rfl (Opd.func _) (oS (oT rfl) Opds.nil)) ?_
 refine zc ?_
 refine zi ?_
 refine zi ?_
 refine zd ?_
 refine zd ?_
 refine zb ?_
 refine nK ?_
 refine za ?_
 refine zc ?_
 refine zk ?_
 refine zc ?_
 refine zdg ?_
 refine zea ?_
 refine zd ?_
 refine zb ?_
 refine nK ?_
 refine za ?_
 refine ze ?_
 refine zb ?_
 refine nK ?_
 generalize ((b.length : Int) - i) % 255 = w at *
 generalize hR : fletG s t w 255 1 = R at *
 refine n_loop (ι := Nat) (fun k => ([(6, IV .i64 s), (7, IV .i64 t), (8, IV .i64 w), (9, IV .i64 ((k : Int) + 1))], [], 0)) (fun k => k ≤ 255 ∧ fletG s t w (255 - k) ((k : Int) + 1) = R) (fun k => 255 - k) 0 ⟨Nat.zero_le _, by simpa using hR⟩ ?_ ?_
 ·refine Next.weak [] [] (by rfl) (keeps0 hC _) wHI23b wHI23c wN rel_intro
 intro k ⟨hk, hS⟩ K hK
 refine nK ?_
 refine za ?_
 refine zc ?_
 refine rpZ 33 rfl (op_leq rfl (oT rfl) oC) ?_
 refine zb ?_
 refine nK ?_
 refine n_cond _ rfl (fun hb => ?_) (fun hb => ?_)
 ·have hlt : k < 255 := by simp at hb; omega
  have e : 255 - k = (255 - (k + 1)) + 1 := by omega
  rw [e, fletG_succ] at hS
  have hK1 := fun h => hK (k + 1) ⟨by omega, h⟩ (by omega)
  have y1 : 0 ≤ (s + ((k : Int) + 1)) % 255 := Int.emod_nonneg _ (by decide)
  have y2 : (s + ((k : Int) + 1)) % 255 < 255 := Int.emod_lt_of_pos _ (by decide)
  have v1 : 0 ≤ (w + 254) % 255 := Int.emod_nonneg _ (by decide)
  have v2 : (w + 254) % 255 < 255 := Int.emod_lt_of_pos _ (by decide)
  have m1 : 0 ≤ w * ((k : Int) + 1) := Int.mul_nonneg hw1 (by omega)
  have m2 : w * ((k : Int) + 1) ≤ 255 * 255 := Int.mul_le_mul (by omega) (by omega) (by omega) (by decide)
  have m3 : 0 ≤ (w + 254) % 255 * (255 - (s + ((k : Int) + 1)) % 255) := Int.mul_nonneg v1 (by omega)
  have m4 : (w + 254) % 255 * (255 - (s + ((k : Int) + 1)) % 255) ≤ 255 * 255 := Int.mul_le_mul (by omega) (by omega) (by omega) (by decide)
  refine nK ?_
  refine za ?_
  refine zc ?_
  refine zc ?_
  refine zbm ?_
  refine zea ?_
  refine rpZ 40 rfl (op_sub rfl oC (oT rfl) tI) ?_
  refine zd ?_
  refine zb ?_
  refine nK ?_
  refine za ?_
  refine zc ?_
  refine zc ?_
  refine zc ?_
  refine rpZ 44 rfl (op_mul rfl (oT rfl) (oT rfl) tI) ?_
  refine zbm ?_
  refine zc ?_
  refine zj ?_
  refine zea ?_
  refine zc ?_
  refine rpZ 50 rfl (op_mul rfl (oT rfl) (oT rfl) tI) ?_
  refine zbm ?_
  refine zea ?_
  refine zba ?_
  refine zb ?_
  refine nK ?_
  refine n_cond _ rfl (fun hb => ?_) (fun hb => ?_)
  ·rw [if_pos (show fletQ s t w ((k : Int) + 1) = true from hb)] at hS
   rw [← hS]
   refine nK ?_
   refine za ?_
   refine zc ?_
   refine rpZ 55 rfl (op_mul rfl (oT rfl) oC tI) ?_
   refine zc ?_
   refine zbm ?_
   refine zd ?_
   refine ze ?_
   refine zb ?_
   refine nK ?_
   exact wO hC
  rw [if_neg (by rw [show fletQ s t w ((k : Int) + 1) = false from hb]; decide)] at hS
  refine nK ?_
  refine za ?_
  refine zc ?_
  refine zj ?_
  refine zd ?_
  refine zb ?_
  refine nK ?_
  refine Next.weak [] [] (by rfl) (keeps0 hC _) wHI23b wHI23c wN (hK1 (by rw [← hS]; rfl))
 have hke : k = 255 := by simp at hb; omega
 subst hke
 rw [← hS]
 refine nK ?_
 refine za ?_
 refine ze ?_
 refine ze ?_
 refine zb ?_
 refine nK ?_
 exact wO hC
theorem bytesP_c (l : Lsa) (ho : okA l) (hl1 : l.ls.length ≤ 64) (hl2 : l.att.length ≤ 64) : Pure Tryz.prog 108 [.agg (encA l)] (VY (bytesB l)) := (bytes_f l ho hl1 hl2).freeze (by simp)
theorem sum_c (l : Lsa) (ho : okA l) (hl1 : l.ls.length ≤ 64) (hl2 : l.att.length ≤ 64) : Pure Tryz.prog 66 [.agg (encA l)] (If .i64 (sumA l)) := by
 have hbl := bodyB_len hl1 hl2
 have hlen := bytesB_len l
 have hy : okY ((bytesB l).drop 2) := fun y h => bytesB_ok l y (List.mem_of_mem_drop h)
 have hd1 : 14 + 1 < ((bytesB l).drop 2).length := by simp; omega
 have hd2 : ((bytesB l).drop 2).length ≤ 4000000 := by simp; omega
 have hdm : ((bytesB l).map Pl.encY).drop 2 = ((bytesB l).drop 2).map Pl.encY := by simp
 refine Meets.intro Tryz.func66 rfl (Nat.le_of_ble_eq_true rfl) fun C hC => ?_
 simp only [List.map, argEnv, Nat.reduceAdd]
 refine nK ?_
 refine za ?_
 refine zu ?_
 refine ze ?_
 refine zb ?_
 refine nK ?_
 refine za ?_
 refine zm ?_
 refine rpZ 7 rfl (op_call_pure (fun _ => bytesP_c _ (by assumption) (by assumption) (by assumption)) rfl (Opd.func _) (oS (oT rfl) Opds.nil)) ?_
 refine rpZ 8 rfl (op_slice_fz (l := 2) (h := ((bytesB l).map Pl.encY).length) (rs := ((bytesB l).drop 2).map Pl.encY) rfl (oT rfl) (Bnd.yes _ _ _ _ _ oC tQ) (Bnd.no _) (by intro _; exact ⟨by rw [List.length_map]; omega, Nat.le_refl _, by rw [← List.map_drop, List.take_of_length_le (by simp)]⟩)) ?_
 refine rpZ 9 rfl (op_call_pure (fun _ => flet_c _ 14 (by assumption) (by assumption) (by assumption)) rfl (Opd.func _) (oS (oT rfl) (oS oC Opds.nil))) ?_
 refine zc ?_
 refine zi ?_
 refine zi ?_
 refine zd ?_
 refine zd ?_
 refine zb ?_
 refine nK ?_
 refine za ?_
 refine zc ?_
 refine zd ?_
 refine zb ?_
 refine nK ?_
 exact wO hC
theorem sealed_c (l : Lsa) (ho : okA l) (hl1 : l.ls.length ≤ 64) (hl2 : l.att.length ≤ 64) : Pure Tryz.prog 68 [.agg (encA l)] (Bf (sealB l)) := by
 refine Meets.intro Tryz.func68 rfl (Nat.le_of_ble_eq_true rfl) fun C hC => ?_
 simp only [List.map, argEnv, Nat.reduceAdd]
 refine nK ?_
 refine za ?_
 refine zu ?_
 refine ze ?_
 refine zb ?_
 refine nK ?_
 refine s_draw mixed ?_
 refine zf ?_
 refine zf ?_
 refine zh ?_
 refine zm ?_
 refine rpZ 7 rfl (op_call_pure (fun _ => sum_c _ (by assumption) (by assumption) (by assumption)) rfl (Opd.func _) (oS (oT rfl) Opds.nil)) ?_
 refine zbx ?_
 refine zd ?_
 refine zq ?_
 refine nK ?_
 exact wO hC
theorem copy_c (l : Lsa) (hl1 : l.ls.length ≤ 64) (hl2 : l.att.length ≤ 64) : Pure Tryz.prog 67 [.agg (encA l)] (.agg (encA l)) := by
 refine Meets.intro Tryz.func67 rfl (Nat.le_of_ble_eq_true rfl) fun C hC => ?_
 simp only [List.map, argEnv, Nat.reduceAdd]
 refine nK ?_
 refine za ?_
 refine zu ?_
 refine zo ?_
 refine zb ?_
 refine nK ?_
 refine Next.toRefs 0 rfl rfl ?_
 refine nK ?_
 refine za ?_
 refine zcx ?_
 refine zf ?_
 refine zbb ?_
 refine zcy ?_
 refine zf ?_
 refine zcb ?_
 refine zb ?_
 refine nK ?_
 refine za ?_
 refine zcx ?_
 refine zf ?_
 refine zbb ?_
 refine zcy ?_
 refine zf ?_
 refine zcb ?_
 refine zb ?_
 refine nK ?_
 refine Next.weakS [1, 2] [6, 11] (by rfl) (keeps0 hC _) (G' := [(1, .ptr 0 15 0 0), (2, .ptr 1 15 0 0)]) (H' := [(0, OA l), (1, OA zeroA)]) wG (by exact ⟨⟨rfl, rfl, .flat _ _ _ rfl tW⟩, ⟨⟨rfl, rfl, .fflat _ _ _ rfl tW⟩, trivial⟩⟩) rfl ?_
 refine nK ?_
 refine za ?_
 refine zm ?_
 refine zg ?_
 refine zb ?_
 refine nK ?_
 exact wO hC
theorem seal_c (l : Lsa) (ho : okA l) : Pure Tryz.prog 38 [.agg (encA l)] (.tup [.agg (encA (sealF l).1), If .i64 (sealF l).2]) := by
 unfold sealF
 refine Meets.intro Tryz.func38 rfl (Nat.le_of_ble_eq_true rfl) fun C hC => ?_
 simp only [List.map, argEnv, Nat.reduceAdd]
 refine nK ?_
 refine za ?_
 refine zu ?_
 refine zo ?_
 refine ze ?_
 refine zb ?_
 refine nK ?_
 refine za ?_
 refine zm ?_
 refine rpZ 6 rfl (op_call_pure (fun _ => chkA_c _ (by assumption)) rfl (Opd.func _) (oS (oT rfl) Opds.nil)) ?_
 refine zd ?_
 refine zb ?_
 refine nK ?_
 refine za ?_
 refine zc ?_
 refine zbe ?_
 refine zb ?_
 refine nK ?_
 refine n_cond _ rfl (fun hb => ?_) (fun hb => ?_)
 ·rw [if_pos (by simpa using hb)]
  refine nK ?_
  refine za ?_
  refine zbg ?_
  refine zc ?_
  refine zg ?_
  refine zd ?_
  refine zb ?_
  refine nK ?_
  refine Next.weakS [2] [] (by rfl) (keeps0 hC _) (G' := [(2, .ptr 0 15 0 0), (3, IV .i64 (chkA l))]) (H' := [(0, OA zeroA)]) wG (by exact ⟨⟨rfl, rfl, .fflat _ _ _ rfl tW⟩, trivial⟩) rfl ?_
  exact wO hC
 have h0 : chkA l = 0 := by simpa using hb
 rw [if_neg (by simp [h0])]
 obtain ⟨hl1, hl2⟩ := chkA_len h0
 have hc2 := copy_c { l with h := { l.h with sm := sumA l } } hl1 hl2
 refine nK ?_
 refine za ?_
 refine zm ?_
 refine rpZ 12 rfl (op_call_pure (fun _ => sum_c _ (by assumption) (by assumption) (by assumption)) rfl (Opd.func _) (oS (oT rfl) Opds.nil)) ?_
 refine zf ?_
 refine zf ?_
 refine zg ?_
 refine zb ?_
 refine nK ?_
 refine za ?_
 refine zm ?_
 refine rpZ 16 rfl (op_call_pure (fun _ => hc2) rfl (Opd.func _) (oS (oT rfl) Opds.nil)) ?_
 refine zg ?_
 refine ze ?_
 refine zb ?_
 refine nK ?_
 exact wO hC
theorem rows_c (db : List Lsa) (ho : ∀ x ∈ db, okA x) (hn : db.length ≤ 4000000) : Pure Tryz.prog 39 [VA db] (If .i64 (rowsGo none db)) := by
 refine Meets.intro Tryz.func39 rfl (Nat.le_of_ble_eq_true rfl) fun C hC => ?_
 simp only [List.map, argEnv, Nat.reduceAdd]
 refine nK ?_
 refine za ?_
 refine ze ?_
 refine zb ?_
 refine nK ?_
 refine za ?_
 refine ze ?_
 refine zb ?_
 refine nK ?_
 refine n_loop (ι := Nat) (fun i => ([(0, .fz (VA db)), (3, IV .i64 i)], [], 0)) (fun i => i ≤ db.length ∧ rowsGo (prevG db i) (db.drop i) = rowsGo none db) (fun i => db.length - i) 0 ⟨Nat.zero_le _, rfl⟩ ?_ ?_
 ·refine Next.weak [] [] (by rfl) (keeps0 hC _) wHI23b wHI23c wN rel_intro
 intro i ⟨hi, hS⟩ K hK
 refine nK ?_
 refine za ?_
 refine zc ?_
 refine zc ?_
 refine zk ?_
 refine zn ?_
 refine zb ?_
 refine nK ?_
 refine n_cond _ rfl (fun hb => ?_) (fun hb => ?_)
 ·have hlt : i < db.length := by simp at hb; omega
  have hr1 := row_at' encA db i hlt
  have hoi := ho db[i] (List.getElem_mem hlt)
  rw [rows_step hlt] at hS
  have hK1 := fun h => hK (i + 1) ⟨by omega, h⟩ (by omega)
  refine nK ?_
  refine za ?_
  refine zc ?_
  refine zc ?_
  refine zr ?_
  refine zv ?_
  refine rpZ 15 rfl (op_call_pure (fun _ => chkA_c _ (by assumption)) rfl (Opd.func _) (oS (oT rfl) Opds.nil)) ?_
  refine zd ?_
  refine zb ?_
  refine nK ?_
  refine za ?_
  refine zc ?_
  refine zbe ?_
  refine zb ?_
  refine nK ?_
  refine n_cond _ rfl (fun hb => ?_) (fun hb => ?_)
  ·have hc : chkA db[i] ≠ 0 := by simpa using hb
   rw [if_pos hc] at hS
   rw [← hS]
   refine nK ?_
   refine za ?_
   refine zc ?_
   refine zd ?_
   refine zb ?_
   refine nK ?_
   exact wO hC
  have hc : chkA db[i] = 0 := by simpa using hb
  rw [if_neg (by simp [hc])] at hS
  obtain ⟨hl1, hl2⟩ := chkA_len hc
  refine nK ?_
  refine za ?_
  refine zc ?_
  refine zc ?_
  refine zr ?_
  refine zv ?_
  refine rpZ 23 rfl (op_call_pure (fun _ => sealed_c _ (by assumption) (by assumption) (by assumption)) rfl (Opd.func _) (oS (oT rfl) Opds.nil)) ?_
  refine zbj ?_
  refine zb ?_
  refine nK ?_
  refine n_cond _ rfl (fun hb => ?_) (fun hb => ?_)
  ·rw [if_pos (by simpa using hb)] at hS
   rw [← hS]
   refine nK ?_
   refine za ?_
   refine ze ?_
   refine zb ?_
   refine nK ?_
   exact wO hC
  rw [if_neg (by simpa using hb)] at hS
  have hp : ∃ q, (0 < i → prevG db i = some q ∧ (db.map encA)[i - 1]? = some (encA q)) := by
   by_cases h0 : 0 < i
   ·exact ⟨db[i - 1], fun _ => ⟨by simp [prevG]; omega, row_at' encA db (i - 1) (by omega)⟩⟩
   exact ⟨zeroA, fun h => absurd h h0⟩
  obtain ⟨q, hq⟩ := hp
  refine nK ?_
  refine s_draw mixed ?_
  refine zc ?_
  refine zbu ?_
  refine zc ?_
  refine zl ?_
  refine zl ?_
  refine zcf ?_
  refine rgZ 31 rfl rfl tG (op_idx_fz (i - 1) rfl (oO rfl tO) (oO rfl tO) (by intro hg; have h0 : 0 < i := (by simp at hg; omega); exact ⟨by omega, (hq h0).2⟩)) ?_
  refine zbs ?_
  refine zef ?_
  refine rgZ 34 rfl rfl tG (op_call_pure (fun _ => key_c _) rfl (Opd.func _) (oS (oO rfl tO) Opds.nil)) ?_
  refine zl ?_
  refine zl ?_
  refine zcu ?_
  refine zbs ?_
  refine zef ?_
  refine rgZ 40 rfl rfl tG (op_call_pure (fun _ => key_c _) rfl (Opd.func _) (oS (oO rfl tO) Opds.nil)) ?_
  refine rgZ 41 rfl rfl tG (op_call_pure (fun _ => ckeys_c _ _) rfl (Opd.func _) (oS (oO rfl tO) (oS (oO rfl tO) Opds.nil))) ?_
  refine zds ?_
  refine zy ?_
  refine zq ?_
  refine nK ?_
  refine n_cond _ rfl (fun hb => ?_) (fun hb => ?_)
  ·have h0 : 0 < i := by simp at hb; omega
   rw [(hq h0).1, if_pos (by simp at hb; simpa [badR] using hb.2)] at hS
   rw [← hS]
   refine nK ?_
   refine za ?_
   refine ze ?_
   refine zb ?_
   refine nK ?_
   exact wO hC
  have hc : ¬ badR (prevG db i) db[i] = true := by
   by_cases h0 : 0 < i
   ·rw [(hq h0).1]; simp [h0, badR] at hb ⊢; exact hb
   have : i = 0 := by omega
   subst this; simp [prevG, badR]
  rw [if_neg hc] at hS
  refine nK ?_
  refine za ?_
  refine zc ?_
  refine zj ?_
  refine zd ?_
  refine zb ?_
  refine nK ?_
  refine Next.weak [] [] (by rfl) (keeps0 hC _) wHI23b wHI23c wN (hK1 hS)
 have hie : i = db.length := by simp at hb; omega
 rw [hie, List.drop_length] at hS
 rw [← hS]
 simp only [rowsGo]
 refine nK ?_
 refine za ?_
 refine ze ?_
 refine zb ?_
 refine nK ?_
 exact wO hC
theorem db_c (db : List Lsa) (ho : ∀ x ∈ db, okA x) : Pure Tryz.prog 19 [VA db] (If .i64 (dbI db)) := by
 unfold dbI
 refine Meets.intro Tryz.func19 rfl (Nat.le_of_ble_eq_true rfl) fun C hC => ?_
 simp only [List.map, argEnv, Nat.reduceAdd]
 refine nK ?_
 refine za ?_
 refine ze ?_
 refine zb ?_
 refine nK ?_
 refine za ?_
 refine zc ?_
 refine zk ?_
 refine zbu ?_
 refine zb ?_
 refine nK ?_
 refine n_cond _ rfl (fun hb => ?_) (fun hb => ?_)
 ·rw [if_pos (by simp at hb; omega)]
  refine nK ?_
  refine za ?_
  refine ze ?_
  refine zb ?_
  refine nK ?_
  exact wO hC
 have hn : db.length ≤ 2000 := by simp at hb; omega
 rw [if_neg (by omega)]
 refine nK ?_
 refine za ?_
 refine zc ?_
 refine rpZ 7 rfl (op_call_pure (fun _ => rows_c _ (by assumption) (by omega)) rfl (Opd.func _) (oS (oT rfl) Opds.nil)) ?_
 refine zd ?_
 refine zb ?_
 refine nK ?_
 exact wO hC
open Go Go.RT Go.Proofs Go.Pl
set_option maxRecDepth 20000
set_option maxHeartbeats 4000000
abbrev OR (a : AGr) : Option Ob := some (.flat 5 [encR a])
abbrev lenOk (n : Nat) : Prop := n ≤ 9223372036854775807
open Go Go.RT Go.Proofs Go.Pl
set_option maxRecDepth 20000
set_option maxHeartbeats 4000000
theorem wHI25a {α : Prop} (h : α := by repeat (first | exact trivial | refine ⟨⟨_, rfl, .inl ⟨rfl, rfl⟩⟩, ?_⟩)) : α := h
theorem wHI25b {α : Prop} (h : α := by repeat (first | exact trivial | refine ⟨wS, ?_⟩ | refine ⟨ent_same rfl rfl (rfEq rfl tU) tL, ?_⟩ | refine ⟨ent_same rfl rfl (flEq rfl (by first | (simp; done) | (simp; omega) | (simp [encA, encH, encL, encU, encK, encV, encR]; done) | simp [maxC, minC])) trivial, ?_⟩)) : α := h
abbrev OLk (l : List Lnk) : Option Ob := some (.flat 4 (l.map encL))
theorem indexL_c (l : List Lnk) (hn : l.length ≤ 40000000) (gf : Nat) [FnB Tryz.prog gf] (caps : List FV) (p : Lnk → Bool) (hp : ∀ x, Pure Tryz.prog gf ([.agg (encL x)] ++ caps) (Bf (p x))) : Pure Tryz.prog 88 [VL l, .clo gf caps] (If .i64 (idxAt p 0 l)) := by
 refine Meets.intro Tryz.func88 rfl (Nat.le_of_ble_eq_true rfl) fun C hC => ?_
 simp only [List.map, argEnv, Nat.reduceAdd]
 refine nK ?_
 refine za ?_
 refine ze ?_
 refine zb ?_
 refine nK ?_
 refine za ?_
 refine zc ?_
 refine zk ?_
 refine zx ?_
 refine zb ?_
 refine nK ?_
 refine n_loop (ι := Nat) (fun i => ([(0, .fz (VL l)), (1, .fz (.clo gf caps)), (7, IV .i64 l.length), (8, IV .i64 i)], [], 0)) (fun i => i ≤ l.length ∧ idxAt p i (l.drop i) = idxAt p 0 l) (fun i => l.length - i) 0 ⟨Nat.zero_le _, rfl⟩ ?_ ?_
 ·refine Next.weak [] [] (by rfl) (keeps0 hC _) wHI25a wHI25b wN rel_intro
 intro i ⟨hi, ho⟩ K hK
 refine nK ?_
 refine za ?_
 refine zn ?_
 refine zb ?_
 refine nK ?_
 refine n_cond _ rfl (fun hb => ?_) (fun hb => ?_)
 ·have hlt : i < l.length := by simp at hb; omega
  have hr1 := row_at' encL l i hlt
  rw [List.drop_eq_getElem_cons hlt] at ho
  simp only [idxAt] at ho
  have hK1 := fun h => hK (i + 1) ⟨by omega, h⟩ (by omega)
  generalize l[i] = e at *
  refine nK ?_
  refine za ?_
  refine zc ?_
  refine zd ?_
  refine zb ?_
  refine nK ?_
  refine za ?_
  refine zc ?_
  refine zc ?_
  refine zc ?_
  refine zr ?_
  refine zv ?_
  refine rpZ 16 rfl (op_call_pureC (fun _ => hp e) rfl (oT rfl) (oS (oT rfl) Opds.nil)) ?_
  refine zb ?_
  refine nK ?_
  refine n_cond _ rfl (fun hb => ?_) (fun hb => ?_)
  ·rw [hb, cond_true] at ho
   rw [← ho]
   refine nK ?_
   refine za ?_
   refine zc ?_
   refine zd ?_
   refine zb ?_
   refine nK ?_
   exact wO hC
  rw [hb, cond_false] at ho
  refine nK ?_
  refine za ?_
  refine zj ?_
  refine zc ?_
  refine zb ?_
  refine nK ?_
  refine Next.weak [] [] (by rfl) (keeps0 hC _) wHI25a wHI25b wN (hK1 ho)
 have hie : i = l.length := by simp at hb; omega
 rw [hie, List.drop_length] at ho
 rw [← ho]
 refine nK ?_
 refine za ?_
 refine ze ?_
 refine zb ?_
 refine nK ?_
 exact wO hC
theorem deleteL_c (l : List Lnk) (hn : l.length ≤ 40000000) (gf : Nat) [FnB Tryz.prog gf] (caps : List FV) (p : Lnk → Bool) (hp : ∀ x, Pure Tryz.prog gf ([.agg (encL x)] ++ caps) (Bf (p x))) : Meets Tryz.prog 49 [.sl 0 4 0 l.length, .fz (.clo gf caps)] 1 [(0, OLk l)] (.fz (VL (keepL p l))) [] 1 := by
 have hix := indexL_c l hn gf caps p hp
 refine Meets.intro Tryz.func49 rfl (Nat.le_of_ble_eq_true rfl) fun C hC => ?_
 simp only [List.map, argEnv, Nat.reduceAdd]
 refine nK ?_
 refine za ?_
 refine ze ?_
 refine zb ?_
 refine nK ?_
 refine za ?_
 refine zc ?_
 refine zc ?_
 refine rlZ 10 rfl (op_call_lend [0] (fun _ => hix) rfl (Opd.func _) (oS (oT rfl) (oS (oT rfl) Opds.nil)) (by exact .cons _ _ _ _ tW (.cons _ _ _ _ tW .nil)) rfl rfl) ?_
 refine zd ?_
 refine zb ?_
 refine nK ?_
 refine za ?_
 refine zc ?_
 refine zba ?_
 refine zb ?_
 refine nK ?_
 rcases idxAt_spec p l 0 with ⟨h1, h2⟩ | ⟨j, hj, h1, h2, h3⟩
 ·rw [h1, h2]
  refine nK ?_
  refine n_cond _ rfl (fun hb => ?_) (fun hb => ?_)
  ·refine nK ?_
   refine za ?_
   refine zc ?_
   refine zd ?_
   refine zb ?_
   refine nK ?_
   refine Next.weakS [4] [4] (by rfl) (keepsN hC _ rfl) (G' := [(4, .fz (VL l))]) (H' := []) wF trivial rfl ?_
   exact n_out1 rfl (by rfl) rfl rfl
  simp at hb
 rw [h1, Nat.zero_add]
 refine nK ?_
 refine n_cond _ rfl (fun hb => ?_) (fun hb => ?_)
 ·simp at hb
 have hst := keep_take p l j hj
 rw [h2, cond_true, List.append_nil, h3] at hst
 refine nK ?_
 refine za ?_
 refine zc ?_
 refine zj ?_
 refine zd ?_
 refine zb ?_
 refine nK ?_
 refine n_loop (ι := Nat × List Lnk) (fun g => ([(0, .sl 0 4 0 l.length), (1, .fz (.clo gf caps)), (5, IV .i64 g.2.length), (6, IV .i64 g.1)], [(0, OLk (g.2 ++ l.drop g.2.length))], 1)) (fun g => j < g.1 ∧ g.1 ≤ l.length ∧ g.2 = keepL p (l.take g.1)) (fun g => l.length - g.1) (j + 1, l.take j) ⟨by dsimp only; omega, by dsimp only; omega, hst.symm⟩ ?_ ?_
 ·have e1 : (l.take j).length = j := by simp; omega
  simp only [e1, List.take_append_drop]
  refine Next.weakS [0] [] (by rfl) (wK hC) wG wHI25b rfl (rel_intro)
 intro ⟨i, c⟩ ⟨hi1, hi2, hcd⟩ K hK
 dsimp only at hi1 hi2 hcd ⊢
 have hcl := keep_len_lt p l j hj h2 i hi1 hi2
 rw [← hcd] at hcl
 have hkl := kept_len c l (by omega)
 refine nK ?_
 refine za ?_
 refine zc ?_
 refine zc ?_
 refine zbl ?_
 refine zn ?_
 refine zb ?_
 refine nK ?_
 refine n_cond _ rfl (fun hb => ?_) (fun hb => ?_)
 ·have hlt : i < l.length := by simp at hb; omega
  have hst2 := keep_take p l i hlt
  rw [← hcd] at hst2
  have hK3 := fun c' h => hK (i + 1, c') ⟨by dsimp only; omega, by dsimp only; omega, h⟩ (by dsimp only; omega)
  have g1 := kept_row encL c l i (by omega) hlt
  have g3 := kept_row encL c l c.length (Nat.le_refl _) (by omega)
  have hset := set_kept c l l[i] (by omega)
  generalize l[i] = x at *
  refine nK ?_
  refine za ?_
  refine zc ?_
  refine zc ?_
  refine zdz ?_
  refine zm ?_
  refine zo ?_
  refine zg ?_
  refine zb ?_
  refine nK ?_
  refine za ?_
  refine zc ?_
  refine zm ?_
  refine rpZ 28 rfl (op_call_pureC (fun _ => hp x) rfl (oT rfl) (oS (oT rfl) Opds.nil)) ?_
  refine zbj ?_
  refine zb ?_
  refine nK ?_
  refine n_cond _ rfl (fun hb => ?_) (fun hb => ?_)
  ·have hne : p x = false := by simpa using hb
   rw [hne, cond_false] at hst2
   have hK4 := hK3 (c ++ [x]) hst2.symm
   have e4 : (c ++ [x]).length = c.length + 1 := by simp
   rw [← hset, e4] at hK4
   refine nK ?_
   refine za ?_
   refine zc ?_
   refine zc ?_
   refine zm ?_
   refine rpZ 33 rfl (op_idx_sl0 c.length rfl (oT rfl) (oT rfl) (by intro _; constructor <;> omega)) ?_
   refine Run.eff (dd := none) rfl rfl (op_store_flat rfl (oT rfl) (oT rfl) tC rfl rfl g3 tS) ?_
   refine zb ?_
   refine nK ?_
   refine za ?_
   refine zc ?_
   refine zj ?_
   refine zd ?_
   refine zb ?_
   refine nK ?_
   refine za ?_
   refine zc ?_
   refine zj ?_
   refine zd ?_
   refine zb ?_
   refine nK ?_
   refine Next.weakS [0] [] (by rfl) (wK hC) wG wHI25b rfl (hK4)
  have hne : p x = true := by simpa using hb
  rw [hne, cond_true, List.append_nil] at hst2
  refine nK ?_
  refine za ?_
  refine zc ?_
  refine zj ?_
  refine zd ?_
  refine zb ?_
  refine nK ?_
  refine Next.weakS [0] [] (by rfl) (wK hC) wG wHI25b rfl ((hK3 c hst2.symm))
 have hie : i = l.length := by simp at hb; omega
 rw [hie, List.take_length] at hcd
 rw [← hcd]
 refine nK ?_
 refine za ?_
 refine zc ?_
 refine zc ?_
 refine rlZ 38 rfl (op_slice_view rfl (oT rfl) (Bnd.yes _ _ _ _ _ (oT rfl) tQ) (Bnd.no _) (by intro _; refine ⟨rfl, ?_⟩; rw [List.length_map, hkl]; omega)) ?_
 refine Run.eff (dd := none) rfl rfl (op_clear rfl (oT rfl) rfl rfl rfl rfl (by rw [List.length_map, hkl] <;> omega)) ?_
 refine zb ?_
 refine nK ?_
 refine za ?_
 refine zc ?_
 refine zc ?_
 refine rlZ 41 rfl (op_slice_view rfl (oT rfl) (Bnd.no _) (Bnd.yes _ _ _ _ _ (oT rfl) tQ) (by intro _; refine ⟨rfl, ?_⟩; simp; try omega)) ?_
 refine zd ?_
 refine zb ?_
 refine nK ?_
 refine Next.weakS [4] [4] (by rfl) (keepsN hC _ rfl) (G' := [(4, .fz (VL c))]) (H' := []) ⟨⟨_, rfl, .inr ⟨_, rfl, .sl _ _ _ _ _ _ rfl rfl (by simp) (by simp)⟩⟩, trivial⟩ trivial rfl ?_
 exact n_out1 rfl (by rfl) rfl rfl
theorem sidx_c (l : List Int) (r : Int) (hn : lenOk l.length) : Pure Tryz.prog 76 [VU l, If .u32 r] (If .i64 (idxGo (fun x => decide (r = x)) 0 l)) := by
 refine Meets.intro Tryz.func76 rfl (Nat.le_of_ble_eq_true rfl) fun C hC => ?_
 simp only [List.map, argEnv, Nat.reduceAdd]
 refine nK ?_
 refine za ?_
 refine ze ?_
 refine zb ?_
 refine nK ?_
 refine za ?_
 refine zc ?_
 refine zk ?_
 refine zx ?_
 refine zb ?_
 refine nK ?_
 refine n_loop (ι := Nat) (fun i => ([(0, .fz (VU l)), (1, IV .u32 r), (7, IV .i64 l.length), (8, IV .i64 i)], [], 0)) (fun i => i ≤ l.length ∧ idxGo (fun x => decide (r = x)) i (l.drop i) = idxGo (fun x => decide (r = x)) 0 l) (fun i => l.length - i) 0 ⟨Nat.zero_le _, rfl⟩ ?_ ?_
 ·refine Next.weak [] [] (by rfl) (keeps0 hC _) wHI25a wHI25b wN rel_intro
 intro i ⟨hi, ho⟩ K hK
 refine nK ?_
 refine za ?_
 refine zn ?_
 refine zb ?_
 refine nK ?_
 refine n_cond _ rfl (fun hb => ?_) (fun hb => ?_)
 ·have hlt : i < l.length := by simp at hb; omega
  have hr1 := row_at' encU l i hlt
  rw [idx_step hlt] at ho
  have hK1 := fun h => hK (i + 1) ⟨by omega, h⟩ (by omega)
  refine nK ?_
  refine za ?_
  refine zc ?_
  refine zd ?_
  refine zb ?_
  refine nK ?_
  refine za ?_
  refine zc ?_
  refine zc ?_
  refine zc ?_
  refine zr ?_
  refine zt ?_
  refine zbx ?_
  refine zb ?_
  refine nK ?_
  refine n_cond _ rfl (fun hb => ?_) (fun hb => ?_)
  ·rw [if_pos hb] at ho
   rw [← ho]
   refine nK ?_
   refine za ?_
   refine zc ?_
   refine zd ?_
   refine zb ?_
   refine nK ?_
   exact wO hC
  rw [if_neg (by rw [hb]; decide)] at ho
  refine nK ?_
  refine za ?_
  refine zj ?_
  refine zc ?_
  refine zb ?_
  refine nK ?_
  refine Next.weak [] [] (by rfl) (keeps0 hC _) wHI25a wHI25b wN (hK1 ho)
 have hie : i = l.length := by simp at hb; omega
 rw [hie, List.drop_length] at ho
 rw [← ho]
 refine nK ?_
 refine za ?_
 refine ze ?_
 refine zb ?_
 refine nK ?_
 exact wO hC
theorem scont_c (l : List Int) (r : Int) (hn : lenOk l.length) : Pure Tryz.prog 74 [VU l, If .u32 r] (Bf (l.contains r)) := by
 rw [← idx_contains]
 refine Meets.intro Tryz.func74 rfl (Nat.le_of_ble_eq_true rfl) fun C hC => ?_
 simp only [List.map, argEnv, Nat.reduceAdd]
 refine nK ?_
 refine za ?_
 refine ze ?_
 refine zb ?_
 refine nK ?_
 refine za ?_
 refine zc ?_
 refine zc ?_
 refine rpZ 7 rfl (op_call_pure (fun _ => sidx_c _ _ (by assumption)) rfl (Opd.func _) (oS (oT rfl) (oS (oT rfl) Opds.nil))) ?_
 refine zcg ?_
 refine zd ?_
 refine zb ?_
 refine nK ?_
 exact wO hC
theorem aidx_c (a : AGr) (r : Int) (hn : lenOk a.rs.length) : Pure Tryz.prog 41 [.agg (encR a), If .u32 r] (If .i64 (idxGo (fun x => decide (r = x)) 0 a.rs)) := by
 refine Meets.intro Tryz.func41 rfl (Nat.le_of_ble_eq_true rfl) fun C hC => ?_
 simp only [List.map, argEnv, Nat.reduceAdd]
 refine nK ?_
 refine za ?_
 refine zu ?_
 refine ze ?_
 refine zb ?_
 refine nK ?_
 refine za ?_
 refine zf ?_
 refine zh ?_
 refine zc ?_
 refine rpZ 8 rfl (op_call_pure (fun _ => sidx_c _ _ (by assumption)) rfl (Opd.func _) (oS (oT rfl) (oS (oT rfl) Opds.nil))) ?_
 refine zd ?_
 refine zb ?_
 refine nK ?_
 exact wO hC
theorem stubsP_c (x : Lnk) : Pure Tryz.prog 50 [.agg (encL x)] (Bf (decide (x.k ≠ 3))) := by
 refine Meets.intro Tryz.func50 rfl (Nat.le_of_ble_eq_true rfl) fun C hC => ?_
 simp only [List.map, argEnv, Nat.reduceAdd]
 refine nK ?_
 refine za ?_
 refine zu ?_
 refine ze ?_
 refine zb ?_
 refine nK ?_
 refine za ?_
 refine zf ?_
 refine zh ?_
 refine zbe ?_
 refine zd ?_
 refine zb ?_
 refine nK ?_
 exact wO hC
/-- the closure 'searcher{k}.matches' -/
theorem match_c (k : KeyA) (x : Lsa) : Pure Tryz.prog 86 [.agg (encK k), .agg (encA x)] (Bf (decide (keyA x.h = k))) := by
 rw [← eqFs_encK]
 refine Meets.intro Tryz.func86 rfl (Nat.le_of_ble_eq_true rfl) fun C hC => ?_
 simp only [List.map, argEnv, Nat.reduceAdd]
 refine nK ?_
 refine za ?_
 refine zu ?_
 refine zu ?_
 refine ze ?_
 refine zb ?_
 refine nK ?_
 refine s_draw mixed ?_
 refine zf ?_
 refine zbc ?_
 refine rpZ 7 rfl (op_call_pure (fun _ => keyL_c _) rfl (Opd.func _) (oS (oT rfl) Opds.nil)) ?_
 refine zf ?_
 refine zm ?_
 refine zcp ?_
 refine zd ?_
 refine zq ?_
 refine nK ?_
 exact wO hC
theorem indexA_c (l : List Lsa) (k : KeyA) (hn : lenOk l.length) : Meets Tryz.prog 85 [.fz (VA l), .clo 86 [.fz (.agg (encK k))] []] 0 [] (IV .i64 (idxGo (fun x => decide (keyA x.h = k)) 0 l)) [] 0 := by
 refine Meets.intro Tryz.func85 rfl (Nat.le_of_ble_eq_true rfl) fun C hC => ?_
 simp only [List.map, argEnv, Nat.reduceAdd]
 refine nK ?_
 refine za ?_
 refine ze ?_
 refine zb ?_
 refine nK ?_
 refine za ?_
 refine zc ?_
 refine zk ?_
 refine zx ?_
 refine zb ?_
 refine nK ?_
 refine n_loop (ι := Nat) (fun i => ([(0, .fz (VA l)), (1, .clo 86 [.fz (.agg (encK k))] []), (7, IV .i64 l.length), (8, IV .i64 i)], [], 0)) (fun i => i ≤ l.length ∧ idxGo (fun x => decide (keyA x.h = k)) i (l.drop i) = idxGo (fun x => decide (keyA x.h = k)) 0 l) (fun i => l.length - i) 0 ⟨Nat.zero_le _, rfl⟩ ?_ ?_
 ·refine Next.weak [] [] (by rfl) (keeps0 hC _) wHI25a wHI25b wN rel_intro
 intro i ⟨hi, ho⟩ K hK
 refine nK ?_
 refine za ?_
 refine zn ?_
 refine zb ?_
 refine nK ?_
 refine n_cond _ rfl (fun hb => ?_) (fun hb => ?_)
 ·have hlt : i < l.length := by simp at hb; omega
  have hr1 := row_at' encA l i hlt
  rw [idx_step hlt] at ho
  have hK1 := fun h => hK (i + 1) ⟨by omega, h⟩ (by omega)
  generalize l[i] = e at *
  refine nK ?_
  refine za ?_
  refine zc ?_
  refine zd ?_
  refine zb ?_
  refine nK ?_
  refine za ?_
  refine zc ?_
  refine zc ?_
  refine zc ?_
  refine zr ?_
  refine zv ?_
  refine Run.eff (dd := some 16) rfl rfl (op_call (n := 0) (n' := 0) [] (fun _ => match_c k e) rfl (oT rfl) (oS (oT rfl) Opds.nil) rfl rfl (Lent.of rfl rfl (by repeat (first | exact trivial | refine ⟨⟨rfl, rfl, rfl, tL⟩, ?_⟩)) rfl) rfl rfl rfl rfl rfl) ?_
  refine zb ?_
  refine nK ?_
  refine n_cond _ rfl (fun hb => ?_) (fun hb => ?_)
  ·rw [if_pos hb] at ho
   rw [← ho]
   refine nK ?_
   refine za ?_
   refine zc ?_
   refine zd ?_
   refine zb ?_
   refine nK ?_
   exact wO hC
  rw [if_neg (by rw [hb]; decide)] at ho
  refine nK ?_
  refine za ?_
  refine zj ?_
  refine zc ?_
  refine zb ?_
  refine nK ?_
  refine Next.weak [] [] (by rfl) (keeps0 hC _) wHI25a wHI25b wN (hK1 ho)
 have hie : i = l.length := by simp at hb; omega
 rw [hie, List.drop_length] at ho
 rw [← ho]
 refine nK ?_
 refine za ?_
 refine ze ?_
 refine zb ?_
 refine nK ?_
 exact wO hC
theorem cloneL_f (l : List Lnk) (hn : l.length ≤ 40000000) : Meets Tryz.prog 132 ([VL l].map PV.fz) 0 [] (.sl 0 4 0 l.length) [(0, OLk l)] 1 := by
 refine Meets.intro Tryz.func132 rfl (Nat.le_of_ble_eq_true rfl) fun C hC => ?_
 simp only [List.map, argEnv, Nat.reduceAdd]
 refine nK ?_
 refine za ?_
 refine ze ?_
 refine zb ?_
 refine nK ?_
 refine za ?_
 refine zc ?_
 refine zdi ?_
 refine zb ?_
 refine nK ?_
 refine Next.abool 4 rfl (fun b hb0 => ?_)
 refine nK ?_
 refine n_cond _ rfl (fun hb => ?_) (fun hb => ?_)
 ·have he : l = [] := by have := hb0 hb; simpa using this
  subst he
  refine nK ?_
  refine za ?_
  refine ze ?_
  refine zb ?_
  refine nK ?_
  refine Next.adopt 2 4 rfl ?_
  exact wO hC
 refine nK ?_
 refine za ?_
 refine zcx ?_
 refine zc ?_
 refine zcy ?_
 refine zd ?_
 refine zb ?_
 refine nK ?_
 refine Next.weakS [2] [] (by rfl) (keeps0 hC _) (G' := [(2, .sl 0 4 0 l.length)]) (H' := [(0, OLk l)]) wG wHI25b rfl ?_
 exact wO hC
theorem cloneU_f (l : List Int) (hn : l.length ≤ 40000000) : Meets Tryz.prog 133 ([VU l].map PV.fz) 0 [] (.sl 0 1 0 l.length) [(0, some (.flat 1 (l.map encU)))] 1 := by
 refine Meets.intro Tryz.func133 rfl (Nat.le_of_ble_eq_true rfl) fun C hC => ?_
 simp only [List.map, argEnv, Nat.reduceAdd]
 refine nK ?_
 refine za ?_
 refine ze ?_
 refine zb ?_
 refine nK ?_
 refine za ?_
 refine zc ?_
 refine zdi ?_
 refine zb ?_
 refine nK ?_
 refine Next.abool 4 rfl (fun b hb0 => ?_)
 refine nK ?_
 refine n_cond _ rfl (fun hb => ?_) (fun hb => ?_)
 ·have he : l = [] := by have := hb0 hb; simpa using this
  subst he
  refine nK ?_
  refine za ?_
  refine ze ?_
  refine zb ?_
  refine nK ?_
  refine Next.adopt 2 1 rfl ?_
  exact wO hC
 refine nK ?_
 refine za ?_
 refine zcx ?_
 refine zc ?_
 refine zcy ?_
 refine zd ?_
 refine zb ?_
 refine nK ?_
 refine Next.weakS [2] [] (by rfl) (keeps0 hC _) (G' := [(2, .sl 0 1 0 l.length)]) (H' := [(0, some (.flat 1 (l.map encU)))]) wG wHI25b rfl ?_
 exact wO hC
theorem cloneU_c (l : List Int) (hn : l.length ≤ 40000000) : Pure Tryz.prog 133 [VU l] (VU l) := (cloneU_f l hn).freeze (by simp)
open Go Go.RT Go.Proofs Go.Pl
set_option maxRecDepth 20000
set_option maxHeartbeats 4000000
theorem wHI32a {α : Prop} (h : α := by repeat (first | exact trivial | refine ⟨⟨_, rfl, .inl ⟨rfl, rfl⟩⟩, ?_⟩)) : α := h
theorem wHI32b {α : Prop} (h : α := by repeat (first | exact trivial | refine ⟨wS, ?_⟩ | refine ⟨ent_same rfl rfl (rfEq rfl tU) tL, ?_⟩ | refine ⟨ent_same rfl rfl (flEq rfl (by first | (simp; done) | (simp; omega) | (simp [encR, encG, encTr, encVw, encIf, encNb, encV, encLL, encN, Pl.encIh]; done) | simp [maxC, minC])) trivial, ?_⟩)) : α := h
theorem indexi_c (l : List Int) (x : Int) (hl : l.length ≤ 1999999) : Pure Tryz.prog 159 [VI l, If .i64 x] (If .i64 (idxAt (fun y => decide (x = y)) 0 l)) := by
 refine Meets.intro Tryz.func159 rfl (Nat.le_of_ble_eq_true rfl) fun C hC => ?_
 simp only [List.map, argEnv, Nat.reduceAdd]
 refine nK ?_
 refine za ?_
 refine ze ?_
 refine zb ?_
 refine nK ?_
 refine za ?_
 refine zc ?_
 refine zk ?_
 refine zx ?_
 refine zb ?_
 refine nK ?_
 refine n_loop (ι := Nat) (fun i => ([(0, .fz (VI l)), (1, IV .i64 x), (7, IV .i64 l.length), (8, IV .i64 i)], [], 0)) (fun i => i ≤ l.length ∧ idxAt (fun y => decide (x = y)) 0 l = idxAt (fun y => decide (x = y)) i (l.drop i)) (fun i => l.length - i) 0 ⟨Nat.zero_le _, rfl⟩ ?_ ?_
 ·refine Next.weak [] [] (by rfl) (keeps0 hC _) wHI32a wHI32b wN rel_intro
 intro i ⟨hi, ho⟩ K hK
 refine nK ?_
 refine za ?_
 refine zn ?_
 refine zb ?_
 refine nK ?_
 refine n_cond _ rfl (fun hb => ?_) (fun hb => ?_)
 ·have hlt : i < l.length := by simp at hb; omega
  rw [List.drop_eq_getElem_cons hlt] at ho
  have hr1 := row_at' encN l i hlt
  have hK1 := fun h => hK (i + 1) ⟨by omega, h⟩ (by omega)
  generalize l[i] = y at *
  refine nK ?_
  refine za ?_
  refine zc ?_
  refine zd ?_
  refine zb ?_
  refine nK ?_
  refine za ?_
  refine zc ?_
  refine zc ?_
  refine zc ?_
  refine zr ?_
  refine zt ?_
  refine zbx ?_
  refine zb ?_
  refine nK ?_
  refine n_cond _ rfl (fun hb => ?_) (fun hb => ?_)
  ·have e : x = y := by simpa using hb
   rw [ho, show idxAt (fun y => decide (x = y)) i (y :: l.drop (i + 1)) = (i : Int) by simp [idxAt, e]]
   refine nK ?_
   refine za ?_
   refine zc ?_
   refine zd ?_
   refine zb ?_
   refine nK ?_
   exact wO hC
  have e : ¬ x = y := by simpa using hb
  rw [show idxAt (fun y => decide (x = y)) i (y :: l.drop (i + 1)) = idxAt (fun y => decide (x = y)) (i + 1) (l.drop (i + 1)) by simp [idxAt, e]] at ho
  refine nK ?_
  refine za ?_
  refine zj ?_
  refine zc ?_
  refine zb ?_
  refine nK ?_
  refine Next.weak [] [] (by rfl) (keeps0 hC _) wHI32a wHI32b wN (hK1 ho)
 have hie : i = l.length := by simp at hb; omega
 rw [hie, List.drop_length] at ho
 rw [ho]
 refine nK ?_
 refine za ?_
 refine ze ?_
 refine zb ?_
 refine nK ?_
 exact wO hC
theorem containsi_c (l : List Int) (x : Int) (hl : l.length ≤ 1999999) : Pure Tryz.prog 129 [VI l, If .i64 x] (Bf (decide (x ∈ l))) := by
 have e : decide (x ∈ l) = decide (0 ≤ idxAt (fun y => decide (x = y)) 0 l) := by
  rw [decide_eq_decide]
  have : ∀ (l : List Int) (k : Nat), x ∈ l ↔ 0 ≤ idxAt (fun y => decide (x = y)) k l := by
   intro l
   induction l with
   | nil => intro k; simp [idxAt]
   | cons y l ih =>
    intro k
    simp only [idxAt, List.mem_cons]
    by_cases e : x = y
    ·simp [e]
    simp [e, ← ih (k + 1)]
  exact this l 0
 rw [e]
 refine Meets.intro Tryz.func129 rfl (Nat.le_of_ble_eq_true rfl) fun C hC => ?_
 simp only [List.map, argEnv, Nat.reduceAdd]
 refine nK ?_
 refine za ?_
 refine ze ?_
 refine zb ?_
 refine nK ?_
 refine za ?_
 refine zc ?_
 refine zc ?_
 refine rpZ 7 rfl (op_call_pure (fun _ => indexi_c _ _ (by omega)) rfl (Opd.func _) (oS (oT rfl) (oS (oT rfl) Opds.nil))) ?_
 refine zcg ?_
 refine zd ?_
 refine zb ?_
 refine nK ?_
 exact wO hC
theorem list_c (ll : List (List Int)) (i : Int) (hn : lenOk ll.length) : Pure Tryz.prog 45 [VLL ll, If .i64 i] (VI (lstF ll i)) := by
 unfold lstF
 refine Meets.intro Tryz.func45 rfl (Nat.le_of_ble_eq_true rfl) fun C hC => ?_
 simp only [List.map, argEnv, Nat.reduceAdd]
 refine nK ?_
 refine za ?_
 refine ze ?_
 refine zb ?_
 refine nK ?_
 refine za ?_
 refine zc ?_
 refine zbq ?_
 refine zc ?_
 refine zl ?_
 refine zl ?_
 refine zci ?_
 refine zdr ?_
 refine zbd ?_
 refine zb ?_
 refine nK ?_
 refine n_cond _ rfl (fun hb => ?_) (fun hb => ?_)
 ·rw [if_pos hb]
  refine nK ?_
  refine za ?_
  refine ze ?_
  refine zb ?_
  refine nK ?_
  refine Next.weakS [] [] (by rfl) (keeps0 hC _) (G' := [(4, .fz (VI []))]) (H' := []) wF trivial rfl ?_
  exact wO hC
 have hv : 0 ≤ i ∧ i < ll.length := by simp at hb; omega
 have hr := row_of encLL ll i.toNat [] (by omega)
 rw [if_neg (by rw [hb]; decide)]
 refine nK ?_
 refine za ?_
 refine zc ?_
 refine zc ?_
 refine rpZ 15 rfl (op_idx_fz i.toNat rfl (oT rfl) (oT rfl) (by intro _; exact ⟨by omega, hr⟩)) ?_
 refine zt ?_
 refine zd ?_
 refine zb ?_
 refine nK ?_
 exact wO hC
theorem attv_c (v : Vw) (node : Int) (hv : VwOk v) : Pure Tryz.prog 83 [.agg (encVw v), If .i64 node] (Bf (attF v.t node)) := by
 have kl := list_c v.t.par node (by have := hv.pl; unfold lenOk; omega)
 have kc := containsi_c (lstF v.t.par node) v.t.root (by have := (hv.par node).1; omega)
 unfold attF
 refine Meets.intro Tryz.func83 rfl (Nat.le_of_ble_eq_true rfl) fun C hC => ?_
 simp only [List.map, argEnv, Nat.reduceAdd]
 refine nK ?_
 refine za ?_
 refine zu ?_
 refine ze ?_
 refine zb ?_
 refine nK ?_
 refine s_draw mixed ?_
 refine zf ?_
 refine zf ?_
 refine zh ?_
 refine zc ?_
 refine rpZ 9 rfl (op_call_pure (fun _ => kl) rfl (Opd.func _) (oS (oT rfl) (oS (oT rfl) Opds.nil))) ?_
 refine zf ?_
 refine zf ?_
 refine zh ?_
 refine rpZ 13 rfl (op_call_pure (fun _ => kc) rfl (Opd.func _) (oS (oT rfl) (oS (oT rfl) Opds.nil))) ?_
 refine zd ?_
 refine zq ?_
 refine nK ?_
 exact wO hC
theorem liesP_c (id : Int) (n : Nbr) : Pure Tryz.prog 131 [.agg (encNb n), .cellp [If .u32 id]] (Bf (decide (n.ad = id))) := by
 refine Meets.intro Tryz.func131 rfl (Nat.le_of_ble_eq_true rfl) fun C hC => ?_
 simp only [List.map, argEnv, Nat.reduceAdd]
 refine nK ?_
 refine za ?_
 refine zu ?_
 refine ze ?_
 refine zb ?_
 refine nK ?_
 refine za ?_
 refine zf ?_
 refine zh ?_
 refine zt ?_
 refine zbx ?_
 refine zd ?_
 refine zb ?_
 refine nK ?_
 exact wO hC
theorem indexN_c (l : List Nbr) (hn : l.length ≤ 2000000) (gf : Nat) [FnB Tryz.prog gf] (caps : List FV) (p : Nbr → Bool) (hp : ∀ x, Pure Tryz.prog gf ([.agg (encNb x)] ++ caps) (Bf (p x))) : Pure Tryz.prog 160 [VNb l, .clo gf caps] (If .i64 (idxAt p 0 l)) := by
 refine Meets.intro Tryz.func160 rfl (Nat.le_of_ble_eq_true rfl) fun C hC => ?_
 simp only [List.map, argEnv, Nat.reduceAdd]
 refine nK ?_
 refine za ?_
 refine ze ?_
 refine zb ?_
 refine nK ?_
 refine za ?_
 refine zc ?_
 refine zk ?_
 refine zx ?_
 refine zb ?_
 refine nK ?_
 refine n_loop (ι := Nat) (fun i => ([(0, .fz (VNb l)), (1, .fz (.clo gf caps)), (7, IV .i64 l.length), (8, IV .i64 i)], [], 0)) (fun i => i ≤ l.length ∧ idxAt p i (l.drop i) = idxAt p 0 l) (fun i => l.length - i) 0 ⟨Nat.zero_le _, rfl⟩ ?_ ?_
 ·refine Next.weak [] [] (by rfl) (keeps0 hC _) wHI32a wHI32b wN rel_intro
 intro i ⟨hi, ho⟩ K hK
 refine nK ?_
 refine za ?_
 refine zn ?_
 refine zb ?_
 refine nK ?_
 refine n_cond _ rfl (fun hb => ?_) (fun hb => ?_)
 ·have hlt : i < l.length := by simp at hb; omega
  have hr1 := row_at' encNb l i hlt
  rw [List.drop_eq_getElem_cons hlt] at ho
  simp only [idxAt] at ho
  have hK1 := fun h => hK (i + 1) ⟨by omega, h⟩ (by omega)
  generalize l[i] = e at *
  refine nK ?_
  refine za ?_
  refine zc ?_
  refine zd ?_
  refine zb ?_
  refine nK ?_
  refine za ?_
  refine zc ?_
  refine zc ?_
  refine zc ?_
  refine zr ?_
  refine zv ?_
  refine rpZ 16 rfl (op_call_pureC (fun _ => hp e) rfl (oT rfl) (oS (oT rfl) Opds.nil)) ?_
  refine zb ?_
  refine nK ?_
  refine n_cond _ rfl (fun hb => ?_) (fun hb => ?_)
  ·rw [hb, cond_true] at ho
   rw [← ho]
   refine nK ?_
   refine za ?_
   refine zc ?_
   refine zd ?_
   refine zb ?_
   refine nK ?_
   exact wO hC
  rw [hb, cond_false] at ho
  refine nK ?_
  refine za ?_
  refine zj ?_
  refine zc ?_
  refine zb ?_
  refine nK ?_
  refine Next.weak [] [] (by rfl) (keeps0 hC _) wHI32a wHI32b wN (hK1 ho)
 have hie : i = l.length := by simp at hb; omega
 rw [hie, List.drop_length] at ho
 rw [← ho]
 refine nK ?_
 refine za ?_
 refine ze ?_
 refine zb ?_
 refine nK ?_
 exact wO hC
theorem contN_c (l : List Nbr) (hn : l.length ≤ 2000000) (gf : Nat) [FnB Tryz.prog gf] (caps : List FV) (p : Nbr → Bool) (hp : ∀ x, Pure Tryz.prog gf ([.agg (encNb x)] ++ caps) (Bf (p x))) : Pure Tryz.prog 130 [VNb l, .clo gf caps] (Bf (l.any p)) := by
 have k := indexN_c l hn gf caps p hp
 rw [← anyI_go p l 0]
 generalize idxAt p 0 l = j at *
 refine Meets.intro Tryz.func130 rfl (Nat.le_of_ble_eq_true rfl) fun C hC => ?_
 simp only [List.map, argEnv, Nat.reduceAdd]
 refine nK ?_
 refine za ?_
 refine ze ?_
 refine zb ?_
 refine nK ?_
 refine za ?_
 refine zc ?_
 refine zc ?_
 refine rpZ 7 rfl (op_call_pure (fun _ => k) rfl (Opd.func _) (oS (oT rfl) (oS (oT rfl) Opds.nil))) ?_
 refine zcg ?_
 refine zd ?_
 refine zb ?_
 refine nK ?_
 exact wO hC
theorem lies_c (v : Vw) (node : Int) (s : Ifs) (hv : VwOk v) (hs : s.nb.length ≤ 1048576) (h0 : 0 ≤ node) (h1 : node ≤ 4000) : Pure Tryz.prog 84 [.agg (encVw v), If .i64 node, .agg (encIf s)] (Bf (liesF v.g node s)) := by
 have hrl := hv.rl
 have hnl := hv.nl
 unfold liesF
 refine Meets.intro Tryz.func84 rfl (Nat.le_of_ble_eq_true rfl) fun C hC => ?_
 simp only [List.map, argEnv, Nat.reduceAdd]
 refine nK ?_
 refine za ?_
 refine zu ?_
 refine zu ?_
 refine ze ?_
 refine zb ?_
 refine nK ?_
 refine za ?_
 refine zc ?_
 refine zf ?_
 refine zf ?_
 refine zh ?_
 refine zk ?_
 refine zdg ?_
 refine zd ?_
 refine zb ?_
 refine nK ?_
 refine za ?_
 refine zc ?_
 refine zbq ?_
 refine zc ?_
 refine zl ?_
 refine zp ?_
 refine zck ?_
 refine zs ?_
 refine zci ?_
 refine zdr ?_
 refine zbd ?_
 refine zb ?_
 refine nK ?_
 refine n_cond _ rfl (fun hb => ?_) (fun hb => ?_)
 ·rw [if_pos hb]
  refine nK ?_
  refine za ?_
  refine ze ?_
  refine zb ?_
  refine nK ?_
  exact wO hC
 have hn : 0 ≤ node - v.g.rs.length ∧ node - v.g.rs.length < v.g.ns.length := by simp at hb; omega
 have hr := row_of encV v.g.ns (node - v.g.rs.length).toNat zeroV (by omega)
 rw [if_neg (by rw [hb]; decide)]
 generalize v.g.ns.getD (node - v.g.rs.length).toNat zeroV = z at *
 have kk := contN_c s.nb (by omega) 131 [.cellp [If .u32 z.id]] (fun n => decide (n.ad = z.id)) (liesP_c z.id)
 generalize (s.nb.any fun n => decide (n.ad = z.id)) = a at *
 refine nK ?_
 refine za ?_
 refine zf ?_
 refine zf ?_
 refine zh ?_
 refine zc ?_
 refine rpZ 29 rfl (op_idx_fz (node - v.g.rs.length).toNat rfl (oT rfl) (oT rfl) (by intro _; exact ⟨by omega, hr⟩)) ?_
 refine zbf ?_
 refine zt ?_
 refine zo ?_
 refine zg ?_
 refine zb ?_
 refine nK ?_
 refine Next.weakS [5] [8] (by rfl) (keeps0 hC _) (G' := [(5, .ptr 0 15 0 0), (8, .fz (.cellp [If .u32 z.id]))]) (H' := [(0, some (.flat 15 [encIf s]))]) wF wHI32b rfl ?_
 refine nK ?_
 refine za ?_
 refine zt ?_
 refine zf ?_
 refine zf ?_
 refine zh ?_
 refine zbx ?_
 refine zc ?_
 refine zp ?_
 refine zs ?_
 refine rgZ 40 rfl rfl tG (op_makeFuncF (fs := [.cellp [If .u32 z.id]]) rfl (oS (oT rfl) Opds.nil)) ?_
 refine rgZ 41 rfl rfl tG (op_call_pure (fun _ => kk) rfl (Opd.func _) (oS (oO rfl tO) (oS (oO rfl tO) Opds.nil))) ?_
 refine zbd ?_
 refine zd ?_
 refine zb ?_
 refine nK ?_
 exact wO hC
open Go Go.RT Go.Proofs Go.Pl
set_option maxRecDepth 20000
set_option maxHeartbeats 4000000
theorem wHI33a {α : Prop} (h : α := by repeat (first | exact trivial | refine ⟨wS, ?_⟩ | refine ⟨ent_same rfl rfl (rfEq rfl tU) tL, ?_⟩ | refine ⟨ent_same rfl rfl (flEq rfl (by first | (simp; done) | (simp; omega) | (simp [encR, encG, encTr, encVw, encIf, encNb, encV, encLL, encN, Pl.encIh]; done) | simp [maxC, minC])) trivial, ?_⟩)) : α := h
theorem across_f (v : Vw) (node i : Nat) (hv : VwOk v) (hn : node < v.g.rs.length) (hi : i < v.l.length) : Meets Tryz.prog 82 ([.agg (encVw v), If .i64 node, If .i64 i].map PV.fz) 0 [] (.sl 0 3 0 (acrF v.g v.t v.l[i] node i).length) [(0, OIh (acrF v.g v.t v.l[i] node i))] 1 := by
 have hrl := hv.rl
 have hll := hv.ll
 have hdl := hv.dl
 have hrn := row_of encU v.g.rs node 0 hn
 have hri := row_at' encIf v.l i hi
 have hsb := hv.lb v.l[i] (List.getElem_mem hi)
 have hka := attv_c v node hv
 have hkl := list_c v.t.par node (by have := hv.pl; unfold lenOk; omega)
 have hpar := hv.par node
 have hrd := row_of encN v.t.dist node 0 (by omega)
 unfold acrF
 generalize v.l[i] = s at *
 generalize hws : lstF v.t.par (node : Int) = ws at *
 refine Meets.intro Tryz.func82 rfl (Nat.le_of_ble_eq_true rfl) fun C hC => ?_
 simp only [List.map, argEnv, Nat.reduceAdd]
 refine nK ?_
 refine za ?_
 refine zu ?_
 refine ze ?_
 refine zb ?_
 refine nK ?_
 refine za ?_
 refine zf ?_
 refine zh ?_
 refine zc ?_
 refine rpZ 17 rfl (op_idx_fz i rfl (oT rfl) (oT rfl) (by intro _; exact ⟨rfl, hri⟩)) ?_
 refine zv ?_
 refine zo ?_
 refine zg ?_
 refine zb ?_
 refine nK ?_
 refine za ?_
 refine ze ?_
 refine zb ?_
 refine nK ?_
 refine Next.adopt 8 3 rfl ?_
 refine nK ?_
 refine za ?_
 refine zf ?_
 refine zh ?_
 refine zk ?_
 refine zx ?_
 refine zb ?_
 refine nK ?_
 refine n_loop (ι := Nat × List IHop) (fun p => ([(1, IV .i64 node), (2, IV .i64 i), (3, .ptr 0 10 0 0), (7, .ptr 1 15 0 0), (8, .sl 2 3 0 p.2.length), (20, .fz (VNb s.nb)), (21, IV .i64 s.nb.length), (22, IV .i64 p.1)], [(0, some (.flat 10 [encVw v])), (1, some (.flat 15 [encIf s])), (2, OIh p.2)], 3)) (fun p => p.1 ≤ s.nb.length ∧ p.2 = (s.nb.take p.1).flatMap (acrN v.g v.t s node i)) (fun p => s.nb.length - p.1) (0, []) ⟨Nat.zero_le _, by simp⟩ ?_ ?_
 ·refine Next.weakS [3, 7, 8] [] (by rfl) (wK hC) wG wHI33a rfl (rel_intro)
 intro ⟨j, c⟩ ⟨hj, hc⟩ K hK
 dsimp only at hj hc ⊢
 have hcl : c.length ≤ 1048576 * 2000 := by
  rw [hc]
  have := fm_le (acrN v.g v.t s node i) 2000 (s.nb.take j) fun n _ => acrN_len hv s node i n
  have h2 : (s.nb.take j).length ≤ 1048576 := by simp; omega
  have := Nat.mul_le_mul_right 2000 h2
  omega
 refine nK ?_
 refine za ?_
 refine zn ?_
 refine zb ?_
 refine nK ?_
 refine n_cond _ rfl (fun hb => ?_) (fun hb => ?_)
 ·have hlt : j < s.nb.length := by simp at hb; omega
  have hr1 := row_at' encNb s.nb j hlt
  have hK1 := hK (j + 1, c ++ acrN v.g v.t s node i s.nb[j]) ⟨by dsimp only; omega, by dsimp only; rw [fm_take _ hlt, hc]⟩ (by dsimp only; omega)
  have han : acrN v.g v.t s node i s.nb[j] = acrN v.g v.t s node i s.nb[j] := rfl
  dsimp only at hK1
  generalize hne : s.nb[j] = n at *
  clear hK
  refine nK ?_
  refine za ?_
  refine zr ?_
  refine zv ?_
  refine zo ?_
  refine zg ?_
  refine zb ?_
  refine nK ?_
  refine s_draw mixed ?_
  refine zf ?_
  refine zh ?_
  refine zf ?_
  refine zf ?_
  refine zh ?_
  refine zc ?_
  refine rpZ 32 rfl (op_idx_fz node rfl (oT rfl) (oT rfl) (by intro _; exact ⟨rfl, hrn⟩)) ?_
  refine zt ?_
  refine zbk ?_
  refine zq ?_
  refine nK ?_
  refine n_cond _ rfl (fun hb => ?_) (fun hb => ?_)
  ·have e : acrN v.g v.t s node i n = [] := by unfold acrN; rw [if_pos (by simpa using hb)]
   rw [e, List.append_nil] at hK1
   refine nK ?_
   refine za ?_
   refine zj ?_
   refine zc ?_
   refine zb ?_
   refine nK ?_
   refine Next.weakS [3, 7, 8] [] (by rfl) (wK hC) wG wHI33a rfl (hK1)
  have hrt : n.rt = v.g.rs.getD node 0 := by simpa using hb
  have hrt2 : ¬ (n.rt ≠ v.g.rs.getD (node : Int).toNat 0) := fun h => h hrt
  refine nK ?_
  refine za ?_
  refine zc ?_
  refine zf ?_
  refine zh ?_
  refine zf ?_
  refine zh ?_
  refine zcd ?_
  refine zo ?_
  refine zg ?_
  refine zb ?_
  refine nK ?_
  refine s_draw mixed ?_
  refine zf ?_
  refine zf ?_
  refine zh ?_
  refine zba ?_
  refine zc ?_
  refine zp ?_
  refine zs ?_
  refine zbw ?_
  refine zy ?_
  refine zc ?_
  refine zby ?_
  refine zl ?_
  refine rgZ 54 rfl rfl tG (op_call_pure (fun _ => hka) rfl (Opd.func _) (oS (oO rfl tO) (oS (oO rfl tO) Opds.nil))) ?_
  refine zy ?_
  refine zc ?_
  refine zp ?_
  refine zck ?_
  refine zs ?_
  refine zp ?_
  refine zck ?_
  refine zs ?_
  refine zl ?_
  refine rgZ 64 rfl rfl tG (op_idx_fz node rfl (oO rfl tO) (oO rfl tO) (by intro _; exact ⟨rfl, hrd⟩)) ?_
  refine zbt ?_
  refine zbp ?_
  refine zy ?_
  refine zd ?_
  refine zq ?_
  refine nK ?_
  refine n_cond _ rfl (fun hb => ?_) (fun hb => ?_)
  ·have e : acrN v.g v.t s node i n = [⟨i, n.ad, n.rt⟩] := by
    unfold acrN
    rw [if_neg hrt2]
    exact if_pos hb
   rw [e] at hK1
   have e1 : (c ++ [(⟨i, n.ad, n.rt⟩ : IHop)]).length = c.length + 1 := by simp
   rw [e1] at hK1
   refine nK ?_
   refine za ?_
   refine zc ?_
   refine zm ?_
   refine zcz ?_
   refine zdd ?_
   refine zd ?_
   refine zb ?_
   refine nK ?_
   refine za ?_
   refine zj ?_
   refine zc ?_
   refine zb ?_
   refine nK ?_
   refine Next.weakS [3, 7, 8] [] (by rfl) (wK hC) wG wHI33a rfl (hK1)
  have e : acrN v.g v.t s node i n = if (decide (s.kd = 2) && decide (2 ≤ n.st)) = true then ws.flatMap (acrW v.g v.t s ⟨i, n.ad, n.rt⟩) else [] := by
   unfold acrN
   rw [if_neg hrt2]
   refine (if_neg (fun h => ?_)).trans (by rw [hws]; rfl)
   have h' := hb.symm.trans h
   cases h'
  rw [e] at hK1
  clear e
  refine nK ?_
  refine za ?_
  refine zf ?_
  refine zf ?_
  refine zh ?_
  refine zba ?_
  refine zc ?_
  refine zp ?_
  refine zs ?_
  refine zds ?_
  refine zy ?_
  refine zd ?_
  refine zb ?_
  refine nK ?_
  refine n_cond _ rfl (fun hb => ?_) (fun hb => ?_)
  ·rw [if_pos hb] at hK1
   refine nK ?_
   refine za ?_
   refine zf ?_
   refine zf ?_
   refine zh ?_
   refine zc ?_
   refine rpZ 86 rfl (op_call_pure (fun _ => hkl) rfl (Opd.func _) (oS (oT rfl) (oS (oT rfl) Opds.nil))) ?_
   refine zk ?_
   refine zx ?_
   refine zb ?_
   refine nK ?_
   refine n_loop (ι := Nat × List IHop) (fun p => ([(1, IV .i64 node), (2, IV .i64 i), (3, .ptr 0 10 0 0), (7, .ptr 1 15 0 0), (8, .sl 2 3 0 p.2.length), (11, .ptr 3 3 0 0), (20, .fz (VNb s.nb)), (21, IV .i64 s.nb.length), (22, IV .i64 j), (86, .fz (VI ws)), (87, IV .i64 ws.length), (88, IV .i64 p.1)], [(0, some (.flat 10 [encVw v])), (1, some (.flat 15 [encIf s])), (2, OIh p.2), (3, some (.flat 3 [encIh ⟨i, n.ad, n.rt⟩]))], 4)) (fun p => p.1 ≤ ws.length ∧ p.2 = c ++ (ws.take p.1).flatMap (acrW v.g v.t s ⟨i, n.ad, n.rt⟩)) (fun p => ws.length - p.1) (0, c) ⟨Nat.zero_le _, by simp⟩ ?_ ?_
   ·refine Next.weakS [3, 7, 8, 11] [] (by rfl) (wK hC) wG wHI33a rfl (rel_intro)
   intro ⟨k, c2⟩ ⟨hk, hc2⟩ K2 hK2
   dsimp only at hk hc2 ⊢
   have hcl2 : c2.length ≤ 1048576 * 2000 + 2000 := by
    rw [hc2, List.length_append]
    have := fm_le (acrW v.g v.t s ⟨i, n.ad, n.rt⟩) 1 (ws.take k) fun w _ => acrW_len ..
    have h2 : (ws.take k).length ≤ 2000 := by simp; omega
    omega
   refine nK ?_
   refine za ?_
   refine zn ?_
   refine zb ?_
   refine nK ?_
   refine n_cond _ rfl (fun hb => ?_) (fun hb => ?_)
   ·have hlt2 : k < ws.length := by simp at hb; omega
    have hr2 := row_at' encN ws k hlt2
    have hK3 := hK2 (k + 1, c2 ++ acrW v.g v.t s ⟨i, n.ad, n.rt⟩ ws[k]) ⟨by dsimp only; omega, by dsimp only; rw [fm_take _ hlt2, hc2, List.append_assoc]⟩ (by dsimp only; omega)
    have hw := hpar.2 ws[k] (List.getElem_mem hlt2)
    dsimp only at hK3
    generalize ws[k] = w at *
    clear hK2
    have hka2 := attv_c v w hv
    have hkl2 := lies_c v w s hv hsb hw.1 hw.2
    have e3 : acrW v.g v.t s ⟨i, n.ad, n.rt⟩ w = if (attF v.t w && liesF v.g w s) = true then [⟨i, n.ad, n.rt⟩] else [] := rfl
    rw [e3] at hK3
    clear e3
    generalize attF v.t w = a1 at *
    generalize liesF v.g w s = a2 at *
    refine nK ?_
    refine za ?_
    refine zr ?_
    refine zt ?_
    refine zd ?_
    refine zb ?_
    refine nK ?_
    refine za ?_
    refine zm ?_
    refine zc ?_
    refine rpZ 94 rfl (op_call_pure (fun _ => hka2) rfl (Opd.func _) (oS (oT rfl) (oS (oT rfl) Opds.nil))) ?_
    refine zc ?_
    refine zby ?_
    refine zl ?_
    refine zby ?_
    refine rgZ 99 rfl rfl tG (op_call_pure (fun _ => hkl2) rfl (Opd.func _) (oS (oO rfl tO) (oS (oO rfl tO) (oS (oO rfl tO) Opds.nil)))) ?_
    refine zy ?_
    refine zb ?_
    refine nK ?_
    refine n_cond _ rfl (fun hb => ?_) (fun hb => ?_)
    ·rw [if_pos hb] at hK3
     have e1 : (c2 ++ [(⟨i, n.ad, n.rt⟩ : IHop)]).length = c2.length + 1 := by simp
     rw [e1] at hK3
     refine nK ?_
     refine za ?_
     refine zc ?_
     refine zm ?_
     refine zcz ?_
     refine zdd ?_
     refine zd ?_
     refine zb ?_
     refine nK ?_
     refine za ?_
     refine zj ?_
     refine zc ?_
     refine zb ?_
     refine nK ?_
     refine Next.weakS [3, 7, 8, 11] [] (by rfl) (wK hC) wG wHI33a rfl (hK3)
    rw [if_neg (by rw [hb]; decide), List.append_nil] at hK3
    refine nK ?_
    refine za ?_
    refine zj ?_
    refine zc ?_
    refine zb ?_
    refine nK ?_
    refine Next.weakS [3, 7, 8, 11] [] (by rfl) (wK hC) wG wHI33a rfl (hK3)
   have hke : k = ws.length := by simp at hb; omega
   rw [hke, List.take_length] at hc2
   rw [← hc2] at hK1
   refine nK ?_
   refine za ?_
   refine zj ?_
   refine zc ?_
   refine zb ?_
   refine nK ?_
   refine Next.weakS [3, 7, 8] [] (by rfl) (wK hC) wG wHI33a rfl (hK1)
  rw [if_neg (by rw [hb]; decide), List.append_nil] at hK1
  refine nK ?_
  refine za ?_
  refine zj ?_
  refine zc ?_
  refine zb ?_
  refine nK ?_
  refine Next.weakS [3, 7, 8] [] (by rfl) (wK hC) wG wHI33a rfl (hK1)
 have hie : j = s.nb.length := by simp at hb; omega
 rw [hie, List.take_length] at hc
 rw [← hc]
 refine nK ?_
 refine za ?_
 refine zc ?_
 refine zd ?_
 refine zb ?_
 refine nK ?_
 exact wO hC
open Go Go.RT Go.Proofs Go.Pl
set_option maxRecDepth 20000
set_option maxHeartbeats 4000000
theorem wHI34a {α : Prop} (h : α := by repeat (first | exact trivial | refine ⟨wS, ?_⟩ | refine ⟨ent_same rfl rfl (rfEq rfl tU) tL, ?_⟩ | refine ⟨ent_same rfl rfl (flEq rfl (by first | (simp; done) | (simp; omega) | (simp [encR, encG, encTr, encVw, encIf, encNb, encV, encLL, encN, Pl.encIh]; done) | simp [maxC, minC])) trivial, ?_⟩)) : α := h
theorem direct_f (v : Vw) (node : Int) (hv : VwOk v) (h0 : 0 ≤ node) (h1 : node ≤ 4000) : Meets Tryz.prog 46 ([.agg (encVw v), If .i64 node].map PV.fz) 0 [] (.sl 0 3 0 (dirF v node).length) [(0, OIh (dirF v node))] 1 := by
 have hrl := hv.rl
 have hll := hv.ll
 have hdl := hv.dl
 have hka := attv_c v node hv
 unfold dirF
 refine Meets.intro Tryz.func46 rfl (Nat.le_of_ble_eq_true rfl) fun C hC => ?_
 simp only [List.map, argEnv, Nat.reduceAdd]
 refine nK ?_
 refine za ?_
 refine zu ?_
 refine ze ?_
 refine zb ?_
 refine nK ?_
 refine za ?_
 refine ze ?_
 refine zb ?_
 refine nK ?_
 refine Next.adopt 5 3 rfl ?_
 refine nK ?_
 refine za ?_
 refine zf ?_
 refine zh ?_
 refine zk ?_
 refine zx ?_
 refine zb ?_
 refine nK ?_
 refine n_loop (ι := Nat × List IHop) (fun p => ([(1, IV .i64 node), (2, .ptr 0 10 0 0), (5, .sl 1 3 0 p.2.length), (9, .fz (VIf v.l)), (10, IV .i64 v.l.length), (11, IV .i64 p.1)], [(0, some (.flat 10 [encVw v])), (1, OIh p.2)], 2)) (fun p => p.1 ≤ v.l.length ∧ p.2.length ≤ p.1 * 2097152000 ∧ p.2 ++ dirGo v.g v.t node p.1 (v.l.drop p.1) = dirGo v.g v.t node 0 v.l) (fun p => v.l.length - p.1) (0, []) ⟨Nat.zero_le _, by simp, by simp⟩ ?_ ?_
 ·refine Next.weakS [2, 5] [] (by rfl) (wK hC) wG wHI34a rfl (rel_intro)
 intro ⟨i, c⟩ ⟨hi, hcl, hc⟩ K hK
 dsimp only at hi hcl hc ⊢
 refine nK ?_
 refine za ?_
 refine zn ?_
 refine zb ?_
 refine nK ?_
 refine n_cond _ rfl (fun hb => ?_) (fun hb => ?_)
 ·have hlt : i < v.l.length := by simp at hb; omega
  have hr1 := row_at' encIf v.l i hlt
  have hsb := hv.lb v.l[i] (List.getElem_mem hlt)
  rw [dir_step hlt, ← List.append_assoc] at hc
  have hdl1 := dir1_len hv hsb node i
  have hK1 := hK (i + 1, c ++ dir1 v.g v.t v.l[i] node i) ⟨by dsimp only; omega, by dsimp only; rw [List.length_append]; omega, hc⟩ (by dsimp only; omega)
  have hac : ∀ n : Nat, n < v.g.rs.length → Pure Tryz.prog 82 [.agg (encVw v), If .i64 n, If .i64 i] (VIh (acrF v.g v.t v.l[i] n i)) := fun n hn => (across_f v n i hv hn hlt).freeze (by simp)
  have hli := lies_c v node v.l[i] hv hsb h0 h1
  have haf := acrF_len hv hsb node i
  dsimp only at hK1
  unfold dir1 at hK1
  generalize v.l[i] = s at *
  clear hK
  generalize hat : attF v.t node = a1 at *
  generalize hal : liesF v.g node s = a2 at *
  refine nK ?_
  refine za ?_
  refine zc ?_
  refine zr ?_
  refine zv ?_
  refine zo ?_
  refine zd ?_
  refine zg ?_
  refine zb ?_
  refine nK ?_
  refine za ?_
  refine zf ?_
  refine zh ?_
  refine zbj ?_
  refine zc ?_
  refine zl ?_
  refine zct ?_
  refine zbd ?_
  refine zc ?_
  refine zl ?_
  refine zp ?_
  refine zck ?_
  refine zs ?_
  refine zci ?_
  refine zdr ?_
  refine zbd ?_
  refine zd ?_
  refine zb ?_
  refine nK ?_
  refine n_cond _ rfl (fun hb => ?_) (fun hb => ?_)
  ·rw [if_pos hb, List.append_nil] at hK1
   refine nK ?_
   refine za ?_
   refine zj ?_
   refine zc ?_
   refine zb ?_
   refine nK ?_
   refine Next.weakS [2, 5] [] (by rfl) (wK hC) wG wHI34a rfl (hK1)
  rw [if_neg (by rw [hb]; decide)] at hK1
  refine nK ?_
  refine za ?_
  refine zc ?_
  refine zf ?_
  refine zf ?_
  refine zh ?_
  refine zk ?_
  refine zn ?_
  refine zd ?_
  refine zb ?_
  refine nK ?_
  refine n_cond _ rfl (fun hb => ?_) (fun hb => ?_)
  ·have hn : node < v.g.rs.length := by simpa using hb
   obtain ⟨n, rfl⟩ : ∃ n : Nat, node = n := ⟨node.toNat, by omega⟩
   have ha := hac n (by omega)
   rw [if_pos hn, List.length_append] at hK1
   generalize acrF v.g v.t s n i = l2 at *
   unfold OIh at hK1
   rw [List.map_append] at hK1
   refine nK ?_
   refine za ?_
   refine zc ?_
   refine zm ?_
   refine zc ?_
   refine zc ?_
   refine rpZ 43 rfl (op_call_pure (fun _ => ha) rfl (Opd.func _) (oS (oT rfl) (oS (oT rfl) (oS (oT rfl) Opds.nil)))) ?_
   refine zed ?_
   refine zd ?_
   refine zb ?_
   refine nK ?_
   refine za ?_
   refine zj ?_
   refine zc ?_
   refine zb ?_
   refine nK ?_
   refine Next.weakS [2, 5] [] (by rfl) (wK hC) wG wHI34a rfl (hK1)
  have hn : ¬ node < v.g.rs.length := by simpa using hb
  rw [if_neg hn] at hK1
  refine nK ?_
  refine za ?_
  refine zf ?_
  refine zf ?_
  refine zh ?_
  refine zba ?_
  refine zc ?_
  refine zby ?_
  refine zl ?_
  refine rgZ 53 rfl rfl tG (op_call_pure (fun _ => hka) rfl (Opd.func _) (oS (oO rfl tO) (oS (oO rfl tO) Opds.nil))) ?_
  refine zy ?_
  refine zc ?_
  refine zby ?_
  refine zl ?_
  refine zby ?_
  refine rgZ 59 rfl rfl tG (op_call_pure (fun _ => hli) rfl (Opd.func _) (oS (oO rfl tO) (oS (oO rfl tO) (oS (oO rfl tO) Opds.nil)))) ?_
  refine zy ?_
  refine zd ?_
  refine zb ?_
  refine nK ?_
  refine n_cond _ rfl (fun hb => ?_) (fun hb => ?_)
  ·rw [if_pos hb] at hK1
   have e1 : (c ++ [(⟨i, 0, 0⟩ : IHop)]).length = c.length + 1 := by simp
   rw [e1] at hK1
   refine nK ?_
   refine za ?_
   refine zc ?_
   refine zc ?_
   refine zdq ?_
   refine zcz ?_
   refine zdd ?_
   refine zd ?_
   refine zb ?_
   refine nK ?_
   refine za ?_
   refine zj ?_
   refine zc ?_
   refine zb ?_
   refine nK ?_
   refine Next.weakS [2, 5] [] (by rfl) (wK hC) wG wHI34a rfl (hK1)
  rw [if_neg (by rw [hb]; decide), List.append_nil] at hK1
  refine nK ?_
  refine za ?_
  refine zj ?_
  refine zc ?_
  refine zb ?_
  refine nK ?_
  refine Next.weakS [2, 5] [] (by rfl) (wK hC) wG wHI34a rfl (hK1)
 have hie : i = v.l.length := by simp at hb; omega
 rw [hie, List.drop_length] at hc
 simp only [dirGo, List.append_nil] at hc
 rw [← hc]
 refine nK ?_
 refine za ?_
 refine zc ?_
 refine zd ?_
 refine zb ?_
 refine nK ?_
 exact wO hC
theorem direct_c (v : Vw) (node : Int) (hv : VwOk v) (h0 : 0 ≤ node) (h1 : node ≤ 4000) : Pure Tryz.prog 46 [.agg (encVw v), If .i64 node] (VIh (dirF v node)) := (direct_f v node hv h0 h1).freeze (by simp)
theorem hops_v (v : Vw) (node : Int) (hv : VwOk v) : Pure Tryz.prog 23 [.agg (encVw v), If .i64 node] (VIh (hopF v node)) := by
 have hkl := list_c v.t.hops node (by have := hv.hl; unfold lenOk; omega)
 have hho := hv.hop node
 unfold hopF
 generalize lstF v.t.hops node = hs at *
 have hme := mergeI_c (hs.flatMap (dirF v)) []
 refine Meets.intro Tryz.func23 rfl (Nat.le_of_ble_eq_true rfl) fun C hC => ?_
 simp only [List.map, argEnv, Nat.reduceAdd]
 refine nK ?_
 refine za ?_
 refine zu ?_
 refine ze ?_
 refine zb ?_
 refine nK ?_
 refine za ?_
 refine ze ?_
 refine zb ?_
 refine nK ?_
 refine Next.adopt 5 3 rfl ?_
 refine nK ?_
 refine za ?_
 refine zf ?_
 refine zf ?_
 refine zh ?_
 refine zc ?_
 refine rpZ 12 rfl (op_call_pure (fun _ => hkl) rfl (Opd.func _) (oS (oT rfl) (oS (oT rfl) Opds.nil))) ?_
 refine zk ?_
 refine zx ?_
 refine zb ?_
 refine nK ?_
 refine n_loop (ι := Nat × List IHop) (fun p => ([(1, IV .i64 node), (2, .ptr 0 10 0 0), (5, .sl 1 3 0 p.2.length), (12, .fz (VI hs)), (13, IV .i64 hs.length), (14, IV .i64 p.1)], [(0, some (.flat 10 [encVw v])), (1, OIh p.2)], 2)) (fun p => p.1 ≤ hs.length ∧ p.2 = (hs.take p.1).flatMap (dirF v)) (fun p => hs.length - p.1) (0, []) ⟨Nat.zero_le _, by simp⟩ ?_ ?_
 ·refine Next.weakS [2, 5] [] (by rfl) (wK hC) wG wHI34a rfl (rel_intro)
 intro ⟨i, c⟩ ⟨hi, hc⟩ K hK
 dsimp only at hi hc ⊢
 have hcl : c.length ≤ 5033164800000 := by rw [hc]; exact hopT_len hv hho.1 i
 refine nK ?_
 refine za ?_
 refine zn ?_
 refine zb ?_
 refine nK ?_
 refine n_cond _ rfl (fun hb => ?_) (fun hb => ?_)
 ·have hlt : i < hs.length := by simp at hb; omega
  have hr1 := row_at' encN hs i hlt
  have hw := hho.2 hs[i] (List.getElem_mem hlt)
  have hK1 := hK (i + 1, c ++ dirF v hs[i]) ⟨by dsimp only; omega, by dsimp only; rw [fm_take _ hlt, hc]⟩ (by dsimp only; omega)
  have hd := direct_c v hs[i] hv hw.1 hw.2
  have hdl := dirF_len hv hs[i]
  dsimp only at hK1
  generalize hs[i] = h at *
  generalize dirF v h = l2 at *
  clear hK
  unfold OIh at hK1
  rw [List.map_append, List.length_append] at hK1
  refine nK ?_
  refine za ?_
  refine zr ?_
  refine zt ?_
  refine zd ?_
  refine zb ?_
  refine nK ?_
  refine za ?_
  refine zc ?_
  refine zm ?_
  refine zc ?_
  refine rpZ 21 rfl (op_call_pure (fun _ => hd) rfl (Opd.func _) (oS (oT rfl) (oS (oT rfl) Opds.nil))) ?_
  refine zed ?_
  refine zd ?_
  refine zb ?_
  refine nK ?_
  refine za ?_
  refine zj ?_
  refine zc ?_
  refine zb ?_
  refine nK ?_
  refine Next.weakS [2, 5] [] (by rfl) (wK hC) wG wHI34a rfl (hK1)
 have hie : i = hs.length := by simp at hb; omega
 rw [hie, List.take_length] at hc
 rw [← hc] at hme ⊢
 have hm2 := hme (by simp; omega)
 refine nK ?_
 refine Next.weakS [] [5] (by rfl) (keeps0 hC _) (G' := [(5, .fz (VIh c))]) (H' := []) wF trivial rfl ?_
 refine nK ?_
 refine za ?_
 refine zc ?_
 refine rpZ 25 rfl (op_call_pure (fun _ => hm2) rfl (Opd.func _) (oS (oT rfl) (oS (Opd.nil _ 3 oC) Opds.nil))) ?_
 refine zd ?_
 refine zb ?_
 refine nK ?_
 exact wO hC
theorem own_f (v : Vw) (p : Pfx) (hv : VwOk v) : Meets Tryz.prog 26 ([.agg (encVw v), .agg (encP p)].map PV.fz) 0 [] (.sl 0 3 0 (ownF v p).length) [(0, OIh (ownF v p))] 1 := by
 have hll := hv.ll
 unfold ownF
 refine Meets.intro Tryz.func26 rfl (Nat.le_of_ble_eq_true rfl) fun C hC => ?_
 simp only [List.map, argEnv, Nat.reduceAdd]
 refine nK ?_
 refine za ?_
 refine zu ?_
 refine zu ?_
 refine ze ?_
 refine zb ?_
 refine nK ?_
 refine za ?_
 refine ze ?_
 refine zb ?_
 refine nK ?_
 refine Next.adopt 5 3 rfl ?_
 refine nK ?_
 refine za ?_
 refine zf ?_
 refine zh ?_
 refine zk ?_
 refine zx ?_
 refine zb ?_
 refine nK ?_
 refine n_loop (ι := Nat × List IHop) (fun q => ([(2, .ptr 0 10 0 0), (3, .ptr 1 2 0 0), (5, .sl 2 3 0 q.2.length), (9, .fz (VIf v.l)), (10, IV .i64 v.l.length), (11, IV .i64 q.1)], [(0, some (.flat 10 [encVw v])), (1, some (.flat 2 [encP p])), (2, OIh q.2)], 3)) (fun q => q.1 ≤ v.l.length ∧ q.2.length ≤ q.1 ∧ q.2 ++ ownGoI p q.1 (v.l.drop q.1) = ownGoI p 0 v.l) (fun q => v.l.length - q.1) (0, []) ⟨Nat.zero_le _, by simp, by simp⟩ ?_ ?_
 ·refine Next.weakS [2, 3, 5] [] (by rfl) (wK hC) wG wHI34a rfl (rel_intro)
 intro ⟨i, c⟩ ⟨hi, hcl, hc⟩ K hK
 dsimp only at hi hcl hc ⊢
 refine nK ?_
 refine za ?_
 refine zn ?_
 refine zb ?_
 refine nK ?_
 refine n_cond _ rfl (fun hb => ?_) (fun hb => ?_)
 ·have hlt : i < v.l.length := by simp at hb; omega
  have hr1 := row_at' encIf v.l i hlt
  rw [ownI_step hlt, ← List.append_assoc] at hc
  generalize v.l[i] = s at *
  have hK1 := fun c2 h h2 => hK (i + 1, c2) ⟨by dsimp only; omega, h, h2⟩ (by dsimp only; omega)
  dsimp only at hK1
  clear hK
  have heq := eqFs_encP s.pf p
  refine nK ?_
  refine za ?_
  refine zc ?_
  refine zr ?_
  refine zv ?_
  refine zo ?_
  refine zd ?_
  refine zg ?_
  refine zb ?_
  refine nK ?_
  refine za ?_
  refine zf ?_
  refine zh ?_
  refine zc ?_
  refine zp ?_
  refine zck ?_
  refine rkZ 21 rfl rfl tG (op_loadn_flat rfl (oO rfl tO) tH tR tR) ?_
  refine zby ?_
  refine rgZ 23 rfl rfl tG (op_eqS rfl (oO rfl tO) (oO rfl tO) (by kernel_rfl)) ?_
  refine zy ?_
  refine zb ?_
  refine nK ?_
  refine n_cond _ rfl (fun hb => ?_) (fun hb => ?_)
  ·have hb2 : (s.up && decide (s.pf = p)) = true := by rw [← heq]; exact hb
   rw [if_pos hb2] at hc
   have e1 : (c ++ [(⟨i, 0, 0⟩ : IHop)]).length = c.length + 1 := by simp
   have hK2 := hK1 _ (by rw [e1]; omega) hc
   rw [e1] at hK2
   refine nK ?_
   refine za ?_
   refine zc ?_
   refine zc ?_
   refine zdq ?_
   refine zcz ?_
   refine zdd ?_
   refine zd ?_
   refine zb ?_
   refine nK ?_
   refine za ?_
   refine zj ?_
   refine zc ?_
   refine zb ?_
   refine nK ?_
   refine Next.weakS [2, 3, 5] [] (by rfl) (wK hC) wG wHI34a rfl (hK2)
  have hb2 : (s.up && decide (s.pf = p)) = false := by rw [← heq]; exact hb
  rw [if_neg (by rw [hb2]; decide), List.append_nil] at hc
  refine nK ?_
  refine za ?_
  refine zj ?_
  refine zc ?_
  refine zb ?_
  refine nK ?_
  refine Next.weakS [2, 3, 5] [] (by rfl) (wK hC) wG wHI34a rfl ((hK1 c (by omega) hc))
 have hie : i = v.l.length := by simp at hb; omega
 rw [hie, List.drop_length] at hc
 simp only [ownGoI, List.append_nil] at hc
 rw [← hc]
 refine nK ?_
 refine za ?_
 refine zc ?_
 refine zd ?_
 refine zb ?_
 refine nK ?_
 exact wO hC
theorem own_v (v : Vw) (p : Pfx) (hv : VwOk v) : Pure Tryz.prog 26 [.agg (encVw v), .agg (encP p)] (VIh (ownF v p)) := (own_f v p hv).freeze (by simp)
end Go.Proofs.YtoeckbdgemnngaaGreat
/- Plain facts on runs of addresses. No program in sight. -/
namespace Go.Pl
open Go.RT
structure Spn where
  lo : Nat
  hi : Nat
  deriving DecidableEq
/-- ascending, disjoint, apart -/
def Canon (l : List Spn) : Prop := (∀ s ∈ l, s.lo < s.hi) ∧ l.Pairwise (fun a b => a.hi < b.lo)
theorem Canon.nil : Canon [] := ⟨by simp, by simp⟩

theorem Canon.push {l : List Spn} {s : Spn} (h : Canon l) (hs : s.lo < s.hi) (hl : ∀ o ∈ l, o.hi < s.lo) : Canon (l ++ [s]) := by
  refine ⟨fun o ho => ?_, ?_⟩
  · rcases List.mem_append.1 ho with h1 | h1
    · exact h.1 o h1
    · simp at h1; subst h1; exact hs
  · rw [List.pairwise_append]
    exact ⟨h.2, by simp, fun a ha b hb => by simp at hb; subst hb; exact hl a ha⟩
end Go.Pl
/- Lists of runs and lists of prefixes. No program in sight. -/
namespace Go.Pl
open Go.RT
/-! ## intersection and complement -/
def meetS (a b : List Spn) : List Spn := a.flatMap fun s => b.filterMap fun t => if max s.lo t.lo < min s.hi t.hi then some ⟨max s.lo t.lo, min s.hi t.hi⟩ else none
end Go.Pl
/- The blocks of a run. No program in sight. -/
namespace Go.Pl
open Go.RT
def blk (a k : Nat) : Pfx := ⟨a, 32 - (k : Int)⟩
/-- where the block twice as large begins -/
def pa (p : Pfx) : Nat := p.addr / (2 * sz p) * (2 * sz p)
open Go.RT
open Go.RT
end Go.Pl
namespace Go.Pl
@[simp] theorem meet_nil (a : List Spn) : meetS a [] = [] := by
  unfold meetS; induction a with
  | nil => rfl
  | cons s a ih => simp
@[simp] theorem meet_nil' (b : List Spn) : meetS [] b = [] := rfl
open Go.RT
open Go.RT
end Go.Pl
namespace Go.Proofs.YtoeckbdgemnngaaGreat
open Go Go.RT Go.Proofs Go.Pl
set_option linter.all false
set_option maxRecDepth 20000
set_option maxHeartbeats 4000000
theorem clamp_any (n most : Int) : Pure Tryz.prog 158 [If .i64 n, If .i64 most] (If .i64 (min (max n 0) most)) := by
 refine Meets.intro Tryz.func158 rfl (Nat.le_of_ble_eq_true rfl) fun C hC => ?_
 simp only [List.map, argEnv, Nat.reduceAdd]
 refine nK ?_
 refine za ?_
 refine ze ?_
 refine zb ?_
 refine nK ?_
 refine za ?_
 refine zc ?_
 refine zcn ?_
 refine zc ?_
 refine rpZ 8 rfl (op_min rfl (oT rfl) (oT rfl)) ?_
 refine zd ?_
 refine zb ?_
 refine nK ?_
 exact wO hC

theorem mask_val (n : Int) : IV .u32 (IntKind.u32.wrap (4294967295 * 2 ^ (32 - clampN n))) = IV .u32 ((2 ^ 32 - 2 ^ (32 - clampN n) : Nat) : Int) := by
 have h1 : 2 ^ (32 - clampN n) ≤ 2 ^ 32 := Nat.pow_le_pow_right (by omega) (by omega)
 have := mask_wrap (32 - clampN n) (by omega)
 have e : (4294967295 * 2 ^ (32 - clampN n) : Int) = ((4294967295 * 2 ^ (32 - clampN n) : Nat) : Int) := by simp
 have h3 : IntKind.u32.wrap (4294967295 * 2 ^ (32 - clampN n)) = ((2 ^ 32 - 2 ^ (32 - clampN n) : Nat) : Int) := by
  rw [e]; simp only [IntKind.wrap, IntKind.bits, IntKind.signed]
  have : (4294967295 * 2 ^ (32 - clampN n)) % 2 ^ 32 = 2 ^ 32 - 2 ^ (32 - clampN n) := this
  simp; omega
 rw [h3]
theorem mask_any (n : Int) : Pure Tryz.prog 128 [If .i64 n] (If .u32 ((2 ^ 32 - 2 ^ (32 - clampN n) : Nat) : Int)) := by
 have hc := clampN_int n
 have hl := clampN_le n
 refine Meets.intro Tryz.func128 rfl (Nat.le_of_ble_eq_true rfl) fun C hC => ?_
 simp only [List.map, argEnv, Nat.reduceAdd]
 refine nK ?_
 refine za ?_
 refine ze ?_
 refine zb ?_
 refine nK ?_
 refine za ?_
 refine zc ?_
 refine rpZ 4 rfl (op_call_pure (fun _ => clamp_any _ _) rfl (Opd.func _) (oS (oT rfl) (oS oC Opds.nil))) ?_
 refine rpZ 5 rfl (op_sub rfl oC (oT rfl) tI) ?_
 refine rpZ 6 rfl (castP (fun _ => mask_val n) (op_shlw (n := 32 - clampN n) rfl oC (oT rfl) (by intro _; simp only [IntKind.bits]; omega))) ?_
 refine zd ?_
 refine zb ?_
 refine nK ?_
 exact wO hC

theorem keep_any (x : Nat) (n : Int) (hx : x < 2 ^ 32) : Pure Tryz.prog 81 [If .u32 x, If .i64 n] (If .u32 (keepN x (clampN n))) := by
 have hc := clampN_int n
 have hl := clampN_le n
 have hk : ((x &&& (2 ^ 32 - 2 ^ (32 - clampN n)) : Nat) : Int) = (keepN x (clampN n) : Int) := by rw [land_high x _ (by omega) hx]; rfl
 have hle := keepN_le x (clampN n)
 have h0 : 0 < 2 ^ (32 - clampN n) := Nat.two_pow_pos _
 refine Meets.intro Tryz.func81 rfl (Nat.le_of_ble_eq_true rfl) fun C hC => ?_
 simp only [List.map, argEnv, Nat.reduceAdd]
 refine nK ?_
 refine za ?_
 refine ze ?_
 refine zb ?_
 refine nK ?_
 refine za ?_
 refine zc ?_
 refine zc ?_
 refine rpZ 7 rfl (op_call_pure (fun _ => mask_any _) rfl (Opd.func _) (oS (oT rfl) Opds.nil)) ?_
 refine rpZ 8 rfl (castP (fun _ => congrArg (IV .u32) hk) (op_bits rfl (oT rfl) (oT rfl) (.inl ⟨rfl, rfl⟩) (by intro _; simp only [IntKind.bits]; omega) (by intro _; simp only [inr, hk]; omega))) ?_
 refine zd ?_
 refine zb ?_
 refine nK ?_
 exact wO hC


theorem pcmp_c (p q : Pfx) : Pure Tryz.prog 29 [.agg (encP p), .agg (encP q)] (If .i64 (cmpP p q)) := by
 unfold cmpP
 refine Meets.intro Tryz.func29 rfl (Nat.le_of_ble_eq_true rfl) fun C hC => ?_
 simp only [List.map, argEnv, Nat.reduceAdd]
 refine nK ?_
 refine za ?_
 refine zu ?_
 refine zu ?_
 refine ze ?_
 refine zb ?_
 refine nK ?_
 refine za ?_
 refine zf ?_
 refine zh ?_
 refine zf ?_
 refine zh ?_
 refine zn ?_
 refine zc ?_
 refine zp ?_
 refine zs ?_
 refine zp ?_
 refine zs ?_
 refine zbp ?_
 refine zce ?_
 refine zp ?_
 refine zs ?_
 refine zp ?_
 refine zs ?_
 refine zcv ?_
 refine zco ?_
 refine zbd ?_
 refine zd ?_
 refine zb ?_
 refine nK ?_
 refine n_cond _ rfl (fun hb => ?_) (fun hb => ?_)
 ·rw [if_pos (by simp at hb ⊢; omega)]
  refine nK ?_
  refine za ?_
  refine ze ?_
  refine zb ?_
  refine nK ?_
  exact wO hC
 rw [if_neg (by simp at hb ⊢; omega)]
 refine nK ?_
 refine za ?_
 refine zm ?_
 refine zm ?_
 refine zcp ?_
 refine zd ?_
 refine zb ?_
 refine nK ?_
 refine n_cond _ rfl (fun hb => ?_) (fun hb => ?_)
 ·have e : p = q := by
   have h : eqFs (encP p) (encP q) = true := hb
   rw [eqFs_encP] at h; simpa using h
  rw [if_pos e]
  refine nK ?_
  refine za ?_
  refine ze ?_
  refine zb ?_
  refine nK ?_
  exact wO hC
 have e : ¬ p = q := by
  have h : eqFs (encP p) (encP q) = false := hb
  rw [eqFs_encP] at h; simpa using h
 rw [if_neg e]
 refine nK ?_
 refine za ?_
 refine ze ?_
 refine zb ?_
 refine nK ?_
 exact wO hC
theorem of_any (a : Nat) (n : Int) (ha : a < 2 ^ 32) : Pure Tryz.prog 44 [If .u32 a, If .i64 n] (.agg (encP (ofP a n))) := by
 refine Meets.intro Tryz.func44 rfl (Nat.le_of_ble_eq_true rfl) fun C hC => ?_
 simp only [List.map, argEnv, Nat.reduceAdd]
 refine nK ?_
 refine za ?_
 refine zo ?_
 refine zb ?_
 refine nK ?_
 refine za ?_
 refine zc ?_
 refine zc ?_
 refine rpZ 7 rfl (op_call_pure (fun _ => keep_any _ _ (by omega)) rfl (Opd.func _) (oS (oT rfl) (oS (oT rfl) Opds.nil))) ?_
 refine zc ?_
 refine zbn ?_
 refine zg ?_
 refine zb ?_
 refine nK ?_
 exact wO hC
theorem make_bad (id len : Int) (h : makeB len = false) : Pure Tryz.prog 22 [If .u32 id, If .i64 len] (.tup [.agg (encP ⟨0, 0⟩), If .i64 5]) := by
 unfold makeB at h
 refine Meets.intro Tryz.func22 rfl (Nat.le_of_ble_eq_true rfl) fun C hC => ?_
 simp only [List.map, argEnv, Nat.reduceAdd]
 refine nK ?_
 refine za ?_
 refine zo ?_
 refine ze ?_
 refine zb ?_
 refine nK ?_
 refine za ?_
 refine zc ?_
 refine zbq ?_
 refine zc ?_
 refine zl ?_
 refine zbo ?_
 refine zbd ?_
 refine zb ?_
 refine nK ?_
 refine n_cond _ rfl (fun hb => ?_) (fun hb => ?_)
 ·refine nK ?_
  refine za ?_
  refine zbg ?_
  refine zg ?_
  refine ze ?_
  refine zb ?_
  refine nK ?_
  refine Next.weakS [4] [] (by rfl) (keeps0 hC _) (G' := [(4, .ptr 0 2 0 0), (5, IV .i64 5)]) (H' := [(0, some (.flat 2 [encP ⟨0, 0⟩]))]) wG (by repeat (first | exact trivial | refine ⟨wS, ?_⟩ | refine ⟨ent_same rfl rfl (rfEq rfl tU) tL, ?_⟩ | refine ⟨ent_same rfl rfl (flEq rfl (by first | (simp; done) | (simp; omega) | (simp [encP, encL, encLr]; done) | simp [maxC, minC])) trivial, ?_⟩)) rfl ?_
  exact wO hC
 rw [hb] at h; cases h
theorem make_ok (id len : Int) (h : makeB len = true) (hi : inr .u32 id) : Pure Tryz.prog 22 [If .u32 id, If .i64 len] (.tup [.agg (encP (makeP id len)), If .i64 0]) := by
 unfold makeB at h
 obtain ⟨a, rfl⟩ : ∃ a : Nat, id = a := ⟨id.toNat, by simp only [inr] at hi; omega⟩
 have hof := of_any a len (by simp only [inr] at hi; omega)
 unfold makeP
 simp only [Int.toNat_natCast]
 refine Meets.intro Tryz.func22 rfl (Nat.le_of_ble_eq_true rfl) fun C hC => ?_
 simp only [List.map, argEnv, Nat.reduceAdd]
 refine nK ?_
 refine za ?_
 refine zo ?_
 refine ze ?_
 refine zb ?_
 refine nK ?_
 refine za ?_
 refine zc ?_
 refine zbq ?_
 refine zc ?_
 refine zl ?_
 refine zbo ?_
 refine zbd ?_
 refine zb ?_
 refine nK ?_
 refine n_cond _ rfl (fun hb => ?_) (fun hb => ?_)
 ·rw [hb] at h; cases h
 refine nK ?_
 refine za ?_
 refine zc ?_
 refine zc ?_
 refine rpZ 15 rfl (op_call_pure (fun _ => hof) rfl (Opd.func _) (oS (oT rfl) (oS (oT rfl) Opds.nil))) ?_
 refine zg ?_
 refine ze ?_
 refine zb ?_
 refine nK ?_
 exact wO hC
theorem stubP_c (x : Lnk) (hx : okK x) : Pure Tryz.prog 25 [.agg (encL x)] (.agg (encP (stubP x))) := by
 obtain ⟨h1, h2, h3, h4⟩ := hx
 simp only [inr] at h2 h3
 unfold stubP
 obtain ⟨k, id, d, c⟩ := x
 dsimp only at h1 h2 h3 h4 ⊢
 obtain ⟨a, rfl⟩ : ∃ a : Nat, id = a := ⟨id.toNat, by omega⟩
 simp only [Int.toNat_natCast]
 refine Meets.intro Tryz.func25 rfl (Nat.le_of_ble_eq_true rfl) fun C hC => ?_
 simp only [List.map, argEnv, Nat.reduceAdd]
 refine nK ?_
 refine za ?_
 refine zu ?_
 refine zo ?_
 refine zb ?_
 refine nK ?_
 refine za ?_
 refine zf ?_
 refine zh ?_
 refine zf ?_
 refine zh ?_
 refine zbh ?_
 refine zbn ?_
 refine zg ?_
 refine zb ?_
 refine nK ?_
 exact wO hC
theorem cmpR_c (x y : LRt) : Pure Tryz.prog 28 [.agg (encLr x), .agg (encLr y)] (If .i64 (cmpP x.pf y.pf)) := by
 have hp := pcmp_c x.pf y.pf
 refine Meets.intro Tryz.func28 rfl (Nat.le_of_ble_eq_true rfl) fun C hC => ?_
 simp only [List.map, argEnv, Nat.reduceAdd]
 refine nK ?_
 refine za ?_
 refine zu ?_
 refine zu ?_
 refine ze ?_
 refine zb ?_
 refine nK ?_
 refine za ?_
 refine zf ?_
 refine zbc ?_
 refine zf ?_
 refine zbc ?_
 refine rpZ 9 rfl (op_call_pure (fun _ => hp) rfl (Opd.func _) (oS (oT rfl) (oS (oT rfl) Opds.nil))) ?_
 refine zd ?_
 refine zb ?_
 refine nK ?_
 exact wO hC
open Go Go.RT Go.Proofs Go.Pl
set_option maxRecDepth 20000
set_option maxHeartbeats 4000000
theorem wHI26a {α : Prop} (h : α := by repeat (first | exact trivial | refine ⟨⟨rfl, rfl, rfl, tL⟩, ?_⟩)) : α := h
theorem clone_a (l : Lsa) (hn1 : l.ls.length ≤ 40000000) (hn2 : l.att.length ≤ 40000000) : Meets Tryz.prog 87 [.fz (.agg (encA l))] 0 [] (.agg [IV .i64 l.h.ty, IV .u32 l.h.id, IV .i64 l.h.ln, IV .u32 l.h.rt, IV .i64 l.h.sq, IV .i64 l.h.ag, IV .i64 l.h.sm, BV l.bo, BV l.bd, .sl 0 4 0 l.ls.length, .fz (VU l.att), IV .i64 l.co, BV l.se, IV .u32 l.fw, IV .i64 l.tg]) [(0, OLk l.ls)] 1 := by
 refine Meets.intro Tryz.func87 rfl (Nat.le_of_ble_eq_true rfl) fun C hC => ?_
 simp only [List.map, argEnv, Nat.reduceAdd]
 refine nK ?_
 refine za ?_
 refine zu ?_
 refine zo ?_
 refine zb ?_
 refine nK ?_
 refine Next.toRefs 0 rfl rfl ?_
 refine Next.toRefs 1 rfl rfl ?_
 refine nK ?_
 refine s_draw mixed ?_
 refine zf ?_
 refine zbb ?_
 refine Run.effW (dd := some 5) rfl rfl (op_call_fresh (fun _ => cloneL_f _ (by assumption)) rfl (Opd.func _) (oS (oT rfl) Opds.nil)) tE ?_
 refine zf ?_
 refine zbb ?_
 refine rpZ 8 rfl (op_call_pure (fun _ => cloneU_c _ (by assumption)) rfl (Opd.func _) (oS (oT rfl) Opds.nil)) ?_
 refine zf ?_
 refine Run.effW (dd := none) rfl rfl (op_store_refs rfl (oT rfl) (oT rfl) tP rfl rfl rfl tS) tE ?_
 refine zf ?_
 refine Run.effW (dd := none) rfl rfl (op_store_refs rfl (oT rfl) (oT rfl) tP rfl rfl rfl tS) tE ?_
 refine zq ?_
 refine nK ?_
 refine za ?_
 refine zcl ?_
 refine zcb ?_
 refine zb ?_
 refine nK ?_
 exact n_outW1 [2] [] rfl tVP rfl (keeps0 hC _) ⟨wS, trivial⟩ wN (.inl ⟨rfl, rfl⟩) rfl
abbrev aggA (l : Lsa) (id : Nat) : PV := .agg [IV .i64 l.h.ty, IV .u32 l.h.id, IV .i64 l.h.ln, IV .u32 l.h.rt, IV .i64 l.h.sq, IV .i64 l.h.ag, IV .i64 l.h.sm, BV l.bo, BV l.bd, .sl id 4 0 l.ls.length, .fz (VU l.att), IV .i64 l.co, BV l.se, IV .u32 l.fw, IV .i64 l.tg]
theorem get_none (db : List Lsa) (k : KeyA) (hn : lenOk db.length) (h : idxGo (fun x => decide (keyA x.h = k)) 0 db = -1) : Pure Tryz.prog 47 [VA db, .agg (encK k)] (.tup [.agg (encA zeroA), Bf false]) := by
 have hix := indexA_c db k hn
 rw [h] at hix
 refine Meets.intro Tryz.func47 rfl (Nat.le_of_ble_eq_true rfl) fun C hC => ?_
 simp only [List.map, argEnv, Nat.reduceAdd]
 refine nK ?_
 refine za ?_
 refine zu ?_
 refine zo ?_
 refine ze ?_
 refine zb ?_
 refine nK ?_
 refine za ?_
 refine zc ?_
 refine zm ?_
 refine zdq ?_
 refine zeb ?_
 refine Run.eff (dd := some 11) rfl rfl (op_call (n := 0) (n' := 0) [] (fun _ => hix) rfl (Opd.func _) (oS (oT rfl) (oS (oT rfl) Opds.nil)) rfl rfl (Lent.of rfl rfl wHI26a rfl) rfl rfl rfl rfl rfl) ?_
 refine zd ?_
 refine zb ?_
 refine nK ?_
 refine za ?_
 refine zc ?_
 refine zbq ?_
 refine zb ?_
 refine nK ?_
 refine n_cond _ rfl (fun hb => ?_) (fun hb => ?_)
 ·refine nK ?_
  refine za ?_
  refine zbg ?_
  refine zg ?_
  refine ze ?_
  refine zb ?_
  refine nK ?_
  refine Next.weakS [4] [] (by rfl) (keeps0 hC _) (G' := [(4, .ptr 0 15 0 0), (5, BV false)]) (H' := [(0, OA zeroA)]) wG (by exact ⟨⟨rfl, rfl, .fflat _ _ _ rfl tW⟩, trivial⟩) rfl ?_
  exact wO hC
 exfalso; simp at hb
theorem get_some (db : List Lsa) (k : KeyA) (hn : lenOk db.length) (j : Nat) (hj : j < db.length) (h : idxGo (fun x => decide (keyA x.h = k)) 0 db = (j : Int)) (hn1 : db[j].ls.length ≤ 40000000) (hn2 : db[j].att.length ≤ 40000000) : Meets Tryz.prog 47 [.fz (VA db), .fz (.agg (encK k))] 0 [] (.tup [aggA db[j] 0, BV true]) [(0, OLk db[j].ls)] 1 := by
 have hix := indexA_c db k hn
 rw [h] at hix
 have hr1 := row_at' encA db j hj
 generalize db[j] = l at *
 have hcl := clone_a l hn1 hn2
 refine Meets.intro Tryz.func47 rfl (Nat.le_of_ble_eq_true rfl) fun C hC => ?_
 simp only [List.map, argEnv, Nat.reduceAdd]
 refine nK ?_
 refine za ?_
 refine zu ?_
 refine zo ?_
 refine ze ?_
 refine zb ?_
 refine nK ?_
 refine za ?_
 refine zc ?_
 refine zm ?_
 refine zdq ?_
 refine zeb ?_
 refine Run.eff (dd := some 11) rfl rfl (op_call (n := 0) (n' := 0) [] (fun _ => hix) rfl (Opd.func _) (oS (oT rfl) (oS (oT rfl) Opds.nil)) rfl rfl (Lent.of rfl rfl wHI26a rfl) rfl rfl rfl rfl rfl) ?_
 refine zd ?_
 refine zb ?_
 refine nK ?_
 refine za ?_
 refine zc ?_
 refine zbq ?_
 refine zb ?_
 refine nK ?_
 refine n_cond _ rfl (fun hb => ?_) (fun hb => ?_)
 ·exfalso; simp at hb; omega
 refine Next.toRefs 1 rfl rfl ?_
 refine nK ?_
 refine za ?_
 refine zc ?_
 refine zc ?_
 refine zr ?_
 refine zv ?_
 refine Run.eff (dd := some 19) rfl rfl (op_call (n := 0) (n' := 1) [] (fun _ => hcl) rfl (Opd.func _) (oS (oT rfl) Opds.nil) rfl rfl (Lent.of rfl rfl wHI26a rfl) rfl rfl rfl rfl rfl) ?_
 refine zcb ?_
 refine ze ?_
 refine zb ?_
 refine nK ?_
 exact n_outW2 [2] [] rfl tVP tVP rfl (keeps0 hC _) ⟨wS, trivial⟩ wN (.inl ⟨rfl, rfl⟩) (.inl ⟨rfl, rfl⟩) rfl
theorem stubs_a (db : List Lsa) (r : Int) (hn : lenOk db.length) (hl : ∀ x ∈ db, x.ls.length ≤ 40000000 ∧ x.att.length ≤ 40000000) : Pure Tryz.prog 24 [VA db, If .u32 r] (VL (stubsA db r)) := by
 have hk := keyL_c ⟨1, r, 0, r, 0, 0, 0⟩
 rcases idx_ge (fun x : Lsa => decide (keyA x.h = kOf r)) db 0 with ⟨h1, h2⟩ | ⟨j, hj, h1, h2, h3⟩
 ·have e : stubsA db r = [] := by
   unfold stubsA
   rw [List.find?_eq_none.2 (fun x hx => by rw [h2 x hx]; decide)]
  have hg := get_none db (kOf r) hn h1
  rw [e]
  refine Meets.intro Tryz.func24 rfl (Nat.le_of_ble_eq_true rfl) fun C hC => ?_
  simp only [List.map, argEnv, Nat.reduceAdd]
  refine nK ?_
  refine za ?_
  refine ze ?_
  refine zb ?_
  refine nK ?_
  refine za ?_
  refine zc ?_
  refine zc ?_
  refine zc ?_
  refine zek ?_
  refine rpZ 12 rfl (op_call_pure (fun _ => hk) rfl (Opd.func _) (oS (oT rfl) Opds.nil)) ?_
  refine rpZ 13 rfl (op_call_pure (fun _ => hg) rfl (Opd.func _) (oS (oT rfl) (oS (oT rfl) Opds.nil))) ?_
  refine zc ?_
  refine zi ?_
  refine zi ?_
  refine zo ?_
  refine zg ?_
  refine zd ?_
  refine zb ?_
  refine nK ?_
  refine za ?_
  refine zc ?_
  refine zbj ?_
  refine zc ?_
  refine zp ?_
  refine zck ?_
  refine zs ?_
  refine zds ?_
  refine zbd ?_
  refine zb ?_
  refine nK ?_
  refine n_cond _ rfl (fun hb => ?_) (fun hb => ?_)
  ·refine nK ?_
   refine za ?_
   refine ze ?_
   refine zb ?_
   refine nK ?_
   refine Next.adopt 4 4 rfl ?_
   refine Next.weakS [4] [4] (by rfl) (keeps0 hC _) (G' := [(4, .fz (VL []))]) (H' := []) wF trivial rfl ?_
   exact wO hC
  exfalso; simp at hb
 rw [Nat.zero_add] at h1
 obtain ⟨hl1, hl2⟩ := hl db[j] (List.getElem_mem hj)
 have hg := get_some db (kOf r) hn j hj h1 hl1 hl2
 have e : stubsA db r = if 3600 ≤ db[j].h.ag then [] else stubsL db[j].ls := by
  have hf : db.find? (fun x => decide (keyA x.h = kOf r)) = some db[j] := List.find?_eq_some_iff_getElem.2 ⟨h2, j, hj, rfl, fun m hm => by simpa using h3 m hm⟩
  unfold stubsA
  rw [hf]
 generalize db[j] = l at *
 have hde := deleteL_c l.ls hl1 50 [] (fun x => decide (x.k ≠ 3)) stubsP_c
 have hks : keepL (fun x : Lnk => decide (x.k ≠ 3)) l.ls = stubsL l.ls := by
  unfold keepL stubsL
  congr 1; funext x; simp
 rw [hks] at hde
 rw [e]
 refine Meets.intro Tryz.func24 rfl (Nat.le_of_ble_eq_true rfl) fun C hC => ?_
 simp only [List.map, argEnv, Nat.reduceAdd]
 refine nK ?_
 refine za ?_
 refine ze ?_
 refine zb ?_
 refine nK ?_
 refine za ?_
 refine zc ?_
 refine zc ?_
 refine zc ?_
 refine zek ?_
 refine rpZ 12 rfl (op_call_pure (fun _ => hk) rfl (Opd.func _) (oS (oT rfl) Opds.nil)) ?_
 refine Run.eff (dd := some 13) rfl rfl (op_call (n := 0) (n' := 1) [] (fun _ => hg) rfl (Opd.func _) (oS (oT rfl) (oS (oT rfl) Opds.nil)) rfl rfl (Lent.of rfl rfl wHI26a rfl) rfl rfl rfl rfl rfl) ?_
 refine zc ?_
 refine rpZ 14 rfl (op_extract rfl (oT rfl) rfl) ?_
 refine rpZ 15 rfl (op_extract rfl (oT rfl) rfl) ?_
 refine zec ?_
 refine zcb ?_
 refine zd ?_
 refine zb ?_
 refine nK ?_
 refine za ?_
 refine zc ?_
 refine zbj ?_
 refine zc ?_
 refine zp ?_
 refine zck ?_
 refine zdk ?_
 refine zds ?_
 refine zbd ?_
 refine zb ?_
 refine nK ?_
 refine n_cond _ rfl (fun hb => ?_) (fun hb => ?_)
 ·have ha : 3600 ≤ l.h.ag := by simpa using hb
  rw [if_pos ha]
  refine nK ?_
  refine za ?_
  refine ze ?_
  refine zb ?_
  refine nK ?_
  refine Next.adopt 4 4 rfl ?_
  refine Next.weakS [4] [4] (by rfl) (keeps0 hC _) (G' := [(4, .fz (VL []))]) (H' := []) wF trivial rfl ?_
  exact wO hC
 have ha : ¬ 3600 ≤ l.h.ag := by simpa using hb
 rw [if_neg ha]
 refine nK ?_
 refine za ?_
 refine zf ?_
 refine zbb ?_
 refine Run.eff (dd := some 26) rfl rfl (op_call (n := 1) (n' := 1) [0] (fun _ => hde) rfl (Opd.func _) (oS (oT rfl) (oS (Opd.funcF _) Opds.nil)) rfl rfl (Lent.of rfl rfl wHI26a rfl) rfl rfl rfl rfl rfl) ?_
 refine zd ?_
 refine zb ?_
 refine nK ?_
 exact wO hC
open Go Go.RT Go.Proofs Go.Pl
set_option maxRecDepth 20000
set_option maxHeartbeats 4000000
theorem wHI27a {α : Prop} (h : α := by repeat (first | exact trivial | refine ⟨wS, ?_⟩ | refine ⟨ent_same rfl rfl (rfEq rfl tU) tL, ?_⟩ | refine ⟨ent_same rfl rfl (flEq rfl (by first | (simp; done) | (simp; omega) | (simp [encA, encH, encL, encU, encK, encV, encR, encE]; done) | simp [maxC, minC])) trivial, ?_⟩)) : α := h
theorem counted_f (db : List Lsa) (k : Int) (hn : db.length ≤ 40000000) : Meets Tryz.prog 71 ([VA db, If .i64 k].map PV.fz) 0 [] (.sl 0 15 0 (cntL k db).length) [(0, some (.flat 15 ((cntL k db).map encA)))] 1 := by
 refine Meets.intro Tryz.func71 rfl (Nat.le_of_ble_eq_true rfl) fun C hC => ?_
 simp only [List.map, argEnv, Nat.reduceAdd]
 refine nK ?_
 refine za ?_
 refine ze ?_
 refine zb ?_
 refine nK ?_
 refine za ?_
 refine ze ?_
 refine zb ?_
 refine nK ?_
 refine Next.adopt 5 15 rfl ?_
 refine nK ?_
 refine za ?_
 refine zc ?_
 refine zk ?_
 refine zx ?_
 refine zb ?_
 refine nK ?_
 refine n_loop (ι := Nat × List Lsa) (fun p => ([(1, IV .i64 k), (5, .sl 0 15 0 p.2.length), (8, .fz (VA db)), (9, IV .i64 db.length), (10, IV .i64 p.1)], [(0, some (.flat 15 (p.2.map encA)))], 1)) (fun p => p.1 ≤ db.length ∧ p.2 = cntL k (db.take p.1)) (fun p => db.length - p.1) (0, []) ⟨Nat.zero_le _, by simp [cntL]⟩ ?_ ?_
 ·refine Next.weakS [5] [] (by rfl) (wK hC) wG wHI27a rfl (rel_intro)
 intro ⟨i, c⟩ ⟨hi, hS⟩ K hK
 dsimp only at hi hS ⊢
 have hcl : c.length ≤ i := by rw [hS]; exact Nat.le_trans (cnt_len _ _) (by simp; omega)
 refine nK ?_
 refine za ?_
 refine zn ?_
 refine zb ?_
 refine nK ?_
 refine n_cond _ rfl (fun hb => ?_) (fun hb => ?_)
 ·have hlt : i < db.length := by simp at hb; omega
  have hr1 := row_at' encA db i hlt
  have hst := cnt_take (k := k) hlt
  have hK1 := fun c' h => hK (i + 1, c') ⟨by dsimp only; omega, h⟩ (by dsimp only; omega)
  refine nK ?_
  refine za ?_
  refine zr ?_
  refine zv ?_
  refine zo ?_
  refine zg ?_
  refine zb ?_
  refine nK ?_
  refine za ?_
  refine zf ?_
  refine zf ?_
  refine zh ?_
  refine zc ?_
  refine zbx ?_
  refine zc ?_
  refine zp ?_
  refine zck ?_
  refine zs ?_
  refine zct ?_
  refine zy ?_
  refine zb ?_
  refine nK ?_
  refine n_cond _ rfl (fun hb => ?_) (fun hb => ?_)
  ·rw [if_pos (show cntB k db[i] = true from hb), ← hS] at hst
   have hK2 := hK1 _ hst.symm
   have hel : (c ++ [db[i]]).length = c.length + 1 := by simp
   rw [hel] at hK2
   refine nK ?_
   refine za ?_
   refine zc ?_
   refine zm ?_
   refine zcz ?_
   refine zdd ?_
   refine zd ?_
   refine zb ?_
   refine nK ?_
   refine za ?_
   refine zj ?_
   refine zc ?_
   refine zb ?_
   refine nK ?_
   refine Next.weakS [5] [] (by rfl) (wK hC) wG wHI27a rfl (hK2)
  rw [if_neg (by rw [show cntB k db[i] = false from hb]; decide), ← hS, List.append_nil] at hst
  refine nK ?_
  refine za ?_
  refine zj ?_
  refine zc ?_
  refine zb ?_
  refine nK ?_
  refine Next.weakS [5] [] (by rfl) (wK hC) wG wHI27a rfl ((hK1 c hst.symm))
 have hie : i = db.length := by simp at hb; omega
 rw [hie, List.take_length] at hS
 rw [← hS]
 refine nK ?_
 refine za ?_
 refine zc ?_
 refine zd ?_
 refine zb ?_
 refine nK ?_
 exact wO hC
theorem counted_c (db : List Lsa) (k : Int) (hn : db.length ≤ 40000000) : Pure Tryz.prog 71 [VA db, If .i64 k] (VA (cntL k db)) := (counted_f db k hn).freeze (by simp)
theorem points_c (l : Lsa) (ho : okA l) (hn : l.ls.length ≤ 40000000) : Pure Tryz.prog 72 [.agg (encA l)] (FPts (ptsM l.ls)) := by
 haveI : KEnc Tryz.prog 27 Int ekU (inr .u32) := kenc_int (by kernel_rfl)
 unfold ptsM
 refine Meets.intro Tryz.func72 rfl (Nat.le_of_ble_eq_true rfl) fun C hC => ?_
 simp only [List.map, argEnv, Nat.reduceAdd]
 refine nK ?_
 refine za ?_
 refine zu ?_
 refine ze ?_
 refine zb ?_
 refine nK ?_
 refine za ?_
 refine zeg ?_
 refine zd ?_
 refine zb ?_
 refine nK ?_
 refine za ?_
 refine zf ?_
 refine zh ?_
 refine zk ?_
 refine zx ?_
 refine zb ?_
 refine nK ?_
 refine n_loop (ι := Nat × List (Int × Bool)) (fun p => ([(3, .mp 0), (8, .fz (VL l.ls)), (9, IV .i64 l.ls.length), (10, IV .i64 p.1)], [(0, OMap ekU Bf p.2)], 1)) (fun p => p.1 ≤ l.ls.length ∧ mOk p.2 ∧ ptsGo (l.ls.drop p.1) p.2 = ptsGo l.ls []) (fun p => l.ls.length - p.1) (0, []) ⟨Nat.zero_le _, mOk_nil, rfl⟩ ?_ ?_
 ·refine Next.weakS [3] [] (by rfl) (wK hC) wG wHI27a rfl (rel_intro)
 intro ⟨i, m⟩ ⟨hi, hm, hS⟩ K hK
 dsimp only at hi hm hS ⊢
 refine nK ?_
 refine za ?_
 refine zn ?_
 refine zb ?_
 refine nK ?_
 refine n_cond _ rfl (fun hb => ?_) (fun hb => ?_)
 ·have hlt : i < l.ls.length := by simp at hb; omega
  have hr1 := row_at' encL l.ls i hlt
  have hkk := (ho.2.1 l.ls[i] (List.getElem_mem hlt)).2.1
  rw [pts_step hlt] at hS
  have hK1 := fun m' h1 h2 => hK (i + 1, m') ⟨by dsimp only; omega, h1, h2⟩ (by dsimp only; omega)
  refine nK ?_
  refine za ?_
  refine zr ?_
  refine zv ?_
  refine zo ?_
  refine zg ?_
  refine zb ?_
  refine nK ?_
  refine za ?_
  refine zf ?_
  refine zh ?_
  refine zba ?_
  refine zb ?_
  refine nK ?_
  refine n_cond _ rfl (fun hb => ?_) (fun hb => ?_)
  ·rw [if_pos hb] at hS
   refine nK ?_
   refine za ?_
   refine zc ?_
   refine zf ?_
   refine zh ?_
   refine Run.eff (dd := none) rfl rfl (op_mapPut (κ := Int) (ν := Bool) (ek := ekU) (ev := Bf) (l := m) (k := l.ls[i].id) (v := true) (.inl rfl) (oT rfl) (oT rfl) oC rfl hm.1 hm.2 hkk) ?_
   refine zb ?_
   refine nK ?_
   refine za ?_
   refine zj ?_
   refine zc ?_
   refine zb ?_
   refine nK ?_
   refine Next.weakS [3] [] (by rfl) (wK hC) wG wHI27a rfl ((hK1 _ (hm.put hkk true) hS))
  rw [if_neg (by rw [hb]; decide)] at hS
  refine nK ?_
  refine za ?_
  refine zj ?_
  refine zc ?_
  refine zb ?_
  refine nK ?_
  refine Next.weakS [3] [] (by rfl) (wK hC) wG wHI27a rfl ((hK1 _ hm hS))
 have hie : i = l.ls.length := by simp at hb; omega
 rw [hie, List.drop_length] at hS
 rw [← hS]
 simp only [ptsGo]
 refine nK ?_
 refine za ?_
 refine zc ?_
 refine zd ?_
 refine zb ?_
 refine nK ?_
 refine Next.weakS [] [2] (by rfl) (keeps0 hC _) (G' := [(2, .fz (FPts m))]) (H' := []) (by exact ⟨⟨_, rfl, .inr ⟨_, rfl, .mp _ _ _ rfl rfl⟩⟩, trivial⟩) trivial rfl ?_
 exact wO hC
theorem add_c (m : List (Int × Int)) (es l : List Edg) (hn : es.length + l.length ≤ 40000000) : Meets Tryz.prog 73 [.ptr 0 2 0 0, .fz (VE l)] 3 [(0, some (.refs 2 [[.mp 1, .sl 2 3 0 es.length]])), (1, OMap ekU evI m), (2, OE es)] (.fz (.tup [])) [(0, some (.refs 2 [[.mp 1, .sl 3 3 0 (es.length + l.length)]])), (1, OMap ekU evI m), (3, OE (es ++ l))] 4 := by
 refine Meets.intro Tryz.func73 rfl (Nat.le_of_ble_eq_true rfl) fun C hC => ?_
 simp only [List.map, argEnv, Nat.reduceAdd]
 refine nK ?_
 refine za ?_
 refine zc ?_
 refine zc ?_
 refine zw ?_
 refine zf ?_
 refine zbb ?_
 refine zc ?_
 refine zed ?_
 refine zw ?_
 refine zf ?_
 refine zcb ?_
 refine zb ?_
 rw [List.length_map, ← List.map_append]
 refine Next.weak [0, 1, 2, 3] [] (by rfl) (keepsN hC _ rfl) (G' := []) (H' := [(0, some (.refs 2 [[.mp 1, .sl 3 3 0 (es.length + l.length)]])), (1, OMap ekU evI m), (3, OE (es ++ l))]) trivial wR wN ?_
 exact n_out0 rfl
open Go Go.RT Go.Proofs Go.Pl
set_option maxRecDepth 20000
set_option maxHeartbeats 4000000
abbrev gO (r : Nat) (a b : Nat) : Option Ob := some (.refs 5 [[IV .i64 0, IV .i64 0, .fz (.lit (.slice none 0 0)), .sl 5 1 0 a, .sl 6 3 0 b]])
theorem build_c (db : List Lsa) (hn : db.length ≤ 400) (ho : ∀ x ∈ db, okA x) (hl : ∀ x ∈ db, x.ls.length ≤ 64 ∧ x.att.length ≤ 64) : Pure Tryz.prog 40 [VA db] (.tup [.agg (encR (buildF db).1), If .i64 (buildF db).2]) := by
 haveI : KEnc Tryz.prog 27 Int ekU (inr .u32) := kenc_int (by kernel_rfl)
 unfold buildF
 have hc1 := counted_c db 1 (by omega)
 have hc2 := counted_c db 2 (by omega)
 have hR : (cntL 1 db).length ≤ 400 := Nat.le_trans (cnt_len 1 db) hn
 have hN : (cntL 2 db).length ≤ 400 := Nat.le_trans (cnt_len 2 db) hn
 have hro : ∀ x ∈ cntL 1 db, okA x := fun x hx => ho x (List.mem_filter.1 hx).1
 have hno : ∀ x ∈ cntL 2 db, okA x := fun x hx => ho x (List.mem_filter.1 hx).1
 have hrl : ∀ x ∈ cntL 1 db, x.ls.length ≤ 64 ∧ x.att.length ≤ 64 := fun x hx => hl x (List.mem_filter.1 hx).1
 have hnl : ∀ x ∈ cntL 2 db, x.ls.length ≤ 64 ∧ x.att.length ≤ 64 := fun x hx => hl x (List.mem_filter.1 hx).1
 generalize cntL 1 db = rs at *
 generalize cntL 2 db = ns at *
 clear ho hl
 refine Meets.intro Tryz.func40 rfl (Nat.le_of_ble_eq_true rfl) fun C hC => ?_
 simp only [List.map, argEnv, Nat.reduceAdd]
 refine nK ?_
 refine s_reg rfl ?_
 refine Run.eff (dd := some 2) rfl rfl (op_alloc rfl rfl rfl rfl) ?_
 refine rpZ 3 rfl (op_assign rfl oC) ?_
 refine rnZ ?_
 refine nK ?_
 refine s_reg rfl ?_
 refine rmZ 23 rfl rfl rfl ?_
 refine rpZ 24 rfl (op_call_pure (fun _ => hc1) rfl (Opd.func _) (oS (oT rfl) (oS oC Opds.nil))) ?_
 refine rmZ 25 rfl rfl rfl ?_
 refine rpZ 26 rfl (op_call_pure (fun _ => hc2) rfl (Opd.func _) (oS (oT rfl) (oS oC Opds.nil))) ?_
 refine raZ 4 rfl rfl rfl ?_
 refine raZ 5 rfl rfl rfl ?_
 refine rnZ ?_
 refine nK ?_
 refine s_reg rfl ?_
 refine Run.eff (dd := some 6) rfl rfl (op_allocP rfl rfl rfl rfl rfl) ?_
 refine rnZ ?_
 refine nK ?_
 refine s_reg rfl ?_
 refine Run.eff (dd := some 27) rfl rfl (op_makeMap rfl) ?_
 refine rpZ 28 rfl (op_buildP rfl rfl rfl rfl (FillP.cons _ _ _ _ _ _ _ _ _ _ (by rfl) (oT rfl) tP (by rfl) tR (FillP.nil _))) ?_
 refine Run.eff (dd := some 29) rfl rfl (op_box_refs rfl (oT rfl) tP rfl) ?_
 refine raZ 7 rfl rfl rfl ?_
 refine rnZ ?_
 refine nK ?_
 refine s_reg rfl ?_
 refine Run.eff (dd := some 30) rfl rfl (op_makeMap rfl) ?_
 refine raZ 8 rfl rfl rfl ?_
 refine rnZ ?_
 refine nK ?_
 refine Next.adoptCell 1 0 3 1 rfl rfl rfl rfl ?_
 refine Next.adoptCell 1 0 4 3 rfl rfl rfl rfl ?_
 refine Next.adoptCell 3 0 1 3 rfl rfl rfl rfl ?_
 refine nK ?_
 refine s_reg rfl ?_
 refine rmZ 31 rfl rfl rfl ?_
 refine rpZ 32 rfl (op_len_fz rfl (by first | exact Opd.tmp _ _ rfl | exact Opd.nil _ _ (oT rfl)) (by first | exact List.length_map _ | rfl)) ?_
 refine rpZ 33 rfl (op_move rfl oC) ?_
 refine rnZ ?_
 refine nK ?_
 refine n_loop (ι := Nat × List (Int × Int) × List (Int × List (Int × Bool))) (fun p => ([(2, .ptr 0 5 0 0), (4, .fz (VA rs)), (5, .fz (VA ns)), (6, .ptr 1 5 0 0), (7, .ptr 3 2 0 0), (8, .mp 4), (31, .fz (VA rs)), (32, IV .i64 rs.length), (33, IV .i64 p.1)], [(0, OR zeroR), (1, some (.refs 5 [[IV .i64 0, IV .i64 0, .fz (.lit (.slice none 0 0)), .sl 5 1 0 p.1, .sl 6 3 0 0]])), (2, OMap ekU evI p.2.1), (3, some (.refs 2 [[.mp 2, .sl 7 3 0 0]])), (4, OMap ekU FPts p.2.2), (5, some (.flat 1 (((rs.take p.1).map fun l => l.h.rt).map encU))), (6, some (.flat 3 [])), (7, some (.flat 3 []))], 8)) (fun p => p.1 ≤ rs.length ∧ mOk p.2.1 ∧ mOk p.2.2 ∧ (∀ q ∈ p.2.1, inr .i64 q.2) ∧ (∀ q ∈ p.2.2, mOk q.2) ∧ nodesGo p.1 (rs.drop p.1) p.2.1 = nodesGo 0 rs [] ∧ towGo (rs.drop p.1) p.2.2 = towGo rs []) (fun p => rs.length - p.1) (0, [], []) ⟨Nat.zero_le _, mOk_nil, mOk_nil, by simp, by simp, rfl, rfl⟩ ?_ ?_
 ·refine Next.weak [0, 1, 2, 3, 4, 5, 6, 7] [] (by rfl) (keeps0 hC _) (by repeat (first | exact trivial | refine ⟨⟨_, rfl, .inl ⟨rfl, rfl⟩⟩, ?_⟩ | refine ⟨⟨_, rfl, .inl ⟨slEq rfl tN, rfl⟩⟩, ?_⟩ | refine ⟨⟨_, rfl, .inl ⟨ivEq tX, rfl⟩⟩, ?_⟩)) (by exact ⟨⟨rfl, rfl, .fflat _ _ _ rfl tW⟩, ⟨ent_same rfl rfl rfl tL, ⟨ent_same rfl rfl rfl tL, ⟨ent_same rfl rfl rfl tL, ⟨ent_same rfl rfl rfl tL, ⟨ent_same rfl rfl rfl tL, ⟨ent_same rfl rfl rfl tL, ⟨ent_same rfl rfl rfl tL, trivial⟩⟩⟩⟩⟩⟩⟩⟩) (fun _ h => by simp at h) (rel_intro)
 ·intro ⟨i, nm, tm⟩ ⟨hi, hm1, hm2, hm3, hm4, hS1, hS2⟩ K hK
  dsimp only at hi hm1 hm2 hm3 hm4 hS1 hS2 ⊢
  refine nK ?_
  refine s_reg rfl ?_
  refine rpZ 34 rfl (op_lss rfl (oT rfl) (oT rfl)) ?_
  refine rnZ ?_
  refine nK ?_
  refine n_cond _ rfl (fun hb => ?_) (fun hb => ?_)
  ·have hlt : i < rs.length := by simp at hb; omega
   have hr1 := row_at' encA rs i hlt
   have hol := hro rs[i] (List.getElem_mem hlt)
   have hll := hrl rs[i] (List.getElem_mem hlt)
   have hpt := points_c rs[i] hol (by omega)
   have hkr : inr .u32 rs[i].h.rt := hol.1.2.2.2.1
   rw [nodes_step hlt] at hS1
   rw [tow_step hlt] at hS2
   have hK1 := fun (a : ∀ q ∈ mput nm rs[i].h.rt (i : Int), inr .i64 q.2) (b : ∀ q ∈ mput tm rs[i].h.rt (ptsM rs[i].ls), mOk q.2) => hK (i + 1, mput nm rs[i].h.rt (i : Int), mput tm rs[i].h.rt (ptsM rs[i].ls)) ⟨by dsimp only; omega, hm1.put hkr _, hm2.put hkr _, a, b, hS1, hS2⟩ (by dsimp only; omega)
   dsimp only at hK1
   have e5 : ((rs.take (i + 1)).map fun l => l.h.rt).map encU = ((rs.take i).map fun l => l.h.rt).map encU ++ [encU rs[i].h.rt] := by rw [List.take_succ_eq_append_getElem hlt, List.map_append, List.map_append]; rfl
   rw [e5] at hK1
   refine nK ?_
   refine s_reg rfl ?_
   refine rmZ 35 rfl rfl rfl ?_
   refine rpZ 36 rfl (op_idx_fz _ rfl (oT rfl) (oT rfl) tF) ?_
   refine rpZ 37 rfl (op_loadw_fz rfl (oT rfl) rfl) ?_
   refine Run.eff (dd := some 10) rfl rfl (op_alloc rfl rfl rfl rfl) ?_
   refine raZ 9 rfl rfl rfl ?_
   refine Run.eff (dd := none) rfl rfl (op_store_flat rfl (oT rfl) (oT rfl) tC rfl rfl (by first | rfl | assumption) tS) ?_
   refine rnZ ?_
   refine nK ?_
   refine s_reg rfl ?_
   refine rpZ 38 rfl (op_fld_ptr (by decide) rfl (oT rfl)) ?_
   refine rlZ 39 rfl (op_load1_refs rfl (oT rfl) tH rfl) ?_
   refine rpZ 40 rfl (op_fld_ptr (by decide) rfl (oT rfl)) ?_
   refine rpZ 41 rfl (op_fld_ptr (by decide) rfl (oT rfl)) ?_
   refine rlZ 42 rfl (op_load1_flat rfl (oT rfl) tH rfl) ?_
   refine rpZ 43 rfl (op_buildSlice_fz rfl (RowsF.cons _ _ _ _ _ _ (oT rfl) tC (by rfl) (RowsF.nil _)) rfl rfl) ?_
   refine Run.eff (dd := some 44) rfl rfl (op_append rfl (oT rfl) (oT rfl) rfl (by simp; omega) rfl rfl tB tB) ?_
   refine rpZ 45 rfl (op_fld_ptr (by decide) rfl (oT rfl)) ?_
   refine Run.eff (dd := none) rfl rfl (op_store_refs rfl (oT rfl) (oT rfl) tP rfl rfl rfl tS) ?_
   refine rnZ ?_
   refine nK ?_
   refine s_draw mixed ?_
   refine rmZ 46 rfl rfl rfl ?_
   refine rpZ 47 rfl (op_nilck_ptr rfl (oT rfl)) ?_
   refine rpZ 48 rfl (op_fld_ptr (by decide) rfl (oT rfl)) ?_
   refine rlZ 49 rfl (op_load1_refs rfl (oT rfl) tH rfl) ?_
   refine rpZ 50 rfl (op_fld_ptr (by decide) rfl (oT rfl)) ?_
   refine rpZ 51 rfl (op_fld_ptr (by decide) rfl (oT rfl)) ?_
   refine rlZ 52 rfl (op_load1_flat rfl (oT rfl) tH rfl) ?_
   refine rmZ 53 rfl rfl rfl ?_
   refine Run.effW (dd := none) rfl rfl (op_mapPut (κ := Int) (ν := Int) (ek := ekU) (ev := evI) (l := nm) (k := rs[i].h.rt) (v := (i : Int)) (.inl rfl) (oT rfl) (oT rfl) (oT rfl) rfl hm1.1 hm1.2 hkr) tE ?_
   refine Run.nil (FinD.mk (by kernel_rfl) ?_)
   refine nK ?_
   refine s_draw mixed ?_
   refine rmZ 54 rfl rfl rfl ?_
   refine rpZ 55 rfl (op_fld_ptr (by decide) rfl (oT rfl)) ?_
   refine rpZ 56 rfl (op_fld_ptr (by decide) rfl (oT rfl)) ?_
   refine rlZ 57 rfl (op_load1_flat rfl (oT rfl) tH rfl) ?_
   refine rlZ 58 rfl (op_loadw_flat rfl (oT rfl) tH rfl) ?_
   refine rpZ 59 rfl (op_call_pure (fun _ => hpt) rfl (Opd.func _) (oS (oT rfl) Opds.nil)) ?_
   refine Run.effW (dd := none) rfl rfl (op_mapPut (κ := Int) (ν := List (Int × Bool)) (ek := ekU) (ev := FPts) (l := tm) (k := rs[i].h.rt) (v := ptsM rs[i].ls) (.inl rfl) (oT rfl) (oT rfl) (oT rfl) rfl hm2.1 hm2.2 hkr) tE ?_
   refine Run.nil (FinD.mk (by kernel_rfl) ?_)
   refine nK ?_
   refine s_reg rfl ?_
   refine rpZ 60 rfl (op_add rfl (oT rfl) oC tI) ?_
   refine rmZ 33 rfl rfl rfl ?_
   refine rnZ ?_
   refine nK ?_
   refine Next.weak [0, 1, 2, 3, 4, 9, 6, 7] [] (by rfl) (keeps0 hC _) (by repeat (first | exact trivial | refine ⟨⟨_, rfl, .inl ⟨rfl, rfl⟩⟩, ?_⟩ | refine ⟨⟨_, rfl, .inl ⟨slEq rfl tN, rfl⟩⟩, ?_⟩ | refine ⟨⟨_, rfl, .inl ⟨ivEq tX, rfl⟩⟩, ?_⟩)) (by exact ⟨ent_same rfl rfl rfl tL, ⟨ent_same rfl rfl rfl tL, ⟨ent_same rfl rfl rfl tL, ⟨ent_same rfl rfl rfl tL, ⟨ent_same rfl rfl rfl tL, ⟨ent_same rfl rfl rfl tL, ⟨ent_same rfl rfl rfl tL, ⟨ent_same rfl rfl rfl tL, trivial⟩⟩⟩⟩⟩⟩⟩⟩) (fun _ h => by simp at h) (hK1 ?_ ?_)
   ·intro q hq
    rcases mput_vals _ _ _ _ hq with e | e
    ·rw [e]; simp only [inr]; omega
    ·exact hm3 q e
   ·intro q hq
    rcases mput_vals _ _ _ _ hq with e | e
    ·rw [e]; exact pts_ok _ _ hol.2.1 mOk_nil
    ·exact hm4 q e
  ·have hie : i = rs.length := by simp at hb; omega
   subst hie
   rw [List.drop_length] at hS1 hS2
   have hS1' : nm = nodesGo 0 rs [] := hS1
   have hS2' : tm = towGo rs [] := hS2
   rw [List.take_length]
   unfold buildG edgesG
   rw [← hS1', ← hS2']
   clear hK hS1 hS2 hS1' hS2'
   refine nK ?_
   refine s_reg rfl ?_
   refine rmZ 61 rfl rfl rfl ?_
   refine rpZ 62 rfl (op_len_fz rfl (by first | exact Opd.tmp _ _ rfl | exact Opd.nil _ _ (oT rfl)) (by first | exact List.length_map _ | rfl)) ?_
   refine rpZ 63 rfl (op_move rfl oC) ?_
   refine rnZ ?_
   refine nK ?_
   refine n_loop (ι := Nat) (fun j => ([(2, .ptr 0 5 0 0), (4, .fz (VA rs)), (5, .fz (VA ns)), (6, .ptr 1 5 0 0), (7, .ptr 3 2 0 0), (8, .mp 4), (61, .fz (VA ns)), (62, IV .i64 ns.length), (63, IV .i64 j)], [(0, OR zeroR), (1, some (.refs 5 [[IV .i64 0, IV .i64 0, .fz (.lit (.slice none 0 0)), .sl 5 1 0 rs.length, .sl 6 3 0 j]])), (2, OMap ekU evI nm), (3, some (.refs 2 [[.mp 2, .sl 7 3 0 0]])), (4, OMap ekU FPts tm), (5, some (.flat 1 ((rs.map fun l => l.h.rt).map encU))), (6, some (.flat 3 (((ns.take j).map netOf).map encV))), (7, some (.flat 3 []))], 8)) (fun j => j ≤ ns.length) (fun j => ns.length - j) 0 (Nat.zero_le _) ?_ ?_
   ·refine Next.weak [0, 1, 2, 3, 4, 5, 6, 7] [] (by rfl) (keeps0 hC _) (by repeat (first | exact trivial | refine ⟨⟨_, rfl, .inl ⟨rfl, rfl⟩⟩, ?_⟩ | refine ⟨⟨_, rfl, .inl ⟨slEq rfl tN, rfl⟩⟩, ?_⟩ | refine ⟨⟨_, rfl, .inl ⟨ivEq tX, rfl⟩⟩, ?_⟩)) (by exact ⟨ent_same rfl rfl rfl tL, ⟨ent_same rfl rfl rfl tL, ⟨ent_same rfl rfl rfl tL, ⟨ent_same rfl rfl rfl tL, ⟨ent_same rfl rfl rfl tL, ⟨ent_same rfl rfl rfl tL, ⟨ent_same rfl rfl rfl tL, ⟨ent_same rfl rfl rfl tL, trivial⟩⟩⟩⟩⟩⟩⟩⟩) (fun _ h => by simp at h) (rel_intro)
   ·intro j hj K hK
    refine nK ?_
    refine s_reg rfl ?_
    refine rpZ 64 rfl (op_lss rfl (oT rfl) (oT rfl)) ?_
    refine rnZ ?_
    refine nK ?_
    refine n_cond _ rfl (fun hb => ?_) (fun hb => ?_)
    ·have hlt : j < ns.length := by simp at hb; omega
     have hr1 := row_at' encA ns j hlt
     have hK1 := hK (j + 1) (by omega) (by omega)
     dsimp only at hK1
     have e5 : ((ns.take (j + 1)).map netOf).map encV = ((ns.take j).map netOf).map encV ++ [encV (netOf ns[j])] := by rw [List.take_succ_eq_append_getElem hlt, List.map_append, List.map_append]; rfl
     rw [e5] at hK1
     refine nK ?_
     refine s_reg rfl ?_
     refine rpZ 65 rfl (op_idx_fz _ rfl (oT rfl) (oT rfl) tF) ?_
     refine rpZ 66 rfl (op_loadw_fz rfl (oT rfl) rfl) ?_
     refine Run.eff (dd := some 12) rfl rfl (op_alloc rfl rfl rfl rfl) ?_
     refine Run.eff (dd := none) rfl rfl (op_store_flat rfl (oT rfl) (oT rfl) tC rfl rfl (by first | rfl | assumption) tS) ?_
     refine rnZ ?_
     refine nK ?_
     refine s_reg rfl ?_
     refine rpZ 67 rfl (op_fld_ptr (by decide) rfl (oT rfl)) ?_
     refine rlZ 68 rfl (op_load1_refs rfl (oT rfl) tH rfl) ?_
     refine rpZ 69 rfl (op_fld_ptr (by decide) rfl (oT rfl)) ?_
     refine rpZ 70 rfl (op_fld_ptr (by decide) rfl (oT rfl)) ?_
     refine rlZ 71 rfl (op_load1_flat rfl (oT rfl) tH rfl) ?_
     refine rpZ 72 rfl (op_fld_ptr (by decide) rfl (oT rfl)) ?_
     refine rpZ 73 rfl (op_fld_ptr (by decide) rfl (oT rfl)) ?_
     refine rlZ 74 rfl (op_load1_flat rfl (oT rfl) tH rfl) ?_
     refine rpZ 75 rfl (op_fld_ptr (by decide) rfl (oT rfl)) ?_
     refine rpZ 76 rfl (op_fld_ptr (by decide) rfl (oT rfl)) ?_
     refine rlZ 77 rfl (op_load1_flat rfl (oT rfl) tH rfl) ?_
     refine rpZ 78 rfl (op_build rfl rfl rfl (FillF.cons _ _ _ _ _ _ _ _ _ _ (by rfl) (oT rfl) tC (by rfl) tR (FillF.cons _ _ _ _ _ _ _ _ _ _ (by rfl) (oT rfl) tC (by rfl) tR (FillF.cons _ _ _ _ _ _ _ _ _ _ (by rfl) (oT rfl) tC (by rfl) tR (FillF.nil _))))) ?_
     refine rpZ 79 rfl (op_buildSlice_fz rfl (RowsF.cons _ _ _ _ _ _ (oT rfl) tC (by rfl) (RowsF.nil _)) rfl rfl) ?_
     refine Run.eff (dd := some 80) rfl rfl (op_append rfl (oT rfl) (oT rfl) rfl (by simp; omega) rfl rfl tB tB) ?_
     refine rpZ 81 rfl (op_fld_ptr (by decide) rfl (oT rfl)) ?_
     refine Run.eff (dd := none) rfl rfl (op_store_refs rfl (oT rfl) (oT rfl) tP rfl rfl rfl tS) ?_
     refine rnZ ?_
     refine nK ?_
     refine s_reg rfl ?_
     refine rpZ 82 rfl (op_add rfl (oT rfl) oC tI) ?_
     refine rmZ 63 rfl rfl rfl ?_
     refine rnZ ?_
     refine nK ?_
     refine Next.weak [0, 1, 2, 3, 4, 5, 9, 7] [] (by rfl) (keeps0 hC _) (by repeat (first | exact trivial | refine ⟨⟨_, rfl, .inl ⟨rfl, rfl⟩⟩, ?_⟩ | refine ⟨⟨_, rfl, .inl ⟨slEq rfl tN, rfl⟩⟩, ?_⟩ | refine ⟨⟨_, rfl, .inl ⟨ivEq tX, rfl⟩⟩, ?_⟩)) (by exact ⟨ent_same rfl rfl rfl tL, ⟨ent_same rfl rfl rfl tL, ⟨ent_same rfl rfl rfl tL, ⟨ent_same rfl rfl rfl tL, ⟨ent_same rfl rfl rfl tL, ⟨ent_same rfl rfl rfl tL, ⟨ent_same rfl rfl rfl tL, ⟨ent_same rfl rfl rfl tL, trivial⟩⟩⟩⟩⟩⟩⟩⟩) (fun _ h => by simp at h) hK1
    ·have hie : j = ns.length := by simp at hb; omega
     subst hie
     rw [List.take_length]
     clear hK
     have hEl : (rowE nm tm rs.length ns 0 rs).length ≤ rs.length * 51200 := rowE_len hN rs 0 (fun x hx => (hrl x hx).1)
     have hEl2 : rs.length * 51200 ≤ 400 * 51200 := Nat.mul_le_mul_right _ hR
     generalize hE : rowE nm tm rs.length ns 0 rs = E at *
     refine nK ?_
     refine s_reg rfl ?_
     refine rmZ 83 rfl rfl rfl ?_
     refine rpZ 84 rfl (op_len_fz rfl (by first | exact Opd.tmp _ _ rfl | exact Opd.nil _ _ (oT rfl)) (by first | exact List.length_map _ | rfl)) ?_
     refine rpZ 85 rfl (op_move rfl oC) ?_
     refine rnZ ?_
     refine nK ?_
     refine n_loop (ι := Nat × List Edg) (fun p => ([(2, .ptr 0 5 0 0), (4, .fz (VA rs)), (5, .fz (VA ns)), (6, .ptr 1 5 0 0), (7, .ptr 3 2 0 0), (8, .mp 4), (83, .fz (VA rs)), (84, IV .i64 rs.length), (85, IV .i64 p.1)], [(0, OR zeroR), (1, some (.refs 5 [[IV .i64 0, IV .i64 0, .fz (.lit (.slice none 0 0)), .sl 5 1 0 rs.length, .sl 6 3 0 ns.length]])), (2, OMap ekU evI nm), (3, some (.refs 2 [[.mp 2, .sl 7 3 0 p.2.length]])), (4, OMap ekU FPts tm), (5, some (.flat 1 ((rs.map fun l => l.h.rt).map encU))), (6, some (.flat 3 ((ns.map netOf).map encV))), (7, OE p.2)], 8)) (fun p => p.1 ≤ rs.length ∧ p.2 ++ rowE nm tm rs.length ns p.1 (rs.drop p.1) = E) (fun p => rs.length - p.1) (0, []) ⟨Nat.zero_le _, hE⟩ ?_ ?_
     ·refine Next.weak [0, 1, 2, 3, 4, 5, 6, 7] [] (by rfl) (keeps0 hC _) (by repeat (first | exact trivial | refine ⟨⟨_, rfl, .inl ⟨rfl, rfl⟩⟩, ?_⟩ | refine ⟨⟨_, rfl, .inl ⟨slEq rfl tN, rfl⟩⟩, ?_⟩ | refine ⟨⟨_, rfl, .inl ⟨ivEq tX, rfl⟩⟩, ?_⟩)) (by exact ⟨ent_same rfl rfl rfl tL, ⟨ent_same rfl rfl rfl tL, ⟨ent_same rfl rfl rfl tL, ⟨ent_same rfl rfl rfl tL, ⟨ent_same rfl rfl rfl tL, ⟨ent_same rfl rfl rfl tL, ⟨ent_same rfl rfl rfl tL, ⟨ent_same rfl rfl rfl tL, trivial⟩⟩⟩⟩⟩⟩⟩⟩) (fun _ h => by simp at h) (rel_intro)
     ·intro ⟨i, es⟩ ⟨hi, hS⟩ K hK
      dsimp only at hi hS ⊢
      refine nK ?_
      refine s_reg rfl ?_
      refine rpZ 86 rfl (op_lss rfl (oT rfl) (oT rfl)) ?_
      refine rnZ ?_
      refine nK ?_
      refine n_cond _ rfl (fun hb => ?_) (fun hb => ?_)
      ·have hlt : i < rs.length := by simp at hb; omega
       have hr1 := row_at' encA rs i hlt
       have hll := hrl rs[i] (List.getElem_mem hlt)
       have hol := hro rs[i] (List.getElem_mem hlt)
       rw [row_step hlt, ← List.append_assoc] at hS
       have hK1 := fun es' h => hK (i + 1, es') ⟨by dsimp only; omega, h⟩ (by dsimp only; omega)
       dsimp only at hK1
       generalize rs[i] = l at *
       have hkr : inr .u32 l.h.rt := hol.1.2.2.2.1
       generalize hM : es ++ l.ls.flatMap (lnkE nm tm rs.length ns i l.h.rt) = M at *
       have hMl : M.length ≤ 40000000 - 10 := by have := congrArg List.length hS; simp at this; omega
       refine nK ?_
       refine s_reg rfl ?_
       refine rmZ 87 rfl rfl rfl ?_
       refine rpZ 88 rfl (op_idx_fz _ rfl (oT rfl) (oT rfl) tF) ?_
       refine rpZ 89 rfl (op_loadw_fz rfl (oT rfl) rfl) ?_
       refine Run.eff (dd := some 14) rfl rfl (op_alloc rfl rfl rfl rfl) ?_
       refine raZ 13 rfl rfl rfl ?_
       refine Run.eff (dd := none) rfl rfl (op_store_flat rfl (oT rfl) (oT rfl) tC rfl rfl (by first | rfl | assumption) tS) ?_
       refine rnZ ?_
       refine nK ?_
       refine s_reg rfl ?_
       refine rpZ 90 rfl (op_fld_ptr (by decide) rfl (oT rfl)) ?_
       refine rlZ 91 rfl (op_load1_flat rfl (oT rfl) tH rfl) ?_
       refine rpZ 92 rfl (op_len_fz rfl (by first | exact Opd.tmp _ _ rfl | exact Opd.nil _ _ (oT rfl)) (by first | exact List.length_map _ | rfl)) ?_
       refine rpZ 93 rfl (op_move rfl oC) ?_
       refine rnZ ?_
       refine nK ?_
       refine n_loop (ι := Nat × List Edg) (fun p => ([(2, .ptr 0 5 0 0), (4, .fz (VA rs)), (5, .fz (VA ns)), (6, .ptr 1 5 0 0), (7, .ptr 3 2 0 0), (8, .mp 4), (83, .fz (VA rs)), (84, IV .i64 rs.length), (85, IV .i64 i), (13, IV .i64 i), (14, .ptr 8 15 0 0), (91, .fz (VL l.ls)), (92, IV .i64 l.ls.length), (93, IV .i64 p.1)], [(0, OR zeroR), (1, some (.refs 5 [[IV .i64 0, IV .i64 0, .fz (.lit (.slice none 0 0)), .sl 5 1 0 rs.length, .sl 6 3 0 ns.length]])), (2, OMap ekU evI nm), (3, some (.refs 2 [[.mp 2, .sl 7 3 0 p.2.length]])), (4, OMap ekU FPts tm), (5, some (.flat 1 ((rs.map fun l => l.h.rt).map encU))), (6, some (.flat 3 ((ns.map netOf).map encV))), (7, OE p.2), (8, OA l)], 9)) (fun p => p.1 ≤ l.ls.length ∧ p.2 ++ (l.ls.drop p.1).flatMap (lnkE nm tm rs.length ns i l.h.rt) = M) (fun p => l.ls.length - p.1) (0, es) ⟨Nat.zero_le _, hM⟩ ?_ ?_
       ·refine Next.weak [0, 1, 2, 3, 4, 5, 6, 7, 8] [] (by rfl) (keeps0 hC _) (by repeat (first | exact trivial | refine ⟨⟨_, rfl, .inl ⟨rfl, rfl⟩⟩, ?_⟩ | refine ⟨⟨_, rfl, .inl ⟨slEq rfl tN, rfl⟩⟩, ?_⟩ | refine ⟨⟨_, rfl, .inl ⟨ivEq tX, rfl⟩⟩, ?_⟩)) (by exact ⟨ent_same rfl rfl rfl tL, ⟨ent_same rfl rfl rfl tL, ⟨ent_same rfl rfl rfl tL, ⟨ent_same rfl rfl rfl tL, ⟨ent_same rfl rfl rfl tL, ⟨ent_same rfl rfl rfl tL, ⟨ent_same rfl rfl rfl tL, ⟨ent_same rfl rfl rfl tL, ⟨ent_same rfl rfl rfl tL, trivial⟩⟩⟩⟩⟩⟩⟩⟩⟩) (fun _ h => by simp at h) (rel_intro)
       ·intro ⟨j, ec⟩ ⟨hj, hT⟩ K2 hK2
        dsimp only at hj hT ⊢
        refine nK ?_
        refine s_reg rfl ?_
        refine rpZ 94 rfl (op_lss rfl (oT rfl) (oT rfl)) ?_
        refine rnZ ?_
        refine nK ?_
        refine n_cond _ rfl (fun hb => ?_) (fun hb => ?_)
        ·have hlt2 : j < l.ls.length := by simp at hb; omega
         have hr2 := row_at' encL l.ls j hlt2
         have hox := hol.2.1 l.ls[j] (List.getElem_mem hlt2)
         rw [flatMap_step _ hlt2, ← List.append_assoc] at hT
         have hK3 := fun es' h => hK2 (j + 1, es') ⟨by dsimp only; omega, h⟩ (by dsimp only; omega)
         dsimp only at hK3
         generalize l.ls[j] = x at *
         have hkx : inr .u32 x.id := hox.2.1
         have hpm : mOk ((mget tm x.id).getD []) := by
          cases hg : mget tm x.id with
          | none => exact mOk_nil
          | some v => exact hm4 _ (mget_mem hg)
         have hTl : (ec ++ lnkE nm tm rs.length ns i l.h.rt x).length ≤ 40000000 - 10 := by have := congrArg List.length hT; simp at this ⊢; omega
         have hLE : lnkE nm tm rs.length ns i l.h.rt x = lnkE nm tm rs.length ns i l.h.rt x := rfl
         conv at hLE => rhs; unfold lnkE
         refine nK ?_
         refine s_reg rfl ?_
         refine rpZ 95 rfl (op_idx_fz _ rfl (oT rfl) (oT rfl) tF) ?_
         refine rpZ 96 rfl (op_loadw_fz rfl (oT rfl) rfl) ?_
         refine Run.eff (dd := some 16) rfl rfl (op_alloc rfl rfl rfl rfl) ?_
         refine Run.eff (dd := none) rfl rfl (op_store_flat rfl (oT rfl) (oT rfl) tC rfl rfl (by first | rfl | assumption) tS) ?_
         refine rnZ ?_
         refine nK ?_
         refine s_draw mixed ?_
         refine rmZ 98 rfl rfl rfl ?_
         refine rpZ 99 rfl (op_nilck_ptr rfl (oT rfl)) ?_
         refine rpZ 100 rfl (op_fld_ptr (by decide) rfl (oT rfl)) ?_
         refine rlZ 101 rfl (op_load1_refs rfl (oT rfl) tH rfl) ?_
         refine rpZ 102 rfl (op_fld_ptr (by decide) rfl (oT rfl)) ?_
         refine rlZ 103 rfl (op_load1_flat rfl (oT rfl) tH rfl) ?_
         refine rlZ 104 rfl (op_lookup2 (κ := Int) (ν := Int) (ek := ekU) (ev := evI) (l := nm) (k := x.id) 0 rfl (oT rfl) (oT rfl) rfl (by intro _; exact ⟨hm1.1, hm1.2, hkx⟩) (fun w S => .lit _)) ?_
         refine rmZ 97 rfl rfl rfl ?_
         refine rpZ 105 rfl (op_extract_fz rfl (oT rfl) rfl) ?_
         refine rpZ 106 rfl (op_extract_fz rfl (oT rfl) rfl) ?_
         refine raZ 17 rfl rfl rfl ?_
         refine raZ 18 rfl rfl rfl ?_
         refine Run.nil (FinD.mk (by kernel_rfl) ?_)
         refine nK ?_
         refine s_reg rfl ?_
         refine rpZ 108 rfl (op_fld_ptr (by decide) rfl (oT rfl)) ?_
         refine rlZ 109 rfl (op_load1_flat rfl (oT rfl) tH rfl) ?_
         refine rpZ 110 rfl (op_eql rfl (oT rfl) oC) ?_
         refine rmZ 111 rfl rfl rfl ?_
         refine gmZ 112 rfl rfl tG rfl rfl ?_
         refine rpZ 113 rfl (op_pick_and rfl (oT rfl) (oO rfl tO)) ?_
         refine rmZ 114 rfl rfl rfl ?_
         refine gmZ 115 rfl rfl tG rfl rfl ?_
         refine rgZ 116 rfl rfl tG (op_fld_ptr (by decide) rfl (oT rfl)) ?_
         refine rkZ 117 rfl rfl tG (op_load1_flat rfl (oO rfl tO) tH rfl) ?_
         refine rkZ 118 rfl rfl tG (op_lookup (κ := Int) (ν := List (Int × Bool)) (ek := ekU) (ev := FPts) (l := tm) (k := x.id) [] rfl (oO rfl tO) (oO rfl tO) rfl (by intro _; exact ⟨hm2.1, hm2.2, hkx⟩) (fun w S => .mapn)) ?_
         refine rgZ 119 rfl rfl tG (op_fld_ptr (by decide) rfl (oT rfl)) ?_
         refine rgZ 120 rfl rfl tG (op_fld_ptr (by decide) rfl (oO rfl tO)) ?_
         refine rkZ 121 rfl rfl tG (op_load1_flat rfl (oO rfl tO) tH rfl) ?_
         refine rgZ 122 rfl rfl tG (op_lookupF (κ := Int) (ν := Bool) (ek := ekU) (ev := Bf) (l := (mget tm x.id).getD []) (k := l.h.rt) false rfl (oO rfl tO) (oO rfl tO) (by intro _; exact ⟨hpm.1, hpm.2, hkr⟩) (fun w S => .lit _)) ?_
         refine rpZ 123 rfl (op_pick_and rfl (oT rfl) (oO rfl tO)) ?_
         refine raZ 107 rfl rfl rfl ?_
         refine rnZ ?_
         refine nK ?_
         refine n_cond _ rfl (fun hb => ?_) (fun hb => ?_)
         ·rw [ifT hb] at hLE
          rw [hLE] at hT hTl
          have hK4 := hK3 _ hT
          have hel : (ec ++ ([⟨(i : Int), (mget nm x.id).getD 0, x.c⟩] : List Edg)).length = ec.length + 1 := by simp
          rw [hel] at hK4
          refine nK ?_
          refine s_reg rfl ?_
          refine rmZ 124 rfl rfl rfl ?_
          refine rmZ 125 rfl rfl rfl ?_
          refine rmZ 126 rfl rfl rfl ?_
          refine rpZ 127 rfl (op_fld_ptr (by decide) rfl (oT rfl)) ?_
          refine rlZ 128 rfl (op_load1_flat rfl (oT rfl) tH rfl) ?_
          refine rpZ 129 rfl (op_build rfl rfl rfl (FillF.cons _ _ _ _ _ _ _ _ _ _ (by rfl) (oT rfl) tC (by rfl) tR (FillF.cons _ _ _ _ _ _ _ _ _ _ (by rfl) (oT rfl) tC (by rfl) tR (FillF.cons _ _ _ _ _ _ _ _ _ _ (by rfl) (oT rfl) tC (by rfl) tR (FillF.nil _))))) ?_
          refine rpZ 130 rfl (op_buildSlice_fz rfl (RowsF.cons _ _ _ _ _ _ (oT rfl) tC (by rfl) (RowsF.nil _)) rfl rfl) ?_
          refine Run.eff (dd := some 131) rfl rfl (op_call (n := 3) (n' := 4) [3, 2, 7] (fun _ => add_c nm ec ([⟨(i : Int), (mget nm x.id).getD 0, x.c⟩] : List Edg) (by simp; simp at hTl; omega)) rfl (Opd.func _) (oS (oT rfl) (oS (oT rfl) Opds.nil)) rfl rfl (Lent.of rfl rfl (by repeat (first | exact trivial | refine ⟨⟨rfl, rfl, rfl, tL⟩, ?_⟩)) rfl) rfl rfl rfl rfl rfl) ?_
          refine rnZ ?_
          refine nK ?_
          refine s_reg rfl ?_
          refine rpZ 173 rfl (op_add rfl (oT rfl) oC tI) ?_
          refine rmZ 93 rfl rfl rfl ?_
          refine rnZ ?_
          refine nK ?_
          refine Next.weak [0, 1, 2, 3, 4, 5, 6, 10, 8] [] (by rfl) (keeps0 hC _) (by repeat (first | exact trivial | refine ⟨⟨_, rfl, .inl ⟨rfl, rfl⟩⟩, ?_⟩ | refine ⟨⟨_, rfl, .inl ⟨slEq rfl tN, rfl⟩⟩, ?_⟩ | refine ⟨⟨_, rfl, .inl ⟨ivEq tX, rfl⟩⟩, ?_⟩)) (by exact ⟨ent_same rfl rfl rfl tL, ⟨ent_same rfl rfl rfl tL, ⟨ent_same rfl rfl rfl tL, ⟨ent_same rfl rfl rfl tL, ⟨ent_same rfl rfl rfl tL, ⟨ent_same rfl rfl rfl tL, ⟨ent_same rfl rfl rfl tL, ⟨ent_same rfl rfl rfl tL, ⟨ent_same rfl rfl rfl tL, trivial⟩⟩⟩⟩⟩⟩⟩⟩⟩) (fun _ h => by simp at h) (hK4)
         ·rw [ifF hb] at hLE
          refine nK ?_
          refine s_reg rfl ?_
          refine rpZ 133 rfl (op_fld_ptr (by decide) rfl (oT rfl)) ?_
          refine rlZ 134 rfl (op_load1_flat rfl (oT rfl) tH rfl) ?_
          refine rpZ 135 rfl (op_eql rfl (oT rfl) oC) ?_
          refine raZ 132 rfl rfl rfl ?_
          refine rnZ ?_
          refine nK ?_
          refine n_cond _ rfl (fun hb => ?_) (fun hb => ?_)
          ·rw [ifT hb] at hLE
           rw [hLE] at hT hTl
           generalize hM2 : ec ++ netE rs.length i l.h.rt x 0 ns = M2 at *
           refine nK ?_
           refine s_reg rfl ?_
           refine rmZ 136 rfl rfl rfl ?_
           refine rpZ 137 rfl (op_len_fz rfl (by first | exact Opd.tmp _ _ rfl | exact Opd.nil _ _ (oT rfl)) (by first | exact List.length_map _ | rfl)) ?_
           refine rpZ 138 rfl (op_move rfl oC) ?_
           refine rnZ ?_
           refine nK ?_
           refine n_loop (ι := Nat × List Edg) (fun p => ([(2, .ptr 0 5 0 0), (4, .fz (VA rs)), (5, .fz (VA ns)), (6, .ptr 1 5 0 0), (7, .ptr 3 2 0 0), (8, .mp 4), (83, .fz (VA rs)), (84, IV .i64 rs.length), (85, IV .i64 i), (13, IV .i64 i), (14, .ptr 8 15 0 0), (91, .fz (VL l.ls)), (92, IV .i64 l.ls.length), (93, IV .i64 j), (16, .ptr 9 4 0 0), (136, .fz (VA ns)), (137, IV .i64 ns.length), (138, IV .i64 p.1)], [(0, OR zeroR), (1, some (.refs 5 [[IV .i64 0, IV .i64 0, .fz (.lit (.slice none 0 0)), .sl 5 1 0 rs.length, .sl 6 3 0 ns.length]])), (2, OMap ekU evI nm), (3, some (.refs 2 [[.mp 2, .sl 7 3 0 p.2.length]])), (4, OMap ekU FPts tm), (5, some (.flat 1 ((rs.map fun l => l.h.rt).map encU))), (6, some (.flat 3 ((ns.map netOf).map encV))), (7, OE p.2), (8, OA l), (9, some (.flat 4 [encL x]))], 10)) (fun p => p.1 ≤ ns.length ∧ p.2 ++ netE rs.length i l.h.rt x p.1 (ns.drop p.1) = M2) (fun p => ns.length - p.1) (0, ec) ⟨Nat.zero_le _, hM2⟩ ?_ ?_
           ·refine Next.weak [0, 1, 2, 3, 4, 5, 6, 7, 8, 9] [] (by rfl) (keeps0 hC _) (by repeat (first | exact trivial | refine ⟨⟨_, rfl, .inl ⟨rfl, rfl⟩⟩, ?_⟩ | refine ⟨⟨_, rfl, .inl ⟨slEq rfl tN, rfl⟩⟩, ?_⟩ | refine ⟨⟨_, rfl, .inl ⟨ivEq tX, rfl⟩⟩, ?_⟩)) (by exact ⟨ent_same rfl rfl rfl tL, ⟨ent_same rfl rfl rfl tL, ⟨ent_same rfl rfl rfl tL, ⟨ent_same rfl rfl rfl tL, ⟨ent_same rfl rfl rfl tL, ⟨ent_same rfl rfl rfl tL, ⟨ent_same rfl rfl rfl tL, ⟨ent_same rfl rfl rfl tL, ⟨ent_same rfl rfl rfl tL, ⟨ent_same rfl rfl rfl tL, trivial⟩⟩⟩⟩⟩⟩⟩⟩⟩⟩) (fun _ h => by simp at h) (rel_intro)
           ·intro ⟨k, ed⟩ ⟨hk, hU⟩ K3 hK5
            dsimp only at hk hU ⊢
            refine nK ?_
            refine s_reg rfl ?_
            refine rpZ 139 rfl (op_lss rfl (oT rfl) (oT rfl)) ?_
            refine rnZ ?_
            refine nK ?_
            refine n_cond _ rfl (fun hb => ?_) (fun hb => ?_)
            ·have hlt3 : k < ns.length := by simp at hb; omega
             have hr3 := row_at' encA ns k hlt3
             have hnk := hnl ns[k] (List.getElem_mem hlt3)
             rw [net_step hlt3, ← List.append_assoc] at hU
             have hK6 := fun es' h => hK5 (k + 1, es') ⟨by dsimp only; omega, h⟩ (by dsimp only; omega)
             dsimp only at hK6
             generalize ns[k] = nd at *
             have hna : lenOk nd.att.length := by unfold lenOk; omega
             refine nK ?_
             refine s_reg rfl ?_
             refine rmZ 140 rfl rfl rfl ?_
             refine rpZ 141 rfl (op_idx_fz _ rfl (oT rfl) (oT rfl) tF) ?_
             refine rpZ 142 rfl (op_loadw_fz rfl (oT rfl) rfl) ?_
             refine Run.eff (dd := some 20) rfl rfl (op_alloc rfl rfl rfl rfl) ?_
             refine raZ 19 rfl rfl rfl ?_
             refine Run.eff (dd := none) rfl rfl (op_store_flat rfl (oT rfl) (oT rfl) tC rfl rfl (by first | rfl | assumption) tS) ?_
             refine rnZ ?_
             refine nK ?_
             refine s_reg rfl ?_
             refine rmZ 143 rfl rfl rfl ?_
             refine rpZ 144 rfl (op_len_fz rfl (by first | exact Opd.tmp _ _ rfl | exact Opd.nil _ _ (oT rfl)) (by first | exact List.length_map _ | rfl)) ?_
             refine rmZ 145 rfl rfl rfl ?_
             refine rpZ 146 rfl (op_add rfl (oT rfl) (oT rfl) tI) ?_
             refine raZ 21 rfl rfl rfl ?_
             refine rnZ ?_
             refine nK ?_
             refine s_reg rfl ?_
             refine rpZ 147 rfl (op_fld_ptr (by decide) rfl (oT rfl)) ?_
             refine rpZ 148 rfl (op_fld_ptr (by decide) rfl (oT rfl)) ?_
             refine rlZ 149 rfl (op_load1_flat rfl (oT rfl) tH rfl) ?_
             refine rpZ 150 rfl (op_fld_ptr (by decide) rfl (oT rfl)) ?_
             refine rlZ 151 rfl (op_load1_flat rfl (oT rfl) tH rfl) ?_
             refine rpZ 152 rfl (op_eql rfl (oT rfl) (oT rfl)) ?_
             refine rmZ 153 rfl rfl rfl ?_
             refine rgZ 154 rfl rfl tG (op_fld_ptr (by decide) rfl (oT rfl)) ?_
             refine rkZ 155 rfl rfl tG (op_load1_flat rfl (oO rfl tO) tH rfl) ?_
             refine rgZ 156 rfl rfl tG (op_fld_ptr (by decide) rfl (oT rfl)) ?_
             refine rgZ 157 rfl rfl tG (op_fld_ptr (by decide) rfl (oO rfl tO)) ?_
             refine rkZ 158 rfl rfl tG (op_load1_flat rfl (oO rfl tO) tH rfl) ?_
             refine rgZ 159 rfl rfl tG (op_call_pure (fun _ => scont_c _ _ (by assumption)) rfl (Opd.func _) (oS (oO rfl tO) (oS (oO rfl tO) Opds.nil))) ?_
             refine rpZ 160 rfl (op_pick_and rfl (oT rfl) (oO rfl tO)) ?_
             refine rnZ ?_
             refine nK ?_
             refine n_cond _ rfl (fun hb => ?_) (fun hb => ?_)
             ·rw [ifT hb] at hU
              have hTl : (ed ++ ([⟨(i : Int), (rs.length : Int) + k, x.c⟩, ⟨(rs.length : Int) + k, (i : Int), 0⟩] : List Edg)).length ≤ 40000000 - 10 := by have := congrArg List.length hU; simp at this ⊢; omega
              have hK7 := hK6 _ hU
              have hel : (ed ++ ([⟨(i : Int), (rs.length : Int) + k, x.c⟩, ⟨(rs.length : Int) + k, (i : Int), 0⟩] : List Edg)).length = ed.length + 2 := by simp
              rw [hel] at hK7
              refine nK ?_
              refine s_reg rfl ?_
              refine rmZ 161 rfl rfl rfl ?_
              refine rmZ 162 rfl rfl rfl ?_
              refine rmZ 163 rfl rfl rfl ?_
              refine rpZ 164 rfl (op_fld_ptr (by decide) rfl (oT rfl)) ?_
              refine rlZ 165 rfl (op_load1_flat rfl (oT rfl) tH rfl) ?_
              refine rpZ 166 rfl (op_build rfl rfl rfl (FillF.cons _ _ _ _ _ _ _ _ _ _ (by rfl) (oT rfl) tC (by rfl) tR (FillF.cons _ _ _ _ _ _ _ _ _ _ (by rfl) (oT rfl) tC (by rfl) tR (FillF.cons _ _ _ _ _ _ _ _ _ _ (by rfl) (oT rfl) tC (by rfl) tR (FillF.nil _))))) ?_
              refine rmZ 167 rfl rfl rfl ?_
              refine rmZ 168 rfl rfl rfl ?_
              refine rpZ 169 rfl (op_build rfl rfl rfl (FillF.cons _ _ _ _ _ _ _ _ _ _ (by rfl) (oT rfl) tC (by rfl) tR (FillF.cons _ _ _ _ _ _ _ _ _ _ (by rfl) (oT rfl) tC (by rfl) tR (FillF.nil _)))) ?_
              refine rpZ 170 rfl (op_buildSlice_fz rfl (RowsF.cons _ _ _ _ _ _ (oT rfl) tC (by rfl) (RowsF.cons _ _ _ _ _ _ (oT rfl) tC (by rfl) (RowsF.nil _))) rfl rfl) ?_
              refine Run.eff (dd := some 171) rfl rfl (op_call (n := 3) (n' := 4) [3, 2, 7] (fun _ => add_c nm ed ([⟨(i : Int), (rs.length : Int) + k, x.c⟩, ⟨(rs.length : Int) + k, (i : Int), 0⟩] : List Edg) (by simp; simp at hTl; omega)) rfl (Opd.func _) (oS (oT rfl) (oS (oT rfl) Opds.nil)) rfl rfl (Lent.of rfl rfl (by repeat (first | exact trivial | refine ⟨⟨rfl, rfl, rfl, tL⟩, ?_⟩)) rfl) rfl rfl rfl rfl rfl) ?_
              refine rnZ ?_
              refine nK ?_
              refine s_reg rfl ?_
              refine rpZ 172 rfl (op_add rfl (oT rfl) oC tI) ?_
              refine rmZ 138 rfl rfl rfl ?_
              refine rnZ ?_
              refine nK ?_
              refine Next.weak [0, 1, 2, 3, 4, 5, 6, 11, 8, 9] [] (by rfl) (keeps0 hC _) (by repeat (first | exact trivial | refine ⟨⟨_, rfl, .inl ⟨rfl, rfl⟩⟩, ?_⟩ | refine ⟨⟨_, rfl, .inl ⟨slEq rfl tN, rfl⟩⟩, ?_⟩ | refine ⟨⟨_, rfl, .inl ⟨ivEq tX, rfl⟩⟩, ?_⟩)) (by exact ⟨ent_same rfl rfl rfl tL, ⟨ent_same rfl rfl rfl tL, ⟨ent_same rfl rfl rfl tL, ⟨ent_same rfl rfl rfl tL, ⟨ent_same rfl rfl rfl tL, ⟨ent_same rfl rfl rfl tL, ⟨ent_same rfl rfl rfl tL, ⟨ent_same rfl rfl rfl tL, ⟨ent_same rfl rfl rfl tL, ⟨ent_same rfl rfl rfl tL, trivial⟩⟩⟩⟩⟩⟩⟩⟩⟩⟩) (fun _ h => by simp at h) (hK7)
             ·rw [ifF hb, List.append_nil] at hU
              refine nK ?_
              refine s_reg rfl ?_
              refine rpZ 172 rfl (op_add rfl (oT rfl) oC tI) ?_
              refine rmZ 138 rfl rfl rfl ?_
              refine rnZ ?_
              refine nK ?_
              refine Next.weak [0, 1, 2, 3, 4, 5, 6, 7, 8, 9] [] (by rfl) (keeps0 hC _) (by repeat (first | exact trivial | refine ⟨⟨_, rfl, .inl ⟨rfl, rfl⟩⟩, ?_⟩ | refine ⟨⟨_, rfl, .inl ⟨slEq rfl tN, rfl⟩⟩, ?_⟩ | refine ⟨⟨_, rfl, .inl ⟨ivEq tX, rfl⟩⟩, ?_⟩)) (by exact ⟨ent_same rfl rfl rfl tL, ⟨ent_same rfl rfl rfl tL, ⟨ent_same rfl rfl rfl tL, ⟨ent_same rfl rfl rfl tL, ⟨ent_same rfl rfl rfl tL, ⟨ent_same rfl rfl rfl tL, ⟨ent_same rfl rfl rfl tL, ⟨ent_same rfl rfl rfl tL, ⟨ent_same rfl rfl rfl tL, ⟨ent_same rfl rfl rfl tL, trivial⟩⟩⟩⟩⟩⟩⟩⟩⟩⟩) (fun _ h => by simp at h) (hK6 _ hU)
            ·have hie3 : k = ns.length := by simp at hb; omega
             rw [hie3, List.drop_length] at hU
             simp only [netE, List.append_nil] at hU
             subst hU
             refine nK ?_
             refine s_reg rfl ?_
             refine rpZ 173 rfl (op_add rfl (oT rfl) oC tI) ?_
             refine rmZ 93 rfl rfl rfl ?_
             refine rnZ ?_
             refine nK ?_
             refine Next.weak [0, 1, 2, 3, 4, 5, 6, 7, 8] [] (by rfl) (keeps0 hC _) (by repeat (first | exact trivial | refine ⟨⟨_, rfl, .inl ⟨rfl, rfl⟩⟩, ?_⟩ | refine ⟨⟨_, rfl, .inl ⟨slEq rfl tN, rfl⟩⟩, ?_⟩ | refine ⟨⟨_, rfl, .inl ⟨ivEq tX, rfl⟩⟩, ?_⟩)) (by exact ⟨ent_same rfl rfl rfl tL, ⟨ent_same rfl rfl rfl tL, ⟨ent_same rfl rfl rfl tL, ⟨ent_same rfl rfl rfl tL, ⟨ent_same rfl rfl rfl tL, ⟨ent_same rfl rfl rfl tL, ⟨ent_same rfl rfl rfl tL, ⟨ent_same rfl rfl rfl tL, ⟨ent_same rfl rfl rfl tL, trivial⟩⟩⟩⟩⟩⟩⟩⟩⟩) (fun _ h => by simp at h) (hK3 _ hT)
          ·rw [ifF hb] at hLE
           rw [hLE, List.append_nil] at hT
           refine nK ?_
           refine s_reg rfl ?_
           refine rpZ 173 rfl (op_add rfl (oT rfl) oC tI) ?_
           refine rmZ 93 rfl rfl rfl ?_
           refine rnZ ?_
           refine nK ?_
           refine Next.weak [0, 1, 2, 3, 4, 5, 6, 7, 8] [] (by rfl) (keeps0 hC _) (by repeat (first | exact trivial | refine ⟨⟨_, rfl, .inl ⟨rfl, rfl⟩⟩, ?_⟩ | refine ⟨⟨_, rfl, .inl ⟨slEq rfl tN, rfl⟩⟩, ?_⟩ | refine ⟨⟨_, rfl, .inl ⟨ivEq tX, rfl⟩⟩, ?_⟩)) (by exact ⟨ent_same rfl rfl rfl tL, ⟨ent_same rfl rfl rfl tL, ⟨ent_same rfl rfl rfl tL, ⟨ent_same rfl rfl rfl tL, ⟨ent_same rfl rfl rfl tL, ⟨ent_same rfl rfl rfl tL, ⟨ent_same rfl rfl rfl tL, ⟨ent_same rfl rfl rfl tL, ⟨ent_same rfl rfl rfl tL, trivial⟩⟩⟩⟩⟩⟩⟩⟩⟩) (fun _ h => by simp at h) (hK3 _ hT)
        ·have hie2 : j = l.ls.length := by simp at hb; omega
         rw [hie2, List.drop_length] at hT
         simp only [List.flatMap_nil, List.append_nil] at hT
         subst hT
         refine nK ?_
         refine s_reg rfl ?_
         refine rpZ 174 rfl (op_add rfl (oT rfl) oC tI) ?_
         refine rmZ 85 rfl rfl rfl ?_
         refine rnZ ?_
         refine nK ?_
         refine Next.weak [0, 1, 2, 3, 4, 5, 6, 7] [] (by rfl) (keeps0 hC _) (by repeat (first | exact trivial | refine ⟨⟨_, rfl, .inl ⟨rfl, rfl⟩⟩, ?_⟩ | refine ⟨⟨_, rfl, .inl ⟨slEq rfl tN, rfl⟩⟩, ?_⟩ | refine ⟨⟨_, rfl, .inl ⟨ivEq tX, rfl⟩⟩, ?_⟩)) (by exact ⟨ent_same rfl rfl rfl tL, ⟨ent_same rfl rfl rfl tL, ⟨ent_same rfl rfl rfl tL, ⟨ent_same rfl rfl rfl tL, ⟨ent_same rfl rfl rfl tL, ⟨ent_same rfl rfl rfl tL, ⟨ent_same rfl rfl rfl tL, ⟨ent_same rfl rfl rfl tL, trivial⟩⟩⟩⟩⟩⟩⟩⟩) (fun _ h => by simp at h) (hK1 _ hS)
      ·have hie1 : i = rs.length := by simp at hb; omega
       rw [hie1, List.drop_length] at hS
       simp only [rowE, List.append_nil] at hS
       subst hS
       clear hK
       have hokE : okEs es := by rw [← hE]; exact rowE_ok hR hN hm3 rs 0 (by omega) hro
       have hof := of_c (rs.length : Int) (ns.length : Int) es (by simp only [inr]; omega) (by simp only [inr]; omega) hokE (by omega)
       refine nK ?_
       refine s_reg rfl ?_
       refine rpZ 22 rfl (op_assign rfl oC) ?_
       refine rnZ ?_
       refine nK ?_
       refine Next.weak [0, 1, 3, 5, 6] [2, 7] (by rfl) (keeps0 hC _) (G' := [(2, .ptr 0 5 0 0), (4, .fz (VA rs)), (5, .fz (VA ns)), (6, .ptr 1 5 0 0), (7, .ptr 2 2 0 0)]) (H' := [(0, OR zeroR), (1, some (.refs 5 [[IV .i64 0, IV .i64 0, .fz (.lit (.slice none 0 0)), .sl 3 1 0 rs.length, .sl 4 3 0 ns.length]])), (2, some (.flat 2 [[FMap ekU evI nm, VE es]])), (3, some (.flat 1 ((rs.map fun l => l.h.rt).map encU))), (4, some (.flat 3 ((ns.map netOf).map encV)))]) (by repeat (first | exact trivial | refine ⟨⟨_, rfl, .inl ⟨rfl, rfl⟩⟩, ?_⟩ | refine ⟨⟨_, rfl, .inl ⟨slEq rfl tN, rfl⟩⟩, ?_⟩ | refine ⟨⟨_, rfl, .inl ⟨ivEq tX, rfl⟩⟩, ?_⟩)) (by exact ⟨ent_same rfl rfl rfl tL, ⟨ent_same rfl rfl rfl tL, ⟨⟨rfl, rfl, .flat _ _ _ rfl (.cons _ _ _ _ (.cons _ _ _ _ (.mp _ _ _ rfl rfl) (.cons _ _ _ _ (.sl _ _ 0 _ _ _ rfl rfl (take0 rfl (by simp)) (by simp)) .nil)) .nil)⟩, ⟨ent_same rfl rfl rfl tL, ⟨ent_same rfl rfl rfl tL, trivial⟩⟩⟩⟩⟩) (fun id h => by
        have h' : id = 2 ∨ id = 7 := by simpa using h
        rcases h' with rfl | rfl <;> exact ⟨_, rfl⟩) ?_
       refine nK ?_
       refine s_reg rfl ?_
       refine rmZ 176 rfl rfl rfl ?_
       refine rpZ 177 rfl (op_len_fz rfl (by first | exact Opd.tmp _ _ rfl | exact Opd.nil _ _ (oT rfl)) (by first | exact List.length_map _ | rfl)) ?_
       refine rmZ 178 rfl rfl rfl ?_
       refine rpZ 179 rfl (op_len_fz rfl (by first | exact Opd.tmp _ _ rfl | exact Opd.nil _ _ (oT rfl)) (by first | exact List.length_map _ | rfl)) ?_
       refine rmZ 180 rfl rfl rfl ?_
       refine rpZ 181 rfl (op_nilck_ptr rfl (oT rfl)) ?_
       refine rpZ 182 rfl (op_fld_ptr (by decide) rfl (oT rfl)) ?_
       refine rlZ 183 rfl (op_load1_flat rfl (oT rfl) tH rfl) ?_
       refine rpZ 184 rfl (op_call_pure (fun _ => hof) rfl (Opd.func _) (oS (oT rfl) (oS (oT rfl) (oS (oT rfl) Opds.nil)))) ?_
       refine rmZ 175 rfl rfl rfl ?_
       refine rpZ 185 rfl (op_extract_fz rfl (oT rfl) rfl) ?_
       refine rpZ 186 rfl (op_extract_fz rfl (oT rfl) rfl) ?_
       refine rpZ 187 rfl (op_fld_ptr (by decide) rfl (oT rfl)) ?_
       refine Run.eff (dd := none) rfl rfl (op_store_refs rfl (oT rfl) (oT rfl) tP rfl rfl rfl tS) ?_
       refine raZ 22 rfl rfl rfl ?_
       refine rnZ ?_
       refine nK ?_
       refine s_reg rfl ?_
       refine rmZ 188 rfl rfl rfl ?_
       refine rpZ 189 rfl (op_neq rfl (oT rfl) oC) ?_
       refine rnZ ?_
       refine nK ?_
       refine n_cond _ rfl (fun hb => ?_) (fun hb => ?_)
       ·rw [if_pos (by simpa using hb)]
        refine nK ?_
        refine s_reg rfl ?_
        refine rpZ 190 rfl (op_build rfl rfl rfl (FillF.nil _)) ?_
        refine rmZ 191 rfl rfl rfl ?_
        refine Run.eff (dd := none) rfl rfl (op_store_flat rfl (oT rfl) (oT rfl) tC rfl rfl (by first | rfl | assumption) tS) ?_
        refine raZ 3 rfl rfl rfl ?_
        refine rnZ ?_
        refine nK ?_
        refine Next.weak [0] [] (by rfl) (keeps0 hC _) (G' := [(2, .ptr 0 5 0 0), (3, IV .i64 (ofF (rs.length : Int) (ns.length : Int) es).2)]) (H' := [(0, OR zeroR)]) (by repeat (first | exact trivial | refine ⟨⟨_, rfl, .inl ⟨rfl, rfl⟩⟩, ?_⟩ | refine ⟨⟨_, rfl, .inl ⟨slEq rfl tN, rfl⟩⟩, ?_⟩ | refine ⟨⟨_, rfl, .inl ⟨ivEq tX, rfl⟩⟩, ?_⟩)) (by exact ⟨⟨rfl, rfl, .fflat _ _ _ rfl tW⟩, trivial⟩) (fun _ h => by simp at h) ?_
        (first | exact s_o1 hC rfl tV | exact s_o2 hC rfl tV tV | exact s_o3 hC rfl tV tV tV | exact s_o4 hC rfl tV tV tV tV | exact s_out0 hC rfl | exact s_outO hC rfl rfl rfl)
       ·rw [if_neg (by simpa using hb)]
        refine nK ?_
        refine Next.weak [0, 1] [3, 4] (by rfl) (keeps0 hC _) (G' := [(2, .ptr 0 5 0 0), (6, .ptr 1 5 0 0)]) (H' := [(0, OR zeroR), (1, OR ⟨(ofF (rs.length : Int) (ns.length : Int) es).1, rs.map fun l => l.h.rt, ns.map netOf⟩)]) (by repeat (first | exact trivial | refine ⟨⟨_, rfl, .inl ⟨rfl, rfl⟩⟩, ?_⟩ | refine ⟨⟨_, rfl, .inl ⟨slEq rfl tN, rfl⟩⟩, ?_⟩ | refine ⟨⟨_, rfl, .inl ⟨ivEq tX, rfl⟩⟩, ?_⟩)) (by exact ⟨ent_same rfl rfl rfl tL, ⟨⟨rfl, rfl, .flat _ _ _ rfl tW⟩, trivial⟩⟩) (fun id h => by
         have h' : id = 3 ∨ id = 4 := by simpa using h
         rcases h' with rfl | rfl <;> exact ⟨_, rfl⟩) ?_
        refine nK ?_
        refine s_reg rfl ?_
        refine rlZ 192 rfl (op_loadw_flat rfl (oT rfl) tH rfl) ?_
        refine Run.eff (dd := none) rfl rfl (op_store_flat rfl (oT rfl) (oT rfl) tC rfl rfl (by first | rfl | assumption) tS) ?_
        refine rpZ 3 rfl (op_assign rfl oC) ?_
        refine rnZ ?_
        refine nK ?_
        (first | exact s_o1 hC rfl tV | exact s_o2 hC rfl tV tV | exact s_o3 hC rfl tV tV tV | exact s_o4 hC rfl tV tV tV tV | exact s_out0 hC rfl | exact s_outO hC rfl rfl rfl)
end Go.Proofs.YtoeckbdgemnngaaGreat
/- Offers: what the map of the best ones keeps; hops of interfaces that are up. No program in sight. -/
namespace Go.Pl
open Go Go.RT
set_option linter.all false
def ahGo : Nat → List Ifs → List IHop
  | _, [] => []
  | i, s :: l => (if s.up = true then ⟨(i : Int), 0, 0⟩ :: s.nb.map (fun n => ⟨(i : Int), n.ad, n.rt⟩) else []) ++ ahGo (i + 1) l
theorem ahGo_len : ∀ (l : List Ifs) (i : Nat), (∀ s ∈ l, s.nb.length ≤ 1048576) → (ahGo i l).length ≤ l.length * 1048577
  | [], _, _ => by simp [ahGo]
  | s :: l, i, h => by
    have h1 := ahGo_len l (i + 1) fun y hy => h y (List.mem_cons_of_mem _ hy)
    have h2 := h s (List.mem_cons_self ..)
    simp only [ahGo, List.length_append, List.length_cons, Nat.add_mul]
    split
    · simp only [List.length_cons, List.length_map]; omega
    · simp only [List.length_nil]; omega
theorem ahGo_spec {h : IHop} : ∀ {l : List Ifs} {i : Nat}, h ∈ ahGo i l → ∃ j, ∃ hj : j < l.length, l[j].up = true ∧ h.ifc = ((i + j : Nat) : Int)
  | [], _, hm => by simp [ahGo] at hm
  | s :: l, i, hm => by
    simp only [ahGo, List.mem_append] at hm
    rcases hm with hm | hm
    · split at hm
      · rename_i hu
        refine ⟨0, by simp, hu, ?_⟩
        rcases List.mem_cons.1 hm with rfl | hm
        · simp
        · obtain ⟨n, _, rfl⟩ := List.mem_map.1 hm
          simp
      · simp at hm
    · obtain ⟨j, hj, h1, h2⟩ := ahGo_spec hm
      exact ⟨j + 1, by simp; omega, h1, by rw [h2]; simp; omega⟩
theorem acrN_mem {g : AGr} {t : Tr} {s : Ifs} {node i : Int} {n : Nbr} {h : IHop} (hm : h ∈ acrN g t s node i n) : h = ⟨i, n.ad, n.rt⟩ := by
  unfold acrN at hm
  split at hm
  · simp at hm
  · split at hm
    · simpa using hm
    · split at hm
      · obtain ⟨w, _, hw⟩ := List.mem_flatMap.1 hm
        split at hw
        · simpa using hw
        · simp at hw
      · simp at hm
theorem dir1_mem {g : AGr} {t : Tr} {s : Ifs} {node i : Int} {h : IHop} (hm : h ∈ dir1 g t s node i) : s.up = true ∧ (h = ⟨i, 0, 0⟩ ∨ ∃ n ∈ s.nb, h = ⟨i, n.ad, n.rt⟩) := by
  unfold dir1 at hm
  split at hm
  · simp at hm
  · rename_i hu
    have hup : s.up = true := by
      cases hs : s.up with
      | true => rfl
      | false => rw [hs] at hu; simp at hu
    refine ⟨hup, ?_⟩
    split at hm
    · obtain ⟨n, hn, h1⟩ := List.mem_flatMap.1 hm
      exact .inr ⟨n, hn, acrN_mem h1⟩
    · split at hm
      · exact .inl (by simpa using hm)
      · simp at hm
theorem dirGo_mem {g : AGr} {t : Tr} {node : Int} {h : IHop} : ∀ {l : List Ifs} {i : Nat}, h ∈ dirGo g t node i l → h ∈ ahGo i l
  | [], _, hm => by simp [dirGo] at hm
  | s :: l, i, hm => by
    simp only [dirGo, List.mem_append] at hm
    simp only [ahGo, List.mem_append]
    rcases hm with hm | hm
    · obtain ⟨h1, h2⟩ := dir1_mem hm
      refine .inl ?_
      rw [if_pos h1]
      rcases h2 with rfl | ⟨n, hn, rfl⟩
      · exact List.mem_cons_self ..
      · exact List.mem_cons_of_mem _ (List.mem_map.2 ⟨n, hn, rfl⟩)
    · exact .inr (dirGo_mem hm)
theorem ownG_mem {p : Pfx} {h : IHop} : ∀ {l : List Ifs} {i : Nat}, h ∈ ownGoI p i l → h ∈ ahGo i l
  | [], _, hm => by simp [ownGoI] at hm
  | s :: l, i, hm => by
    simp only [ownGoI, List.mem_append] at hm
    simp only [ahGo, List.mem_append]
    rcases hm with hm | hm
    · split at hm
      · rename_i hu
        refine .inl ?_
        rw [if_pos (by simp at hu; exact hu.1)]
        rw [List.mem_singleton.1 hm]
        exact List.mem_cons_self ..
      · simp at hm
    · exact .inr (ownG_mem hm)
def ahF (v : Vw) : List IHop := ahGo 0 v.l
theorem ahF_len {v : Vw} (hv : VwOk v) : (ahF v).length ≤ 50000000 := by
  have h1 := ahGo_len v.l 0 hv.lb
  have h2 := Nat.mul_le_mul_right 1048577 hv.ll
  unfold ahF; omega
theorem hopF_mem {v : Vw} {node : Int} {h : IHop} (hm : h ∈ hopF v node) : h ∈ ahF v := by
  unfold hopF at hm
  rw [mergeH_mem] at hm
  rcases hm with hm | hm
  · obtain ⟨n, _, h1⟩ := List.mem_flatMap.1 hm
    exact dirGo_mem h1
  · simp at hm
theorem hopF_len {v : Vw} (hv : VwOk v) (node : Int) : (hopF v node).length ≤ 50000000 :=
  Nat.le_trans (nodup_le (mergeH_asc _ _).nodup fun x hx => hopF_mem hx) (ahF_len hv)
theorem ownF_mem {v : Vw} {p : Pfx} {h : IHop} (hm : h ∈ ownF v p) : h ∈ ahF v := ownG_mem hm
theorem ownF_len {v : Vw} (hv : VwOk v) (p : Pfx) : (ownF v p).length ≤ 50000000 := by
  have := ownG_len p v.l 0
  have := hv.ll
  unfold ownF; omega
/-- what the map of the best offers keeps -/
structure BOk (A : List IHop) (m : Best) : Prop where
  nd : (m.map (·.1)).Nodup
  ok : ∀ q ∈ m, q.1.ok
  hs : ∀ q ∈ m, q.2.hs.length ≤ 50000000 ∧ ∀ h ∈ q.2.hs, h ∈ A
theorem BOk.nil (A : List IHop) : BOk A [] := ⟨by simp, by simp, by simp⟩
theorem mputs_vals {κ ν : Type} [DecidableEq κ] : ∀ (m : List (κ × ν)) (k : κ) (v : ν) (p : κ × ν), p ∈ mput m k v → p.2 = v ∨ p ∈ m
  | [], k, v, p, h => by simp [mput] at h; subst h; exact .inl rfl
  | q :: r, k, v, p, h => by
    simp only [mput] at h
    by_cases hq : q.1 = k
    · rw [if_pos hq] at h
      rcases List.mem_cons.1 h with rfl | h
      · exact .inl rfl
      · exact .inr (List.mem_cons_of_mem _ h)
    · rw [if_neg hq] at h
      rcases List.mem_cons.1 h with rfl | h
      · exact .inr (List.mem_cons_self ..)
      · exact (mputs_vals r k v p h).imp id (List.mem_cons_of_mem _)
theorem BOk.put {A : List IHop} {m : Best} (h : BOk A m) {p : Pfx} (hp : p.ok) {o : Ofr} (ho : o.hs.length ≤ 50000000 ∧ ∀ x ∈ o.hs, x ∈ A) : BOk A (mput m p o) := by
  refine ⟨mput_nodup h.nd, fun q hq => ?_, fun q hq => ?_⟩
  · rcases mput_keys m _ _ q hq with e | e
    · rw [e]; exact hp
    · exact h.ok q e
  · rcases mputs_vals m _ _ q hq with e | e
    · rw [e]; exact ho
    · exact h.hs q e
theorem mget_getD {m : Best} {Q : Ofr → Prop} (hz : Q zOf) (h : ∀ q ∈ m, Q q.2) (p : Pfx) : Q ((mget m p).getD zOf) := by
  induction m with
  | nil => exact hz
  | cons q m ih =>
    simp only [mget]
    split
    · exact h q (List.mem_cons_self ..)
    · exact ih fun y hy => h y (List.mem_cons_of_mem _ hy)
theorem BOk.get {A : List IHop} {m : Best} (h : BOk A m) (p : Pfx) : ((mget m p).getD zOf).hs.length ≤ 50000000 ∧ ∀ x ∈ ((mget m p).getD zOf).hs, x ∈ A :=
  mget_getD (Q := fun o => o.hs.length ≤ 50000000 ∧ ∀ x ∈ o.hs, x ∈ A) (by simp [zOf]) h.hs p
theorem merge_in {A a b : List IHop} (hA : A.length ≤ 50000000) (ha : ∀ x ∈ a, x ∈ A) (hb : ∀ x ∈ b, x ∈ A) : (mergeH a b).length ≤ 50000000 ∧ ∀ x ∈ mergeH a b, x ∈ A := by
  have hm : ∀ x ∈ mergeH a b, x ∈ A := fun x hx => ((mergeH_mem a b x).1 hx).elim (ha x) (hb x)
  exact ⟨Nat.le_trans (nodup_le (mergeH_asc a b).nodup hm) hA, hm⟩
theorem BOk.add {A : List IHop} (hA : A.length ≤ 50000000) {m : Best} (h : BOk A m) {p : Pfx} (hp : p.ok) {o : Ofr} (ho : o.hs.length ≤ 50000000 ∧ ∀ x ∈ o.hs, x ∈ A) : BOk A (addB m p o) := by
  unfold addB
  split
  · exact h
  · split
    · exact h.put hp ho
    · split
      · exact h.put hp (merge_in hA (h.get p).2 ho.2)
      · exact h
end Go.Pl
namespace Go.Proofs.YtoeckbdgemnngaaGreat
open Go Go.RT Go.Proofs Go.Pl
set_option linter.all false
set_option maxRecDepth 20000
set_option maxHeartbeats 4000000
theorem wf_inr {q : IntKind} {n : Int} (hn : inr q n) : (Lit.int q n).wf = true := by
 cases q <;> simp only [inr] at hn <;> simp [Lit.wf, IntKind.min, IntKind.max, IntKind.bits, IntKind.signed] <;> omega
theorem kl_int {P : Program} {t : TypeId} {q : IntKind} (d : Nat) {n : Int} (hu : P.underlying t = some (.int q)) (hn : inr q n) : P.keyLits (d + 1) t [.int q n] = some [.int q n] := by
 simp [Program.keyLits, hu, wf_inr hn]
theorem kl_pfx (d : Nat) (p : Pfx) (hp : p.ok) : Tryz.prog.keyLits (d + 2) 39 [.int .u32 p.addr, .int .i64 p.len] = some [.int .u32 p.addr, .int .i64 p.len] := by
 have h1 : Tryz.prog.cellsOf 39 = 2 := by kernel_rfl
 have h2 : Tryz.prog.cellsOf 37 = 1 := by kernel_rfl
 have h3 : Tryz.prog.cellsOf 3 = 1 := by kernel_rfl
 have e1 := kl_int (P := Tryz.prog) (t := 37) (q := .u32) (n := p.addr) d (by kernel_rfl) (by have := hp.1; simp only [inr]; omega)
 have e2 := kl_int (P := Tryz.prog) (t := 3) (q := .i64) d (by kernel_rfl) hp.2
 unfold Program.keyLits
 simp [Tryz.underlying39, h1, h2, h3, e1, e2]
abbrev ekP (p : Pfx) : FV := .agg (encP p)
instance kenc_pfx : KEnc Tryz.prog 39 Pfx ekP Pfx.ok where
 keyed := Maps.Keyed.of_law (deep_law (m := 3) (by decide) (by kernel_rfl) (by kernel_rfl) (by kernel_rfl))
 ml := fun _ => rfl
 some := fun p hp => by
  have hs : Tryz.prog.types.size = 269 := by kernel_rfl
  have hk : Tryz.prog.keyType 39 = true := by kernel_rfl
  have h1 : Tryz.prog.cellsOf 39 = 2 := by kernel_rfl
  have e := kl_pfx 268 p hp
  refine ⟨.string (keyBytes [.int .u32 p.addr, .int .i64 p.len]), ?_⟩
  unfold keyOf
  simp [Tryz.underlying39, hk, hs, Value.formed, h1, valF, valFs, encP, If, Value.cells, e]
 inj := fun a b h => by
  simp [valF, valFs, encP, If] at h
  exact Pfx.ext' (by omega) h.2

theorem zOf_rep (w : World) (S : Nat → Prop) : FRep w S (.agg #[.int .i64 0, .slice none 0 0]) (evOf zOf) :=
 zFRep (by exact ⟨.inl rfl, .inr ⟨3, rfl, rfl⟩, trivial⟩) (by rfl) w S
theorem add_b (A : List IHop) (m : Best) (p : Pfx) (o : Ofr) (hm : BOk A m) (hp : p.ok) (ho : o.hs.length ≤ 50000000) : Meets Tryz.prog 21 [.fz (.agg (encP p)), .fz (evOf o), .ptr 0 1 0 0] 2 [(0, some (.refs 1 [[.mp 1]])), (1, OMap ekP evOf m)] (.fz (.tup [])) [(0, some (.refs 1 [[.mp 1]])), (1, OMap ekP evOf (addB m p o))] 2 := by
 have hg := (hm.get p).1
 have hme := mergeI_c ((mget m p).getD zOf).hs o.hs (by omega)
 unfold addB
 refine Meets.intro Tryz.func21 rfl (Nat.le_of_ble_eq_true rfl) fun C hC => ?_
 simp only [List.map, argEnv, Nat.reduceAdd]
 refine nK ?_
 refine za ?_
 refine zu ?_
 refine zu ?_
 refine zb ?_
 refine nK ?_
 refine za ?_
 refine zbb ?_
 refine zm ?_
 refine rlZ 10 rfl (op_lookup2 (κ := Pfx) (ν := Ofr) (ek := ekP) (ev := evOf) (l := m) (k := p) zOf rfl (oT rfl) (oT rfl) rfl (by intro _; exact ⟨hm.nd, hm.ok, hp⟩) zOf_rep) ?_
 refine zc ?_
 refine zi ?_
 refine zi ?_
 refine zo ?_
 refine zg ?_
 refine zd ?_
 refine zb ?_
 refine nK ?_
 refine za ?_
 refine zf ?_
 refine zh ?_
 refine zbu ?_
 refine zd ?_
 refine zb ?_
 refine nK ?_
 refine n_cond _ rfl (fun hb => ?_) (fun hb => ?_)
 ·rw [if_pos (by simpa using hb)]
  refine nK ?_
  refine Next.weak [0, 1] [] (by rfl) (keepsN hC _ rfl) (G' := []) (H' := [(0, some (.refs 1 [[.mp 1]])), (1, OMap ekP evOf m)]) trivial wR wN ?_
  exact n_out0 rfl
 rw [if_neg (by simpa using hb)]
 refine nK ?_
 refine za ?_
 refine zc ?_
 refine zbj ?_
 refine zc ?_
 refine zp ?_
 refine zs ?_
 refine zp ?_
 refine zs ?_
 refine zcv ?_
 refine zbd ?_
 refine zd ?_
 refine zb ?_
 refine nK ?_
 refine n_cond _ rfl (fun hb => ?_) (fun hb => ?_)
 ·rw [if_pos hb]
  refine nK ?_
  refine za ?_
  refine zbb ?_
  refine zm ?_
  refine zm ?_
  refine Run.eff (dd := none) rfl rfl (op_mapPut (κ := Pfx) (ν := Ofr) (ek := ekP) (ev := evOf) (l := m) (k := p) (v := o) (.inl rfl) (oT rfl) (oT rfl) (oT rfl) rfl hm.nd hm.ok hp) ?_
  refine zb ?_
  refine Next.weak [0, 1] [] (by rfl) (keepsN hC _ rfl) (G' := []) (H' := [(0, some (.refs 1 [[.mp 1]])), (1, OMap ekP evOf (mput m p o))]) trivial wR wN ?_
  exact n_out0 rfl
 rw [if_neg (by rw [hb]; decide)]
 refine nK ?_
 refine za ?_
 refine zf ?_
 refine zh ?_
 refine zf ?_
 refine zh ?_
 refine zbx ?_
 refine zd ?_
 refine zb ?_
 refine nK ?_
 refine n_cond _ rfl (fun hb => ?_) (fun hb => ?_)
 ·rw [if_pos (by simpa using hb)]
  refine nK ?_
  refine s_draw mixed ?_
  refine zbb ?_
  refine zm ?_
  refine zf ?_
  refine zh ?_
  refine zf ?_
  refine zh ?_
  refine zf ?_
  refine zh ?_
  refine rpZ 44 rfl (op_call_pure (fun _ => hme) rfl (Opd.func _) (oS (oT rfl) (oS (oT rfl) Opds.nil))) ?_
  refine zbn ?_
  refine Run.effW (dd := none) rfl rfl (op_mapPut (κ := Pfx) (ν := Ofr) (ek := ekP) (ev := evOf) (l := m) (k := p) (v := ⟨o.co, mergeH ((mget m p).getD zOf).hs o.hs⟩) (.inl rfl) (oT rfl) (oT rfl) (oT rfl) rfl hm.nd hm.ok hp) tE ?_
  refine zq ?_
  refine Next.weak [0, 1] [] (by rfl) (keepsN hC _ rfl) (G' := []) (H' := [(0, some (.refs 1 [[.mp 1]])), (1, OMap ekP evOf (mput m p ⟨o.co, mergeH ((mget m p).getD zOf).hs o.hs⟩))]) trivial wR wN ?_
  exact n_out0 rfl
 rw [if_neg (by simpa using hb)]
 refine nK ?_
 refine Next.weak [0, 1] [] (by rfl) (keepsN hC _ rfl) (G' := []) (H' := [(0, some (.refs 1 [[.mp 1]])), (1, OMap ekP evOf m)]) trivial wR wN ?_
 exact n_out0 rfl
open Go Go.RT Go.Proofs Go.Pl
set_option maxRecDepth 20000
set_option maxHeartbeats 4000000
theorem tZk {α : Prop} (h : α := by repeat (first | exact trivial | refine And.intro (.inl rfl) ?_ | refine And.intro (.inr ⟨_, rfl, rfl⟩) ?_)) : α := h
end Go.Proofs.YtoeckbdgemnngaaGreat
namespace Go.Pl
open Go Go.RT
set_option linter.all false
def push (l : List Int) (u : Int) : List Int := if u ∈ l then l else l ++ [u]
/-- a list of nodes, each once -/
def NdL (n : Nat) (l : List Int) : Prop := l.Nodup ∧ ∀ x ∈ l, 0 ≤ x ∧ x < n
theorem NdL.len {n : Nat} {l : List Int} (h : NdL n l) : l.length ≤ n := by
  have := nodup_len n (l.map Int.toNat) (by
    rw [List.Nodup, List.pairwise_map]
    refine h.1.imp_of_mem fun ha hb hab e => hab ?_
    have := h.2 _ ha; have := h.2 _ hb; omega) (fun x hx => by
      obtain ⟨y, hy, rfl⟩ := List.mem_map.1 hx
      have := h.2 y hy; omega)
  simpa using this
theorem NdL.push {n : Nat} {l : List Int} (h : NdL n l) {u : Int} (hu : 0 ≤ u ∧ u < n) : NdL n (push l u) := by
  unfold Pl.push
  split
  · exact h
  · next hm =>
    refine ⟨List.nodup_append.2 ⟨h.1, by simp, fun a ha b hb e => hm ?_⟩, fun x hx => ?_⟩
    · have : b = u := by simpa using hb
      rw [← this, ← e]; exact ha
    · rcases List.mem_append.1 hx with h1 | h1
      · exact h.2 x h1
      · have : x = u := by simpa using h1
        rw [this]; exact hu
open Go Go.RT
theorem isD_low {es : List Edg} {a : Nat} {D : List Int} (h0 : gt0 D a = 0) (he : ∀ e ∈ es, 0 ≤ gt0 D e.f.toNat → 0 ≤ gt0 D e.t.toNat ∧ gt0 D e.t.toNat ≤ gt0 D e.f.toNat + e.c) {v : Nat} {c : Int} (w : Wk es a v c) : 0 ≤ gt0 D v ∧ gt0 D v ≤ c := by
  induction w with
  | nil => omega
  | snoc w h ih => have := he _ h ih.1; omega
theorem isD_cert {es : List Edg} {a n : Nat} {D : List Int} (h0 : gt0 D a = 0) (he : ∀ e ∈ es, 0 ≤ gt0 D e.f.toNat → 0 ≤ gt0 D e.t.toNat ∧ gt0 D e.t.toNat ≤ gt0 D e.f.toNat + e.c) (hw : ∀ v, v < n → gt0 D v = -1 ∨ Wk es a v (gt0 D v)) : ∀ v, v < n → IsD es a v (gt0 D v) := fun v hv => by
  rcases hw v hv with h | h
  · exact .inl ⟨h, fun c w => by have := isD_low h0 he w; omega⟩
  · exact .inr ⟨h, fun c w => (isD_low h0 he w).2⟩
theorem Wk.one {es : List Edg} {a u v : Nat} {c k : Int} (w : Wk es a u c) (f t : Int) (hf : f.toNat = u) (ht : t.toNat = v) (h : ⟨f, t, k⟩ ∈ es) : Wk es a v (c + k) := by
  subst hf; subst ht; exact .snoc w h
open Go Go.RT
theorem merge_mem {n : Nat} {ll : List (List Int)} (h : LLok n ll) (r : Int) {v : Nat} (hv : v < n) (y x : Int) : x ∈ rowAt' (mergeL r v ll y) v ↔ x = capV r v y ∨ x ∈ rowAt' ll v := by
  have e : rowAt' (mergeL r v ll y) v = insU (rowAt' ll v) (capV r v y) := by
    unfold mergeL
    show (ll.set v _).getD v [] = _
    rw [getD_set _ _ _ _ _ (by rw [h.len]; exact hv), if_pos rfl]
  rw [e]; exact (insU_spec (h.row v hv).1 _).2 x
theorem fold_mem {n : Nat} {r : Int} {v : Nat} (hv : v < n) : ∀ (l : List Int) {ll : List (List Int)}, LLok n ll → (∀ x ∈ l, 0 ≤ x ∧ x < n) → ∀ x, x ∈ rowAt' (l.foldl (mergeL r v) ll) v ↔ (∃ h ∈ l, x = capV r v h) ∨ x ∈ rowAt' ll v
  | [], _, _, _, x => by simp
  | y :: l, ll, h, hl, x => by
    have := fold_mem (r := r) hv l (h.merge r hv (hl y (by simp))) (fun z hz => hl z (by simp [hz])) x
    rw [List.foldl_cons, this, merge_mem h r hv]
    constructor
    · rintro (⟨z, hz, e⟩ | e | e)
      · exact .inl ⟨z, by simp [hz], e⟩
      · exact .inl ⟨y, by simp, e⟩
      · exact .inr e
    · rintro (⟨z, hz, e⟩ | e)
      · rcases List.mem_cons.1 hz with rfl | hz
        · exact .inr (.inl e)
        · exact .inl ⟨z, hz, e⟩
      · exact .inr (.inr e)
def Src (r : Int) (a v : Nat) (ll : List (List Int)) (u x : Int) : Prop := (u = (a : Int) ∧ x = capV r v (v : Int)) ∨ ∃ h ∈ rowAt' ll u.toNat, x = capV r v h
theorem step_mem {n : Nat} {r : Int} {a v : Nat} (hv : v < n) {ll : List (List Int)} (h : LLok n ll) {u : Int} (hu : 0 ≤ u ∧ u < n) (x : Int) : x ∈ rowAt' (stepU r a v ll u) v ↔ Src r a v ll u x ∨ x ∈ rowAt' ll v := by
  unfold stepU Src
  by_cases e : u = (a : Int)
  · rw [if_pos e, fold_mem hv _ (h.merge r hv (by omega)) (h.row u.toNat (by omega)).2, merge_mem h r hv]
    constructor
    · rintro (h1 | h1 | h1)
      · exact .inl (.inr h1)
      · exact .inl (.inl ⟨e, h1⟩)
      · exact .inr h1
    · rintro ((⟨_, h1⟩ | h1) | h1)
      · exact .inr (.inl h1)
      · exact .inl h1
      · exact .inr (.inr h1)
  · rw [if_neg e, fold_mem hv _ h (h.row u.toNat (by omega)).2]
    constructor
    · rintro (h1 | h1)
      · exact .inl (.inr h1)
      · exact .inr h1
    · rintro ((⟨h1, _⟩ | h1) | h1)
      · exact absurd h1 e
      · exact .inl h1
      · exact .inr h1
theorem step_other {r : Int} {a v : Nat} {ll : List (List Int)} {u : Int} {w : Nat} (hw : w ≠ v) : rowAt' (stepU r a v ll u) w = rowAt' ll w := by
  unfold stepU
  rw [fold_other hw]
  split
  · exact merge_other _ _ _ _ hw
  · rfl
theorem steps_mem {n : Nat} {r : Int} {a v : Nat} (hv : v < n) : ∀ (l : List Int) {ll : List (List Int)}, LLok n ll → (∀ u ∈ l, 0 ≤ u ∧ u < n ∧ u ≠ (v : Int)) → (∀ x, x ∈ rowAt' (l.foldl (stepU r a v) ll) v ↔ (∃ u ∈ l, Src r a v ll u x) ∨ x ∈ rowAt' ll v) ∧ ∀ w, w ≠ v → rowAt' (l.foldl (stepU r a v) ll) w = rowAt' ll w
  | [], _, _, _ => ⟨fun x => by simp, fun w _ => rfl⟩
  | y :: l, ll, h, hl => by
    have hy := hl y (by simp)
    obtain ⟨i1, i2⟩ := steps_mem (r := r) (a := a) hv l (h.step r hv (u := y) (a := a) (by omega)) (fun z hz => hl z (by simp [hz]))
    refine ⟨fun x => ?_, fun w hw => (i2 w hw).trans (step_other hw)⟩
    have hs : ∀ u ∈ l, ∀ x, Src r a v (stepU r a v ll y) u x ↔ Src r a v ll u x := fun u hu x => by
      unfold Src
      rw [step_other (by have := hl u (by simp [hu]); omega)]
    rw [List.foldl_cons, i1, step_mem hv h (by omega)]
    constructor
    · rintro (⟨z, hz, e⟩ | e | e)
      · exact .inl ⟨z, by simp [hz], (hs z hz x).1 e⟩
      · exact .inl ⟨y, by simp, e⟩
      · exact .inr e
    · rintro (⟨z, hz, e⟩ | e)
      · rcases List.mem_cons.1 hz with rfl | hz
        · exact .inr (.inl e)
        · exact .inl ⟨z, hz, (hs z hz x).2 e⟩
      · exact .inr (.inr e)
structure HopInv (r : Int) (a n : Nat) (up : List (List Int)) (done : List Nat) (ll : List (List Int)) : Prop where
  ok : LLok n ll
  off : ∀ v, v < n → v ∉ done → rowAt' ll v = []
  on : ∀ v ∈ done, ∀ x, x ∈ rowAt' ll v ↔ ∃ u ∈ rowAt' up v, Src r a v ll u x
theorem hops_inv {r : Int} {a n : Nat} {up : List (List Int)} (hup : UpOk n up) : ∀ (l done : List Nat) {ll : List (List Int)}, HopInv r a n up done ll → (∀ v ∈ done, ∀ u ∈ rowAt' up v, u = (a : Int) ∨ u.toNat ∈ done) → a ∉ done → a ∉ l → (∀ v ∈ l, v < n) → (done ++ l).Nodup →
    (∀ p v q, l = p ++ v :: q → ∀ u ∈ rowAt' up v, u = (a : Int) ∨ u.toNat ∈ done ++ p) → HopInv r a n up (done ++ l) (l.foldl (hopsV r a up) ll)
  | [], done, ll, h, _, _, _, _, _, _ => by simpa using h
  | v :: l, done, ll, h, hcl, had, hal, hlt, hnd, htop => by
    have hv := hlt v (by simp)
    have hvd : v ∉ done := fun e => (List.nodup_append.1 hnd).2.2 v e v (by simp) rfl
    have hva : a ≠ v := fun e => hal (by rw [e]; simp)
    obtain ⟨q1, q2⟩ := steps_mem (r := r) (a := a) hv (rowAt' up v) h.ok (fun u hu => (hup.row v hv).2 u hu)
    have hok : LLok n (hopsV r a up ll v) := LLok.steps hv _ h.ok fun x hx => by have := (hup.row v hv).2 x hx; omega
    have hnew : HopInv r a n up (done ++ [v]) (hopsV r a up ll v) := by
      refine ⟨hok, fun w hw hwd => ?_, fun w hw x => ?_⟩
      · have hne : w ≠ v := fun e => hwd (by simp [e])
        exact (q2 w hne).trans (h.off w hw fun e => hwd (by simp [e]))
      · rcases List.mem_append.1 hw with hw | hw
        · have hne : w ≠ v := fun e => hvd (by rw [← e]; exact hw)
          show x ∈ rowAt' (hopsV r a up ll v) w ↔ _
          rw [show rowAt' (hopsV r a up ll v) w = rowAt' ll w from q2 w hne, h.on w hw x]
          refine exists_congr fun u => and_congr_right fun hu => ?_
          unfold Src
          have hut : u.toNat ≠ v := by
            rcases hcl w hw u hu with e | e
            · omega
            · exact fun e2 => hvd (by rw [← e2]; exact e)
          rw [show rowAt' (hopsV r a up ll v) u.toNat = rowAt' ll u.toNat from q2 _ hut]
        · have : w = v := by simpa using hw
          subst this
          show x ∈ rowAt' ((rowAt' up w).foldl (stepU r a w) ll) w ↔ _
          rw [q1 x, h.off w hv hvd]
          simp only [List.not_mem_nil, or_false]
          refine exists_congr fun u => and_congr_right fun hu => ?_
          unfold Src
          have hut : u.toNat ≠ w := by have := (hup.row w hv).2 u hu; omega
          rw [show rowAt' (hopsV r a up ll w) u.toNat = rowAt' ll u.toNat from q2 _ hut]
    have := hops_inv hup l (done ++ [v]) hnew (fun w hw u hu => by
      rcases List.mem_append.1 hw with hw | hw
      · rcases hcl w hw u hu with e | e
        · exact .inl e
        · exact .inr (by simp [e])
      · have : w = v := by simpa using hw
        subst this
        rcases htop [] w l rfl u hu with e | e
        · exact .inl e
        · exact .inr (by simp at e; simp [e])) (by simp [had, hva]) (fun e => hal (by simp [e])) (fun w hw => hlt w (by simp [hw])) (by simpa using hnd) (fun p w q e u hu => by
        rcases htop (v :: p) w q (by rw [e]; rfl) u hu with e2 | e2
        · exact .inl e2
        · exact .inr (by simpa using e2))
    simpa using this
open Go Go.RT
abbrev Gr.m (g : Gr) : Nat := (g.r + g.n).toNat
theorem IsD.cases {es : List Edg} {r n a v : Nat} {d : Int} (vg : VG es r n) (h : IsD es a v d) : (d = -1 ∧ ∀ c, ¬ Wk es a v c) ∨ (0 ≤ d ∧ Wk es a v d ∧ ∀ c, Wk es a v c → d ≤ c) := by
  rcases h with h | h
  · exact .inl h
  · exact .inr ⟨h.1.nn vg, h⟩
open Go Go.RT
theorem RunOk.vg {g : Gr} {a : Nat} {t : Tr} (h : RunOk g a t) : VG g.es g.r.toNat g.m := (checkI_vg h.ok).1
theorem RunOk.am {g : Gr} {a : Nat} {t : Tr} (h : RunOk g a t) : a < g.m := by have := (checkI_vg h.ok).2; have := h.lt; unfold Gr.m; omega
theorem RunOk.parl {g : Gr} {a : Nat} {t : Tr} (h : RunOk g a t) : t.par.length = g.m := by rw [h.par, parL_len]
theorem RunOk.up {g : Gr} {a : Nat} {t : Tr} (h : RunOk g a t) : UpOk g.m t.par := by rw [h.par]; exact parL_ok h.vg _ _
theorem RunOk.edge {g : Gr} {a : Nat} {t : Tr} (h : RunOk g a t) {e : Edg} (he : e ∈ g.es) (h0 : 0 ≤ gt0 t.dist e.f.toNat) : 0 ≤ gt0 t.dist e.t.toNat ∧ gt0 t.dist e.t.toNat ≤ gt0 t.dist e.f.toNat + e.c := by
  have vg := h.vg
  have hf := vg.f e he; have ht := vg.t e he
  rcases (h.dist e.f.toNat (by show _ < g.m; omega)).cases vg with ⟨h1, _⟩ | ⟨_, h2, _⟩
  · omega
  · have w := Wk.snoc h2 he
    rcases (h.dist e.t.toNat (by show _ < g.m; omega)).cases vg with ⟨_, h4⟩ | ⟨h3, _, h5⟩
    · exact absurd w (h4 _)
    · exact ⟨h3, h5 _ w⟩
theorem RunOk.par_mem {g : Gr} {a : Nat} {t : Tr} (h : RunOk g a t) {v : Nat} (hv : v < g.m) (u : Int) : u ∈ rowAt' t.par v ↔ v ≠ a ∧ ∃ e ∈ g.es, e.f = u ∧ e.t = (v : Int) ∧ gt0 t.dist e.f.toNat ≠ -1 ∧ gt0 t.dist e.f.toNat + e.c = gt0 t.dist v := by
  have e0 : rowAt' t.par v = parE g.es a t.dist v := by rw [h.par]; exact parL_get _ _ _ hv
  rw [e0]
  unfold parE
  simp only [List.mem_map, List.mem_filter, Bool.and_eq_true, decide_eq_true_eq, parC]
  constructor
  · rintro ⟨e, ⟨he, ⟨⟨h1, h2⟩, h3⟩, h4⟩, h5⟩
    refine ⟨by omega, e, he, h5, h4, h2, ?_⟩
    rw [h4, Int.toNat_natCast] at h3; exact h3
  · rintro ⟨hne, e, he, h5, h4, h2, h3⟩
    refine ⟨e, ⟨he, ⟨⟨by omega, h2⟩, ?_⟩, h4⟩, h5⟩
    rw [h4, Int.toNat_natCast]; exact h3
theorem split_before {d : List Int} {l p q : List Nat} {v u : Nat} (hs : l.Pairwise (ltHd d)) (e : l = p ++ v :: q) (hu : u ∈ l) (hlt : ltHd d u v) : u ∈ p := by
  subst e
  rcases List.mem_append.1 hu with h | h
  · exact h
  · exfalso
    have h2 := (List.pairwise_append.1 hs).2.1
    rcases List.mem_cons.1 h with rfl | h
    · unfold ltHd at hlt; omega
    · have := (List.pairwise_cons.1 h2).1 u h
      unfold ltHd at *; omega
theorem ordA_mem {d : List Int} {a i v : Nat} : v ∈ ordA d a i ↔ v < i ∧ gt0 d v ≠ -1 ∧ v ≠ a := by
  unfold ordA ordP
  simp only [List.mem_filter, List.mem_range, Bool.and_eq_true, decide_eq_true_eq]
  omega
theorem RunOk.hopInv {g : Gr} {a : Nat} {t : Tr} (h : RunOk g a t) : HopInv g.r a g.m t.par (ordA t.dist a g.m) t.hops := by
  have vg := h.vg
  obtain ⟨l2, p, q, hh⟩ := h.hops
  have hmem : ∀ v, v ∈ l2 ↔ v < g.m ∧ gt0 t.dist v ≠ -1 ∧ v ≠ a := fun v => p.mem_iff.trans ordA_mem
  have hnd : l2.Nodup := p.nodup_iff.2 (List.nodup_range.filter _)
  have hbase : HopInv g.r a g.m t.par [] (List.replicate g.m []) := ⟨LLok.nil _, fun v hv _ => getD_rep _ _ _ _ hv, fun v hv => by cases hv⟩
  have := hops_inv (r := g.r) h.up l2 [] hbase (fun v hv => by cases hv) (by simp) (fun e => ((hmem a).1 e).2.2 rfl) (fun v hv => ((hmem v).1 hv).1) (by simpa using hnd) (fun pre v suf e u hu => by
    have hv : v ∈ l2 := by rw [e]; simp
    obtain ⟨hv1, hv2, hv3⟩ := (hmem v).1 hv
    obtain ⟨_, ed, he, hf, ht, h1, h2⟩ := (h.par_mem hv1 u).1 hu
    have hfn := vg.f ed he
    have hc := vg.c ed he
    by_cases hua : u = (a : Int)
    · exact .inl hua
    · refine .inr ?_
      rw [hf] at h1 h2 hfn
      simp only [List.nil_append]
      refine split_before q e ((hmem u.toNat).2 ⟨by omega, h1, by omega⟩) ?_
      unfold ltHd
      by_cases hc0 : ed.c = 0
      · refine .inr ⟨by omega, ?_⟩
        have hr : (g.r.toNat : Int) ≤ ed.f := by
          by_cases hlt : ed.f < (g.r.toNat : Int)
          · have := vg.rt ed he hlt; omega
          · omega
        have := (vg.net ed he hr).1
        omega
      · left; omega)
  rw [hh]
  refine ⟨this.ok, fun v hv hn => this.off v hv (fun e => hn (p.mem_iff.1 (by simpa using e))), fun v hv => this.on v (by simpa using p.mem_iff.2 hv)⟩
end Go.Pl
/- The view of an area. No program in sight. -/
namespace Go.Pl
open Go Go.RT
set_option linter.all false
def upF (area : Int) (s : Ifs) : Ifs := { s with up := s.up && decide (s.ar = area) }
abbrev ownAr (area : Int) (l : List Ifs) : List Ifs := l.map (upF area)
theorem own_set (area : Int) {l : List Ifs} {i : Nat} (h : i < l.length) :
    (((l.take i).map (upF area) ++ l.drop i).map encIf).set i ((encIf l[i]).set 9 (Bf (l[i].up && decide (l[i].ar = area)))) = (((l.take (i + 1)).map (upF area)) ++ l.drop (i + 1)).map encIf := by
  have hl : (l.take i).length = i := by simp; omega
  have hd := List.drop_eq_getElem_cons h
  rw [hd, List.take_succ_eq_append_getElem h, List.map_append, List.map_append, List.map_append, List.map_append, List.map_cons]
  rw [List.set_append_right _ _ (by simp; omega)]
  simp only [List.length_map, hl, Nat.sub_self, List.set_cons_zero, List.append_assoc, List.map_cons, List.map_nil, List.cons_append, List.nil_append]
  rfl
theorem own_row (area : Int) {l : List Ifs} {i : Nat} (h : i < l.length) : (((l.take i).map (upF area) ++ l.drop i).map encIf)[i]? = some (encIf l[i]) := by
  have hl : (l.take i).length = i := by simp; omega
  have h2 : ((l.take i).map (upF area)).length = i := by rw [List.length_map]; exact hl
  rw [List.getElem?_map, List.getElem?_append_right (by omega), h2, Nat.sub_self, List.getElem?_drop, Nat.add_zero, List.getElem?_eq_getElem h]
  rfl
theorem own_len (area : Int) {l : List Ifs} {i : Nat} (h : i ≤ l.length) : ((l.take i).map (upF area) ++ l.drop i).length = l.length := by simp; omega
def zVw : Vw := ⟨zeroR, zeroT, []⟩
def idxR (g : AGr) (router : Int) : Int := idxGo (fun x => decide (router = x)) 0 g.rs
structure IfOk (l : List Ifs) : Prop where
  ll : l.length ≤ 40
  lb : ∀ s ∈ l, s.nb.length ≤ 1048576
theorem IfOk.own {l : List Ifs} (h : IfOk l) (area : Int) : IfOk (ownAr area l) := ⟨by unfold ownAr; rw [List.length_map]; exact h.ll, fun s hs => by
  obtain ⟨x, hx, rfl⟩ := List.mem_map.1 hs
  exact h.lb x hx⟩
open Go Go.RT
theorem row_mem {ll : List (List Int)} {r : List Int} (h : r ∈ ll) : ∃ v, v < ll.length ∧ r = rowAt' ll v := by
  obtain ⟨v, hv, rfl⟩ := List.mem_iff_getElem.1 h
  exact ⟨v, hv, by simp [hv]⟩
theorem vw_ok {g : AGr} {a : Nat} {t : Tr} {l : List Ifs} (hg : RunOk g.g a t) (hr : g.g.r = g.rs.length) (hn : g.g.n = g.ns.length) (h60 : g.rs.length + g.ns.length ≤ 60) (hl : IfOk l) : VwOk ⟨g, t, l⟩ := by
  have hm : g.g.m = g.rs.length + g.ns.length := by unfold Gr.m; omega
  have hpl := hg.parl
  have hup := hg.up
  have hin := hg.hopInv.ok
  refine ⟨by dsimp only; omega, by dsimp only; omega, by dsimp only; rw [hg.dl]; omega, by dsimp only; omega, fun r hr' => ?_, by dsimp only; rw [hin.len]; omega, fun r hr' => ?_, hl.ll, hl.lb⟩
  · obtain ⟨v, hv, rfl⟩ := row_mem hr'
    have h := hup.row v (by rw [hup.len] at hv; exact hv)
    exact ⟨h.1, fun u hu => by have := h.2 u hu; omega⟩
  · obtain ⟨v, hv, rfl⟩ := row_mem hr'
    have h := hin.row v (by rw [hin.len] at hv; exact hv)
    exact ⟨Nat.le_trans h.len (by omega), fun u hu => by have := h.2 u hu; omega⟩
end Go.Pl
namespace Go.Proofs.YtoeckbdgemnngaaGreat
open Go Go.RT Go.Proofs Go.Pl
set_option linter.all false
set_option maxRecDepth 20000
set_option maxHeartbeats 4000000
theorem wHI37a {α : Prop} (h : α := by repeat (first | exact trivial | refine ⟨wS, ?_⟩ | refine ⟨ent_same rfl rfl (rfEq rfl tU) tL, ?_⟩ | refine ⟨ent_same rfl rfl (flEq rfl (by first | (simp; done) | (simp; omega) | (simp [encR, encG, encTr, encVw, encIf, encA, encE]; done) | simp [maxC, minC])) trivial, ?_⟩)) : α := h
theorem cloneIf_f (l : List Ifs) (hn : l.length ≤ 2000000) : Meets Tryz.prog 42 ([VIf l].map PV.fz) 0 [] (.sl 0 15 0 l.length) [(0, OIf l)] 1 := by
 refine Meets.intro Tryz.func42 rfl (Nat.le_of_ble_eq_true rfl) fun C hC => ?_
 simp only [List.map, argEnv, Nat.reduceAdd]
 refine nK ?_
 refine za ?_
 refine ze ?_
 refine zb ?_
 refine nK ?_
 refine za ?_
 refine zc ?_
 refine zdi ?_
 refine zb ?_
 refine nK ?_
 refine Next.abool 4 rfl (fun b hb0 => ?_)
 refine nK ?_
 refine n_cond _ rfl (fun hb => ?_) (fun hb => ?_)
 ·have he : l = [] := by have := hb0 hb; simpa using this
  subst he
  refine nK ?_
  refine za ?_
  refine ze ?_
  refine zb ?_
  refine nK ?_
  refine Next.adopt 2 15 rfl ?_
  exact wO hC
 refine nK ?_
 refine za ?_
 refine zcx ?_
 refine zc ?_
 refine zbi ?_
 refine zd ?_
 refine zb ?_
 refine nK ?_
 refine Next.weakS [2] [] (by rfl) (keeps0 hC _) (G' := [(2, .sl 0 15 0 l.length)]) (H' := [(0, OIf l)]) wG wHI37a rfl ?_
 exact wO hC
theorem look_bad (db : List Lsa) (area router : Int) (l : List Ifs) (g : AGr) (e : Int) (he : e ≠ 0) (hb0 : Pure Tryz.prog 40 [VA db] (.tup [.agg (encR g), If .i64 e])) : Pure Tryz.prog 20 [.agg [If .u32 area, VA db], If .u32 router, VIf l] (.tup [.agg (encVw zVw), If .i64 e]) := by
 refine Meets.intro Tryz.func20 rfl (Nat.le_of_ble_eq_true rfl) fun C hC => ?_
 simp only [List.map, argEnv, Nat.reduceAdd]
 refine nK ?_
 refine za ?_
 refine zu ?_
 refine zo ?_
 refine ze ?_
 refine zb ?_
 refine nK ?_
 refine za ?_
 refine zf ?_
 refine zh ?_
 refine rpZ 17 rfl (op_call_pure (fun _ => hb0) rfl (Opd.func _) (oS (oT rfl) Opds.nil)) ?_
 refine zc ?_
 refine zi ?_
 refine zi ?_
 refine zo ?_
 refine zg ?_
 refine zd ?_
 refine zb ?_
 refine nK ?_
 refine za ?_
 refine zc ?_
 refine zbe ?_
 refine zb ?_
 refine nK ?_
 refine n_cond _ rfl (fun hb => ?_) (fun hb => ?_)
 ·refine nK ?_
  refine za ?_
  refine rpZ 22 rfl (op_buildZ (encVw zVw) rfl rfl tZk (FillF.nil _)) ?_
  refine zc ?_
  refine zg ?_
  refine zd ?_
  refine zb ?_
  refine nK ?_
  exact wO hC
 exfalso; simp at hb; exact he hb
theorem look_none (db : List Lsa) (area router : Int) (l : List Ifs) (g : AGr) (hn : lenOk g.rs.length) (hi : idxR g router < 0) (hb0 : Pure Tryz.prog 40 [VA db] (.tup [.agg (encR g), If .i64 0])) : Pure Tryz.prog 20 [.agg [If .u32 area, VA db], If .u32 router, VIf l] (.tup [.agg (encVw zVw), If .i64 6]) := by
 have hk := aidx_c g router hn
 change Pure _ _ _ (If .i64 (idxR g router)) at hk
 generalize idxR g router = x at *
 refine Meets.intro Tryz.func20 rfl (Nat.le_of_ble_eq_true rfl) fun C hC => ?_
 simp only [List.map, argEnv, Nat.reduceAdd]
 refine nK ?_
 refine za ?_
 refine zu ?_
 refine zo ?_
 refine ze ?_
 refine zb ?_
 refine nK ?_
 refine za ?_
 refine zf ?_
 refine zh ?_
 refine rpZ 17 rfl (op_call_pure (fun _ => hb0) rfl (Opd.func _) (oS (oT rfl) Opds.nil)) ?_
 refine zc ?_
 refine zi ?_
 refine zi ?_
 refine zo ?_
 refine zg ?_
 refine zd ?_
 refine zb ?_
 refine nK ?_
 refine za ?_
 refine zc ?_
 refine zbe ?_
 refine zb ?_
 refine nK ?_
 refine n_cond _ rfl (fun hb => ?_) (fun hb => ?_)
 ·exfalso; simp at hb
 refine nK ?_
 refine za ?_
 refine zm ?_
 refine zc ?_
 refine rpZ 26 rfl (op_call_pure (fun _ => hk) rfl (Opd.func _) (oS (oT rfl) (oS (oT rfl) Opds.nil))) ?_
 refine zd ?_
 refine zb ?_
 refine nK ?_
 refine za ?_
 refine zc ?_
 refine zbq ?_
 refine zb ?_
 refine nK ?_
 refine n_cond _ rfl (fun hb => ?_) (fun hb => ?_)
 ·refine nK ?_
  refine za ?_
  refine rpZ 29 rfl (op_buildZ (encVw zVw) rfl rfl tZk (FillF.nil _)) ?_
  refine zg ?_
  refine ze ?_
  refine zb ?_
  refine nK ?_
  exact wO hC
 exfalso; simp at hb; omega
abbrev zC10 : List FV := [If .i64 0, If .i64 0, .lit (.slice none 0 0), .lit (.slice none 0 0), .lit (.slice none 0 0), If .i64 0, .lit (.slice none 0 0), .lit (.slice none 0 0), .lit (.slice none 0 0), .lit (.slice none 0 0)]
theorem look_ok (db : List Lsa) (area router : Int) (l : List Ifs) (g : AGr) (a : Nat) (t : Tr) (hl : l.length ≤ 40) (hn : lenOk g.rs.length) (hi : idxR g router = a) (hok : okG g.g) (hr : RunOk g.g a t) (hb0 : Pure Tryz.prog 40 [VA db] (.tup [.agg (encR g), If .i64 0])) :
  Pure Tryz.prog 20 [.agg [If .u32 area, VA db], If .u32 router, VIf l] (.tup [.agg (encVw ⟨g, t, ownAr area l⟩), If .i64 0]) := by
 have hk := aidx_c g router hn
 change Pure _ _ _ (If .i64 (idxR g router)) at hk
 rw [hi] at hk
 have hrun := run_c g.g a t hok hr
 have hcl := cloneIf_f l (by omega)
 refine Meets.intro Tryz.func20 rfl (Nat.le_of_ble_eq_true rfl) fun C hC => ?_
 simp only [List.map, argEnv, Nat.reduceAdd]
 refine nK ?_
 refine za ?_
 refine zu ?_
 refine zo ?_
 refine ze ?_
 refine zb ?_
 refine nK ?_
 refine za ?_
 refine zf ?_
 refine zh ?_
 refine rpZ 17 rfl (op_call_pure (fun _ => hb0) rfl (Opd.func _) (oS (oT rfl) Opds.nil)) ?_
 refine zc ?_
 refine zi ?_
 refine zi ?_
 refine zo ?_
 refine zg ?_
 refine zd ?_
 refine zb ?_
 refine nK ?_
 refine za ?_
 refine zc ?_
 refine zbe ?_
 refine zb ?_
 refine nK ?_
 refine n_cond _ rfl (fun hb => ?_) (fun hb => ?_)
 ·exfalso; simp at hb
 refine nK ?_
 refine za ?_
 refine zm ?_
 refine zc ?_
 refine rpZ 26 rfl (op_call_pure (fun _ => hk) rfl (Opd.func _) (oS (oT rfl) (oS (oT rfl) Opds.nil))) ?_
 refine zd ?_
 refine zb ?_
 refine nK ?_
 refine za ?_
 refine zc ?_
 refine zbq ?_
 refine zb ?_
 refine nK ?_
 refine n_cond _ rfl (fun hb => ?_) (fun hb => ?_)
 ·exfalso; simp at hb; omega
 refine nK ?_
 refine za ?_
 refine zc ?_
 refine Run.eff (dd := some 31) rfl rfl (op_call_fresh (fun _ => hcl) rfl (Opd.func _) (oS (oT rfl) Opds.nil)) ?_
 refine zd ?_
 refine zb ?_
 refine nK ?_
 refine za ?_
 refine zc ?_
 refine zbl ?_
 refine zx ?_
 refine zb ?_
 refine nK ?_
 refine n_loop (ι := Nat) (fun i => ([(3, .ptr 0 2 0 0), (6, .ptr 1 10 0 0), (8, .ptr 2 5 0 0), (10, IV .i64 a), (11, .sl 3 15 0 l.length), (33, IV .i64 l.length), (34, IV .i64 i)], [(0, some (.flat 2 [[If .u32 area, VA db]])), (1, some (.flat 10 [zC10])), (2, some (.flat 5 [encR g])), (3, some (.flat 15 (((l.take i).map (upF area) ++ l.drop i).map encIf)))], 4)) (fun i => i ≤ l.length) (fun i => l.length - i) 0 (Nat.zero_le _) ?_ ?_
 ·simp only [List.take_zero, List.map_nil, List.nil_append, List.drop_zero]
  refine Next.weakS [3, 6, 8, 11] [] (by rfl) (wK hC) wG wHI37a rfl (rel_intro)
 intro i hil K hK
 refine nK ?_
 refine za ?_
 refine zn ?_
 refine zb ?_
 refine nK ?_
 refine n_cond _ rfl (fun hb => ?_) (fun hb => ?_)
 ·have hlt : i < l.length := by simp at hb; omega
  have hr1 := own_row area hlt
  have hK1 := hK (i + 1) (by omega) (by omega)
  rw [← own_set area hlt] at hK1
  have hln := own_len area (Nat.le_of_lt hlt)
  clear hK
  refine nK ?_
  refine za ?_
  refine zc ?_
  refine zd ?_
  refine zb ?_
  refine nK ?_
  refine s_draw mixed ?_
  refine zc ?_
  refine zc ?_
  refine zc ?_
  refine zc ?_
  refine rpZ 41 rfl (op_idx_sl0 i rfl (oT rfl) (oT rfl) (by intro _; constructor <;> omega)) ?_
  refine zf ?_
  refine zh ?_
  refine zc ?_
  refine zl ?_
  refine zl ?_
  refine rgZ 47 rfl rfl tG (op_idx_sl0 i rfl (oO rfl tO) (oO rfl tO) (by intro _; constructor <;> omega)) ?_
  refine zck ?_
  refine zck ?_
  refine zs ?_
  refine zp ?_
  refine zs ?_
  refine zbp ?_
  refine zy ?_
  refine rpZ 55 rfl (op_idx_sl0 i rfl (oT rfl) (oT rfl) (by intro _; constructor <;> omega)) ?_
  refine zf ?_
  refine zch ?_
  refine zq ?_
  refine nK ?_
  refine za ?_
  refine zj ?_
  refine zc ?_
  refine zb ?_
  refine nK ?_
  refine Next.weakS [3, 6, 8, 11] [] (by rfl) (wK hC) wG wHI37a rfl (hK1)
 have hie : i = l.length := by simp at hb; omega
 clear hK
 subst hie
 rw [List.take_length, List.drop_length, List.append_nil]
 refine Next.weakS [6, 8] [11] (by rfl) (keeps0 hC _) (G' := [(6, .ptr 0 10 0 0), (8, .ptr 1 5 0 0), (10, IV .i64 a), (11, .fz (VIf (ownAr area l)))]) (H' := [(0, some (.flat 10 [zC10])), (1, some (.flat 5 [encR g]))]) wF wHI37a rfl ?_
 refine nK ?_
 refine za ?_
 refine zf ?_
 refine zbc ?_
 refine zc ?_
 refine rpZ 62 rfl (op_call_pure (fun _ => hrun) rfl (Opd.func _) (oS (oT rfl) (oS (oT rfl) Opds.nil))) ?_
 refine zc ?_
 refine zi ?_
 refine zi ?_
 refine zo ?_
 refine zg ?_
 refine zd ?_
 refine zb ?_
 refine nK ?_
 refine za ?_
 refine zm ?_
 refine zm ?_
 refine zc ?_
 refine zcd ?_
 refine zc ?_
 refine zg ?_
 refine zd ?_
 refine zb ?_
 refine nK ?_
 exact wO hC
end Go.Proofs.YtoeckbdgemnngaaGreat
/- The routes out of the map of best offers. No program in sight. -/
namespace Go.Pl
open Go Go.RT
set_option linter.all false
def outJ (area : Int) (m : Best) (js : List Nat) : List LRt := js.flatMap fun j => (m[j]?.map (rtOf area)).getD []
theorem rtOf_len (area : Int) (e : Pfx × Ofr) : (rtOf area e).length ≤ 1 := by unfold rtOf; split <;> simp
theorem outJ_len (area : Int) (m : Best) (js : List Nat) : (outJ area m js).length ≤ js.length := by
  have := fm_le (fun j => (m[j]?.map (rtOf area)).getD []) 1 js fun j _ => by
    cases m[j]? with
    | none => simp
    | some e => exact rtOf_len area e
  unfold outJ; omega
theorem outJ_snoc (area : Int) (m : Best) (js : List Nat) (j : Nat) (h : j < m.length) : outJ area m (js ++ [j]) = outJ area m js ++ rtOf area m[j] := by
  unfold outJ
  rw [List.flatMap_append]
  simp [h]
theorem js_len {n : Nat} {js : List Nat} (h : js.Nodup) (hl : ∀ j ∈ js, j < n) : js.length ≤ n := by
  have := nodup_le (b := List.range n) h fun j hj => List.mem_range.2 (hl j hj)
  simpa using this
theorem range_fm {α β : Type} (f : α → List β) (m : List α) : (List.range m.length).flatMap (fun j => (m[j]?.map f).getD []) = m.flatMap f := by
  induction m with
  | nil => rfl
  | cons x m ih =>
    rw [List.length_cons, List.range_succ_eq_map, List.flatMap_cons, List.flatMap_map]
    simp only [List.getElem?_cons_zero, List.getElem?_cons_succ, List.flatMap_cons, Option.map_some, Option.getD_some]
    rw [ih]
theorem outJ_perm (area : Int) (m : Best) {js : List Nat} (h : js.Nodup) (hl : ∀ j ∈ js, j < m.length) (ha : ∀ j, j < m.length → j ∈ js) : (outJ area m js).Perm (m.flatMap (rtOf area)) := by
  have hp : js.Perm (List.range m.length) := (List.perm_ext_iff_of_nodup h List.nodup_range).2 fun j => by rw [List.mem_range]; exact ⟨hl j, ha j⟩
  have := hp.flatMap_right (fun j => (m[j]?.map (rtOf area)).getD [])
  rw [range_fm] at this
  exact this
theorem rtOf_pf {area : Int} {e : Pfx × Ofr} {r : LRt} (h : r ∈ rtOf area e) : r.pf = e.1 ∧ r.hs = e.2.hs ∧ 0 < r.hs.length := by
  unfold rtOf at h
  split at h
  · rename_i h0
    have := List.mem_singleton.1 h
    subst this
    exact ⟨rfl, rfl, h0⟩
  · simp at h
theorem apart_of {area : Int} : ∀ {m : Best}, (m.map (·.1)).Nodup → apartL (m.flatMap (rtOf area))
  | [], _ => by simp [apartL]
  | e :: m, h => by
    simp only [List.map_cons, List.nodup_cons] at h
    rw [List.flatMap_cons]
    unfold apartL
    rw [List.pairwise_append]
    refine ⟨?_, apart_of h.2, fun x hx y hy he => ?_⟩
    · unfold rtOf; split <;> simp
    · obtain ⟨z, hz, hy2⟩ := List.mem_flatMap.1 hy
      refine h.1 (List.mem_map.2 ⟨z, hz, ?_⟩)
      rw [← (rtOf_pf hy2).1, ← he, (rtOf_pf hx).1]
theorem fm_rt_len (area : Int) (m : Best) : (m.flatMap (rtOf area)).length ≤ m.length := by
  have := fm_le (rtOf area) 1 m fun e _ => rtOf_len area e
  omega
/-- no list of the map is longer than the steps -/
theorem addB_len (m : Best) (p : Pfx) (o : Ofr) : (addB m p o).length ≤ m.length + 1 := by
  unfold addB
  split
  · omega
  · split
    · exact mput_len ..
    · split
      · exact mput_len ..
      · omega
open Go Go.RT
structure RtOk (v : Vw) (db : List Lsa) : Prop where
  vw : VwOk v
  ns : ∀ n ∈ v.g.ns, okV n
  rs : ∀ r ∈ v.g.rs, okU r
  di : ∀ d ∈ v.t.dist, -1 ≤ d ∧ d ≤ 10000000
  dn : db.length ≤ 40000000
  dl : ∀ x ∈ db, x.ls.length ≤ 40000000 ∧ x.att.length ≤ 40000000
  st : ∀ r ∈ v.g.rs, (stubsA db r).length ≤ 40000000 ∧ ∀ x ∈ stubsA db r, okK x ∧ 0 ≤ x.c ∧ x.c ≤ 65535
theorem stubP_ok {x : Lnk} (h : okK x) : (stubP x).ok := by
  obtain ⟨_, h2, h3, _⟩ := h
  simp only [inr] at h2 h3
  refine ⟨?_, ?_⟩
  · show x.id.toNat < 2 ^ 32; omega
  · show inr .i64 x.d; simp only [inr]; omega
theorem makeP_ok {id len : Int} (h : inr .u32 id) (hl : inr .i64 len) : (makeP id len).ok := by
  simp only [inr] at h
  refine ⟨?_, hl⟩
  have := keepN_le id.toNat (clampN len)
  show keepN id.toNat (clampN len) < 2 ^ 32
  omega
theorem net1_ok {v : Vw} {db : List Lsa} (h : RtOk v db) {n : NetV} (hn : okV n) {m : Best} (hm : BOk (ahF v) m) (i : Nat) : BOk (ahF v) (net1 v i n m) := by
  unfold net1
  split
  · exact hm.add (ahF_len h.vw) (makeP_ok hn.1 hn.2.2) ⟨hopF_len h.vw _, fun x hx => hopF_mem hx⟩
  · exact hm
theorem net1_len (v : Vw) (i : Nat) (n : NetV) (m : Best) : (net1 v i n m).length ≤ m.length + 1 := by
  unfold net1; split
  · exact addB_len ..
  · omega
theorem stub1_ok {v : Vw} {db : List Lsa} (h : RtOk v db) {x : Lnk} (hx : okK x) {m : Best} (hm : BOk (ahF v) m) (router r : Int) (node : Nat) : BOk (ahF v) (stub1 v router node r x m) := by
  unfold stub1
  split
  · exact hm.add (ahF_len h.vw) (stubP_ok hx) ⟨ownF_len h.vw _, fun x hx => ownF_mem hx⟩
  · split
    · exact hm.add (ahF_len h.vw) (stubP_ok hx) ⟨hopF_len h.vw _, fun x hx => hopF_mem hx⟩
    · exact hm
theorem stub1_len (v : Vw) (router r : Int) (node : Nat) (x : Lnk) (m : Best) : (stub1 v router node r x m).length ≤ m.length + 1 := by
  unfold stub1; split
  · exact addB_len ..
  · split
    · exact addB_len ..
    · omega
open Go Go.RT Go.Sort Go.Shelf Go.Proofs
def cmpLr (x y : LRt) : Int := cmpP x.pf y.pf
theorem ltLr_iff (x y : LRt) : ltOf cmpLr x y = decide (ltPf x.pf y.pf) := by
  unfold ltOf cmpLr; rw [Bool.eq_iff_iff, decide_eq_true_iff, decide_eq_true_iff, cmpP_neg]
theorem swo_lr : Go.Sort.SWO (ltOf cmpLr) where
  irrefl x := by rw [ltLr_iff]; simp only [decide_eq_false_iff_not]; exact fun k => k.irr
  trans x y z h1 h2 := by rw [ltLr_iff] at *; simp only [decide_eq_true_eq] at *; exact h1.trans h2
  ntrans x y z h1 h2 := by rw [ltLr_iff] at *; simp only [decide_eq_false_iff_not] at *; unfold ltPf at *; omega
def zLr : LRt := ⟨⟨0, 0⟩, 0, 0, 0, false, 0, 0, []⟩
end Go.Pl
namespace Go.Pl
theorem insLr_len (r : LRt) : ∀ l, (insLr r l).length = l.length + 1
  | [] => rfl
  | y :: l => by
    simp only [insLr]
    split
    · simp
    · simp [insLr_len r l]
theorem sortLr_len : ∀ l : List LRt, (sortLr l).length = l.length
  | [] => rfl
  | y :: l => by
    have := sortLr_len l
    unfold sortLr at *
    rw [List.foldr_cons, insLr_len, this]; rfl
end Go.Pl
/- slices.SortFunc at elements that hold frozen slices; the order leaves one result only. -/
namespace Go.RT
open Go Go.Proofs Go.Sort Go.Shelf
set_option linter.all false
variable {P : Program} {ρ : Ren} {α : Type}
/-- the cells of a row, as they are -/
structure RowV (w : World) (S : Nat → Prop) (k : Nat) (fs : List FV) (vs : List Value) : Prop where
  len : vs.length = k
  at_ : ∀ (i : Nat) (v : Value) (f : FV), vs[i]? = some v → fs[i]? = some f → FRep w S v f
  one : ∀ v ∈ vs, v.oneCell' = true
abbrev El (enc : α → List FV) (w : World) (S : Nat → Prop) (k : Nat) : Type := { p : α × List Value // RowV w S k (enc p.1) p.2 }
theorem sort_heap {β : Type} [Inhabited β] {ev : β → List Value} {k : Nat} {w : World} {b off q : Nat} {os : Array Obj} {dk : Array β} {b' : Nat} (hne : b' ≠ b) (hlt : b' < w.heap.size) : (sortWorldK ev k w b off q dk os).heap[b']? = w.heap[b']? := by
  unfold sortWorldK putRowK putRow mapBlock
  simp only [Go.Sort.ahead, grow]
  rw [Array.getElem?_append_left (by simpa using hlt), Array.getElem?_modify, if_neg (fun e => hne e.symm)]
theorem sort_size {β : Type} [Inhabited β] {ev : β → List Value} {k : Nat} {w : World} {b off q : Nat} {os : Array Obj} {dk : Array β} : w.heap.size ≤ (sortWorldK ev k w b off q dk os).heap.size := by
  unfold sortWorldK putRowK putRow mapBlock
  simp [Go.Sort.ahead, grow]
theorem cmp_laysR {g k : Nat} {enc : α → List FV} (henc : ∀ x, (enc x).length = k) {w : World} {S : Nat → Prop} (hst : ∀ b, S b → b < w.heap.size) [Inhabited (El enc w S k)] {cf : α → α → Int} (hc : ∀ x y, Pure P g [.agg (enc x), .agg (enc y)] (If .i64 (cf x y))) (blk off size : Nat) (hb : ¬ S blk) :
    CmpLays P g #[] (fun p : El enc w S k => p.1.2) k (fun p q => cf p.1.1 q.1.1) blk off size w := by
  intro m os dk _ x y
  have hheap : ∀ b, S b → (sortWorldK (fun p : El enc w S k => p.1.2) k w blk off m dk os).heap[b]? = w.heap[b]? := fun b h => sort_heap (fun e => hb (e ▸ h)) (hst b h)
  have hsz := sort_size (ev := fun p : El enc w S k => p.1.2) (k := k) (w := w) (b := blk) (off := off) (q := m) (os := os) (dk := dk)
  generalize sortWorldK (fun p : El enc w S k => p.1.2) k w blk off m dk os = W at *
  let C : Cx := ⟨W, fun _ => False, S, fun _ => none, 0, []⟩
  have hm : Mem C [] 0 C.S0 C.m0 C.w0 := ⟨⟨rfl, Nat.le_refl _⟩, rfl, rfl, fun _ _ => rfl, Nat.le_refl _, fun _ _ _ => rfl, Le.refl _ _ _, fun b h => .inl h, fun i x hx => (by cases hx), fun i o h => (by cases h), fun i o b h => (by cases h), fun i j o1 o2 b h => (by cases h), fun b hb => Nat.lt_of_lt_of_le (hst b hb) hsz, fun _ _ => rfl, nst_nil⟩
  have ag : ∀ z : El enc w S k, FRep W S (.agg z.1.2.toArray) (.agg (enc z.1.1)) := fun z => by
    refine .agg _ _ (by simp [z.2.len, henc]) (fun i c f hc hf => ?_) (fun i c hc => ?_)
    · simp only [List.getElem?_toArray] at hc
      exact (z.2.at_ i c f hc hf).mono (fun _ h => h) hheap
    · simp only [List.getElem?_toArray] at hc
      exact z.2.one c (List.mem_of_getElem? hc)
  have := (hc x.1.1 y.1.1).run C [.agg x.1.2.toArray, .agg y.1.2.toArray] rfl hm rfl (fun i v p hi hp => by
    match i with
    | 0 => simp at hi hp; subst hi; subst hp; exact .fz _ _ (ag x)
    | 1 => simp at hi hp; subst hi; subst hp; exact .fz _ _ (ag y)
    | i + 2 => simp at hi)
  have h2 : Calls P g (#[.agg x.1.2.toArray, .agg y.1.2.toArray] ++ #[]) W (fun e w' => ∃ v S' m', e = .returned v ∧ Mem C [] 0 S' m' w' ∧ Rep w' S' m' v (.fz (If .i64 (cf x.1.1 y.1.1)))) := by simpa using this
  refine h2.mono fun e w' ⟨v, S', m', he, hm', hr⟩ => ?_
  obtain ⟨q, os', hw⟩ := hm'.is_grown (fun b h => h)
  refine ⟨by rw [he]; cases hr with | fz _ _ h => cases h; rfl, q, os', hw⟩
/-- the rows in memory as elements -/
theorem rows_els {enc : α → List FV} {k : Nat} (henc : ∀ x, (enc x).length = k) {w : World} {S : Nat → Prop} {c : Array Value} {l : List α} (h : RowsRep (FRep w S) c k (l.map enc)) :
    ∃ L : List (El enc w S k), L.map (fun p => p.1.1) = l ∧ ∀ i (hi : i < L.length) j, j < k → c[i * k + j]? = (L[i]).1.2[j]? := by
  have hrow : ∀ i (hi : i < l.length), RowV w S k (enc l[i]) ((List.range k).map fun j => (c[i * k + j]?).getD undef) ∧ ∀ j, j < k → c[i * k + j]? = ((List.range k).map fun j => (c[i * k + j]?).getD undef)[j]? := fun i hi => by
    have hx : (l.map enc)[i]? = some (enc l[i]) := by simp [hi]
    have hall : ∀ j, j < k → ∃ u f, c[i * k + j]? = some u ∧ (enc l[i])[j]? = some f ∧ u.oneCell' = true ∧ FRep w S u f := fun j hj => by
      have hj' : j < (enc l[i]).length := by rw [henc]; exact hj
      obtain ⟨u, hu, ho, hr⟩ := h.2.2 i j _ _ hx (List.getElem?_eq_getElem hj')
      exact ⟨u, _, hu, List.getElem?_eq_getElem hj', ho, hr⟩
    refine ⟨⟨by simp, fun j v f hv hf => ?_, fun v hv => ?_⟩, fun j hj => ?_⟩
    · rw [List.getElem?_map] at hv
      obtain ⟨j', hj', rfl⟩ := Option.map_eq_some_iff.1 hv
      have hlt : j < k := by
        have := (List.getElem?_eq_some_iff.1 hj').1
        simpa using this
      have : j' = j := by rw [List.getElem?_range hlt] at hj'; exact (Option.some.inj hj').symm
      subst this
      obtain ⟨u, f', hu, hf', ho, hr⟩ := hall j' hlt
      rw [hf] at hf'; cases hf'
      rw [hu]; exact hr
    · obtain ⟨j, hj, rfl⟩ := List.mem_map.1 hv
      obtain ⟨u, f', hu, hf', ho, hr⟩ := hall j (List.mem_range.1 hj)
      rw [hu]; exact ho
    · obtain ⟨u, f', hu, hf', ho, hr⟩ := hall j hj
      rw [List.getElem?_map, List.getElem?_range hj, hu]; simp [hu]
  refine ⟨List.ofFn fun i : Fin l.length => ⟨(l[i], (List.range k).map fun j => (c[i.1 * k + j]?).getD undef), (hrow i.1 i.2).1⟩, ?_, fun i hi j hj => ?_⟩
  · apply List.ext_getElem
    · rw [List.length_map, List.length_ofFn]
    · intro i h1 h2; rw [List.getElem_map, List.getElem_ofFn]; rfl
  · have hi' : i < l.length := by simpa using hi
    rw [List.getElem_ofFn]
    exact (hrow i hi').2 j hj
theorem sort_meetsR (L : SlLaysF0.n6 P ρ) {k : Nat} (hk0 : 0 < k) (aE : ∀ w, (isAgg (ρ.t 24)).run P w = .ok true w) (zE : ∀ w, (Go.sizeOf (ρ.t 24)).run P w = .ok k w) {enc : α → List FV} (henc : ∀ x, (enc x).length = k) (d : α) (zv : List Value) (hd : ∀ w S, RowV w S k (enc d) zv)
    {cf : α → α → Int} (hO : SWO (ltOf cf)) {g : Nat} (hg : ∀ args w, (callFunc g args).run P w = .ok (.enter g args) w)
    (hc : ∀ x y, Pure P g [.agg (enc x), .agg (enc y)] (If .i64 (cf x y))) {l t : List α} (hl : l.length < 4611686018427387904) (hu : ∀ l' : List α, l'.Perm l → (∀ (i j : Nat) (x y : α), i < j → l'[i]? = some x → l'[j]? = some y → ¬ cf y x < 0) → l' = t) :
    Meets P (ρ.f 6) [.sl 0 k 0 l.length, .clo g [] []] 1 [(0, some (.flat k (l.map enc)))] (.fz (.tup [])) [(0, some (.flat k (t.map enc)))] 1 := by
  refine ⟨fun C vs hn hm hlv hr => ?_⟩
  have tupR : ∀ w' S' m', Rep w' S' m' (.tuple #[]) (.fz (.tup [])) := fun w' S' m' => .fz _ _ (.tup #[] [] rfl (fun i c f hc => by simp at hc))
  match vs, hlv, hr with
  | [v0, v1], _, hr =>
  have r0 := hr 0 v0 _ rfl rfl
  have r1 := hr 1 v1 _ rfl rfl
  have ho := hm.objs 0 _ rfl
  cases r1 with
  | clo _ as' cs _ _ ha hcs _ _ =>
  have ea : as' = #[] := by simpa using ha
  have ec : cs = #[] := by simpa using hcs
  subst ea; subst ec
  generalize hll : l.length = n at r0 hl
  cases r0 with
  | sl0 =>
    have hl0 : l = [] := List.length_eq_zero_iff.1 hll
    have e : t = l := (hu l (List.Perm.refl _) (fun i j x y _ hx => by rw [hl0] at hx; simp at hx)).symm
    rw [e]
    refine (AnyF.slices_SortFunc_none L none 0 (.func (.func g) #[] #[]) C.w0).mono fun e w' ⟨he, hw⟩ => ?_
    subst hw
    exact ⟨_, _, _, he, hm, tupR _ _ _⟩
  | sl _ _ _ _ b cap h hroom hcap hmx =>
    rcases ho with ⟨h2, _⟩ | ⟨b', c, e, h2, h3, h4⟩
    · rw [h] at h2; cases h2
    · rw [h] at h2; cases h2
      obtain ⟨hb1, hb2, hb3⟩ := hm.blk 0 _ b rfl h
      letI : Inhabited (El enc C.w0 C.S0 k) := ⟨⟨(d, zv), hd _ _⟩⟩
      obtain ⟨Ls, hLs, hcells⟩ := rows_els henc h4
      have hlen : Ls.length = n := by have := congrArg List.length hLs; simpa [hll] using this
      have hevl : ∀ x : El enc C.w0 C.S0 k, x.1.2.length = k := fun x => x.2.len
      have hO' : SWO (ltOf fun p q : El enc C.w0 C.S0 k => cf p.1.1 q.1.1) := ⟨fun x => hO.irrefl x.1.1, fun x y z => hO.trans x.1.1 y.1.1 z.1.1, fun x y z => hO.ntrans x.1.1 y.1.1 z.1.1⟩
      have hsz : n * k ≤ c.size := by have := h4.1; simpa [hll] using this
      have hH : HoldsK (fun p : El enc C.w0 C.S0 k => p.1.2) k C.w0 b (0 * k) Ls.toArray := by
        intro j hj
        simp [hlen] at hj
        refine ⟨?_, ?_⟩
        · simp only [World.cell?, h3, Nat.zero_mul, Nat.zero_add]
          have hdv : j / k < Ls.length := by rw [hlen]; exact Nat.div_lt_of_lt_mul (by rwa [Nat.mul_comm] at hj)
          have hmd := Nat.mod_lt j hk0
          have e : j / k * k + j % k = j := by rw [Nat.mul_comm]; exact Nat.div_add_mod j k
          have hcj := hcells (j / k) hdv (j % k) hmd
          rw [e] at hcj
          rw [get_flatK _ _ _ _ (by simpa [hlen] using hj)]
          have hjl : j % k < (Ls[j / k]).1.2.length := by rw [hevl]; exact hmd
          rw [List.getElem?_eq_getElem hjl] at hcj
          rw [getElem!_pos _ (j / k) (by simpa using hdv), getElem!_pos _ (j % k) (by simpa using hjl)]
          simp [hcj]
        · simp [World.frozen?, h3]
      have hcall := AnyQ.slices_SortFunc_eq L k aE zE (fun p : El enc C.w0 C.S0 k => p.1.2) hevl (fun x v hv => x.2.one v hv) (fun p q => cf p.1.1 q.1.1) hO' g #[] b (0 * k) cap Ls.toArray C.w0 hg (cmp_laysR henc (fun b hb => hm.stab b hb) hc b (0 * k) Ls.toArray.size hb1) hH hb2 (by simpa [hlen] using hl)
      rw [show Ls.toArray.size = n by simpa using hlen] at hcall
      refine hcall.mono fun ex w' ⟨he, q, os, hw⟩ => ?_
      subst hw
      obtain ⟨hs1, hs2, hs3⟩ := sortBy_spec (fun p q : El enc C.w0 C.S0 k => cf p.1.1 q.1.1) hO' Ls
      have hd2 : pdq (ltOf fun p q : El enc C.w0 C.S0 k => cf p.1.1 q.1.1) Ls.toArray 0 n (Lib.bitLen n) true true = (sortBy (fun p q : El enc C.w0 C.S0 k => cf p.1.1 q.1.1) Ls).toArray := by rw [← hlen]; simp [sortBy]
      rw [hd2]
      generalize sortBy (fun p q : El enc C.w0 C.S0 k => cf p.1.1 q.1.1) Ls = Rs at *
      have ht : Rs.map (fun p => p.1.1) = t := by
        refine hu _ ?_ fun i j x y hij hx hy => ?_
        · rw [← hLs]; exact hs1.map _
        · rw [List.getElem?_map] at hx hy
          obtain ⟨x', hx', rfl⟩ := Option.map_eq_some_iff.1 hx
          obtain ⟨y', hy', rfl⟩ := Option.map_eq_some_iff.1 hy
          exact hs3 i j x' y' hij hx' hy'
      have hset : sortWorldK (fun p : El enc C.w0 C.S0 k => p.1.2) k C.w0 b (0 * k) q Rs.toArray os = grown (C.w0.setRow b (putCells id 0 (flatK (fun p : El enc C.w0 C.S0 k => p.1.2) k Rs.toArray) c)) os q := by
        unfold sortWorldK putRowK putRow
        rw [mapBlock_setRow (w := Go.Sort.ahead C.w0 q) (b := b) (c := c) (e := e) (fr := (0, 0)) _ h3, Nat.zero_mul]
        rfl
      rw [hset]
      have hps : (putCells id 0 (flatK (fun p : El enc C.w0 C.S0 k => p.1.2) k Rs.toArray) c).size = c.size := by simp [putCells]
      have hrl : Rs.length = n := by rw [hs2, hlen]
      have hrr : ∀ w' : World, (∀ b', C.S0 b' → w'.heap[b']? = C.w0.heap[b']?) → RowsRep (FRep w' C.S0) (putCells id 0 (flatK (fun p : El enc C.w0 C.S0 k => p.1.2) k Rs.toArray) c) k (t.map enc) := fun w' hw' => by
        refine ⟨by rw [hps, ← ht]; simpa [hrl] using hsz, fun r hr => ?_, fun i j r p hi hj => ?_⟩
        · obtain ⟨x, _, rfl⟩ := List.mem_map.1 hr
          exact henc x
        · rw [List.getElem?_map] at hi
          obtain ⟨x, hx, rfl⟩ := Option.map_eq_some_iff.1 hi
          rw [← ht, List.getElem?_map] at hx
          obtain ⟨z, hz, rfl⟩ := Option.map_eq_some_iff.1 hx
          have hjk : j < k := by rw [← henc z.1.1]; exact (List.getElem?_eq_some_iff.1 hj).1
          have hin : i < Rs.length := (List.getElem?_eq_some_iff.1 hz).1
          have hlt : i * k + j < Rs.length * k := by
            calc i * k + j < i * k + k := by omega
              _ = (i + 1) * k := by rw [Nat.add_mul, Nat.one_mul]
              _ ≤ _ := Nat.mul_le_mul_right _ hin
          have hlt2 : i * k + j < c.size := by rw [hrl] at hlt; omega
          have hjl : j < z.1.2.length := by rw [hevl]; exact hjk
          refine ⟨z.1.2[j], ?_, z.2.one _ (List.getElem_mem hjl), (z.2.at_ j _ p (List.getElem?_eq_getElem hjl) hj).mono (fun _ h => h) hw'⟩
          have e1 : (i * k + j) / k = i := by rw [Nat.mul_comm, Nat.mul_add_div hk0, Nat.div_eq_of_lt hjk, Nat.add_zero]
          have e2 : (i * k + j) % k = j := by rw [Nat.mul_comm, Nat.mul_add_mod, Nat.mod_eq_of_lt hjk]
          have e3 : (flatK (fun p : El enc C.w0 C.S0 k => p.1.2) k Rs.toArray)[i * k + j]! = z.1.2[j] := by
            rw [get_flatK _ _ _ _ (by simpa using hlt), e1, e2]
            rw [List.getElem?_eq_getElem hin] at hz
            cases hz
            rw [getElem!_pos _ i (by simpa using hin)]
            simp [hjl]
          unfold putCells
          rw [Array.getElem?_mapIdx, Array.getElem?_eq_getElem hlt2]
          simp only [Option.map_some, Nat.zero_le, true_and, Nat.zero_add, size_flatK, List.size_toArray, Nat.sub_zero, id]
          rw [if_pos hlt, e3]
      obtain ⟨m1, hle1⟩ := hm.write (id := 0) (o' := .flat k (t.map enc)) rfl h h3 hps (plain_hown (by exact trivial)) (fun w' hle hb => .inr ⟨b, _, e, h, hb, hrr w' hle.same⟩)
      refine ⟨_, _, _, he, ((m1.reheap (H' := [(0, some (.flat k (t.map enc)))]) (fun id => ?_)).grow os q).1, tupR _ _ _⟩
      simp only [hlook]
      cases Nat.beq 0 id <;> rfl
end Go.RT
namespace Go.Proofs.YtoeckbdgemnngaaGreat
open Go Go.RT Go.Proofs Go.Pl
set_option linter.all false
set_option maxRecDepth 20000
set_option maxHeartbeats 4000000
theorem wHI38a {α : Prop} (h : α := by repeat (first | exact trivial | refine ⟨⟨rfl, rfl, rfl, tL⟩, ?_⟩)) : α := h
theorem routes_bad (db : List Lsa) (area router : Int) (l : List Ifs) (v : Vw) (e : Int) (he : e ≠ 0) (hlk : Pure Tryz.prog 20 [.agg [If .u32 area, VA db], If .u32 router, VIf l] (.tup [.agg (encVw v), If .i64 e])) : Pure Tryz.prog 10 [.agg [If .u32 area, VA db], If .u32 router, VIf l] (.tup [VLr [], If .i64 e]) := by
 refine Meets.intro Tryz.func10 rfl (Nat.le_of_ble_eq_true rfl) fun C hC => ?_
 simp only [List.map, argEnv, Nat.reduceAdd]
 refine nK ?_
 refine za ?_
 refine zu ?_
 refine ze ?_
 refine ze ?_
 refine zb ?_
 refine nK ?_
 refine za ?_
 refine zm ?_
 refine zc ?_
 refine zc ?_
 refine rpZ 28 rfl (op_call_pure (fun _ => hlk) rfl (Opd.func _) (oS (oT rfl) (oS (oT rfl) (oS (oT rfl) Opds.nil)))) ?_
 refine zc ?_
 refine zi ?_
 refine zi ?_
 refine zo ?_
 refine zg ?_
 refine zd ?_
 refine zb ?_
 refine nK ?_
 refine za ?_
 refine zc ?_
 refine zbe ?_
 refine zb ?_
 refine nK ?_
 refine n_cond _ rfl (fun hb => ?_) (fun hb => ?_)
 ·refine nK ?_
  refine za ?_
  refine zc ?_
  refine ze ?_
  refine zd ?_
  refine zb ?_
  refine nK ?_
  refine Next.weakS [] [] (by rfl) (keeps0 hC _) (G' := [(6, .fz (VLr [])), (7, IV .i64 e)]) (H' := []) wF trivial rfl ?_
  exact wO hC
 exfalso; simp at hb; exact he hb
theorem sortLr_m (l t : List LRt) (hn : l.length ≤ 100000000000) (hu : ∀ l' : List LRt, l'.Perm l → (∀ (i j : Nat) (x y : LRt), i < j → l'[i]? = some x → l'[j]? = some y → ¬ cmpP y.pf x.pf < 0) → l' = t) : Meets Tryz.prog 27 [.sl 0 9 0 l.length, .clo 28 [] []] 1 [(0, OLr l)] (.fz (.tup [])) [(0, OLr t)] 1 :=
 sort_meetsR (ρ := Tryz.sortLR_ren) Tryz.sortLR (k := 9) (by decide) (fun w => run_isAgg (t := 41) inferInstance w) (fun w => run_size (t := 41) inferInstance w) (enc := encLr) (fun _ => rfl) zLr [.int .u32 0, .int .i64 0, .int .i64 0, .int .u32 0, .int .i64 0, .bool false, .int .i64 0, .int .i64 0, .slice none 0 0]
  (fun w S => ⟨rfl, fun i v f hv hf => by
   match i with
   | 0 => simp [encLr, zLr] at hv hf; subst hv; subst hf; exact .lit _
   | 1 => simp [encLr, zLr] at hv hf; subst hv; subst hf; exact .lit _
   | 2 => simp [encLr, zLr] at hv hf; subst hv; subst hf; exact .lit _
   | 3 => simp [encLr, zLr] at hv hf; subst hv; subst hf; exact .lit _
   | 4 => simp [encLr, zLr] at hv hf; subst hv; subst hf; exact .lit _
   | 5 => simp [encLr, zLr] at hv hf; subst hv; subst hf; exact .lit _
   | 6 => simp [encLr, zLr] at hv hf; subst hv; subst hf; exact .lit _
   | 7 => simp [encLr, zLr] at hv hf; subst hv; subst hf; exact .lit _
   | 8 => simp [encLr, zLr] at hv hf; subst hv; subst hf; exact .nil _ _ _
   | i + 9 => simp at hv, fun v hv => by simp at hv; rcases hv with rfl | rfl | rfl | rfl | rfl | rfl | rfl | rfl | rfl <;> rfl⟩)
  (cf := cmpLr) swo_lr (g := 28) (enters_of Tryz.func28 (by kernel_rfl) rfl) (fun x y => cmpR_c x y) (l := l) (t := t) (by omega) hu
abbrev HR (area : Int) (db : List Lsa) (v : Vw) (m : Best) : Hp := [(0, some (.flat 2 [[If .u32 area, VA db]])), (1, some (.flat 10 [encVw v])), (2, OMap ekP evOf m), (3, some (.refs 1 [[.mp 2]]))]
theorem routes_c (db : List Lsa) (area router : Int) (l : List Ifs) (v : Vw) (hro : RtOk v db) (hlk : Pure Tryz.prog 20 [.agg [If .u32 area, VA db], If .u32 router, VIf l] (.tup [.agg (encVw v), If .i64 0])) : Pure Tryz.prog 10 [.agg [If .u32 area, VA db], If .u32 router, VIf l] (.tup [VLr (routesV v router area db), If .i64 0]) := by
 have hrl := hro.vw.rl
 have hnl := hro.vw.nl
 have hdl := hro.vw.dl
 unfold routesV bestF
 refine Meets.intro Tryz.func10 rfl (Nat.le_of_ble_eq_true rfl) fun C hC => ?_
 simp only [List.map, argEnv, Nat.reduceAdd]
 refine nK ?_
 refine za ?_
 refine zu ?_
 refine ze ?_
 refine ze ?_
 refine zb ?_
 refine nK ?_
 refine za ?_
 refine zm ?_
 refine zc ?_
 refine zc ?_
 refine rpZ 28 rfl (op_call_pure (fun _ => hlk) rfl (Opd.func _) (oS (oT rfl) (oS (oT rfl) (oS (oT rfl) Opds.nil)))) ?_
 refine zc ?_
 refine zi ?_
 refine zi ?_
 refine zo ?_
 refine zg ?_
 refine zd ?_
 refine zb ?_
 refine nK ?_
 refine za ?_
 refine zc ?_
 refine zbe ?_
 refine zb ?_
 refine nK ?_
 refine n_cond _ rfl (fun hb => ?_) (fun hb => ?_)
 ·exfalso; simp at hb
 refine nK ?_
 refine za ?_
 refine zeg ?_
 refine zec ?_
 refine zcb ?_
 refine zb ?_
 refine nK ?_
 refine za ?_
 refine rpZ 35 rfl (op_makeFunc rfl Opds.nil (oS (oT rfl) Opds.nil)) ?_
 refine zd ?_
 refine zb ?_
 refine nK ?_
 refine za ?_
 refine zf ?_
 refine zf ?_
 refine zh ?_
 refine zk ?_
 refine zx ?_
 refine zb ?_
 refine nK ?_
 refine n_loop (ι := Nat × Best) (fun p => ([(1, IV .u32 router), (3, .ptr 0 2 0 0), (8, .ptr 1 10 0 0), (10, .ptr 3 1 0 0), (11, .clo 21 [] [.ptr 3 1 0 0]), (38, .fz (VV v.g.ns)), (39, IV .i64 v.g.ns.length), (40, IV .i64 p.1)], HR area db v p.2, 4)) (fun p => p.1 ≤ v.g.ns.length ∧ BOk (ahF v) p.2 ∧ p.2.length ≤ p.1 ∧ netsGo v p.1 (v.g.ns.drop p.1) p.2 = netsGo v 0 v.g.ns []) (fun p => v.g.ns.length - p.1) (0, []) ⟨Nat.zero_le _, BOk.nil _, Nat.le_refl _, rfl⟩ ?_ ?_
 ·refine Next.weak [0, 1, 2, 3] [] (by rfl) (keeps0 hC _) wG (by exact ⟨wS, ⟨⟨rfl, rfl, .fflat _ _ _ rfl tW⟩, ⟨wS, ⟨wS, trivial⟩⟩⟩⟩) wN (rel_intro)
 intro ⟨i, m⟩ ⟨hi, hm, hml, hS⟩ K hK
 dsimp only at hi hm hml hS ⊢
 refine nK ?_
 refine za ?_
 refine zn ?_
 refine zb ?_
 refine nK ?_
 refine n_cond _ rfl (fun hb => ?_) (fun hb => ?_)
 ·have hlt : i < v.g.ns.length := by simp at hb; omega
  have hr1 := row_at' encV v.g.ns i hlt
  have hrd := row_of encN v.t.dist (v.g.rs.length + i) 0 (by omega)
  have hz := hro.ns v.g.ns[i] (List.getElem_mem hlt)
  rw [nets_step hlt] at hS
  generalize v.g.ns[i] = z at *
  have hK1 := hK (i + 1, net1 v i z m) ⟨by dsimp only; omega, net1_ok hro hz hm i, by dsimp only; have := net1_len v i z m; omega, hS⟩ (by dsimp only; omega)
  dsimp only at hK1
  unfold net1 at hK1
  clear hK
  have hho := hops_v v ((v.g.rs.length + i : Nat) : Int) hro.vw
  have had := add_b (ahF v) m (makeP z.id z.ln) ⟨v.t.dist.getD (v.g.rs.length + i) 0, hopF v ((v.g.rs.length + i : Nat) : Int)⟩ hm (makeP_ok hz.1 hz.2.2) (hopF_len hro.vw _)
  simp only [Int.natCast_add] at hho had hK1
  rcases Bool.eq_false_or_eq_true (makeB z.ln) with hmk | hmk
  ·have hpm := make_ok z.id z.ln hmk hz.1
   rw [hmk, Bool.true_and] at hK1
   refine nK ?_
   refine za ?_
   refine zc ?_
   refine zr ?_
   refine zv ?_
   refine zo ?_
   refine zd ?_
   refine zg ?_
   refine zb ?_
   refine nK ?_
   refine za ?_
   refine zf ?_
   refine zf ?_
   refine zh ?_
   refine zk ?_
   refine zc ?_
   refine zbm ?_
   refine zd ?_
   refine zb ?_
   refine nK ?_
   refine za ?_
   refine zf ?_
   refine zh ?_
   refine zf ?_
   refine zh ?_
   refine rpZ 56 rfl (op_call_pure (fun _ => hpm) rfl (Opd.func _) (oS (oT rfl) (oS (oT rfl) Opds.nil))) ?_
   refine zc ?_
   refine zi ?_
   refine zi ?_
   refine zo ?_
   refine zg ?_
   refine zd ?_
   refine zb ?_
   refine nK ?_
   refine za ?_
   refine zc ?_
   refine zba ?_
   refine zc ?_
   refine zp ?_
   refine zck ?_
   refine zs ?_
   refine zl ?_
   refine rgZ 66 rfl rfl tG (op_idx_fz (v.g.rs.length + i) rfl (oO rfl tO) (oO rfl tO) (by intro _; exact ⟨by omega, hrd⟩)) ?_
   refine zbt ?_
   refine zds ?_
   refine zy ?_
   refine zb ?_
   refine nK ?_
   refine n_cond _ rfl (fun hb => ?_) (fun hb => ?_)
   ·rw [if_pos (by simpa using hb)] at hK1
    refine nK ?_
    refine s_draw mixed ?_
    refine zc ?_
    refine zm ?_
    refine zf ?_
    refine zf ?_
    refine zh ?_
    refine zc ?_
    refine rpZ 76 rfl (op_idx_fz (v.g.rs.length + i) rfl (oT rfl) (oT rfl) (by intro _; exact ⟨by omega, hrd⟩)) ?_
    refine zt ?_
    refine zm ?_
    refine zc ?_
    refine rpZ 80 rfl (op_call_pure (fun _ => hho) rfl (Opd.func _) (oS (oT rfl) (oS (oT rfl) Opds.nil))) ?_
    refine zbn ?_
    refine Run.effW (dd := some 82) rfl rfl (op_call (n := 2) (n' := 2) [3, 2] (fun _ => had) rfl (oT rfl) (oS (oT rfl) (oS (oT rfl) Opds.nil)) rfl rfl (Lent.of rfl rfl wHI38a rfl) rfl rfl rfl rfl rfl) (by first | exact ext_call | exact tE) ?_
    refine zq ?_
    refine nK ?_
    refine za ?_
    refine zj ?_
    refine zc ?_
    refine zb ?_
    refine nK ?_
    refine Next.weak [0, 1, 2, 3] [] (by rfl) (keeps0 hC _) wG wR wN (hK1)
   rw [if_neg (by simpa using hb)] at hK1
   refine nK ?_
   refine za ?_
   refine zj ?_
   refine zc ?_
   refine zb ?_
   refine nK ?_
   refine Next.weak [0, 1, 2, 3] [] (by rfl) (keeps0 hC _) wG wR wN (hK1)
  have hpm := make_bad z.id z.ln hmk
  rw [hmk, Bool.false_and, if_neg (by decide)] at hK1
  refine nK ?_
  refine za ?_
  refine zc ?_
  refine zr ?_
  refine zv ?_
  refine zo ?_
  refine zd ?_
  refine zg ?_
  refine zb ?_
  refine nK ?_
  refine za ?_
  refine zf ?_
  refine zf ?_
  refine zh ?_
  refine zk ?_
  refine zc ?_
  refine zbm ?_
  refine zd ?_
  refine zb ?_
  refine nK ?_
  refine za ?_
  refine zf ?_
  refine zh ?_
  refine zf ?_
  refine zh ?_
  refine rpZ 56 rfl (op_call_pure (fun _ => hpm) rfl (Opd.func _) (oS (oT rfl) (oS (oT rfl) Opds.nil))) ?_
  refine zc ?_
  refine zi ?_
  refine zi ?_
  refine zo ?_
  refine zg ?_
  refine zd ?_
  refine zb ?_
  refine nK ?_
  refine za ?_
  refine zc ?_
  refine zba ?_
  refine zc ?_
  refine zp ?_
  refine zck ?_
  refine zs ?_
  refine zl ?_
  refine rgZ 66 rfl rfl tG (op_idx_fz (v.g.rs.length + i) rfl (oO rfl tO) (oO rfl tO) (by intro _; exact ⟨by omega, hrd⟩)) ?_
  refine zbt ?_
  refine zds ?_
  refine zy ?_
  refine zb ?_
  refine nK ?_
  refine n_cond _ rfl (fun hb => ?_) (fun hb => ?_)
  ·exfalso; simp at hb
  refine nK ?_
  refine za ?_
  refine zj ?_
  refine zc ?_
  refine zb ?_
  refine nK ?_
  refine Next.weak [0, 1, 2, 3] [] (by rfl) (keeps0 hC _) wG wR wN (hK1)
 have hie : i = v.g.ns.length := by simp at hb; omega
 subst hie
 rw [List.drop_length] at hS
 simp only [netsGo] at hS
 rw [← hS]
 clear hS hK
 obtain ⟨B, hB⟩ : ∃ B : Nat, B = 40000000 := ⟨_, rfl⟩
 refine nK ?_
 refine za ?_
 refine zf ?_
 refine zf ?_
 refine zh ?_
 refine zk ?_
 refine zx ?_
 refine zb ?_
 refine nK ?_
 refine n_loop (ι := Nat × Best) (fun p => ([(1, IV .u32 router), (3, .ptr 0 2 0 0), (8, .ptr 1 10 0 0), (10, .ptr 3 1 0 0), (11, .clo 21 [] [.ptr 3 1 0 0]), (86, .fz (VU v.g.rs)), (87, IV .i64 v.g.rs.length), (88, IV .i64 p.1)], HR area db v p.2, 4)) (fun p => p.1 ≤ v.g.rs.length ∧ BOk (ahF v) p.2 ∧ p.2.length ≤ 1000 + p.1 * B ∧ rtsGo v router db p.1 (v.g.rs.drop p.1) p.2 = rtsGo v router db 0 v.g.rs m) (fun p => v.g.rs.length - p.1) (0, m) ⟨Nat.zero_le _, hm, by dsimp only; rw [Nat.zero_mul]; omega, rfl⟩ ?_ ?_
 ·refine Next.weak [0, 1, 2, 3] [] (by rfl) (keeps0 hC _) wG wR wN (rel_intro)
 intro ⟨i, m1⟩ ⟨hi, hm1, hml1, hS⟩ K hK
 dsimp only at hi hm1 hml1 hS ⊢
 refine nK ?_
 refine za ?_
 refine zn ?_
 refine zb ?_
 refine nK ?_
 refine n_cond _ rfl (fun hb => ?_) (fun hb => ?_)
 ·have hlt : i < v.g.rs.length := by simp at hb; omega
  have hr1 := row_at' encU v.g.rs i hlt
  have hrd := row_of encN v.t.dist i 0 (by omega)
  have hdi : -1 ≤ v.t.dist.getD i 0 ∧ v.t.dist.getD i 0 ≤ 10000000 := by
   have hld : i < v.t.dist.length := by omega
   rw [List.getD_eq_getElem?_getD, List.getElem?_eq_getElem hld]
   exact hro.di _ (List.getElem_mem hld)
  obtain ⟨hsl, hsx⟩ := hro.st v.g.rs[i] (List.getElem_mem hlt)
  rw [rtsI_step hlt] at hS
  generalize v.g.rs[i] = r at *
  have hst := stubs_a db r (by have := hro.dn; unfold lenOk; omega) hro.dl
  have hK1 := fun m2 h1 h2 h3 => hK (i + 1, m2) ⟨by dsimp only; omega, h1, h2, h3⟩ (by dsimp only; omega)
  dsimp only at hK1
  clear hK
  generalize stubsA db r = st at *
  refine nK ?_
  refine za ?_
  refine zc ?_
  refine zr ?_
  refine zt ?_
  refine zd ?_
  refine zd ?_
  refine zb ?_
  refine nK ?_
  refine za ?_
  refine zf ?_
  refine zh ?_
  refine zc ?_
  refine rpZ 96 rfl (op_call_pure (fun _ => hst) rfl (Opd.func _) (oS (oT rfl) (oS (oT rfl) Opds.nil))) ?_
  refine zk ?_
  refine zx ?_
  refine zb ?_
  refine nK ?_
  refine n_loop (ι := Nat × Best) (fun p => ([(1, IV .u32 router), (3, .ptr 0 2 0 0), (8, .ptr 1 10 0 0), (10, .ptr 3 1 0 0), (11, .clo 21 [] [.ptr 3 1 0 0]), (17, IV .i64 i), (18, IV .u32 r), (86, .fz (VU v.g.rs)), (87, IV .i64 v.g.rs.length), (88, IV .i64 i), (96, .fz (VL st)), (97, IV .i64 st.length), (98, IV .i64 p.1)], HR area db v p.2, 4)) (fun p => p.1 ≤ st.length ∧ BOk (ahF v) p.2 ∧ p.2.length ≤ 1000 + i * B + p.1 ∧ stubGo v router i r (st.drop p.1) p.2 = stubGo v router i r st m1) (fun p => st.length - p.1) (0, m1) ⟨Nat.zero_le _, hm1, by dsimp only; omega, rfl⟩ ?_ ?_
  ·refine Next.weak [0, 1, 2, 3] [] (by rfl) (keeps0 hC _) wG wR wN (rel_intro)
  intro ⟨j, m2⟩ ⟨hj, hm2, hml2, hS2⟩ K2 hK2
  dsimp only at hj hm2 hml2 hS2 ⊢
  refine nK ?_
  refine za ?_
  refine zn ?_
  refine zb ?_
  refine nK ?_
  refine n_cond _ rfl (fun hb => ?_) (fun hb => ?_)
  ·have hlt2 : j < st.length := by simp at hb; omega
   have hr2 := row_at' encL st j hlt2
   obtain ⟨hxo, hx0, hx1⟩ := hsx st[j] (List.getElem_mem hlt2)
   rw [stubG_step hlt2] at hS2
   generalize st[j] = x at *
   have hK3 := hK2 (j + 1, stub1 v router i r x m2) ⟨by dsimp only; omega, stub1_ok hro hxo hm2 router r i, by dsimp only; have := stub1_len v router r i x m2; omega, hS2⟩ (by dsimp only; omega)
   dsimp only at hK3
   unfold stub1 at hK3
   clear hK2 hS2
   have hsp := stubP_c x hxo
   have how := own_v v (stubP x) hro.vw
   have hho := hops_v v (i : Int) hro.vw
   have had := add_b (ahF v) m2 (stubP x) ⟨x.c, ownF v (stubP x)⟩ hm2 (stubP_ok hxo) (ownF_len hro.vw _)
   have had2 := add_b (ahF v) m2 (stubP x) ⟨v.t.dist.getD i 0 + x.c, hopF v (i : Int)⟩ hm2 (stubP_ok hxo) (hopF_len hro.vw _)
   refine nK ?_
   refine za ?_
   refine zr ?_
   refine zv ?_
   refine zo ?_
   refine zg ?_
   refine zb ?_
   refine nK ?_
   refine za ?_
   refine zc ?_
   refine zc ?_
   refine zbx ?_
   refine zd ?_
   refine zb ?_
   refine nK ?_
   refine n_cond _ rfl (fun hb => ?_) (fun hb => ?_)
   ·rw [if_pos (by simpa using hb)] at hK3
    refine nK ?_
    refine s_draw mixed ?_
    refine zc ?_
    refine zm ?_
    refine rpZ 108 rfl (op_call_pure (fun _ => hsp) rfl (Opd.func _) (oS (oT rfl) Opds.nil)) ?_
    refine zf ?_
    refine zh ?_
    refine zm ?_
    refine zm ?_
    refine rpZ 113 rfl (op_call_pure (fun _ => hsp) rfl (Opd.func _) (oS (oT rfl) Opds.nil)) ?_
    refine rpZ 114 rfl (op_call_pure (fun _ => how) rfl (Opd.func _) (oS (oT rfl) (oS (oT rfl) Opds.nil))) ?_
    refine zbn ?_
    refine Run.effW (dd := some 116) rfl rfl (op_call (n := 2) (n' := 2) [3, 2] (fun _ => had) rfl (oT rfl) (oS (oT rfl) (oS (oT rfl) Opds.nil)) rfl rfl (Lent.of rfl rfl wHI38a rfl) rfl rfl rfl rfl rfl) (by first | exact ext_call | exact tE) ?_
    refine zq ?_
    refine nK ?_
    refine za ?_
    refine zj ?_
    refine zc ?_
    refine zb ?_
    refine nK ?_
    refine Next.weak [0, 1, 2, 3] [] (by rfl) (keeps0 hC _) wG wR wN (hK3)
   rw [if_neg (by simpa using hb)] at hK3
   refine nK ?_
   refine za ?_
   refine zf ?_
   refine zf ?_
   refine zh ?_
   refine zc ?_
   refine rpZ 122 rfl (op_idx_fz i rfl (oT rfl) (oT rfl) (by intro _; exact ⟨rfl, hrd⟩)) ?_
   refine zt ?_
   refine zcg ?_
   refine zd ?_
   refine zb ?_
   refine nK ?_
   refine n_cond _ rfl (fun hb => ?_) (fun hb => ?_)
   ·rw [if_pos (by simpa using hb)] at hK3
    refine nK ?_
    refine s_draw mixed ?_
    refine zc ?_
    refine zm ?_
    refine rpZ 127 rfl (op_call_pure (fun _ => hsp) rfl (Opd.func _) (oS (oT rfl) Opds.nil)) ?_
    refine zf ?_
    refine zf ?_
    refine zh ?_
    refine zc ?_
    refine rpZ 132 rfl (op_idx_fz i rfl (oT rfl) (oT rfl) (by intro _; exact ⟨rfl, hrd⟩)) ?_
    refine zt ?_
    refine zf ?_
    refine zh ?_
    refine zbm ?_
    refine zm ?_
    refine zc ?_
    refine rpZ 139 rfl (op_call_pure (fun _ => hho) rfl (Opd.func _) (oS (oT rfl) (oS (oT rfl) Opds.nil))) ?_
    refine zbn ?_
    refine Run.effW (dd := some 141) rfl rfl (op_call (n := 2) (n' := 2) [3, 2] (fun _ => had2) rfl (oT rfl) (oS (oT rfl) (oS (oT rfl) Opds.nil)) rfl rfl (Lent.of rfl rfl wHI38a rfl) rfl rfl rfl rfl rfl) (by first | exact ext_call | exact tE) ?_
    refine zq ?_
    refine nK ?_
    refine za ?_
    refine zj ?_
    refine zc ?_
    refine zb ?_
    refine nK ?_
    refine Next.weak [0, 1, 2, 3] [] (by rfl) (keeps0 hC _) wG wR wN (hK3)
   rw [if_neg (by simpa using hb)] at hK3
   refine nK ?_
   refine za ?_
   refine zj ?_
   refine zc ?_
   refine zb ?_
   refine nK ?_
   refine Next.weak [0, 1, 2, 3] [] (by rfl) (keeps0 hC _) wG wR wN (hK3)
  have hje : j = st.length := by simp at hb; omega
  subst hje
  rw [List.drop_length] at hS2
  simp only [stubGo] at hS2
  clear hK2
  have hK3 := hK1 m2 hm2 (by rw [Nat.add_mul, Nat.one_mul]; omega) (by rw [hS2]; exact hS)
  refine nK ?_
  refine za ?_
  refine zj ?_
  refine zc ?_
  refine zb ?_
  refine nK ?_
  refine Next.weak [0, 1, 2, 3] [] (by rfl) (keeps0 hC _) wG wR wN (hK3)
 have hie : i = v.g.rs.length := by simp at hb; omega
 subst hie
 rw [List.drop_length] at hS
 simp only [rtsGo] at hS
 rw [← hS]
 clear hS hK
 have hm1l : m1.length ≤ 40000001000 := by
  have := Nat.mul_le_mul_right B hrl
  rw [hB] at this hml1
  omega
 clear hml1 hB B
 have hjl : ∀ js : List Nat, js.Nodup → (∀ j ∈ js, j < m1.length) → (outJ area m1 js).length ≤ 40000001000 := fun js h1 h2 => Nat.le_trans (outJ_len area m1 js) (Nat.le_trans (js_len h1 h2) hm1l)
 generalize hNN : 40000001000 = NN at hjl hm1l
 refine nK ?_
 refine za ?_
 refine ze ?_
 refine zb ?_
 refine nK ?_
 refine Next.adopt 21 9 rfl ?_
 refine Next.openM 2 rfl (fun arr cl b hk hv hbo => ?_)
 have hks : arr.size = m1.length := by simpa using hk
 refine nK ?_
 refine za ?_
 refine zbb ?_
 refine Run.eff (dd := some 145) rfl rfl (op_rangeM rfl (oT rfl) rfl) ?_
 refine zb ?_
 refine nK ?_
 refine n_loop (ι := List Nat) (fun js => ([(3, .ptr 0 2 0 0), (21, .sl 2 9 0 (outJ area m1 js).length), (145, .ptr 3 0 0 0)], [(0, some (.flat 2 [[If .u32 area, VA db]])), (1, some (.mapc (m1.map fun p => ekP p.1) (m1.map fun p => evOf p.2) arr cl b)), (2, OLr (outJ area m1 js)), (3, Oit b arr cl js)], 4)) (fun js => js.Nodup ∧ ∀ j ∈ js, j < m1.length) (fun js => m1.length - js.length) [] ⟨List.nodup_nil, by simp⟩ ?_ ?_
 ·refine Next.weak [0, 2, 4, 5] [] (by rfl) (keeps0 hC _) wG wR wN (rel_intro)
 intro js ⟨hnd, hlt⟩ K hK
 refine nK ?_
 refine n_next (x := .tmp 145) (d := 146) (rid := 3) (id := 1) (ks := m1.map fun p => ekP p.1) (vs := m1.map fun p => evOf p.2) (arr := arr) (cl := cl) (b := b) (js := js) rfl rfl rfl rfl (oT rfl) rfl rfl (fun j hj => by rw [hks]; exact hlt j hj) ?_ ?_
 ·intro hall
  refine zi ?_
  refine zb ?_
  refine nK ?_
  refine n_cond _ rfl (fun hb => ?_) (fun hb => ?_)
  ·cases hb
  have hp := outJ_perm area m1 hnd hlt (fun j hj => hall j (by rw [hks]; exact hj))
  have hjn := hjl js hnd hlt
  have hso := sortLr_m (outJ area m1 js) (sortLr (m1.flatMap (rtOf area))) (by omega) (fun l' hp' hs' => sortLr_uniq (apart_of hm1.nd) hp hp' hs')
  have hle : (outJ area m1 js).length = (sortLr (m1.flatMap (rtOf area))).length := by rw [sortLr_len]; exact hp.length_eq
  rw [hle] at hso ⊢
  generalize sortLr (m1.flatMap (rtOf area)) = R at *
  refine nK ?_
  refine za ?_
  refine zc ?_
  refine Run.eff (dd := some 167) rfl rfl (op_call (n := 1) (n' := 1) [2] (fun _ => hso) rfl (Opd.func _) (oS (oT rfl) (oS (Opd.func _) Opds.nil)) rfl rfl (Lent.of rfl rfl wHI38a rfl) rfl rfl rfl rfl rfl) ?_
  refine zb ?_
  refine nK ?_
  refine za ?_
  refine zc ?_
  refine zd ?_
  refine ze ?_
  refine zb ?_
  refine nK ?_
  refine Next.weakS [] [6] (by rfl) (keeps0 hC _) (G' := [(6, .fz (VLr R)), (7, IV .i64 0)]) (H' := []) wF trivial rfl ?_
  exact wO hC
 intro j fk fv hj hnj hfk hfv
 refine zi ?_
 refine zb ?_
 have hjm : j < m1.length := by rw [← hks]; exact hj
 have e1 : fk = ekP m1[j].1 := by
  rw [List.getElem?_map, List.getElem?_eq_getElem hjm] at hfk
  exact (Option.some.inj hfk).symm
 have e2 : fv = evOf m1[j].2 := by
  rw [List.getElem?_map, List.getElem?_eq_getElem hjm] at hfv
  exact (Option.some.inj hfv).symm
 have hnd2 : (js ++ [j]).Nodup := List.nodup_append.2 ⟨hnd, by simp, fun a ha c hc => by rw [List.mem_singleton.1 hc]; exact fun e => hnj (e ▸ ha)⟩
 have hlt2 : ∀ i ∈ js ++ [j], i < m1.length := fun i hi => by
  rcases List.mem_append.1 hi with h | h
  ·exact hlt i h
  rw [List.mem_singleton.1 h]; exact hjm
 have hjn := hjl js hnd hlt
 have hK1 := hK (js ++ [j]) ⟨hnd2, hlt2⟩ (by have := js_len hnd2 hlt2; simp only [List.length_append, List.length_cons, List.length_nil] at this ⊢; omega)
 rw [outJ_snoc area m1 js j hjm] at hK1
 clear hK
 subst e1 e2
 generalize m1[j] = e at *
 unfold rtOf at hK1
 refine nK ?_
 refine n_cond _ rfl (fun hb => ?_) (fun hb => ?_)
 ·refine nK ?_
  refine za ?_
  refine rlZ 148 rfl (op_entryM (id := 1) (j := j) rfl (oT rfl) rfl rfl hfk hfv) ?_
  refine zi ?_
  refine zi ?_
  refine zo ?_
  refine zo ?_
  refine zg ?_
  refine zg ?_
  refine zb ?_
  refine nK ?_
  refine za ?_
  refine zf ?_
  refine zh ?_
  refine zk ?_
  refine zbu ?_
  refine zb ?_
  refine nK ?_
  refine n_cond _ rfl (fun hb => ?_) (fun hb => ?_)
  ·rw [if_pos (by simpa using hb)] at hK1
   have e3 : (outJ area m1 js ++ [(⟨e.1, 3, area, e.2.co, false, 0, 0, e.2.hs⟩ : LRt)]).length = (outJ area m1 js).length + 1 := by simp
   rw [e3] at hK1
   refine nK ?_
   refine za ?_
   refine zc ?_
   refine zm ?_
   refine zf ?_
   refine zh ?_
   refine zf ?_
   refine zh ?_
   refine zf ?_
   refine zh ?_
   refine rpZ 163 rfl (op_build rfl rfl rfl (FillF.cons _ _ _ _ _ _ _ _ _ _ (by rfl) (oT rfl) tC (by rfl) tR (FillF.cons _ _ _ _ _ _ _ _ _ _ (by rfl) oC tC (by rfl) tR (FillF.cons _ _ _ _ _ _ _ _ _ _ (by rfl) (oT rfl) tC (by rfl) tR (FillF.cons _ _ _ _ _ _ _ _ _ _ (by rfl) (oT rfl) tC (by rfl) tR (FillF.cons _ _ _ _ _ _ _ _ _ _ (by rfl) (oT rfl) tC (by rfl) tR (FillF.nil _))))))) ?_
   refine zcz ?_
   refine zdd ?_
   refine zd ?_
   refine zb ?_
   refine nK ?_
   refine Next.weak [0, 1, 7, 3] [] (by rfl) (keeps0 hC _) wG (by repeat (first | exact trivial | refine ⟨wS, ?_⟩ | refine ⟨ent_same rfl rfl (rfEq rfl tU) tL, ?_⟩ | refine ⟨ent_same rfl rfl (flEq rfl (by first | (simp; done) | (simp; omega) | (simp [encR, encG, encTr, encVw, encIf, encA, encE, encP, encOf, encLr, encV, encL]; done) | simp [maxC, minC])) trivial, ?_⟩)) wN (hK1)
  rw [if_neg (by simpa using hb), List.append_nil] at hK1
  refine nK ?_
  refine Next.weak [0, 1, 2, 3] [] (by rfl) (keeps0 hC _) wG wR wN (hK1)
 cases hb
end Go.Proofs.YtoeckbdgemnngaaGreat
