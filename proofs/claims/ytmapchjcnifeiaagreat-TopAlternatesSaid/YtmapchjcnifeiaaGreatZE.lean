/- A part of the proof: Z16, Z17, Z18, Z20, Z30, Z31, Z32, Z34, Z27, Z42, Z43, Z44, Z45, Z46, LF4, Z47, Z106, Z105, Z107, LF5, Z220, LZ. -/
import Derived.Test.YtmapchjcnifeiaaGreatZD
set_option linter.all false
namespace Go.Proofs.YtmapchjcnifeiaaGreat
open Go Go.RT Go.Proofs Go.Pl
set_option linter.all false
set_option maxRecDepth 20000
set_option maxHeartbeats 2000000
theorem merge_c (g : Gr) (u v n k0 : Nat) (ru : List Int) (ll : List (List Int)) (h : Int) (huv : u ≠ v) (hll : ll.length = n) (hv : v < n) (hn : n ≤ 128) (hrow : (ll.getD v []).length ≤ 2000) : Meets Tryz.prog 43 [IV .i64 h, .fz (.cellp (encG g)), .fz (.cellp [If .i64 v]), .ptr 0 1 0 0] 3 [(0, some (.refs 1 [[.sl 1 1 0 n]])), (1, some (.refs 1 (tkL (rowsI ll) u k0))), (2, OI ru)] (.fz (.tup [])) [(0, some (.refs 1 [[.sl 1 1 0 n]])), (1, some (.refs 1 (tkL (rowsI (mergeL g.r v ll h)) u k0))), (2, OI ru)] 3 := by
 have hrg := rowsI_get (ll := ll) (v := v) (by omega)
 unfold mergeL capV rowAt'
 generalize ll.getD v [] = row at *
 refine Meets.intro Tryz.func43 rfl (Nat.le_of_ble_eq_true rfl) fun C hC => ?_
 simp only [List.map, argEnv, Nat.reduceAdd]
 refine Next.take 1 v 0 rfl (tk_get huv hrg) rfl rfl ?_
 have hs1 := set_get (tkL (rowsI ll) u k0) v [.sl 3 1 0 (row.map encN).length] (by rw [tk_len, rowsI_len]; omega)
 refine nK ?_
 refine zb ?_
 refine za ?_
 refine zx ?_
 refine zj ?_
 refine zcj ?_
 refine zc ?_
 refine nK ?_
 refine n_cond _ rfl (fun hb => ?_) (fun hb => ?_)
 ·have hq0 : g.r ≤ h := by simpa using hb
  rw [if_pos hq0]
  refine nK ?_
  refine zb ?_
  refine zj ?_
  refine zd ?_
  refine zc ?_
  refine nK ?_
  generalize hqe : (v : Int) = hq at *
  have hbs := bsearchi_c row hq (by omega)
  have hble := bsI_le row hq
  have hiu : insU row hq = if hitI row hq = true then row else insL row (bsI row hq) hq := rfl
  change Pure Tryz.prog 44 [VI row, If .i64 hq] (.tup [If .i64 (bsI row hq : Nat), Bf (hitI row hq)]) at hbs
  rw [hiu]
  generalize bsI row hq = k at *
  generalize hitI row hq = hit at *
  refine nK ?_
  refine zb ?_
  refine zy ?_
  refine zj ?_
  refine rpZ 15 rfl (op_idx_sl0 v rfl (oT rfl) (oT rfl) (by intro _; exact ⟨by omega, by omega⟩)) ?_
  refine rlZ 16 rfl (op_load1_refs rfl (oT rfl) (by intro _; exact ⟨rfl, hs1⟩) rfl) ?_
  refine za ?_
  refine rlZ 18 rfl (op_call_lend [3] (fun _ => hbs) rfl (Opd.func _) (oS (oT rfl) (oS (oT rfl) Opds.nil)) (by exact .cons _ _ _ _ tW (.cons _ _ _ _ tW .nil)) rfl rfl) ?_
  refine za ?_
  refine zi ?_
  refine zi ?_
  refine zd ?_
  refine zd ?_
  refine zc ?_
  refine nK ?_
  refine zb ?_
  refine za ?_
  refine zbj ?_
  refine zc ?_
  refine nK ?_
  refine n_cond _ rfl (fun hb => ?_) (fun hb => ?_)
  ·have hh : hit = false := by simpa using hb
   subst hh
   rw [if_neg (by simp)]
   have hins := inserti_c row hq k (by omega) hble
   have hil := insL_len row k hq hble
   have hle : (row.map encN).length = row.length := List.length_map _
   rw [← hle] at hins
   refine nK ?_
   refine s_draw mixed ?_
   refine zy ?_
   refine zj ?_
   refine zy ?_
   refine zj ?_
   refine rpZ 27 rfl (op_idx_sl0 v rfl (oT rfl) (oT rfl) (by intro _; exact ⟨by omega, by omega⟩)) ?_
   refine rlZ 28 rfl (op_load1_refs rfl (oT rfl) (by intro _; exact ⟨rfl, hs1⟩) rfl) ?_
   refine za ?_
   refine za ?_
   refine zde ?_
   refine Run.effW (dd := some 32) rfl rfl (op_call (n := 2) (n' := 3) [3, 4] (fun _ => hins) rfl (Opd.func _) (oS (oT rfl) (oS (oT rfl) (oS (oT rfl) Opds.nil))) rfl rfl (Lent.of rfl rfl (by exact ⟨⟨rfl, rfl, rfl, trivial⟩, ⟨rfl, rfl, rfl, trivial⟩, trivial⟩) rfl) rfl rfl rfl rfl rfl) (by first | exact ext_call | exact tE) ?_
   refine rpZ 33 rfl (op_idx_sl0 v rfl (oT rfl) (oT rfl) (by intro _; exact ⟨by omega, by omega⟩)) ?_
   refine Run.effW (dd := none) rfl rfl (op_store_refs rfl (oT rfl) (oT rfl) tP rfl rfl hs1 tS) (by first | exact ext_call | exact tE) ?_
   refine zs ?_
   refine Next.untake 1 v 0 rfl (set_get _ _ _ (by rw [List.length_set, tk_len, rowsI_len]; omega)) rfl rfl (by rw [List.length_map, hil, hle]) rfl ?_
   refine Next.weak [0, 1, 2] [] (by rfl) (keepsN hC _ rfl) (G' := []) (H' := [(0, some (.refs 1 [[.sl 1 1 0 n]])), (1, some (.refs 1 (tkL (rowsI (ll.set v (insL row k hq))) u k0))), (2, OI ru)]) trivial (by exact ⟨wS, ⟨ent_tk rfl rfl rfl (by decide) (congrArg (fun r => some (Ob.refs 1 r)) ((tk_back huv).trans (by rw [rowsI_set]))), ⟨wS, trivial⟩⟩⟩) wN ?_
   exact n_out0 rfl
  have hh : hit = true := by simpa using hb
  subst hh
  rw [if_pos rfl]
  refine Next.untake 1 v 0 rfl hs1 rfl rfl (by rw [List.length_map]) rfl ?_
  refine Next.weak [0, 1, 2] [] (by rfl) (keepsN hC _ rfl) (G' := []) (H' := [(0, some (.refs 1 [[.sl 1 1 0 n]])), (1, some (.refs 1 (tkL (rowsI (ll.set v (row))) u k0))), (2, OI ru)]) trivial (by exact ⟨wS, ⟨ent_tk rfl rfl rfl (by decide) (congrArg (fun r => some (Ob.refs 1 r)) ((tk_back2 huv).trans (by rw [rowsI_set]))), ⟨wS, trivial⟩⟩⟩) wN ?_
  refine nK2 ?_
  exact n_out0 rfl
 have hq0 : ¬ g.r ≤ h := by simpa using hb
 rw [if_neg hq0]
 refine nK ?_
 generalize hqe : h = hq at *
 have hbs := bsearchi_c row hq (by omega)
 have hble := bsI_le row hq
 have hiu : insU row hq = if hitI row hq = true then row else insL row (bsI row hq) hq := rfl
 change Pure Tryz.prog 44 [VI row, If .i64 hq] (.tup [If .i64 (bsI row hq : Nat), Bf (hitI row hq)]) at hbs
 rw [hiu]
 generalize bsI row hq = k at *
 generalize hitI row hq = hit at *
 refine nK ?_
 refine zb ?_
 refine zy ?_
 refine zj ?_
 refine rpZ 15 rfl (op_idx_sl0 v rfl (oT rfl) (oT rfl) (by intro _; exact ⟨by omega, by omega⟩)) ?_
 refine rlZ 16 rfl (op_load1_refs rfl (oT rfl) (by intro _; exact ⟨rfl, hs1⟩) rfl) ?_
 refine za ?_
 refine rlZ 18 rfl (op_call_lend [3] (fun _ => hbs) rfl (Opd.func _) (oS (oT rfl) (oS (oT rfl) Opds.nil)) (by exact .cons _ _ _ _ tW (.cons _ _ _ _ tW .nil)) rfl rfl) ?_
 refine za ?_
 refine zi ?_
 refine zi ?_
 refine zd ?_
 refine zd ?_
 refine zc ?_
 refine nK ?_
 refine zb ?_
 refine za ?_
 refine zbj ?_
 refine zc ?_
 refine nK ?_
 refine n_cond _ rfl (fun hb => ?_) (fun hb => ?_)
 ·have hh : hit = false := by simpa using hb
  subst hh
  rw [if_neg (by simp)]
  have hins := inserti_c row hq k (by omega) hble
  have hil := insL_len row k hq hble
  have hle : (row.map encN).length = row.length := List.length_map _
  rw [← hle] at hins
  refine nK ?_
  refine s_draw mixed ?_
  refine zy ?_
  refine zj ?_
  refine zy ?_
  refine zj ?_
  refine rpZ 27 rfl (op_idx_sl0 v rfl (oT rfl) (oT rfl) (by intro _; exact ⟨by omega, by omega⟩)) ?_
  refine rlZ 28 rfl (op_load1_refs rfl (oT rfl) (by intro _; exact ⟨rfl, hs1⟩) rfl) ?_
  refine za ?_
  refine za ?_
  refine zde ?_
  refine Run.effW (dd := some 32) rfl rfl (op_call (n := 2) (n' := 3) [3, 4] (fun _ => hins) rfl (Opd.func _) (oS (oT rfl) (oS (oT rfl) (oS (oT rfl) Opds.nil))) rfl rfl (Lent.of rfl rfl (by exact ⟨⟨rfl, rfl, rfl, trivial⟩, ⟨rfl, rfl, rfl, trivial⟩, trivial⟩) rfl) rfl rfl rfl rfl rfl) (by first | exact ext_call | exact tE) ?_
  refine rpZ 33 rfl (op_idx_sl0 v rfl (oT rfl) (oT rfl) (by intro _; exact ⟨by omega, by omega⟩)) ?_
  refine Run.effW (dd := none) rfl rfl (op_store_refs rfl (oT rfl) (oT rfl) tP rfl rfl hs1 tS) (by first | exact ext_call | exact tE) ?_
  refine zs ?_
  refine Next.untake 1 v 0 rfl (set_get _ _ _ (by rw [List.length_set, tk_len, rowsI_len]; omega)) rfl rfl (by rw [List.length_map, hil, hle]) rfl ?_
  refine Next.weak [0, 1, 2] [] (by rfl) (keepsN hC _ rfl) (G' := []) (H' := [(0, some (.refs 1 [[.sl 1 1 0 n]])), (1, some (.refs 1 (tkL (rowsI (ll.set v (insL row k hq))) u k0))), (2, OI ru)]) trivial (by exact ⟨wS, ⟨ent_tk rfl rfl rfl (by decide) (congrArg (fun r => some (Ob.refs 1 r)) ((tk_back huv).trans (by rw [rowsI_set]))), ⟨wS, trivial⟩⟩⟩) wN ?_
  exact n_out0 rfl
 have hh : hit = true := by simpa using hb
 subst hh
 rw [if_pos rfl]
 refine Next.untake 1 v 0 rfl hs1 rfl rfl (by rw [List.length_map]) rfl ?_
 refine Next.weak [0, 1, 2] [] (by rfl) (keepsN hC _ rfl) (G' := []) (H' := [(0, some (.refs 1 [[.sl 1 1 0 n]])), (1, some (.refs 1 (tkL (rowsI (ll.set v (row))) u k0))), (2, OI ru)]) trivial (by exact ⟨wS, ⟨ent_tk rfl rfl rfl (by decide) (congrArg (fun r => some (Ob.refs 1 r)) ((tk_back2 huv).trans (by rw [rowsI_set]))), ⟨wS, trivial⟩⟩⟩) wN ?_
 refine nK2 ?_
 exact n_out0 rfl
open Go Go.RT Go.Proofs Go.Pl
set_option maxRecDepth 20000
set_option maxHeartbeats 4000000
theorem hops_c (g : Gr) (a n : Nat) (d : List Int) (up : List (List Int)) (l2 : List Nat) (hn : n ≤ 128) (hd : d.length = n) (ha : a < n) (hup : UpOk n up) (hp : l2.Perm (ordA d a n)) (hs : l2.Pairwise (ltHd d)) : Pure Tryz.prog 23 [.agg (encG g), If .i64 a, VI d, VLL up] (VLL (hopsL g.r a n up l2)) := by
 have hl2 : ∀ v ∈ l2, v < n := fun v hv => ordA_lt (hp.mem_iff.1 hv)
 have hso := sorth_c d (ordA d a n) l2 (by omega) (fun v hv => by have := ordA_lt hv; omega) (by have := ordA_len d a n; omega) hp hs
 have hl2l : l2.length = (ordA d a n).length := hp.length_eq
 have hl2n := ordA_len d a n
 refine Meets.intro Tryz.func23 rfl (Nat.le_of_ble_eq_true rfl) fun C hC => ?_
 simp only [List.map, argEnv, Nat.reduceAdd]
 refine nK ?_
 refine zb ?_
 refine zq ?_
 refine zq ?_
 refine ze ?_
 refine zc ?_
 refine nK ?_
 refine zb ?_
 refine ze ?_
 refine zc ?_
 refine nK ?_
 refine Next.weakS [] [4, 6] (by rfl) (keeps0 hC _) (G' := [(1, IV .i64 a), (3, .fz (VLL up)), (4, .fz (.cellp (encG g))), (6, .fz (.cellp [VI d])), (9, .fz (.lit (.slice none 0 0)))]) (H' := []) wF trivial rfl ?_
 refine Next.adopt 9 1 rfl ?_
 refine nK ?_
 refine zb ?_
 refine zj ?_
 refine zo ?_
 refine zbb ?_
 refine zc ?_
 refine nK ?_
 refine n_loop (ι := Nat) (fun i => ([(1, IV .i64 a), (3, .fz (VLL up)), (4, .fz (.cellp (encG g))), (6, .fz (.cellp [VI d])), (9, .sl 0 1 0 (ordA d a i).length), (20, .fz (VI d)), (21, IV .i64 n), (22, IV .i64 i)], [(0, OT (ordA d a i))], 1)) (fun i => i ≤ n) (fun i => n - i) 0 (Nat.zero_le _) ?_ ?_
 ·refine Next.weak [0] [] (by rfl) (keepsN hC _ rfl) (by repeat (first | exact trivial | refine ⟨⟨_, rfl, .inl ⟨rfl, rfl⟩⟩, ?_⟩ | refine ⟨⟨_, rfl, .inl ⟨ivEq (by rw [List.length_map, hd]), rfl⟩⟩, ?_⟩ | refine ⟨⟨_, rfl, .inl ⟨ivEq (by rw [hd]), rfl⟩⟩, ?_⟩)) wR wN rel_intro
 intro i hi K hK
 try dsimp only at hi hK ⊢
 have hol := ordA_len d a i
 refine nK ?_
 refine zb ?_
 refine zp ?_
 refine zc ?_
 refine nK ?_
 refine n_cond _ rfl (fun hb => ?_) (fun hb => ?_)
 ·have hlt : i < n := by simp at hb; omega
  have hri := row_of encN d i 0 (by omega)
  have hgi : d.getD i 0 = gt0 d i := rfl
  rw [hgi] at hri
  have hK1 := hK (i + 1) (by omega) (by omega)
  rw [ordA_succ] at hK1
  refine nK ?_
  refine zb ?_
  refine za ?_
  refine rpZ 25 rfl (op_idx_fz i rfl (oT rfl) (oT rfl) (by intro _; exact ⟨rfl, hri⟩)) ?_
  refine zj ?_
  refine zd ?_
  refine zd ?_
  refine zc ?_
  refine nK ?_
  refine zb ?_
  refine za ?_
  refine zbd ?_
  refine za ?_
  refine zf ?_
  refine zf ?_
  refine zcl ?_
  refine zt ?_
  refine zc ?_
  refine nK ?_
  refine n_cond _ rfl (fun hb => ?_) (fun hb => ?_)
  ·rw [if_pos (show ordP d a i = true from hb)] at hK1
   refine nK ?_
   refine zb ?_
   refine za ?_
   refine za ?_
   refine zbh ?_
   refine zbu ?_
   refine zd ?_
   refine zc ?_
   refine nK ?_
   refine zb ?_
   refine zl ?_
   refine za ?_
   refine zc ?_
   refine nK ?_
   refine Next.weak [1] [] (by rfl) (keepsN hC _ rfl) wG (by exact ⟨ent_same rfl rfl (flEq rfl (by rw [List.map_append]; rfl)) trivial, trivial⟩) wN hK1
  rw [if_neg (show ¬ ordP d a i = true by rw [Bool.not_eq_true]; exact hb), List.append_nil] at hK1
  refine nK ?_
  refine zb ?_
  refine zl ?_
  refine za ?_
  refine zc ?_
  refine nK ?_
  refine Next.weak [0] [] (by rfl) (keepsN hC _ rfl) wG wR wN hK1
 have hie : n = i := by simp at hb; omega
 subst hie
 refine nK ?_
 refine zb ?_
 refine za ?_
 refine rpZ 40 rfl (op_makeFuncF (fs := [.cellp [VI d]]) rfl (oS (oT rfl) Opds.nil)) ?_
 refine Run.eff (dd := some 41) rfl rfl (op_call (n := 1) (n' := 1) [0] (fun _ => hso) rfl (Opd.func _) (oS (oT rfl) (oS (oT rfl) Opds.nil)) rfl rfl (Lent.of rfl rfl (by exact ⟨⟨rfl, rfl, rfl, trivial⟩, trivial⟩) rfl) rfl rfl rfl rfl rfl) ?_
 refine zc ?_
 refine nK ?_
 refine zb ?_
 refine zj ?_
 refine zo ?_
 refine Run.eff (dd := some 44) rfl rfl (op_make (l := n) (c := n) rfl (oT rfl) (oT rfl) rfl rfl rfl rfl (by intro _; rw [hd]; refine ⟨rfl, rfl, ?_⟩; omega)) ?_
 refine zdf ?_
 refine zcp ?_
 refine zc ?_
 refine nK ?_
 refine Next.toOwn 1 1 n rfl ?_
 refine Next.weak [2, 1] [0] (by rfl) (keepsN hC _ rfl) (G' := [(1, IV .i64 a), (3, .fz (VLL up)), (4, .fz (.cellp (encG g))), (9, .fz (.vals 1 (l2.map encT))), (12, .ptr 0 1 0 0)]) (H' := [(0, some (.refs 1 [[.sl 1 1 0 n]])), (1, some (.refs 1 (ownL 1 (rowsI (List.replicate n [])))))]) (by exact ⟨⟨_, rfl, .inl ⟨rfl, rfl⟩⟩, ⟨_, rfl, .inl ⟨rfl, rfl⟩⟩, ⟨_, rfl, .inl ⟨rfl, rfl⟩⟩, ⟨_, rfl, .inr ⟨_, rfl, .sl _ _ _ _ _ _ rfl rfl (take_all0 (by rw [List.length_map]; exact hl2l)) (by rw [List.length_map]; omega)⟩⟩, ⟨_, rfl, .inl ⟨rfl, rfl⟩⟩, trivial⟩) (by exact ⟨wS, ⟨ent_own rfl rfl (by rw [rowsI_nil, ← ownL_rep]; rfl), trivial⟩⟩) (fun id h => by simp at h; subst h; exact ⟨_, rfl⟩) ?_
 refine nK ?_
 refine zb ?_
 refine za ?_
 refine zo ?_
 refine zbb ?_
 refine zc ?_
 refine nK ?_
 refine n_loop (ι := Nat) (fun i => ([(1, IV .i64 a), (3, .fz (VLL up)), (4, .fz (.cellp (encG g))), (12, .ptr 0 1 0 0), (45, .fz (.vals 1 (l2.map encT))), (46, IV .i64 l2.length), (47, IV .i64 i)], [(0, some (.refs 1 [[.sl 1 1 0 n]])), (1, some (.refs 1 (ownL 1 (rowsI ((l2.take i).foldl (hopsV g.r a up) (List.replicate n []))))))], 2)) (fun i => i ≤ l2.length) (fun i => l2.length - i) 0 (Nat.zero_le _) ?_ ?_
 ·refine Next.weak [0, 1] [] (by rfl) (keepsN hC _ rfl) wG (by exact ⟨wS, ⟨ent_own rfl rfl rfl, trivial⟩⟩) wN rel_intro
 intro i hi K2 hK2
 try dsimp only at hi hK2 ⊢
 have hli : LLok n ((l2.take i).foldl (hopsV g.r a up) (List.replicate n [])) := LLok.hops hup _ (LLok.nil n) fun x hx => hl2 x (List.mem_of_mem_take hx)
 refine nK ?_
 refine zb ?_
 refine zp ?_
 refine zc ?_
 refine nK ?_
 refine n_cond _ rfl (fun hb => ?_) (fun hb => ?_)
 ·have hlt : i < l2.length := by simp at hb; omega
  have hri := row_at' encT l2 i hlt
  have hv := hl2 _ (List.getElem_mem hlt)
  have hK3 := hK2 (i + 1) (by omega) (by omega)
  rw [foldl_take_succ _ _ _ _ hlt] at hK3
  generalize (l2.take i).foldl (hopsV g.r a up) (List.replicate n []) = ll0 at *
  generalize l2[i] = v at *
  have hru := row_of encL up v [] (by rw [hup.len]; exact hv)
  obtain ⟨hrl, hrow⟩ := hup.row v hv
  have hhv : hopsV g.r a up ll0 v = (rowAt' up v).foldl (stepU g.r a v) ll0 := rfl
  have hgu : up.getD v [] = rowAt' up v := rfl
  rw [hhv] at hK3
  rw [hgu] at hru
  generalize rowAt' up v = row at *
  refine nK ?_
  refine zb ?_
  refine zz ?_
  refine zj ?_
  refine zu ?_
  refine zr ?_
  refine zc ?_
  refine nK ?_
  refine Next.weak [0, 1] [2] (by rfl) (keepsN hC _ rfl) (G' := [(1, IV .i64 a), (3, .fz (VLL up)), (4, .fz (.cellp (encG g))), (12, .ptr 0 1 0 0), (45, .fz (.vals 1 (l2.map encT))), (46, IV .i64 l2.length), (47, IV .i64 i), (14, .fz (.cellp [If .i64 v]))]) (H' := [(0, some (.refs 1 [[.sl 1 1 0 n]])), (1, some (.refs 1 (ownL 1 (rowsI ll0))))]) (by repeat (first | exact trivial | refine ⟨⟨_, rfl, .inl ⟨rfl, rfl⟩⟩, ?_⟩ | refine ⟨⟨_, rfl, .inr ⟨_, rfl, tW⟩⟩, ?_⟩)) (by exact ⟨wS, ⟨ent_own rfl rfl rfl, trivial⟩⟩) (fun id h => by simp at h; subst h; exact ⟨_, rfl⟩) ?_
  refine nK ?_
  refine zb ?_
  refine rpZ 51 rfl (op_makeFunc rfl Opds.nil (oS (oT rfl) (oS (oT rfl) (oS (oT rfl) Opds.nil)))) ?_
  refine zd ?_
  refine zc ?_
  refine nK ?_
  refine zb ?_
  refine za ?_
  refine zj ?_
  refine rpZ 54 rfl (op_idx_fz v rfl (oT rfl) (oT rfl) (by intro _; exact ⟨rfl, hru⟩)) ?_
  refine zj ?_
  refine zo ?_
  refine zbb ?_
  refine zc ?_
  refine nK ?_
  refine n_loop (ι := Nat) (fun j => ([(1, IV .i64 a), (3, .fz (VLL up)), (4, .fz (.cellp (encG g))), (12, .ptr 0 1 0 0), (45, .fz (.vals 1 (l2.map encT))), (46, IV .i64 l2.length), (47, IV .i64 i), (14, .fz (.cellp [If .i64 v])), (15, .clo 43 [] [.fz (.cellp (encG g)), .fz (.cellp [If .i64 v]), .ptr 0 1 0 0]), (55, .fz (VI row)), (56, IV .i64 row.length), (57, IV .i64 j)], [(0, some (.refs 1 [[.sl 1 1 0 n]])), (1, some (.refs 1 (ownL 1 (rowsI ((row.take j).foldl (stepU g.r a v) ll0)))))], 2)) (fun j => j ≤ row.length) (fun j => row.length - j) 0 (Nat.zero_le _) ?_ ?_
  ·refine Next.weak [0, 1] [] (by rfl) (keepsN hC _ rfl) wG (by exact ⟨wS, ⟨ent_own rfl rfl rfl, trivial⟩⟩) wN rel_intro
  intro j hj K3 hK4
  try dsimp only at hj hK4 ⊢
  have hlj : LLok n ((row.take j).foldl (stepU g.r a v) ll0) := LLok.steps hv _ hli fun x hx => by have := hrow x (List.mem_of_mem_take hx); omega
  refine nK ?_
  refine zb ?_
  refine zp ?_
  refine zc ?_
  refine nK ?_
  refine n_cond _ rfl (fun hb => ?_) (fun hb => ?_)
  ·have hltj : j < row.length := by simp at hb; omega
   have hrj := row_at' encN row j hltj
   obtain ⟨hu0, hu1, huv0⟩ := hrow _ (List.getElem_mem hltj)
   have hK3 := hK4 (j + 1) (by omega) (by omega)
   rw [foldl_take_succ _ _ _ _ hltj] at hK3
   generalize (row.take j).foldl (stepU g.r a v) ll0 = ll at *
   generalize row[j] = u at *
   have huv : u.toNat ≠ v := by omega
   have hrgu := rowsI_get (ll := ll) (v := u.toNat) (by rw [hlj.len]; omega)
   have hruok := (hlj.row u.toNat (by omega)).2
   have hrul := (hlj.row u.toNat (by omega)).len
   have hstp : stepU g.r a v ll u = (rowAt' ll u.toNat).foldl (mergeL g.r v) (if u = (a : Int) then mergeL g.r v ll (v : Int) else ll) := rfl
   have hge : ll.getD u.toNat [] = rowAt' ll u.toNat := rfl
   have hmo := merge_other g.r v ll (v : Int) huv
   have hruq : rowAt' ll u.toNat = rowAt' ll u.toNat := rfl
   rw [hge] at hrgu
   generalize hrue : rowAt' ll u.toNat = ru at *
   have hmv := merge_c g u.toNat v n ru.length ru ll v huv hlj.len hv hn (Nat.le_trans (hlj.row v hv).len (by omega))
   refine nK ?_
   refine zb ?_
   refine rpZ 59 rfl (op_idx_fz j rfl (oT rfl) (oT rfl) (by intro _; exact ⟨rfl, hrj⟩)) ?_
   refine zj ?_
   refine zd ?_
   refine zc ?_
   refine nK ?_
   refine Next.take 1 u.toNat 0 rfl (ownL_get hrgu) rfl (rows' := tkL (rowsI ll) u.toNat ru.length) (by rw [List.length_map]; rfl) ?_
   refine nK ?_
   refine zb ?_
   refine za ?_
   refine za ?_
   refine zbr ?_
   refine zc ?_
   refine nK ?_
   refine n_cond _ rfl (fun hb => ?_) (fun hb => ?_)
   ·have hua : u = (a : Int) := by simpa using hb
    rw [if_pos hua] at hstp
    have hl1 := hlj.merge g.r hv (x := (v : Int)) (by omega)
    refine nK ?_
    refine zb ?_
    refine za ?_
    refine zj ?_
    refine Run.eff (dd := some 66) rfl rfl (op_call (n := 3) (n' := 3) [0, 1, 2] (fun _ => hmv) rfl (oT rfl) (oS (oT rfl) Opds.nil) rfl rfl (Lent.of rfl rfl (by exact ⟨⟨rfl, rfl, rfl, tL⟩, ⟨rfl, rfl, congrArg some (renO_tk rfl _ _ _).symm, ltO_tk (by decide) _ _ _⟩, ⟨rfl, rfl, rfl, trivial⟩, trivial⟩) rfl) rfl rfl rfl rfl rfl) ?_
    refine zc ?_
    refine nK ?_
    refine Next.weak [0, 1, 2] [] (by rfl) (keepsN hC _ rfl) (G' := [(1, IV .i64 a), (3, .fz (VLL up)), (4, .fz (.cellp (encG g))), (12, .ptr 0 1 0 0), (45, .fz (.vals 1 (l2.map encT))), (46, IV .i64 l2.length), (47, IV .i64 i), (14, .fz (.cellp [If .i64 v])), (15, .clo 43 [] [.fz (.cellp (encG g)), .fz (.cellp [If .i64 v]), .ptr 0 1 0 0]), (55, .fz (VI row)), (56, IV .i64 row.length), (57, IV .i64 j), (17, IV .i64 u)]) (H' := [(0, some (.refs 1 [[.sl 1 1 0 n]])), (1, some (.refs 1 (tkL (rowsI (mergeL g.r v ll (v : Int))) u.toNat ru.length))), (2, OI ru)]) wG (by exact ⟨wS, ⟨ent_tk rfl rfl rfl (by decide) (congrArg some (renO_tk rfl _ _ _)), ⟨wS, trivial⟩⟩⟩) wN ?_
    generalize mergeL g.r v ll (v : Int) = ll1 at *
    have hl1 : LLok n ll1 := hl1
    have hru1 : rowAt' ll1 u.toNat = ru := hmo
    have hfin : ru.foldl (mergeL g.r v) ll1 = stepU g.r a v ll u := hstp.symm
    rw [← hfin] at hK3
    clear hfin
    refine nK ?_
    refine zb ?_
    refine zy ?_
    refine za ?_
    refine rpZ 69 rfl (op_idx_sl0 u.toNat rfl (oT rfl) (oT rfl) (by intro _; omega)) ?_
    refine rlZ 70 rfl (op_load1_refs rfl (oT rfl) (by intro _; exact ⟨rfl, set_get (ownL 1 (rowsI ll1)) u.toNat [.sl 2 1 0 ru.length] (by rw [ownL_len, rowsI_len, hl1.len]; omega)⟩) rfl) ?_
    refine zbi ?_
    refine zbb ?_
    refine zc ?_
    refine nK ?_
    refine n_loop (ι := Nat) (fun k => ([(1, IV .i64 a), (3, .fz (VLL up)), (4, .fz (.cellp (encG g))), (12, .ptr 0 1 0 0), (45, .fz (.vals 1 (l2.map encT))), (46, IV .i64 l2.length), (47, IV .i64 i), (14, .fz (.cellp [If .i64 v])), (15, .clo 43 [] [.fz (.cellp (encG g)), .fz (.cellp [If .i64 v]), .ptr 0 1 0 0]), (55, .fz (VI row)), (56, IV .i64 row.length), (57, IV .i64 j), (70, .sl 2 1 0 ru.length), (71, IV .i64 ru.length), (72, IV .i64 k)], [(0, some (.refs 1 [[.sl 1 1 0 n]])), (1, some (.refs 1 (tkL (rowsI ((ru.take k).foldl (mergeL g.r v) ll1)) u.toNat ru.length))), (2, OI ru)], 3)) (fun k => k ≤ ru.length) (fun k => ru.length - k) 0 (Nat.zero_le _) ?_ ?_
    ·refine Next.weak [0, 1, 2] [] (by rfl) (keepsN hC _ rfl) wG (by exact ⟨wS, ⟨ent_tk rfl rfl rfl (by decide) rfl, ⟨wS, trivial⟩⟩⟩) wN rel_intro
    intro k hk K4 hK4
    try dsimp only at hk hK4 ⊢
    have hlk : LLok n ((ru.take k).foldl (mergeL g.r v) ll1) := LLok.fold hv _ hl1 fun x hx => hruok x (List.mem_of_mem_take hx)
    have hok := fold_other (r := g.r) (v := v) (u := u.toNat) huv (ru.take k) ll1
    refine nK ?_
    refine zb ?_
    refine zp ?_
    refine zc ?_
    refine nK ?_
    refine n_cond _ rfl (fun hb => ?_) (fun hb => ?_)
    ·have hkl : k < ru.length := by simp at hb; omega
     have hrk := row_at' encN ru k hkl
     have hxk := hruok _ (List.getElem_mem hkl)
     have hK5 := hK4 (k + 1) (by omega) (by omega)
     rw [foldl_take_succ _ _ _ _ hkl] at hK5
     have hmg := fun x => merge_c g u.toNat v n ru.length ru ((ru.take k).foldl (mergeL g.r v) ll1) x huv hlk.len hv hn (Nat.le_trans (hlk.row v hv).len (by omega))
     generalize (ru.take k).foldl (mergeL g.r v) ll1 = llk at *
     generalize ru[k] = x at *
     refine nK ?_
     refine zb ?_
     refine rpZ 74 rfl (op_idx_sl0 k rfl (oT rfl) (oT rfl) (by intro _; exact ⟨rfl, hkl⟩)) ?_
     refine rlZ 75 rfl (op_load1_flat rfl (oT rfl) (by intro _; exact ⟨rfl, hrk⟩) rfl) ?_
     refine zd ?_
     refine zc ?_
     refine nK ?_
     refine zb ?_
     refine za ?_
     refine za ?_
     refine Run.eff (dd := some 78) rfl rfl (op_call (n := 3) (n' := 3) [0, 1, 2] (fun _ => hmg x) rfl (oT rfl) (oS (oT rfl) Opds.nil) rfl rfl (Lent.of rfl rfl (by exact ⟨⟨rfl, rfl, rfl, tL⟩, ⟨rfl, rfl, congrArg some (renO_tk rfl _ _ _).symm, ltO_tk (by decide) _ _ _⟩, ⟨rfl, rfl, rfl, trivial⟩, trivial⟩) rfl) rfl rfl rfl rfl rfl) ?_
     refine zc ?_
     refine nK ?_
     refine zb ?_
     refine zl ?_
     refine za ?_
     refine zc ?_
     refine nK ?_
     refine Next.weak [0, 1, 2] [] (by rfl) (keepsN hC _ rfl) wG (by exact ⟨wS, ⟨ent_tk rfl rfl rfl (by decide) (congrArg some (renO_tk rfl _ _ _)), ⟨wS, trivial⟩⟩⟩) wN hK5
    have hke : k = ru.length := by simp at hb; omega
    subst hke
    rw [List.take_length] at *
    refine nK ?_
    refine zb ?_
    refine zl ?_
    refine za ?_
    refine zc ?_
    refine nK ?_
    refine Next.untake 1 u.toNat 0 rfl (set_get _ _ _ (by rw [ownL_len, rowsI_len, hlk.len]; omega)) rfl rfl (List.length_map _) (tk_put (by rw [rowsI_get (by rw [hlk.len]; omega)]; exact congrArg (fun r => some (r.map encN)) (hok.trans hru1))) ?_
    refine Next.weak [0, 1] [] (by rfl) (keepsN hC _ rfl) wG (by exact ⟨wS, ⟨ent_own rfl rfl rfl, trivial⟩⟩) wN hK3
   have hua : ¬ u = (a : Int) := by simpa using hb
   rw [if_neg hua] at hstp
   have hl1 : LLok n ll := hlj
   have hru1 : rowAt' ll u.toNat = ru := hrue
   have hfin : ru.foldl (mergeL g.r v) ll = stepU g.r a v ll u := hstp.symm
   rw [← hfin] at hK3
   clear hfin
   refine nK ?_
   refine zb ?_
   refine zy ?_
   refine za ?_
   refine rpZ 69 rfl (op_idx_sl0 u.toNat rfl (oT rfl) (oT rfl) (by intro _; omega)) ?_
   refine rlZ 70 rfl (op_load1_refs rfl (oT rfl) (by intro _; exact ⟨rfl, set_get (ownL 1 (rowsI ll)) u.toNat [.sl 2 1 0 ru.length] (by rw [ownL_len, rowsI_len, hl1.len]; omega)⟩) rfl) ?_
   refine zbi ?_
   refine zbb ?_
   refine zc ?_
   refine nK ?_
   refine n_loop (ι := Nat) (fun k => ([(1, IV .i64 a), (3, .fz (VLL up)), (4, .fz (.cellp (encG g))), (12, .ptr 0 1 0 0), (45, .fz (.vals 1 (l2.map encT))), (46, IV .i64 l2.length), (47, IV .i64 i), (14, .fz (.cellp [If .i64 v])), (15, .clo 43 [] [.fz (.cellp (encG g)), .fz (.cellp [If .i64 v]), .ptr 0 1 0 0]), (55, .fz (VI row)), (56, IV .i64 row.length), (57, IV .i64 j), (70, .sl 2 1 0 ru.length), (71, IV .i64 ru.length), (72, IV .i64 k)], [(0, some (.refs 1 [[.sl 1 1 0 n]])), (1, some (.refs 1 (tkL (rowsI ((ru.take k).foldl (mergeL g.r v) ll)) u.toNat ru.length))), (2, OI ru)], 3)) (fun k => k ≤ ru.length) (fun k => ru.length - k) 0 (Nat.zero_le _) ?_ ?_
   ·refine Next.weak [0, 1, 2] [] (by rfl) (keepsN hC _ rfl) wG (by exact ⟨wS, ⟨ent_tk rfl rfl rfl (by decide) rfl, ⟨wS, trivial⟩⟩⟩) wN rel_intro
   intro k hk K4 hK4
   try dsimp only at hk hK4 ⊢
   have hlk : LLok n ((ru.take k).foldl (mergeL g.r v) ll) := LLok.fold hv _ hl1 fun x hx => hruok x (List.mem_of_mem_take hx)
   have hok := fold_other (r := g.r) (v := v) (u := u.toNat) huv (ru.take k) ll
   refine nK ?_
   refine zb ?_
   refine zp ?_
   refine zc ?_
   refine nK ?_
   refine n_cond _ rfl (fun hb => ?_) (fun hb => ?_)
   ·have hkl : k < ru.length := by simp at hb; omega
    have hrk := row_at' encN ru k hkl
    have hxk := hruok _ (List.getElem_mem hkl)
    have hK5 := hK4 (k + 1) (by omega) (by omega)
    rw [foldl_take_succ _ _ _ _ hkl] at hK5
    have hmg := fun x => merge_c g u.toNat v n ru.length ru ((ru.take k).foldl (mergeL g.r v) ll) x huv hlk.len hv hn (Nat.le_trans (hlk.row v hv).len (by omega))
    generalize (ru.take k).foldl (mergeL g.r v) ll = llk at *
    generalize ru[k] = x at *
    refine nK ?_
    refine zb ?_
    refine rpZ 74 rfl (op_idx_sl0 k rfl (oT rfl) (oT rfl) (by intro _; exact ⟨rfl, hkl⟩)) ?_
    refine rlZ 75 rfl (op_load1_flat rfl (oT rfl) (by intro _; exact ⟨rfl, hrk⟩) rfl) ?_
    refine zd ?_
    refine zc ?_
    refine nK ?_
    refine zb ?_
    refine za ?_
    refine za ?_
    refine Run.eff (dd := some 78) rfl rfl (op_call (n := 3) (n' := 3) [0, 1, 2] (fun _ => hmg x) rfl (oT rfl) (oS (oT rfl) Opds.nil) rfl rfl (Lent.of rfl rfl (by exact ⟨⟨rfl, rfl, rfl, tL⟩, ⟨rfl, rfl, congrArg some (renO_tk rfl _ _ _).symm, ltO_tk (by decide) _ _ _⟩, ⟨rfl, rfl, rfl, trivial⟩, trivial⟩) rfl) rfl rfl rfl rfl rfl) ?_
    refine zc ?_
    refine nK ?_
    refine zb ?_
    refine zl ?_
    refine za ?_
    refine zc ?_
    refine nK ?_
    refine Next.weak [0, 1, 2] [] (by rfl) (keepsN hC _ rfl) wG (by exact ⟨wS, ⟨ent_tk rfl rfl rfl (by decide) (congrArg some (renO_tk rfl _ _ _)), ⟨wS, trivial⟩⟩⟩) wN hK5
   have hke : k = ru.length := by simp at hb; omega
   subst hke
   rw [List.take_length] at *
   refine nK ?_
   refine zb ?_
   refine zl ?_
   refine za ?_
   refine zc ?_
   refine nK ?_
   refine Next.untake 1 u.toNat 0 rfl (set_get _ _ _ (by rw [ownL_len, rowsI_len, hlk.len]; omega)) rfl rfl (List.length_map _) (tk_put (by rw [rowsI_get (by rw [hlk.len]; omega)]; exact congrArg (fun r => some (r.map encN)) (hok.trans hru1))) ?_
   refine Next.weak [0, 1] [] (by rfl) (keepsN hC _ rfl) wG (by exact ⟨wS, ⟨ent_own rfl rfl rfl, trivial⟩⟩) wN hK3
  have hje : j = row.length := by simp at hb; omega
  subst hje
  rw [List.take_length] at *
  refine nK ?_
  refine zb ?_
  refine zl ?_
  refine za ?_
  refine zc ?_
  refine nK ?_
  refine Next.weak [0, 1] [] (by rfl) (keepsN hC _ rfl) wG (by exact ⟨wS, ⟨ent_own rfl rfl rfl, trivial⟩⟩) wN hK3
 have hie : i = l2.length := by simp at hb; omega
 subst hie
 rw [List.take_length] at *
 refine Next.freezeOwn 1 rfl rfl ?_
 refine nK ?_
 refine zb ?_
 refine zy ?_
 refine zd ?_
 refine zc ?_
 refine nK ?_
 have hFl : (fzL 1 (rowsI (hopsL g.r a n up l2))).length = n := by rw [fzL_len, rowsI_len]; exact hli.len
 refine Next.weakS [] [8] (by rfl) (keeps0 hC _) (G' := [(8, .fz (VLL (hopsL g.r a n up l2)))]) (H' := []) ⟨⟨_, rfl, .inr ⟨_, rfl, .sl _ _ _ _ _ _ rfl rfl ((take_all0 hFl).trans (fz_rowsI _)) (by rw [← fz_rowsI, hFl])⟩⟩, trivial⟩ trivial rfl ?_
 exact n_out1 rfl (by rfl) rfl rfl
open Go Go.RT Go.Proofs Go.Pl
set_option maxRecDepth 20000
set_option maxHeartbeats 2000000
theorem run_bad (g : Gr) (a : Int) (hok : okG g) (hg : checkI g ≠ 0) : Pure Tryz.prog 7 [.agg (encG g), If .i64 a] (.tup [.agg (encTr zeroT), If .i64 (checkI g)]) := by
 refine Meets.intro Tryz.func7 rfl (Nat.le_of_ble_eq_true rfl) fun C hC => ?_
 simp only [List.map, argEnv, Nat.reduceAdd]
 refine nK ?_
 refine zb ?_
 refine zq ?_
 refine zu ?_
 refine ze ?_
 refine zc ?_
 refine nK ?_
 refine zb ?_
 refine zk ?_
 refine rpZ 9 rfl (op_call_pure (fun _ => check_c _ (by assumption)) rfl (Opd.func _) (oS (oT rfl) Opds.nil)) ?_
 refine zd ?_
 refine zc ?_
 refine nK ?_
 refine zb ?_
 refine za ?_
 refine zbd ?_
 refine zc ?_
 refine nK ?_
 refine n_cond _ rfl (fun hb => ?_) (fun hb => ?_)
 ·refine nK ?_
  refine zb ?_
  refine zbm ?_
  refine za ?_
  refine zr ?_
  refine zd ?_
  refine zc ?_
  refine nK ?_
  (refine Next.weakS [4] [] (by rfl) (keeps0 hC _) (G' := [(4, .ptr 0 4 0 0), (5, .fz _)]) (H' := [(0, OTr zeroT)]) wG (by exact ⟨⟨rfl, rfl, .fflat _ _ _ rfl tW⟩, trivial⟩) rfl ?_; exact wO hC)
 simp at hb; omega
theorem run_out (g : Gr) (a : Int) (hok : okG g) (hg : checkI g = 0) (ha : a < 0 ∨ g.r ≤ a) : Pure Tryz.prog 7 [.agg (encG g), If .i64 a] (.tup [.agg (encTr zeroT), If .i64 5]) := by
 refine Meets.intro Tryz.func7 rfl (Nat.le_of_ble_eq_true rfl) fun C hC => ?_
 simp only [List.map, argEnv, Nat.reduceAdd]
 refine nK ?_
 refine zb ?_
 refine zq ?_
 refine zu ?_
 refine ze ?_
 refine zc ?_
 refine nK ?_
 refine zb ?_
 refine zk ?_
 refine rpZ 9 rfl (op_call_pure (fun _ => check_c _ (by assumption)) rfl (Opd.func _) (oS (oT rfl) Opds.nil)) ?_
 refine zd ?_
 refine zc ?_
 refine nK ?_
 refine zb ?_
 refine za ?_
 refine zbd ?_
 refine zc ?_
 refine nK ?_
 refine n_cond _ rfl (fun hb => ?_) (fun hb => ?_)
 ·simp at hb; omega
 refine nK ?_
 refine zb ?_
 refine za ?_
 refine zbn ?_
 refine za ?_
 refine zf ?_
 refine zn ?_
 refine zm ?_
 refine zbz ?_
 refine zv ?_
 refine zc ?_
 refine nK ?_
 refine n_cond _ rfl (fun hb => ?_) (fun hb => ?_)
 ·refine nK ?_
  refine zb ?_
  refine zbm ?_
  refine zr ?_
  refine ze ?_
  refine zc ?_
  refine nK ?_
  (refine Next.weakS [4] [] (by rfl) (keeps0 hC _) (G' := [(4, .ptr 0 4 0 0), (5, .fz _)]) (H' := [(0, OTr zeroT)]) wG (by exact ⟨⟨rfl, rfl, .fflat _ _ _ rfl tW⟩, trivial⟩) rfl ?_; exact wO hC)
 simp at hb; omega
theorem run_c (g : Gr) (a : Nat) (t : Tr) (hok : okG g) (h : RunOk g a t) : Pure Tryz.prog 7 [.agg (encG g), If .i64 a] (.tup [.agg (encTr t), If .i64 0]) := by
 obtain ⟨vg, h0, h1⟩ := checkI_vg h.ok
 have hlt := h.lt
 obtain ⟨l2, p, q, hh⟩ := h.hops
 have hd := dist_c g a t.dist h.ok hok (by omega) h.dl h.dist
 have hp := parents_c g a t.dist h.ok h.dl (fun v hv => by have := (h.dist v hv).small vg (by omega) hv; omega)
 have hup := parL_ok vg a t.dist
 rw [← h.par] at hp hup
 have hho := hops_c g a (g.r + g.n).toNat t.dist t.par l2 vg.n128 h.dl (by omega) hup p q
 rw [← hh] at hho
 have hck := h.ok
 obtain ⟨rt, d, hs, pr⟩ := t
 have hrt : rt = a := h.root
 subst hrt
 dsimp only at hd hp hho
 clear hh h hup q p
 refine Meets.intro Tryz.func7 rfl (Nat.le_of_ble_eq_true rfl) fun C hC => ?_
 simp only [List.map, argEnv, Nat.reduceAdd]
 refine nK ?_
 refine zb ?_
 refine zq ?_
 refine zu ?_
 refine ze ?_
 refine zc ?_
 refine nK ?_
 refine zb ?_
 refine zk ?_
 refine rpZ 9 rfl (op_call_pure (fun _ => check_c _ (by assumption)) rfl (Opd.func _) (oS (oT rfl) Opds.nil)) ?_
 refine zd ?_
 refine zc ?_
 refine nK ?_
 refine zb ?_
 refine za ?_
 refine zbd ?_
 refine zc ?_
 refine nK ?_
 refine n_cond _ rfl (fun hb => ?_) (fun hb => ?_)
 ·simp at hb; omega
 refine nK ?_
 refine zb ?_
 refine za ?_
 refine zbn ?_
 refine za ?_
 refine zf ?_
 refine zn ?_
 refine zm ?_
 refine zbz ?_
 refine zv ?_
 refine zc ?_
 refine nK ?_
 refine n_cond _ rfl (fun hb => ?_) (fun hb => ?_)
 ·simp at hb; omega
 refine nK ?_
 refine zb ?_
 refine za ?_
 refine zk ?_
 refine za ?_
 refine rpZ 26 rfl (op_call_pure (fun _ => hd) rfl (Opd.func _) (oS (oT rfl) (oS (oT rfl) Opds.nil))) ?_
 refine rpZ 27 rfl (op_build rfl rfl rfl (FillF.cons _ _ _ _ _ _ _ _ _ _ (by rfl) (oT rfl) tC (by rfl) tR (FillF.cons _ _ _ _ _ _ _ _ _ _ (by rfl) (oT rfl) tC (by rfl) tR (FillF.nil _)))) ?_
 refine zu ?_
 refine zr ?_
 refine zc ?_
 refine nK ?_
 refine zb ?_
 refine zk ?_
 refine za ?_
 refine zg ?_
 refine zh ?_
 refine rpZ 32 rfl (op_call_pure (fun _ => hp) rfl (Opd.func _) (oS (oT rfl) (oS (oT rfl) (oS (oT rfl) Opds.nil)))) ?_
 refine zg ?_
 refine zr ?_
 refine zc ?_
 refine nK ?_
 refine zb ?_
 refine zk ?_
 refine za ?_
 refine zg ?_
 refine zh ?_
 refine zg ?_
 refine zh ?_
 refine rpZ 40 rfl (op_call_pure (fun _ => hho) rfl (Opd.func _) (oS (oT rfl) (oS (oT rfl) (oS (oT rfl) (oS (oT rfl) Opds.nil))))) ?_
 refine zg ?_
 refine zr ?_
 refine zc ?_
 refine nK ?_
 refine zb ?_
 refine zk ?_
 refine zr ?_
 refine ze ?_
 refine zc ?_
 refine nK ?_
 exact wO hC
open Go Go.RT Go.Proofs Go.Pl
set_option maxRecDepth 20000
set_option maxHeartbeats 2000000
open Go Go.RT Go.Proofs Go.Pl
set_option maxRecDepth 20000
set_option maxHeartbeats 4000000
open Go Go.RT Go.Proofs Go.Pl
set_option maxRecDepth 20000
set_option maxHeartbeats 4000000
open Go Go.RT Go.Proofs Go.Pl
set_option maxRecDepth 20000
set_option maxHeartbeats 4000000
theorem cost_bnd {es : List Edg} {r n : Nat} (vg : VG es r n) (f t : Int) : 0 ≤ (costL f t es).1 ∧ (costL f t es).1 ≤ 65535 := by
 cases h : (costL f t es).2 with
 | true =>
  obtain ⟨e, he, _, _, h3⟩ := (cost_yes vg.asc).1 h
  rw [← h3]; exact vg.c e he
 | false =>
  have : ∀ l : List Edg, (costL f t l).2 = false → (costL f t l).1 = 0 := fun l => by
   induction l with
   | nil => intro _; rfl
   | cons x l ih =>
    simp only [costL]
    split
    ·simp
    exact ih
  rw [this es h]; omega
open Go Go.RT Go.Proofs Go.Pl
set_option maxRecDepth 20000
set_option maxHeartbeats 4000000
def rowA (g : Gr) (D : Nat → Nat → Int) (i : Nat) : List Int := (rowF g.m (D i)).take g.r.toNat
theorem allOk_of {g : Gr} {D : Nat → Nat → Int} (d : Dst g D) : AllOk g (fun i => rowF g.m (D i)) := by
 have hle := d.vg.le
 refine ⟨fun i _ => rowF_len _ _, fun i hi v hv => ?_⟩
 rw [rowF_get _ _ hv]
 exact d.ok i v (by omega) hv
open Go Go.RT Go.Proofs Go.Pl
set_option maxRecDepth 20000
set_option maxHeartbeats 4000000
theorem clip_c (l : List Int) (hl : l.length ≤ 1999999) : Pure Tryz.prog 32 [VI l] (VI l) := by
 refine Meets.intro Tryz.func32 rfl (Nat.le_of_ble_eq_true rfl) fun C hC => ?_
 simp only [List.map, argEnv, Nat.reduceAdd]
 refine nK ?_
 refine zb ?_
 refine ze ?_
 refine zc ?_
 refine nK ?_
 refine zb ?_
 refine za ?_
 refine za ?_
 refine zo ?_
 refine za ?_
 refine zo ?_
 refine rpZ 8 rfl (op_slice_clip (h := l.length) (mx := l.length) rfl (oT rfl) (Bnd.yes _ _ _ _ _ (oT rfl) (by intro _; rfl)) (Bnd.yes _ _ _ _ _ (oT rfl) (by intro _; rfl)) (by intro _; rw [List.length_map]; exact ⟨rfl, rfl⟩)) ?_
 refine zd ?_
 refine zc ?_
 refine nK ?_
 exact wO hC
theorem all_c (g : Gr) (D : Nat → List Int) (hok : okG g) (hg : checkI g = 0) (hD : AllOk g D) : Pure Tryz.prog 14 [.agg (encG g)] (.tup [VLL (allL g D), If .i64 0]) := by
 obtain ⟨h128, h0, h1⟩ := checkI_sz hg
 have hdc := fun (a : Nat) (ha : a < g.r.toNat) => dist_c g a (D a) hg hok (by omega) (hD.len a ha) (hD.dist a ha)
 have hlen := hD.len
 have hr : g.r = (g.r.toNat : Int) := by omega
 refine Meets.intro Tryz.func14 rfl (Nat.le_of_ble_eq_true rfl) fun C hC => ?_
 simp only [List.map, argEnv, Nat.reduceAdd]
 refine nK ?_
 refine zb ?_
 refine zq ?_
 refine ze ?_
 refine ze ?_
 refine zc ?_
 refine nK ?_
 refine zb ?_
 refine zk ?_
 refine rpZ 8 rfl (op_call_pure (fun _ => check_c _ (by assumption)) rfl (Opd.func _) (oS (oT rfl) Opds.nil)) ?_
 refine zd ?_
 refine zc ?_
 refine nK ?_
 refine zb ?_
 refine za ?_
 refine zbd ?_
 refine zc ?_
 refine nK ?_
 refine n_cond _ rfl (fun hb => ?_) (fun hb => ?_)
 ·simp at hb; omega
 clear hb
 refine nK ?_
 refine zb ?_
 refine zg ?_
 refine zh ?_
 refine Run.eff (dd := some 14) rfl rfl (op_make (l := g.r.toNat) (c := g.r.toNat) rfl (oT rfl) (oT rfl) rfl rfl rfl rfl (by intro _; refine ⟨hr, hr, ?_⟩; omega)) ?_
 refine zd ?_
 refine zc ?_
 refine nK ?_
 refine Next.weak [0, 1] [] (by rfl) (keepsN hC _ rfl) (G' := [(1, .ptr 0 3 0 0), (5, .sl 1 1 0 g.r.toNat)]) (H' := [(0, OG g), (1, some (.flat 1 (allP g D 0)))]) wG (by exact ⟨wS, ⟨ent_same rfl rfl (flEq rfl (by rw [allP_0]; rfl)) trivial, trivial⟩⟩) wN ?_
 refine nK ?_
 refine zb ?_
 refine za ?_
 refine zbi ?_
 refine zbb ?_
 refine zc ?_
 refine nK ?_
 refine n_loop (ι := Nat) (fun k => ([(1, .ptr 0 3 0 0), (5, .sl 1 1 0 g.r.toNat), (16, IV .i64 g.r.toNat), (17, IV .i64 k)], [(0, OG g), (1, some (.flat 1 (allP g D k)))], 2)) (fun k => k ≤ g.r.toNat) (fun k => g.r.toNat - k) 0 (Nat.zero_le _) ?_ ?_
 ·refine Next.weak [0, 1] [] (by rfl) (keepsN hC _ rfl) wG wR wN rel_intro
 intro k hk K hK
 try dsimp only at hk hK ⊢
 refine nK ?_
 refine zb ?_
 refine zp ?_
 refine zc ?_
 refine nK ?_
 refine n_cond _ rfl (fun hb => ?_) (fun hb => ?_)
 ·have hlt : k < g.r.toNat := Int.ofNat_lt.1 (of_decide_eq_true hb)
  have hK1 := hK (k + 1) (by omega) (by omega)
  rw [← allP_set] at hK1
  have hrow : (allP g D k)[k]? = some [.lit (.slice none 0 0)] := by unfold allP; rw [rng_get _ _ _ hlt, if_neg (by omega)]
  have hdk := hdc k hlt
  have hlk := hlen k hlt
  have hmm : g.m = (g.r + g.n).toNat := rfl
  generalize D k = dk at *
  have hcl := clip_c (dk.take g.r.toNat) (by have := List.length_take_le' g.r.toNat dk; omega)
  refine nK ?_
  refine zb ?_
  refine za ?_
  refine zd ?_
  refine zc ?_
  refine nK ?_
  refine s_draw mixed ?_
  refine za ?_
  refine za ?_
  refine zk ?_
  refine za ?_
  refine rpZ 24 rfl (op_call_pure (fun _ => hdk) rfl (Opd.func _) (oS (oT rfl) (oS (oT rfl) Opds.nil))) ?_
  refine zg ?_
  refine zh ?_
  refine rpZ 27 rfl (op_slice_fz (l := 0) (h := g.r.toNat) (rs := (dk.take g.r.toNat).map encN) rfl (oT rfl) (Bnd.no _) (Bnd.yes _ _ _ _ _ (oT rfl) (by intro _; exact hr)) (by intro _; exact ⟨Nat.zero_le _, by simp; omega, by simp [List.map_take]⟩)) ?_
  refine rpZ 28 rfl (op_call_pure (fun _ => hcl) rfl (Opd.func _) (oS (oT rfl) Opds.nil)) ?_
  refine rpZ 29 rfl (op_idx_sl0 k rfl (oT rfl) (oT rfl) (by intro _; exact ⟨rfl, hlt⟩)) ?_
  refine Run.effW (dd := none) rfl rfl (op_store_flat rfl (oT rfl) (oT rfl) tC rfl rfl hrow tS) tE ?_
  refine zs ?_
  refine nK ?_
  refine zb ?_
  refine zl ?_
  refine za ?_
  refine zc ?_
  refine nK ?_
  refine Next.weak [0, 1] [] (by rfl) (keepsN hC _ rfl) wG wR wN hK1
 have hke : k = g.r.toNat := by
  have := of_decide_eq_false hb; omega
 subst hke
 refine nK ?_
 refine zb ?_
 refine za ?_
 refine zd ?_
 refine ze ?_
 refine zc ?_
 refine nK ?_
 refine Next.weakS [] [2] (by rfl) (keeps0 hC _) (G' := [(2, .fz (VLL (allL g D))), (3, IV .i64 0)]) (H' := []) ⟨⟨_, rfl, .inr ⟨_, rfl, .sl _ _ _ _ _ _ rfl rfl ((take_all0 (allP_len _ _ _)).trans (allP_n _ _)) (by rw [← allP_n, allP_len])⟩⟩, ⟨_, rfl, .inl ⟨rfl, rfl⟩⟩, trivial⟩ trivial rfl ?_
 exact wO hC
open Go Go.RT Go.Proofs Go.Pl
set_option maxRecDepth 20000
set_option maxHeartbeats 4000000
def plainI (g : Gr) : Int := if checkI g ≠ 0 then checkI g else if 0 < g.n then 15 else 0
theorem plainI_ok {g : Gr} (h : plainI g = 0) : checkI g = 0 ∧ g.n = 0 := by
 unfold plainI at h
 split at h
 ·rename_i h1; exact absurd h h1
 rename_i h1
 have h2 : checkI g = 0 := by omega
 have := (checkI_sz h2).2.2
 split at h
 ·cases h
 exact ⟨h2, by omega⟩
abbrev OAl (l : List Alt) : Option Ob := some (.flat 5 (l.map encAl))
theorem okT_tab {g : Gr} {D : Nat → Nat → Int} (d : Dst g D) : okT (tabL g D) := fun l hl x hx => by
 have hle := d.vg.le
 obtain ⟨i, hi, rfl⟩ := List.mem_map.1 hl
 have hi' := List.mem_range.1 hi
 have h1 := List.mem_of_mem_take hx
 obtain ⟨k, hk, rfl⟩ := List.mem_map.1 h1
 have := d.bnd (i := i) (k := k) (by omega) (List.mem_range.1 hk)
 simp only [inr]; omega
theorem tab_rows {g : Gr} {D : Nat → Nat → Int} (hN : g.n = 0) {x : Nat} (hx : x < g.m) : ((tabL g D).map encL)[x]? = some [VI (rowF g.m (D x))] := by
 have h1 := row_of encL (tabL g D) x [] (by rw [tab_len, ← plain_m hN]; exact hx)
 rw [show (tabL g D).getD x [] = rowF g.m (D x) from tab_row hN hx] at h1
 exact h1
theorem lplain_c (g : Gr) (hok : okG g) : Pure Tryz.prog 13 [.agg (encG g)] (If .i64 (plainI g)) := by
 unfold plainI
 refine Meets.intro Tryz.func13 rfl (Nat.le_of_ble_eq_true rfl) fun C hC => ?_
 simp only [List.map, argEnv, Nat.reduceAdd]
 refine nK ?_
 refine zb ?_
 refine zq ?_
 refine ze ?_
 refine zc ?_
 refine nK ?_
 refine zb ?_
 refine zk ?_
 refine rpZ 5 rfl (op_call_pure (fun _ => check_c _ (by assumption)) rfl (Opd.func _) (oS (oT rfl) Opds.nil)) ?_
 refine zd ?_
 refine zc ?_
 refine nK ?_
 refine zb ?_
 refine za ?_
 refine zbd ?_
 refine zc ?_
 refine nK ?_
 refine n_cond _ rfl (fun hb => ?_) (fun hb => ?_)
 ·rw [if_pos (by simpa using hb)]
  refine nK ?_
  refine zb ?_
  refine za ?_
  refine zd ?_
  refine zc ?_
  refine nK ?_
  exact wO hC
 rw [if_neg (by simpa using hb)]
 refine nK ?_
 refine zb ?_
 refine zg ?_
 refine zh ?_
 refine zcg ?_
 refine zc ?_
 refine nK ?_
 refine n_cond _ rfl (fun hb => ?_) (fun hb => ?_)
 ·rw [if_pos (by simpa using hb)]
  refine nK ?_
  refine zb ?_
  refine ze ?_
  refine zc ?_
  refine nK ?_
  exact wO hC
 rw [if_neg (by simp at hb; omega)]
 refine nK ?_
 refine zb ?_
 refine ze ?_
 refine zc ?_
 refine nK ?_
 exact wO hC
theorem better_c (x : Alt) (c : Int) (s : BSt) : Meets Tryz.prog 16 [.fz (.agg (encAl x)), IV .i64 c, .ptr 0 1 0 0, .ptr 1 5 0 0, .ptr 2 1 0 0] 3 [(0, some (.flat 1 [[Bf s.found]])), (1, some (.flat 5 [encAl s.best])), (2, some (.flat 1 [[If .i64 s.least]]))] (.fz (Bf (betA x c s))) [(0, some (.flat 1 [[Bf s.found]])), (1, some (.flat 5 [encAl s.best])), (2, some (.flat 1 [[If .i64 s.least]]))] 3 := by
 have hbe : betA x c s = ((!s.found || decide (s.best.kind < x.kind)) || (decide (x.kind = s.best.kind) && decide (c < s.least))) := by unfold betA; rw [Bool.or_assoc]
 rw [hbe]
 refine Meets.intro Tryz.func16 rfl (Nat.le_of_ble_eq_true rfl) fun C hC => ?_
 simp only [List.map, argEnv, Nat.reduceAdd]
 refine nK ?_
 refine zb ?_
 refine zq ?_
 refine ze ?_
 refine zc ?_
 refine nK ?_
 refine zb ?_
 refine zh ?_
 refine zbj ?_
 refine za ?_
 refine zn ?_
 refine zm ?_
 refine zn ?_
 refine zm ?_
 refine zda ?_
 refine zv ?_
 refine za ?_
 refine zn ?_
 refine zm ?_
 refine zn ?_
 refine zm ?_
 refine zbo ?_
 refine zbp ?_
 refine zf ?_
 refine rkZ 25 rfl rfl tG (op_load1_flat rfl (oT rfl) tH rfl) ?_
 refine zbk ?_
 refine zcf ?_
 refine zv ?_
 refine zd ?_
 refine zc ?_
 refine nK ?_
 refine Next.weak [0, 1, 2] [] (by rfl) (keepsN hC _ rfl) (G' := [(7, .fz (Bf ((!s.found || decide (s.best.kind < x.kind)) || (decide (x.kind = s.best.kind) && decide (c < s.least)))))]) (H' := [(0, some (.flat 1 [[Bf s.found]])), (1, some (.flat 5 [encAl s.best])), (2, some (.flat 1 [[If .i64 s.least]]))]) wG wR wN ?_
 exact n_out1 rfl (by rfl) rfl rfl
theorem lall_bad (g : Gr) (a : Int) (hok : okG g) (hg : plainI g ≠ 0) : Pure Tryz.prog 6 [.agg (encG g), If .i64 a] (.tup [VAl [], If .i64 (plainI g)]) := by
 refine Meets.intro Tryz.func6 rfl (Nat.le_of_ble_eq_true rfl) fun C hC => ?_
 simp only [List.map, argEnv, Nat.reduceAdd]
 refine nK ?_
 refine zb ?_
 refine zq ?_
 refine ze ?_
 refine ze ?_
 refine zc ?_
 refine nK ?_
 refine zb ?_
 refine zk ?_
 refine rpZ 26 rfl (op_call_pure (fun _ => lplain_c _ (by assumption)) rfl (Opd.func _) (oS (oT rfl) Opds.nil)) ?_
 refine zd ?_
 refine zc ?_
 refine nK ?_
 refine zb ?_
 refine za ?_
 refine zbd ?_
 refine zc ?_
 refine nK ?_
 refine n_cond _ rfl (fun hb => ?_) (fun hb => ?_)
 ·refine nK ?_
  refine zb ?_
  refine za ?_
  refine ze ?_
  refine zd ?_
  refine zc ?_
  refine nK ?_
  refine Next.weakS [] [] (by rfl) (keeps0 hC _) (G' := [(4, .fz (VAl [])), (5, .fz _)]) (H' := []) wF trivial rfl ?_
  exact wO hC
 exfalso; simp at hb; exact hg hb
theorem lall_out (g : Gr) (a : Int) (hok : okG g) (hg : plainI g = 0) (ha : a < 0 ∨ g.r ≤ a) : Pure Tryz.prog 6 [.agg (encG g), If .i64 a] (.tup [VAl [], If .i64 5]) := by
 have hrc := run_out g a hok (plainI_ok hg).1 ha
 refine Meets.intro Tryz.func6 rfl (Nat.le_of_ble_eq_true rfl) fun C hC => ?_
 simp only [List.map, argEnv, Nat.reduceAdd]
 refine nK ?_
 refine zb ?_
 refine zq ?_
 refine ze ?_
 refine ze ?_
 refine zc ?_
 refine nK ?_
 refine zb ?_
 refine zk ?_
 refine rpZ 26 rfl (op_call_pure (fun _ => lplain_c _ (by assumption)) rfl (Opd.func _) (oS (oT rfl) Opds.nil)) ?_
 refine zd ?_
 refine zc ?_
 refine nK ?_
 refine zb ?_
 refine za ?_
 refine zbd ?_
 refine zc ?_
 refine nK ?_
 refine n_cond _ rfl (fun hb => ?_) (fun hb => ?_)
 ·exfalso; simp at hb; exact hb hg
 refine nK ?_
 refine zb ?_
 refine zk ?_
 refine za ?_
 refine rpZ 33 rfl (op_call_pure (fun _ => hrc) rfl (Opd.func _) (oS (oT rfl) (oS (oT rfl) Opds.nil))) ?_
 refine za ?_
 refine zi ?_
 refine zi ?_
 refine zu ?_
 refine zr ?_
 refine zd ?_
 refine zc ?_
 refine nK ?_
 refine zb ?_
 refine za ?_
 refine zbd ?_
 refine zc ?_
 refine nK ?_
 refine n_cond _ rfl (fun hb => ?_) (fun hb => ?_)
 ·refine nK ?_
  refine zb ?_
  refine za ?_
  refine ze ?_
  refine zd ?_
  refine zc ?_
  refine nK ?_
  refine Next.weakS [] [] (by rfl) (keeps0 hC _) (G' := [(4, .fz (VAl [])), (5, .fz _)]) (H' := []) wF trivial rfl ?_
  exact wO hC
 exfalso; simp at hb
theorem lall_c (g : Gr) (a : Nat) (t : Tr) (hok : okG g) (hN : g.n = 0) (h : RunOk g a t) : Pure Tryz.prog 6 [.agg (encG g), If .i64 a] (.tup [VAl (allA g (tabL g (disF g.es g.m)) a (nextI a g.es) t.hops g.r.toNat), If .i64 0]) := by
 have hg := h.ok
 have d := dst_of hg
 have hac := all_c g _ hok hg (allOk_of d)
 have hrc := run_c g a t hok h
 have h128 := d.vg.n128
 have hel := d.vg.e1024
 have hnc := next_c g a (by omega)
 have hns := (nextI_spec (a : Int) g.es)
 have hnl := nextI_len (a : Int) g.es
 have hll := okT_tab d
 have hm := plain_m hN
 have hr : g.r = (g.r.toNat : Int) := by have := d.r0; omega
 have hpl : plainI g = 0 := by unfold plainI; rw [if_neg (by simp [hg]), if_neg (by omega)]
 have hhl := h.hopInv.ok.len
 have hhr := fun v (hv : v < g.m) => (h.hopInv.ok.row v hv)
 have hcb := fun f t => cost_bnd d.vg f t
 have hdb := fun i k (hi : i < g.m) (hk : k < g.m) => d.bnd hi hk
 have htr := fun x (hx : x < g.m) => tab_rows (D := disF g.es g.m) hN hx
 have htg := fun x y (hx : x < g.m) (hy : y < g.m) => tab_get (D := disF g.es g.m) hN hx hy
 have hnn : ∀ n ∈ nextI (a : Int) g.es, 0 ≤ n ∧ n < (g.m : Int) := fun n hn => by
  obtain ⟨e, he, h1, h2⟩ := (hns.2 n).1 hn
  have := d.vg.t e he; omega
 generalize disF g.es g.m = D at *
 clear hns
 generalize nextI (a : Int) g.es = ns at *
 change RT.Pure _ _ _ (.tup [.vals 1 ((tabL g D).map encL), If .i64 0]) at hac
 refine Meets.intro Tryz.func6 rfl (Nat.le_of_ble_eq_true rfl) fun C hC => ?_
 simp only [List.map, argEnv, Nat.reduceAdd]
 refine nK ?_
 refine zb ?_
 refine zq ?_
 refine ze ?_
 refine ze ?_
 refine zc ?_
 refine nK ?_
 refine zb ?_
 refine zk ?_
 refine rpZ 26 rfl (op_call_pure (fun _ => lplain_c _ (by assumption)) rfl (Opd.func _) (oS (oT rfl) Opds.nil)) ?_
 refine zd ?_
 refine zc ?_
 refine nK ?_
 refine zb ?_
 refine za ?_
 refine zbd ?_
 refine zc ?_
 refine nK ?_
 refine n_cond _ rfl (fun hb => ?_) (fun hb => ?_)
 ·exfalso; simp at hb; exact hb hpl
 clear hb
 refine nK ?_
 refine zb ?_
 refine zk ?_
 refine za ?_
 refine rpZ 33 rfl (op_call_pure (fun _ => hrc) rfl (Opd.func _) (oS (oT rfl) (oS (oT rfl) Opds.nil))) ?_
 refine za ?_
 refine zi ?_
 refine zi ?_
 refine zu ?_
 refine zr ?_
 refine zd ?_
 refine zc ?_
 refine nK ?_
 refine zb ?_
 refine za ?_
 refine zbd ?_
 refine zc ?_
 refine nK ?_
 refine n_cond _ rfl (fun hb => ?_) (fun hb => ?_)
 ·exfalso; simp at hb
 clear hb
 refine nK ?_
 refine zb ?_
 refine zk ?_
 refine rpZ 41 rfl (op_call_pure (fun _ => hac) rfl (Opd.func _) (oS (oT rfl) Opds.nil)) ?_
 refine za ?_
 refine zi ?_
 refine zi ?_
 refine zd ?_
 refine zd ?_
 refine zc ?_
 refine nK ?_
 refine zb ?_
 refine zk ?_
 refine za ?_
 refine rpZ 46 rfl (op_call_pure (fun _ => hnc) rfl (Opd.func _) (oS (oT rfl) (oS (oT rfl) Opds.nil))) ?_
 refine zd ?_
 refine zc ?_
 refine nK ?_
 refine zb ?_
 refine ze ?_
 refine zc ?_
 refine nK ?_
 refine Next.adopt 12 5 rfl ?_
 refine Next.weak [0, 1, 2] [] (by rfl) (keepsN hC _ rfl) (G' := [(1, IV .i64 a), (2, .ptr 0 3 0 0), (7, .ptr 1 4 0 0), (9, .fz (VLL (tabL g D))), (11, .fz (VI ns)), (12, .sl 2 5 0 0)]) (H' := [(0, OG g), (1, OTr t), (2, OAl [])]) wG wR wN ?_
 refine nK ?_
 refine zb ?_
 refine zg ?_
 refine zh ?_
 refine zbb ?_
 refine zc ?_
 refine nK ?_
 refine n_loop (ι := Nat) (fun k => ([(1, IV .i64 a), (2, .ptr 0 3 0 0), (7, .ptr 1 4 0 0), (9, .fz (VLL (tabL g D))), (11, .fz (VI ns)), (12, .sl 2 5 0 (allA g (tabL g D) a ns t.hops k).length), (48, IV .i64 g.r.toNat), (49, IV .i64 k)], [(0, OG g), (1, OTr t), (2, OAl (allA g (tabL g D) a ns t.hops k))], 3)) (fun k => k ≤ g.r.toNat ∧ (allA g (tabL g D) a ns t.hops k).length ≤ k * 128) (fun k => g.r.toNat - k) 0 ⟨Nat.zero_le _, Nat.le_refl _⟩ ?_ ?_
 ·refine Next.weak [0, 1, 2] [] (by rfl) (keepsN hC _ rfl) wG wR wN rel_intro
 intro k ⟨hk, hkl⟩ K hK
 try dsimp only at hk hkl hK ⊢
 refine nK ?_
 refine zb ?_
 refine zp ?_
 refine zc ?_
 refine nK ?_
 refine n_cond _ rfl (fun hb => ?_) (fun hb => ?_)
 ·have hlt : k < g.r.toNat := by have := of_decide_eq_true hb; omega
  have hkm : k < g.m := by omega
  have hrk := row_of encL t.hops k [] (by omega)
  change (t.hops.map encL)[k]? = some [VI (rowAt' t.hops k)] at hrk
  have hrok := hhr k hkm
  have hrl := hrok.len
  have hK1 := hK (k + 1)
  rw [allA_succ] at hK1
  unfold Pl.rowA at hK1
  clear hK hb
  generalize allA g (tabL g D) a ns t.hops k = out0 at *
  generalize rowAt' t.hops k = row at *
  refine nK ?_
  refine zb ?_
  refine za ?_
  refine zd ?_
  refine zc ?_
  refine nK ?_
  refine zb ?_
  refine zg ?_
  refine zh ?_
  refine za ?_
  refine rpZ 55 rfl (op_idx_fz k rfl (oT rfl) (oT rfl) (by intro _; exact ⟨rfl, hrk⟩)) ?_
  refine zj ?_
  refine zo ?_
  refine zbb ?_
  refine zc ?_
  refine nK ?_
  refine n_loop (ι := Nat) (fun j => ([(1, IV .i64 a), (2, .ptr 0 3 0 0), (7, .ptr 1 4 0 0), (9, .fz (VLL (tabL g D))), (11, .fz (VI ns)), (12, .sl 2 5 0 (out0 ++ (row.take j).flatMap (oneA g (tabL g D) a k ns)).length), (13, IV .i64 k), (48, IV .i64 g.r.toNat), (49, IV .i64 k), (56, .fz (VI row)), (57, IV .i64 row.length), (58, IV .i64 j)], [(0, OG g), (1, OTr t), (2, OAl (out0 ++ (row.take j).flatMap (oneA g (tabL g D) a k ns)))], 3)) (fun j => j ≤ row.length ∧ (out0 ++ (row.take j).flatMap (oneA g (tabL g D) a k ns)).length ≤ k * 128 + j) (fun j => row.length - j) 0 ⟨Nat.zero_le _, by simpa using hkl⟩ ?_ ?_
  ·refine Next.weak [0, 1, 2] [] (by rfl) (keepsN hC _ rfl) (by repeat (first | exact trivial | refine ⟨⟨_, rfl, .inl ⟨rfl, rfl⟩⟩, ?_⟩ | refine ⟨⟨_, rfl, .inl ⟨slEq rfl (by simp), rfl⟩⟩, ?_⟩ | refine ⟨⟨_, rfl, .inl ⟨ivEq tX, rfl⟩⟩, ?_⟩ | refine ⟨⟨_, rfl, .inl ⟨ivEq (by rw [List.length_map]), rfl⟩⟩, ?_⟩)) (by exact ⟨wS, ⟨wS, ⟨ent_same rfl rfl (flEq rfl (by simp)) trivial, trivial⟩⟩⟩) wN rel_intro
  intro j ⟨hj, hjl⟩ K2 hK2
  try dsimp only at hj hjl hK2 ⊢
  refine nK ?_
  refine zb ?_
  refine zp ?_
  refine zc ?_
  refine nK ?_
  refine n_cond _ rfl (fun hb => ?_) (fun hb => ?_)
  ·have hlj : j < row.length := by have := of_decide_eq_true hb; omega
   have hrj := row_at' encN row j hlj
   have hpn : 0 ≤ row[j] ∧ row[j] < (g.m : Int) := hrok.2 _ (List.getElem_mem hlj)
   have hK3 := hK2 (j + 1)
   rw [flat_succ _ _ _ hlj, ← List.append_assoc] at hK3
   clear hK2 hb
   generalize out0 ++ (row.take j).flatMap (oneA g (tabL g D) a k ns) = out at *
   generalize row[j] = p at *
   refine nK ?_
   refine zb ?_
   refine rpZ 60 rfl (op_idx_fz j rfl (oT rfl) (oT rfl) (by intro _; exact ⟨rfl, hrj⟩)) ?_
   refine zj ?_
   refine zd ?_
   refine zc ?_
   refine nK ?_
   refine zb ?_
   refine zu ?_
   refine zc ?_
   refine nK ?_
   refine zb ?_
   refine zu ?_
   refine zu ?_
   refine zdm ?_
   refine zdm ?_
   refine zc ?_
   refine nK ?_
   refine zb ?_
   refine rpZ 62 rfl (op_makeFunc rfl Opds.nil (oS (oT rfl) (oS (oT rfl) (oS (oT rfl) Opds.nil)))) ?_
   refine zd ?_
   refine zc ?_
   refine nK ?_
   refine nK ?_
   refine zb ?_
   refine za ?_
   refine zo ?_
   refine zbb ?_
   refine zc ?_
   refine nK ?_
   refine n_loop (ι := Nat) (fun i => ([(1, IV .i64 a), (2, .ptr 0 3 0 0), (7, .ptr 1 4 0 0), (9, .fz (VLL (tabL g D))), (11, .fz (VI ns)), (12, .sl 2 5 0 out.length), (13, IV .i64 k), (15, IV .i64 p), (16, .ptr 3 5 0 0), (17, .ptr 4 1 0 0), (18, .ptr 5 1 0 0), (19, .clo 16 [] [.ptr 5 1 0 0, .ptr 3 5 0 0, .ptr 4 1 0 0]), (48, IV .i64 g.r.toNat), (49, IV .i64 k), (56, .fz (VI row)), (57, IV .i64 row.length), (58, IV .i64 j), (63, .fz (VI ns)), (64, IV .i64 ns.length), (65, IV .i64 i)], [(0, OG g), (1, OTr t), (2, OAl out), (3, some (.flat 5 [encAl (foldA g (tabL g D) a k p (ns.take i)).best])), (4, some (.flat 1 [[If .i64 (foldA g (tabL g D) a k p (ns.take i)).least]])), (5, some (.flat 1 [[Bf (foldA g (tabL g D) a k p (ns.take i)).found]]))], 6)) (fun i => i ≤ ns.length) (fun i => ns.length - i) 0 (Nat.zero_le _) ?_ ?_
   ·refine Next.weak [0, 1, 2, 3, 4, 5] [] (by rfl) (keepsN hC _ rfl) (by repeat (first | exact trivial | refine ⟨⟨_, rfl, .inl ⟨rfl, rfl⟩⟩, ?_⟩ | refine ⟨⟨_, rfl, .inl ⟨ivEq (by rw [List.length_map]), rfl⟩⟩, ?_⟩)) wR wN rel_intro
   intro i hi K4 hK4
   try dsimp only at hi hK4 ⊢
   refine nK ?_
   refine zb ?_
   refine zp ?_
   refine zc ?_
   refine nK ?_
   refine n_cond _ rfl (fun hb => ?_) (fun hb => ?_)
   ·have hli : i < ns.length := by have := of_decide_eq_true hb; omega
    have hri := row_at' encN ns i hli
    have hn := hnn _ (List.getElem_mem hli)
    have hK5 := hK4 (i + 1) (by omega) (by omega)
    rw [foldA_succ _ _ _ _ _ _ _ hli] at hK5
    clear hK4 hb
    generalize foldA g (tabL g D) a k p (ns.take i) = s at *
    generalize ns[i] = n at *
    unfold stepA at hK5
    have hlf := lloop_c (tabL g D) a n k hll
    have hdn := ldown_c (tabL g D) a n k
    have hpr := lprot_c (tabL g D) n p k hll
    refine nK ?_
    refine zb ?_
    refine rpZ 67 rfl (op_idx_fz i rfl (oT rfl) (oT rfl) (by intro _; exact ⟨rfl, hri⟩)) ?_
    refine zj ?_
    refine zd ?_
    refine zc ?_
    refine nK ?_
    refine zb ?_
    refine za ?_
    refine za ?_
    refine zbr ?_
    refine za ?_
    refine zf ?_
    refine zf ?_
    refine zf ?_
    refine zf ?_
    refine rgZ 77 rfl rfl tG (op_call_pure (fun _ => hlf) rfl (Opd.func _) (oS (oO rfl tO) (oS (oO rfl tO) (oS (oO rfl tO) (oS (oO rfl tO) Opds.nil))))) ?_
    refine zbl ?_
    refine zv ?_
    refine zc ?_
    refine nK ?_
    refine n_cond _ rfl (fun hb => ?_) (fun hb => ?_)
    ·have hsk : skipA (tabL g D) a k p n = true := hb
     rw [if_pos hsk] at hK5
     refine nK ?_
     refine zb ?_
     refine zl ?_
     refine za ?_
     refine zc ?_
     refine nK ?_
     refine Next.weak [0, 1, 2, 3, 4, 5] [] (by rfl) (keepsN hC _ rfl) wG wR wN hK5
    have hsk : ¬ skipA (tabL g D) a k p n = true := by
     rw [Bool.not_eq_true]; exact hb
    rw [if_neg hsk] at hK5
    clear hb hsk
    have hco := cost_c g a n (by omega)
    have hcb1 := hcb a n
    have hdb1 := hdb n.toNat k (by omega) hkm
    have hrn := htr n.toNat (by omega)
    have hrk2 := row_row g.m (D n.toNat) hkm
    have hgt := htg n.toNat k (by omega) hkm
    have hcst : cstA g (tabL g D) a k n = (costL a n g.es).1 + D n.toNat k := by unfold cstA; rw [Int.toNat_natCast, hgt]
    have hbet := better_c (newA (tabL g D) a k p n) (cstA g (tabL g D) a k n) s
    rw [hcst] at hbet hK5
    refine nK ?_
    refine zb ?_
    refine za ?_
    refine za ?_
    refine za ?_
    refine za ?_
    refine za ?_
    refine za ?_
    refine za ?_
    refine rpZ 87 rfl (op_call_pure (fun _ => hdn) rfl (Opd.func _) (oS (oT rfl) (oS (oT rfl) (oS (oT rfl) (oS (oT rfl) Opds.nil))))) ?_
    refine rpZ 88 rfl (op_build rfl rfl rfl (FillF.cons _ _ _ _ _ _ _ _ _ _ (by rfl) (oT rfl) tC (by rfl) tR (FillF.cons _ _ _ _ _ _ _ _ _ _ (by rfl) (oT rfl) tC (by rfl) tR (FillF.cons _ _ _ _ _ _ _ _ _ _ (by rfl) (oT rfl) tC (by rfl) tR (FillF.cons _ _ _ _ _ _ _ _ _ _ (by rfl) oC tC (by rfl) tR (FillF.cons _ _ _ _ _ _ _ _ _ _ (by rfl) (oT rfl) tC (by rfl) tR (FillF.nil _))))))) ?_
    refine zu ?_
    refine zr ?_
    refine zc ?_
    refine nK ?_
    refine zb ?_
    refine za ?_
    refine za ?_
    refine zbg ?_
    refine za ?_
    refine zf ?_
    refine zf ?_
    refine zf ?_
    refine zf ?_
    refine rgZ 97 rfl rfl tG (op_call_pure (fun _ => hpr) rfl (Opd.func _) (oS (oO rfl tO) (oS (oO rfl tO) (oS (oO rfl tO) (oS (oO rfl tO) Opds.nil))))) ?_
    refine zt ?_
    refine zc ?_
    refine nK ?_
    refine n_cond _ rfl (fun hb => ?_) (fun hb => ?_)
    ·have hkd : newA (tabL g D) a k p n = ⟨k, p, n, 2, dwnL (tabL g D) a n k⟩ := by
      unfold newA
      first | rw [if_pos hb] | rw [if_neg (by rw [Bool.not_eq_true]; exact hb)]
     rw [hkd] at hbet hK5
     clear hb hkd
     refine nK ?_
     refine zb ?_
     refine zg ?_
     refine zdm ?_
     refine zc ?_
     refine nK ?_
     refine zb ?_
     refine zk ?_
     refine za ?_
     refine za ?_
     refine rpZ 104 rfl (op_call_pure (fun _ => hco) rfl (Opd.func _) (oS (oT rfl) (oS (oT rfl) (oS (oT rfl) Opds.nil)))) ?_
     refine za ?_
     refine zi ?_
     refine zi ?_
     refine zd ?_
     refine zd ?_
     refine zc ?_
     refine nK ?_
     refine zb ?_
     refine za ?_
     refine za ?_
     refine za ?_
     refine rpZ 110 rfl (op_idx_fz n.toNat rfl (oT rfl) (oT rfl) (by intro _; exact ⟨by omega, hrn⟩)) ?_
     refine zj ?_
     refine za ?_
     refine rpZ 113 rfl (op_idx_fz k rfl (oT rfl) (oT rfl) (by intro _; exact ⟨rfl, hrk2⟩)) ?_
     refine zj ?_
     refine zbc ?_
     refine zd ?_
     refine zc ?_
     refine nK ?_
     refine zb ?_
     refine za ?_
     refine zk ?_
     refine za ?_
     refine rlZ 119 rfl (op_call_read (n := 3) [5, 3, 4] (fun _ => hbet) rfl (oT rfl) (oS (oT rfl) (oS (oT rfl) Opds.nil)) rfl rfl (Lent.of rfl rfl (by exact ⟨⟨rfl, rfl, rfl, trivial⟩, ⟨rfl, rfl, rfl, trivial⟩, ⟨rfl, rfl, rfl, trivial⟩, trivial⟩) rfl) rfl) ?_
     refine zc ?_
     refine nK ?_
     refine n_cond _ rfl (fun hb => ?_) (fun hb => ?_)
     ·rw [if_pos hb] at hK5
      refine nK ?_
      refine zb ?_
      refine zk ?_
      refine za ?_
      refine zr ?_
      refine zr ?_
      refine zdm ?_
      refine zc ?_
      refine nK ?_
      refine zb ?_
      refine zl ?_
      refine za ?_
      refine zc ?_
      refine nK ?_
      refine Next.weak [0, 1, 2, 3, 4, 5] [] (by rfl) (keepsN hC _ rfl) wG wR wN hK5
     rw [if_neg (by rw [hb]; simp)] at hK5
     refine nK ?_
     refine zb ?_
     refine zl ?_
     refine za ?_
     refine zc ?_
     refine nK ?_
     refine Next.weak [0, 1, 2, 3, 4, 5] [] (by rfl) (keepsN hC _ rfl) wG wR wN hK5
    have hkd : newA (tabL g D) a k p n = ⟨k, p, n, 1, dwnL (tabL g D) a n k⟩ := by
     unfold newA
     first | rw [if_pos hb] | rw [if_neg (by rw [Bool.not_eq_true]; exact hb)]
    rw [hkd] at hbet hK5
    clear hb hkd
    refine nK ?_
    refine zb ?_
    refine zk ?_
    refine za ?_
    refine za ?_
    refine rpZ 104 rfl (op_call_pure (fun _ => hco) rfl (Opd.func _) (oS (oT rfl) (oS (oT rfl) (oS (oT rfl) Opds.nil)))) ?_
    refine za ?_
    refine zi ?_
    refine zi ?_
    refine zd ?_
    refine zd ?_
    refine zc ?_
    refine nK ?_
    refine zb ?_
    refine za ?_
    refine za ?_
    refine za ?_
    refine rpZ 110 rfl (op_idx_fz n.toNat rfl (oT rfl) (oT rfl) (by intro _; exact ⟨by omega, hrn⟩)) ?_
    refine zj ?_
    refine za ?_
    refine rpZ 113 rfl (op_idx_fz k rfl (oT rfl) (oT rfl) (by intro _; exact ⟨rfl, hrk2⟩)) ?_
    refine zj ?_
    refine zbc ?_
    refine zd ?_
    refine zc ?_
    refine nK ?_
    refine zb ?_
    refine za ?_
    refine zk ?_
    refine za ?_
    refine rlZ 119 rfl (op_call_read (n := 3) [5, 3, 4] (fun _ => hbet) rfl (oT rfl) (oS (oT rfl) (oS (oT rfl) Opds.nil)) rfl rfl (Lent.of rfl rfl (by exact ⟨⟨rfl, rfl, rfl, trivial⟩, ⟨rfl, rfl, rfl, trivial⟩, ⟨rfl, rfl, rfl, trivial⟩, trivial⟩) rfl) rfl) ?_
    refine zc ?_
    refine nK ?_
    refine n_cond _ rfl (fun hb => ?_) (fun hb => ?_)
    ·rw [if_pos hb] at hK5
     refine nK ?_
     refine zb ?_
     refine zk ?_
     refine za ?_
     refine zr ?_
     refine zr ?_
     refine zdm ?_
     refine zc ?_
     refine nK ?_
     refine zb ?_
     refine zl ?_
     refine za ?_
     refine zc ?_
     refine nK ?_
     refine Next.weak [0, 1, 2, 3, 4, 5] [] (by rfl) (keepsN hC _ rfl) wG wR wN hK5
    rw [if_neg (by rw [hb]; simp)] at hK5
    refine nK ?_
    refine zb ?_
    refine zl ?_
    refine za ?_
    refine zc ?_
    refine nK ?_
    refine Next.weak [0, 1, 2, 3, 4, 5] [] (by rfl) (keepsN hC _ rfl) wG wR wN hK5
   have hie : i = ns.length := by have := of_decide_eq_false hb; omega
   subst hie
   rw [List.take_length]
   have hone : oneA g (tabL g D) a k ns p = if (foldA g (tabL g D) a k p ns).found = true then [(foldA g (tabL g D) a k p ns).best] else [] := rfl
   clear hb hK4
   generalize foldA g (tabL g D) a k p ns = s at *
   refine nK ?_
   refine zb ?_
   refine zh ?_
   refine zc ?_
   refine nK ?_
   refine n_cond _ rfl (fun hb => ?_) (fun hb => ?_)
   ·rw [hone, if_pos hb] at hK3
    refine nK ?_
    refine zb ?_
    refine za ?_
    refine zk ?_
    refine zbh ?_
    refine zbu ?_
    refine zd ?_
    refine zc ?_
    refine nK ?_
    refine zb ?_
    refine zl ?_
    refine za ?_
    refine zc ?_
    refine nK ?_
    refine Next.weak [0, 1, 6] [] (by rfl) (keepsN hC _ rfl) (by repeat (first | exact trivial | refine ⟨⟨_, rfl, .inl ⟨rfl, rfl⟩⟩, ?_⟩ | refine ⟨⟨_, rfl, .inl ⟨slEq rfl (by simp), rfl⟩⟩, ?_⟩)) (by exact ⟨wS, ⟨wS, ⟨ent_same rfl rfl (flEq rfl (by rw [List.map_append]; rfl)) trivial, trivial⟩⟩⟩) wN (hK3 ⟨by omega, by simp; omega⟩ (by omega))
   rw [hone, if_neg (by rw [hb]; simp), List.append_nil] at hK3
   refine nK ?_
   refine zb ?_
   refine zl ?_
   refine za ?_
   refine zc ?_
   refine nK ?_
   refine Next.weak [0, 1, 2] [] (by rfl) (keepsN hC _ rfl) wG wR wN (hK3 ⟨by omega, by omega⟩ (by omega))
  have hje : j = row.length := by have := of_decide_eq_false hb; omega
  subst hje
  rw [List.take_length] at *
  refine nK ?_
  refine zb ?_
  refine zl ?_
  refine za ?_
  refine zc ?_
  refine nK ?_
  refine Next.weak [0, 1, 2] [] (by rfl) (keepsN hC _ rfl) wG wR wN (hK1 ⟨by omega, by omega⟩ (by omega))
 have hke : k = g.r.toNat := by have := of_decide_eq_false hb; omega
 subst hke
 refine nK ?_
 refine zb ?_
 refine za ?_
 refine zd ?_
 refine ze ?_
 refine zc ?_
 refine nK ?_
 refine Next.weakS [] [4] (by rfl) (keeps0 hC _) (G' := [(4, .fz (VAl (allA g (tabL g D) a ns t.hops g.r.toNat))), (5, IV .i64 0)]) (H' := []) ⟨⟨_, rfl, .inr ⟨_, rfl, .sl _ _ _ _ _ _ rfl rfl (take_all0 (List.length_map _)) (List.length_map _)⟩⟩, ⟨_, rfl, .inl ⟨rfl, rfl⟩⟩, trivial⟩ trivial rfl ?_
 exact wO hC
open Go Go.RT Go.Proofs Go.Pl
set_option maxRecDepth 20000
set_option maxHeartbeats 4000000
open Go Go.RT Go.Proofs Go.Pl
set_option maxRecDepth 20000
set_option maxHeartbeats 4000000
open Go Go.RT Go.Proofs Go.Pl
set_option maxRecDepth 20000
set_option maxHeartbeats 4000000
theorem srunT (g : Gr) (y : Nat) (hok : okG g) (hg : checkI g = 0) (hy : (y : Int) < g.r) : Pure Tryz.prog 7 [.agg (encG g), If .i64 y] (.tup [.agg (encTr (refT g (disF g.es g.m) y)), If .i64 0]) := by
 obtain ⟨t, ht⟩ := run_exists hg hy
 rw [← ht.refT (dst_of hg)]
 exact run_c g y t hok ht
def walkV (g : Gr) (x z : Nat) (a b : Int) : List Int × Bool := walkL (fun x => hopR g (disF g.es g.m) x z) z a b ((disF g.es g.m x z).toNat + 1) x [(x : Int)]
theorem lwalk_c (g : Gr) (x z : Nat) (a b : Int) (hok : okG g) (hp : plainI g = 0) (hx : (x : Int) < g.r) (hz : (z : Int) < g.r) : Pure Tryz.prog 8 [.agg (encG g), If .i64 x, If .i64 z, If .i64 a, If .i64 b] (.tup [VI (walkV g x z a b).1, Bf (walkV g x z a b).2]) := by
 obtain ⟨hg, hN⟩ := plainI_ok hp
 have d := dst_of hg
 have hm := plain_m hN
 have hr0 := d.r0
 have hrun := fun (y : Nat) (hy : (y : Int) < g.r) => srunT g y hok hg hy
 have hsp := fun (y : Nat) (hy : y < g.m) (h : Int) hh => hop_spec d hN (x := y) (z := z) hy (by omega) (h := h) hh
 have hbd := d.bnd (i := x) (k := z) (by omega) (by omega)
 unfold walkV
 have hrz : ∀ y, ((refT g (disF g.es g.m) y).hops.map encL)[z]? = some [VI (hopR g (disF g.es g.m) y z)] := fun y => by
  simp [refT, encL, (by omega : z < g.m)]
 generalize disF g.es g.m = D at *
 have hzm : z < g.m := by omega
 generalize hW : walkL (fun x => hopR g D x z) z a b ((D x z).toNat + 1) x [(x : Int)] = W at *
 refine Meets.intro Tryz.func8 rfl (Nat.le_of_ble_eq_true rfl) fun C hC => ?_
 simp only [List.map, argEnv, Nat.reduceAdd]
 refine nK ?_
 refine zb ?_
 refine zq ?_
 refine ze ?_
 refine ze ?_
 refine zc ?_
 refine nK ?_
 refine zb ?_
 refine zk ?_
 refine rpZ 18 rfl (op_call_pure (fun _ => lplain_c _ (by assumption)) rfl (Opd.func _) (oS (oT rfl) Opds.nil)) ?_
 refine zbd ?_
 refine za ?_
 refine zf ?_
 refine zcc ?_
 refine zv ?_
 refine za ?_
 refine zf ?_
 refine zn ?_
 refine zm ?_
 refine zbz ?_
 refine zv ?_
 refine za ?_
 refine zf ?_
 refine zcc ?_
 refine zv ?_
 refine za ?_
 refine zf ?_
 refine zn ?_
 refine zm ?_
 refine zbz ?_
 refine zv ?_
 refine zc ?_
 refine nK ?_
 refine n_cond _ rfl (fun hb => ?_) (fun hb => ?_)
 ·exfalso
  simp only [Bool.or_eq_true, decide_eq_true_eq, ne_eq] at hb
  omega
 clear hb
 refine nK ?_
 refine zb ?_
 refine za ?_
 refine Run.eff (dd := some 41) rfl rfl (op_buildSlice_own rfl (RowsF.cons _ _ _ _ _ _ (oT rfl) tC (by rfl) (RowsF.nil _)) rfl rfl rfl) ?_
 refine zd ?_
 refine zc ?_
 refine nK ?_
 refine zb ?_
 refine za ?_
 refine zd ?_
 refine zc ?_
 refine nK ?_
 refine n_loop (ι := Nat × Nat × List Int) (fun s => ([(2, IV .i64 z), (3, IV .i64 a), (4, IV .i64 b), (5, .ptr 0 3 0 0), (12, .sl 1 1 0 s.2.2.length), (13, IV .i64 s.2.1)], [(0, OG g), (1, OI s.2.2)], 2)) (fun s => walkL (fun x => hopR g D x z) z a b s.1 s.2.1 s.2.2 = W ∧ (D s.2.1 z).toNat < s.1 ∧ s.2.1 < g.m ∧ s.2.2.length + s.1 ≤ 8388490) (fun s => s.1) ((D x z).toNat + 1, x, [(x : Int)]) ⟨hW, by dsimp only; omega, by dsimp only; omega, by simp; omega⟩ ?_ ?_
 ·refine Next.weak [0, 1] [] (by rfl) (keepsN hC _ rfl) wG wR wN rel_intro
 intro ⟨f, y, out⟩ ⟨hwl, hf, hy, hol⟩ K hK
 dsimp only at hwl hf hy hol hK ⊢
 obtain ⟨f, rfl⟩ : ∃ f', f = f' + 1 := ⟨f - 1, by omega⟩
 simp only [walkL] at hwl
 have hr := hrun y (by omega)
 have hsy := hsp y hy
 have hrow := hrz y
 refine nK ?_
 refine zb ?_
 refine za ?_
 refine za ?_
 refine zbg ?_
 refine zc ?_
 refine nK ?_
 refine n_cond _ rfl (fun hb => ?_) (fun hb => ?_)
 ·have hne : ¬ y = z := by simp at hb; omega
  rw [if_neg hne] at hwl
  clear hb
  generalize hopR g D y z = L at *
  rcases L with _ | ⟨h, L⟩
  ·dsimp only at hwl
   subst hwl
   refine nK ?_
   refine zb ?_
   refine zk ?_
   refine za ?_
   refine rpZ 49 rfl (op_call_pure (fun _ => hr) rfl (Opd.func _) (oS (oT rfl) (oS (oT rfl) Opds.nil))) ?_
   refine za ?_
   refine zi ?_
   refine zi ?_
   refine zu ?_
   refine zr ?_
   refine zd ?_
   refine zc ?_
   refine nK ?_
   refine zb ?_
   refine zg ?_
   refine zh ?_
   refine za ?_
   refine rpZ 55 rfl (op_idx_fz z rfl (oT rfl) (oT rfl) (by intro _; exact ⟨rfl, hrow⟩)) ?_
   refine zj ?_
   refine zo ?_
   refine zci ?_
   refine zc ?_
   refine nK ?_
   refine n_cond _ rfl (fun hb => ?_) (fun hb => ?_)
   ·refine nK ?_
    refine zb ?_
    refine za ?_
    refine zd ?_
    refine ze ?_
    refine zc ?_
    refine nK ?_
    refine Next.weakS [] [10] (by rfl) (keeps0 hC _) (G' := [(10, .fz (VI out)), (11, .fz (Bf false))]) (H' := []) ⟨⟨_, rfl, .inr ⟨_, rfl, .sl _ _ _ _ _ _ rfl rfl (take_all0 (List.length_map _)) (List.length_map _)⟩⟩, ⟨_, rfl, .inl ⟨rfl, rfl⟩⟩, trivial⟩ trivial rfl ?_
    exact wO hC
   exact absurd hb (by simp)
  obtain ⟨v, hv, hvm, k1, k2, k3, _⟩ := hsy h (by simp)
  subst hv
  dsimp only at hwl
  have hr0 : ((((v : Int) :: L).map encN))[0]? = some [If .i64 (v : Int)] := rfl
  have hK1 := hK (f, v, out ++ [(v : Int)])
  dsimp only at hK1
  clear hK hsy
  refine nK ?_
  refine zb ?_
  refine zk ?_
  refine za ?_
  refine rpZ 49 rfl (op_call_pure (fun _ => hr) rfl (Opd.func _) (oS (oT rfl) (oS (oT rfl) Opds.nil))) ?_
  refine za ?_
  refine zi ?_
  refine zi ?_
  refine zu ?_
  refine zr ?_
  refine zd ?_
  refine zc ?_
  refine nK ?_
  refine zb ?_
  refine zg ?_
  refine zh ?_
  refine za ?_
  refine rpZ 55 rfl (op_idx_fz z rfl (oT rfl) (oT rfl) (by intro _; exact ⟨rfl, hrow⟩)) ?_
  refine zj ?_
  refine zo ?_
  refine zci ?_
  refine zc ?_
  refine nK ?_
  refine n_cond _ rfl (fun hb => ?_) (fun hb => ?_)
  ·exact absurd hb (by simp; omega)
  clear hb
  refine nK ?_
  refine zb ?_
  refine zg ?_
  refine zh ?_
  refine za ?_
  refine rpZ 63 rfl (op_idx_fz z rfl (oT rfl) (oT rfl) (by intro _; exact ⟨rfl, hrow⟩)) ?_
  refine zj ?_
  refine rpZ 65 rfl (op_idx_fz 0 rfl (oT rfl) oC (by intro _; exact ⟨rfl, hr0⟩)) ?_
  refine zj ?_
  refine zd ?_
  refine zc ?_
  refine nK ?_
  refine zb ?_
  refine za ?_
  refine za ?_
  refine zbr ?_
  refine za ?_
  refine zf ?_
  refine zf ?_
  refine zbo ?_
  refine zt ?_
  refine za ?_
  refine zf ?_
  refine zf ?_
  refine zbo ?_
  refine zbp ?_
  refine zf ?_
  refine zf ?_
  refine zbo ?_
  refine zcf ?_
  refine zv ?_
  refine zc ?_
  refine nK ?_
  refine n_cond _ rfl (fun hb => ?_) (fun hb => ?_)
  ·have hc : ((y : Int) = a ∧ (v : Int) = b) ∨ ((y : Int) = b ∧ (v : Int) = a) := by
    simp only [Bool.or_eq_true, Bool.and_eq_true, decide_eq_true_eq] at hb; exact hb
   rw [if_pos hc] at hwl
   subst hwl
   refine nK ?_
   refine zb ?_
   refine za ?_
   refine zd ?_
   refine ze ?_
   refine zc ?_
   refine nK ?_
   refine Next.weakS [] [10] (by rfl) (keeps0 hC _) (G' := [(10, .fz (VI out)), (11, .fz (Bf false))]) (H' := []) ⟨⟨_, rfl, .inr ⟨_, rfl, .sl _ _ _ _ _ _ rfl rfl (take_all0 (List.length_map _)) (List.length_map _)⟩⟩, ⟨_, rfl, .inl ⟨rfl, rfl⟩⟩, trivial⟩ trivial rfl ?_
   exact wO hC
  have hc : ¬ (((y : Int) = a ∧ (v : Int) = b) ∨ ((y : Int) = b ∧ (v : Int) = a)) := fun h => by
   rw [Bool.eq_false_iff] at hb
   apply hb
   simp only [Bool.or_eq_true, Bool.and_eq_true, decide_eq_true_eq]; exact h
  rw [if_neg hc, Int.toNat_natCast] at hwl
  refine nK ?_
  refine zb ?_
  refine za ?_
  refine za ?_
  refine zbh ?_
  refine zbu ?_
  refine zd ?_
  refine zc ?_
  refine nK ?_
  refine zb ?_
  refine za ?_
  refine zd ?_
  refine zc ?_
  refine nK ?_
  refine Next.weak [0, 3] [] (by rfl) (keepsN hC _ rfl) (by repeat (first | exact trivial | refine ⟨⟨_, rfl, .inl ⟨rfl, rfl⟩⟩, ?_⟩ | refine ⟨⟨_, rfl, .inl ⟨slEq rfl (by simp), rfl⟩⟩, ?_⟩)) (by exact ⟨wS, ⟨ent_same rfl rfl (flEq rfl (by rw [List.map_append]; rfl)) trivial, trivial⟩⟩) wN (hK1 ⟨hwl, by omega, hvm, by simp; omega⟩ (by omega))
 have he : y = z := by simp at hb; omega
 rw [if_pos he] at hwl
 subst hwl
 refine nK ?_
 refine zb ?_
 refine za ?_
 refine zd ?_
 refine ze ?_
 refine zc ?_
 refine nK ?_
 refine Next.weakS [] [10] (by rfl) (keeps0 hC _) (G' := [(10, .fz (VI out)), (11, .fz (Bf true))]) (H' := []) ⟨⟨_, rfl, .inr ⟨_, rfl, .sl _ _ _ _ _ _ rfl rfl (take_all0 (List.length_map _)) (List.length_map _)⟩⟩, ⟨_, rfl, .inl ⟨rfl, rfl⟩⟩, trivial⟩ trivial rfl ?_
 exact wO hC
open Go Go.RT Go.Proofs Go.Pl
set_option maxRecDepth 20000
set_option maxHeartbeats 4000000
def ringE (n i : Nat) : List Edg := [⟨i, min (((i : Int) + n - 1) % n) (((i : Int) + 1) % n), 1⟩, ⟨i, max (((i : Int) + n - 1) % n) (((i : Int) + 1) % n), 1⟩]
def ringL (n k : Nat) : List Edg := (List.range k).flatMap (ringE n)
def ringG (n : Nat) : Gr := ⟨n, 0, ringL n n⟩
theorem tab4 : tabL (ringG 4) (disF (ringG 4).es (ringG 4).m) = [[0, 1, 2, 1], [1, 0, 1, 2], [2, 1, 0, 1], [1, 2, 1, 0]] := by decide +kernel
theorem hops4 : (refT (ringG 4) (disF (ringG 4).es (ringG 4).m) 0).hops = [[], [1], [1, 3], [3]] := by decide +kernel
theorem next4 : nextI 0 (ringG 4).es = [1, 3] := asc_ext (nextI_spec 0 (ringG 4).es).1 (by simp [Asc]) fun x => by
 rw [(nextI_spec 0 (ringG 4).es).2]
 have : (ringG 4).es = [⟨0, 1, 1⟩, ⟨0, 3, 1⟩, ⟨1, 0, 1⟩, ⟨1, 2, 1⟩, ⟨2, 1, 1⟩, ⟨2, 3, 1⟩, ⟨3, 0, 1⟩, ⟨3, 2, 1⟩] := by decide +kernel
 rw [this]
 simp only [List.mem_cons, List.not_mem_nil, or_false]
 constructor
 ·rintro ⟨e, he, h1, h2⟩
  rcases he with rfl | rfl | rfl | rfl | rfl | rfl | rfl | rfl <;> simp at h1 h2 <;> omega
 rintro (rfl | rfl)
 ·exact ⟨⟨0, 1, 1⟩, by simp, rfl, rfl⟩
 exact ⟨⟨0, 3, 1⟩, by simp, rfl, rfl⟩
theorem chk4 : checkI (ringG 4) = 0 := by decide +kernel
theorem pl_of {g : Gr} (h : checkI g = 0) (hN : g.n = 0) : plainI g = 0 := by unfold plainI; rw [if_neg (by simp [h]), if_neg (by omega)]
theorem okG4 : okG (ringG 4) := ⟨by decide, by decide, by have : okEs [⟨0, 1, 1⟩, ⟨0, 3, 1⟩, ⟨1, 0, 1⟩, ⟨1, 2, 1⟩, ⟨2, 1, 1⟩, ⟨2, 3, 1⟩, ⟨3, 0, 1⟩, ⟨3, 2, 1⟩] := (by unfold okEs okE; decide); rwa [show (ringG 4).es = [⟨0, 1, 1⟩, ⟨0, 3, 1⟩, ⟨1, 0, 1⟩, ⟨1, 2, 1⟩, ⟨2, 1, 1⟩, ⟨2, 3, 1⟩, ⟨3, 0, 1⟩, ⟨3, 2, 1⟩] by decide +kernel]⟩
end Go.Proofs.YtmapchjcnifeiaaGreat
/- What the statements ask of an alternate. -/
namespace Go.Pl
open Go Go.RT
set_option linter.all false
variable {g : Gr} {D : Nat → Nat → Int}
theorem walkL_len (hp : Nat → List Int) (z : Nat) (a b : Int) : ∀ (f x : Nat) (out : List Int), (walkL hp z a b f x out).1.length ≤ out.length + f
  | 0, x, out => by simp [walkL]
  | f + 1, x, out => by
    simp only [walkL]
    split
    · simp
    · cases h : hp x with
      | nil => simp
      | cons u l =>
        dsimp only
        split
        · simp
        · have := walkL_len hp z a b f u.toNat (out ++ [u])
          simp at this ⊢; omega
theorem rowA_len (g : Gr) (ll : List (List Int)) (a : Int) (ns : List Int) (hops : List (List Int)) (d : Nat) : (Pl.rowA g ll a ns hops d).length ≤ (rowAt' hops d).length := by
  unfold Pl.rowA
  generalize rowAt' hops d = row
  induction row with
  | nil => simp
  | cons x l ih =>
    rw [List.flatMap_cons, List.length_append, List.length_cons]
    have : (oneA g ll a d ns x).length ≤ 1 := by unfold oneA; split <;> simp
    omega
theorem allA_len (g : Gr) (ll : List (List Int)) (a : Int) (ns : List Int) (hops : List (List Int)) (B : Nat) (hB : ∀ d, (rowAt' hops d).length ≤ B) : ∀ k, (allA g ll a ns hops k).length ≤ k * B
  | 0 => by simp [allA]
  | k + 1 => by
    rw [allA_succ, List.length_append]
    have h1 := allA_len g ll a ns hops B hB k
    have h2 := rowA_len g ll a ns hops k
    have h3 := hB k
    have : (k + 1) * B = k * B + B := Nat.succ_mul k B
    omega
theorem hopR_len (g : Gr) (D : Nat → Nat → Int) (a v : Nat) : (hopR g D a v).length ≤ g.m := by
  unfold hopR
  split
  · simp
  · have h1 := List.length_filter_le (fun y : Int => hopB g D a v y.toNat) (fil (fstB g D a) g.m)
    have h2 := fil_len (fstB g D a) g.m
    omega
theorem refT_hops {a v : Nat} (hv : v < g.m) : rowAt' (refT g D a).hops v = hopR g D a v := by
  simp [rowAt', refT, List.getD_eq_getElem?_getD, hv]
theorem refT_rowlen (a d : Nat) : (rowAt' (refT g D a).hops d).length ≤ g.m := by
  by_cases h : d < g.m
  · rw [refT_hops h]; exact hopR_len _ _ _ _
  · have : rowAt' (refT g D a).hops d = [] := by simp [rowAt', refT, List.getD_eq_getElem?_getD, h]
    rw [this]; simp
structure AltOk (g : Gr) (D : Nat → Nat → Int) (a v p z : Nat) (kd : Int) : Prop where
  noroot : (a : Int) ∉ waysL (hopsF g D z) g.m v
  dest : (z : Int) ∈ waysL (hopsF g D z) g.m v
  noprim : kd = 2 → (p : Int) ∉ waysL (hopsF g D z) g.m v
  len : (waysL (hopsF g D z) g.m v).length ≤ g.m
  path : ∃ q, walkL (fun x => hopR g D x z) z a p ((D v z).toNat + 1) v [(v : Int)] = ((v : Int) :: q, true) ∧ (a : Int) ∉ (v : Int) :: q ∧ (kd = 2 → (p : Int) ∉ (v : Int) :: q) ∧ ((v : Int) :: q).getLast? = some (z : Int)
theorem alt_ok (hg : checkI g = 0) (d : Dst g D) (hN : g.n = 0) {a v p z : Nat} {kd : Int} (hv : v < g.m) (hz : z < g.m) (h0 : 0 ≤ D v z) (ha : ¬ OnW g D v z a) (hp : kd = 2 → ¬ OnW g D v z p) : AltOk g D a v p z kd := by
  obtain ⟨w1, w2⟩ := ways_spec (hopsF_rng d hN hz) (s := (v : Int)) ⟨by omega, by omega⟩
  have hz0 := d.zero hv
  have hon : ∀ x, x ∈ waysL (hopsF g D z) g.m v → ∃ y : Nat, x = y ∧ OnW g D v z y := fun x hx => rch_on d hN hv hz h0 ((w1 x).1 hx)
  have hself : OnW g D v z v := ⟨hv, by omega, h0, by omega⟩
  obtain ⟨q, q1, q2, q3⟩ := walk_ok hg d hN hv hz (p : Int) ha ((D v z).toNat + 1) v [(v : Int)] (by omega) hself
  have hnot : ∀ x : Nat, ¬ OnW g D v z x → (x : Int) ∉ (v : Int) :: q := fun x hx hm => by
    rcases List.mem_cons.1 hm with e | hm
    · have : x = v := by omega
      exact hx (this ▸ hself)
    · obtain ⟨w, e, hw⟩ := q2 _ hm
      have : x = w := by omega
      exact hx (this ▸ hw)
  refine ⟨fun h => ?_, (w1 _).2 (rch_end hg d hN hv hz _ v (Nat.lt_succ_self _) hself .here), fun hk h => ?_, w2.len, q, by simpa using q1, hnot a ha, fun hk => hnot p (hp hk), q3⟩
  · obtain ⟨y, e, hy⟩ := hon _ h
    have : a = y := by omega
    exact ha (this ▸ hy)
  · obtain ⟨y, e, hy⟩ := hon _ h
    have : p = y := by omega
    exact hp hk (this ▸ hy)
end Go.Pl
namespace Go.Proofs.YtmapchjcnifeiaaGreat
open Go Go.RT Go.Proofs Go.Pl
set_option linter.all false
set_option maxRecDepth 20000
set_option maxHeartbeats 4000000
theorem altlen {g : Gr} (hg : checkI g = 0) (a : Int) (n : Nat) : (allA g (tabL g (disF g.es g.m)) a (nextI a g.es) (refT g (disF g.es g.m) n).hops g.r.toNat).length ≤ 1000000 := by
 have h1 := allA_len g (tabL g (disF g.es g.m)) a (nextI a g.es) (refT g (disF g.es g.m) n).hops 128 (fun d => by
  have := refT_rowlen (g := g) (D := disF g.es g.m) n d
  have := (dst_of hg).vg.n128; omega) g.r.toNat
 have h2 := (dst_of hg).vg.n128
 have h3 := (dst_of hg).vg.le
 have : g.r.toNat * 128 ≤ 128 * 128 := Nat.mul_le_mul_right _ (by omega)
 omega
/-- what All returns -/
structure AllRes (g : Gr) (a : Int) (l : List Alt) (e : Int) : Prop where
 len : l.length ≤ 1000000
 ok : e = 0 → checkI g = 0 ∧ g.n = 0 ∧ ∃ n : Nat, a = n ∧ (n : Int) < g.r ∧ l = allA g (tabL g (disF g.es g.m)) n (nextI n g.es) (refT g (disF g.es g.m) n).hops g.r.toNat
open Go Go.RT Go.Proofs Go.Pl
set_option maxRecDepth 20000
set_option maxHeartbeats 4000000
theorem clone_c (l : List Edg) (hn : l.length ≤ 2000000) : Meets Tryz.prog 27 ([VE l].map PV.fz) 0 [] (.sl 0 3 0 l.length) [(0, OE l)] 1 := by
 refine Meets.intro Tryz.func27 rfl (Nat.le_of_ble_eq_true rfl) fun C hC => ?_
 simp only [List.map, argEnv, Nat.reduceAdd]
 refine nK ?_
 refine zb ?_
 refine ze ?_
 refine zc ?_
 refine nK ?_
 refine zb ?_
 refine za ?_
 refine rpZ 4 rfl (op_eqnil rfl (oT rfl)) ?_
 refine zc ?_
 refine nK ?_
 refine Next.abool 4 rfl (fun b hb0 => ?_)
 refine nK ?_
 refine n_cond _ rfl (fun hb => ?_) (fun hb => ?_)
 ·have he : l = [] := by have := hb0 hb; simpa using this
  subst he
  refine nK ?_
  refine zb ?_
  refine ze ?_
  refine zc ?_
  refine nK ?_
  refine Next.adopt 2 3 rfl ?_
  exact wO hC
 refine nK ?_
 refine zb ?_
 refine zct ?_
 refine za ?_
 refine Run.eff (dd := some 7) rfl rfl (op_append rfl (oT rfl) (oT rfl) rfl rfl rfl rfl tB tB) ?_
 refine zd ?_
 refine zc ?_
 refine nK ?_
 refine Next.weakS [2] [] (by rfl) (keeps0 hC _) (G' := [(2, .sl 0 3 0 l.length)]) (H' := [(0, OE l)]) wG (by repeat (first | exact trivial | refine ⟨wS, ?_⟩ | refine ⟨ent_same rfl rfl (rfEq rfl tU) tL, ?_⟩ | refine ⟨ent_same rfl rfl (flEq rfl (by first | (simp; done) | (simp; omega) | (simp [encE, encN, encB]; done) | simp [maxC, minC])) trivial, ?_⟩)) rfl ?_
 exact wO hC
open Go Go.RT Go.Proofs Go.Pl
set_option maxRecDepth 20000
set_option maxHeartbeats 4000000
theorem wHZ105a {α : Prop} (h : α := by repeat (first | exact trivial | refine ⟨wS, ?_⟩ | refine ⟨ent_same rfl rfl (rfEq rfl tU) tL, ?_⟩ | refine ⟨ent_same rfl rfl (flEq rfl (by first | (simp; done) | (simp; omega) | (simp [encE, encN, encB]; done) | simp [maxC, minC])) trivial, ?_⟩)) : α := h
theorem compactF_c (l : List Edg) (hn : l.length ≤ 2000000) (gf : Nat) [FnB Tryz.prog gf] (eq : Edg → Edg → Bool) (hcl0 : ∀ x y, Pure Tryz.prog gf [.agg (encE x), .agg (encE y)] (Bf (eq x y))) : Meets Tryz.prog 30 [.sl 0 3 0 l.length, .clo gf [] []] 1 [(0, OE l)] (.fz (VE (compL eq l))) [] 1 := by
 refine Meets.intro Tryz.func30 rfl (Nat.le_of_ble_eq_true rfl) fun C hC => ?_
 simp only [List.map, argEnv, Nat.reduceAdd]
 refine nK ?_
 refine zb ?_
 refine ze ?_
 refine zc ?_
 refine nK ?_
 refine zb ?_
 refine za ?_
 refine zbi ?_
 refine zbn ?_
 refine zc ?_
 refine nK ?_
 refine n_cond _ rfl (fun hb => ?_) (fun hb => ?_)
 ·have h2 : l.length < 2 := by simp at hb; omega
  have e : compL eq l = l := by
   match l, h2 with
   | [], _ => rfl
   | [x], _ => rfl
  rw [e]
  refine nK ?_
  refine zb ?_
  refine za ?_
  refine zd ?_
  refine zc ?_
  refine nK ?_
  refine Next.weakS [4] [4] (by rfl) (keepsN hC _ rfl) (G' := [(4, .fz (VE l))]) (H' := []) wF trivial rfl ?_
  exact n_out1 rfl (by rfl) rfl rfl
 have h2 : 2 ≤ l.length := by simp at hb; omega
 refine nK ?_
 refine zb ?_
 refine ze ?_
 refine zc ?_
 refine nK ?_
 refine n_loop (ι := Nat) (fun k => ([(0, .sl 0 3 0 l.length), (1, .clo gf [] []), (5, IV .i64 k)], [(0, OE l)], 1)) (fun k => 1 ≤ k ∧ k ≤ l.length ∧ compL eq (l.take k) = l.take k) (fun k => l.length - k) 1 ⟨Nat.le_refl _, by omega, compL_one eq l (by omega)⟩ ?_ ?_
 ·refine Next.weakS [0] [] (by rfl) (wK hC) wG wHZ105a rfl (rel_intro)
 intro k ⟨hk1, hk2, hc⟩ K hK
 refine nK ?_
 refine zb ?_
 refine za ?_
 refine za ?_
 refine zbi ?_
 refine zp ?_
 refine zc ?_
 refine nK ?_
 refine n_cond _ rfl (fun hb => ?_) (fun hb => ?_)
 ·have hlt : k < l.length := by simp at hb; omega
  have hr1 := row_at' encE l k hlt
  have hr2 := row_at' encE l (k - 1) (by omega)
  have hst := compL_take eq l k (by omega) hlt
  refine nK ?_
  refine s_draw mixed ?_
  refine za ?_
  refine za ?_
  refine za ?_
  refine rpZ 21 rfl (op_idx_sl0 k rfl (oT rfl) (oT rfl) (by intro _; constructor <;> omega)) ?_
  refine zk ?_
  refine za ?_
  refine za ?_
  refine zbx ?_
  refine rpZ 26 rfl (op_idx_sl0 (k - 1) rfl (oT rfl) (oT rfl) (by intro _; constructor <;> omega)) ?_
  refine zk ?_
  refine rpZ 28 rfl (op_call_pure (fun _ => hcl0 _ _) rfl (oT rfl) (oS (oT rfl) (oS (oT rfl) Opds.nil))) ?_
  refine zs ?_
  refine nK ?_
  refine n_cond _ rfl (fun hb => ?_) (fun hb => ?_)
  ·have he : eq l[k] l[k - 1] = true := hb
   rw [he, cond_true, List.append_nil, hc] at hst
   refine nK ?_
   refine zb ?_
   refine za ?_
   refine za ?_
   refine rlZ 31 rfl (op_slice_view rfl (oT rfl) (Bnd.yes _ _ _ _ _ (oT rfl) tQ) (Bnd.no _) tT) ?_
   refine zd ?_
   refine zc ?_
   refine nK ?_
   refine zb ?_
   refine ze ?_
   refine zc ?_
   refine nK ?_
   refine n_loop (ι := Nat × List Edg) (fun g => ([(0, .sl 0 3 0 l.length), (1, .clo gf [] []), (5, IV .i64 g.2.length), (6, .sl 0 3 k (l.length - k)), (7, IV .i64 g.1)], [(0, OE (g.2 ++ l.drop g.2.length))], 1)) (fun g => 1 ≤ g.1 ∧ k + g.1 ≤ l.length ∧ g.2 = compL eq (l.take (k + g.1))) (fun g => l.length - (k + g.1)) (1, l.take k) ⟨Nat.le_refl _, by dsimp only; omega, hst.symm⟩ ?_ ?_
   ·have e1 : (l.take k).length = k := by simp; omega
    simp only [e1, List.take_append_drop, Nat.zero_add]
    refine Next.weakS [0] [] (by rfl) (wK hC) wG wHZ105a rfl (rel_intro)
   intro ⟨j, c⟩ ⟨hj1, hj2, hcd⟩ K2 hK2
   simp only at hj1 hj2 hcd
   dsimp only
   have hcl := compL_len_lt eq l k (by omega) hlt he (k + j) (by omega) hj2
   rw [← hcd] at hcl
   have hkl := kept_len c l (by omega)
   refine nK ?_
   refine zb ?_
   refine za ?_
   refine za ?_
   refine zbi ?_
   refine zp ?_
   refine zc ?_
   refine nK ?_
   refine n_cond _ rfl (fun hb => ?_) (fun hb => ?_)
   ·have hjl : k + j < l.length := by simp at hb; omega
    have hst2 := compL_take eq l (k + j) (by omega) hjl
    rw [← hcd] at hst2
    have hK3 := fun c' h => hK2 (j + 1, c') ⟨by dsimp only; omega, by dsimp only; omega, h⟩ (by dsimp only; omega)
    have g1 := kept_row encE c l (k + j) (by omega) hjl
    have g2 := kept_row encE c l (k + j - 1) (by omega) (by omega)
    have g2' : ((c ++ l.drop c.length).map encE)[k + (j - 1)]? = some (encE l[k + j - 1]) := by rw [← Nat.add_sub_assoc hj1]; exact g2
    have g3 := kept_row encE c l c.length (Nat.le_refl _) (by omega)
    have hset := set_kept c l l[k + j] (by omega)
    refine nK ?_
    refine s_draw mixed ?_
    refine za ?_
    refine za ?_
    refine za ?_
    refine rpZ 41 rfl (op_idx_sl j rfl (oT rfl) (oT rfl) (by intro _; constructor <;> omega)) ?_
    refine zk ?_
    refine za ?_
    refine za ?_
    refine zbx ?_
    refine rpZ 46 rfl (op_idx_sl (j - 1) rfl (oT rfl) (oT rfl) (by intro _; constructor <;> omega)) ?_
    refine zk ?_
    refine rpZ 48 rfl (op_call_pure (fun _ => hcl0 _ _) rfl (oT rfl) (oS (oT rfl) (oS (oT rfl) Opds.nil))) ?_
    refine zbj ?_
    refine zs ?_
    refine nK ?_
    refine n_cond _ rfl (fun hb => ?_) (fun hb => ?_)
    ·have hne : eq l[k + j] l[k + j - 1] = false := by simpa using hb
     rw [hne, cond_false] at hst2
     have hK4 := hK3 (c ++ [l[k + j]]) hst2.symm
     have e4 : (c ++ [l[k + j]]).length = c.length + 1 := by simp
     rw [← hset, e4] at hK4
     refine nK ?_
     refine zb ?_
     refine za ?_
     refine za ?_
     refine za ?_
     refine za ?_
     refine rpZ 54 rfl (op_idx_sl j rfl (oT rfl) (oT rfl) (by intro _; constructor <;> omega)) ?_
     refine zk ?_
     refine rpZ 56 rfl (op_idx_sl0 c.length rfl (oT rfl) (oT rfl) (by intro _; constructor <;> omega)) ?_
     refine Run.eff (dd := none) rfl rfl (op_store_flat rfl (oT rfl) (oT rfl) tC rfl rfl g3 tS) ?_
     refine zc ?_
     refine nK ?_
     refine zb ?_
     refine za ?_
     refine zl ?_
     refine zd ?_
     refine zc ?_
     refine nK ?_
     refine zb ?_
     refine za ?_
     refine zl ?_
     refine zd ?_
     refine zc ?_
     refine nK ?_
     refine Next.weakS [0] [] (by rfl) (wK hC) wG wHZ105a rfl (hK4)
    have hne : eq l[k + j] l[k + j - 1] = true := by simpa using hb
    rw [hne, cond_true, List.append_nil] at hst2
    refine nK ?_
    refine zb ?_
    refine za ?_
    refine zl ?_
    refine zd ?_
    refine zc ?_
    refine nK ?_
    refine Next.weakS [0] [] (by rfl) (wK hC) wG wHZ105a rfl ((hK3 c hst2.symm))
   have hje : k + j = l.length := by simp at hb; omega
   rw [hje, List.take_length] at hcd
   rw [← hcd]
   refine nK ?_
   refine zb ?_
   refine za ?_
   refine za ?_
   refine rlZ 61 rfl (op_slice_view rfl (oT rfl) (Bnd.yes _ _ _ _ _ (oT rfl) tQ) (Bnd.no _) (by intro _; refine ⟨rfl, ?_⟩; rw [List.length_map, hkl]; omega)) ?_
   refine Run.eff (dd := none) rfl rfl (op_clear rfl (oT rfl) rfl rfl rfl rfl (by rw [List.length_map, hkl] <;> omega)) ?_
   refine zc ?_
   refine nK ?_
   refine zb ?_
   refine za ?_
   refine za ?_
   refine rlZ 64 rfl (op_slice_view rfl (oT rfl) (Bnd.no _) (Bnd.yes _ _ _ _ _ (oT rfl) tQ) (by intro _; refine ⟨rfl, ?_⟩; simp; try omega)) ?_
   refine zd ?_
   refine zc ?_
   refine nK ?_
   refine Next.weakS [4] [4] (by rfl) (keepsN hC _ rfl) (G' := [(4, .fz (VE c))]) (H' := []) ⟨⟨_, rfl, .inr ⟨_, rfl, .sl _ _ _ _ _ _ rfl rfl (by simp) (by simp)⟩⟩, trivial⟩ trivial rfl ?_
   exact n_out1 rfl (by rfl) rfl rfl
  have he : eq l[k] l[k - 1] = false := hb
  rw [he, cond_false, hc, ← List.take_succ_eq_append_getElem hlt] at hst
  refine nK ?_
  refine zb ?_
  refine za ?_
  refine zl ?_
  refine zd ?_
  refine zc ?_
  refine nK ?_
  refine Next.weakS [0] [] (by rfl) (wK hC) wG wHZ105a rfl ((hK (k + 1) ⟨by omega, by omega, hst⟩ (by omega)))
 have hie : k = l.length := by simp at hb; omega
 rw [take_len_eq' hie] at hc
 rw [hc]
 refine nK ?_
 refine zb ?_
 refine za ?_
 refine zd ?_
 refine zc ?_
 refine nK ?_
 refine Next.weakS [4] [4] (by rfl) (keepsN hC _ rfl) (G' := [(4, .fz (VE l))]) (H' := []) wF trivial rfl ?_
 exact n_out1 rfl (by rfl) rfl rfl
open Go Go.RT Go.Proofs Go.Pl
set_option maxRecDepth 20000
set_option maxHeartbeats 4000000
theorem wHZ107a {α : Prop} (h : α := by repeat (first | exact trivial | refine ⟨⟨rfl, rfl, rfl, tL⟩, ?_⟩)) : α := h
theorem ofcmp_c (a b : Edg) : Pure Tryz.prog 29 [.agg (encE a), .agg (encE b)] (If .i64 (ordC a b)) := by
 have e : ordC a b = orI [ordE a b, cmpI a.c b.c] := by
  unfold ordC
  simp only [orI]
  by_cases h : ordE a b = 0
  ·by_cases h2 : cmpI a.c b.c = 0 <;> simp [h, h2]
  simp [h]
 have ho := or_c [ordE a b, cmpI a.c b.c] (by simp)
 rw [← e] at ho
 refine Meets.intro Tryz.func29 rfl (Nat.le_of_ble_eq_true rfl) fun C hC => ?_
 simp only [List.map, argEnv, Nat.reduceAdd]
 refine nK ?_
 refine zb ?_
 refine zq ?_
 refine zq ?_
 refine ze ?_
 refine zc ?_
 refine nK ?_
 refine s_draw mixed ?_
 refine zk ?_
 refine zk ?_
 refine rpZ 7 rfl (op_call_pure (fun _ => order_c _ _) rfl (Opd.func _) (oS (oT rfl) (oS (oT rfl) Opds.nil))) ?_
 refine zg ?_
 refine zh ?_
 refine zg ?_
 refine zh ?_
 refine rpZ 12 rfl (op_call_pure (fun _ => cmp_c _ _) rfl (Opd.func _) (oS (oT rfl) (oS (oT rfl) Opds.nil))) ?_
 refine zcs ?_
 refine rpZ 14 rfl (op_call_pure (fun _ => ho) rfl (Opd.func _) (oS (oT rfl) Opds.nil)) ?_
 refine zd ?_
 refine zs ?_
 refine nK ?_
 exact wO hC
theorem ofeq_c (a b : Edg) : Pure Tryz.prog 31 [.agg (encE a), .agg (encE b)] (Bf (eqK a b)) := by
 refine Meets.intro Tryz.func31 rfl (Nat.le_of_ble_eq_true rfl) fun C hC => ?_
 simp only [List.map, argEnv, Nat.reduceAdd]
 refine nK ?_
 refine zb ?_
 refine zq ?_
 refine zq ?_
 refine ze ?_
 refine zc ?_
 refine nK ?_
 refine zb ?_
 refine zk ?_
 refine zk ?_
 refine rpZ 7 rfl (op_call_pure (fun _ => order_c _ _) rfl (Opd.func _) (oS (oT rfl) (oS (oT rfl) Opds.nil))) ?_
 refine zci ?_
 refine zd ?_
 refine zc ?_
 refine nK ?_
 exact wO hC
def vE (e : Edg) : List Value := [.int .i64 e.f, .int .i64 e.t, .int .i64 e.c]
theorem sorte_c (l : List Edg) (hn : l.length ≤ 2000000) : Meets Tryz.prog 28 [.sl 0 3 0 l.length, .clo 29 [] []] 1 [(0, OE l)] (.fz (.tup [])) [(0, OE (srtC l))] 1 :=
 sort_meets (ρ := Tryz.sortEdge_ren) Tryz.sortEdge (k := 3) (by decide) (fun w => run_isAgg (t := 43) inferInstance w) (fun w => run_size (t := 43) inferInstance w) (ev := vE) (fun _ => rfl) (fun x v hv => by simp [vE] at hv; rcases hv with rfl | rfl | rfl <;> rfl) swo_c (g := 29) (enters_of Tryz.func29 (by kernel_rfl) rfl) (fun x y => ofcmp_c x y) (l := l) (by omega)
theorem of_c (r n : Int) (l : List Edg) (hr : inr .i64 r) (hn : inr .i64 n) (hl : okEs l) (hle : l.length ≤ 2000000) : Pure Tryz.prog 12 [If .i64 r, If .i64 n, VE l] (.tup [.agg (encG (ofF r n l).1), If .i64 (ofF r n l).2]) := by
 have hok := ofL_ok hr hn hl
 have hcl := clone_c l hle
 have hso := sorte_c l hle
 have hsl := srtC_len l
 have hco := compactF_c (srtC l) (by omega) 31 eqK (fun x y => ofeq_c x y)
 rw [hsl] at hco
 refine Meets.intro Tryz.func12 rfl (Nat.le_of_ble_eq_true rfl) fun C hC => ?_
 simp only [List.map, argEnv, Nat.reduceAdd]
 refine nK ?_
 refine zb ?_
 refine zu ?_
 refine ze ?_
 refine zc ?_
 refine nK ?_
 refine zb ?_
 refine za ?_
 refine za ?_
 refine za ?_
 refine Run.eff (dd := some 13) rfl rfl (op_call_fresh (fun _ => hcl) rfl (Opd.func _) (oS (oT rfl) Opds.nil)) ?_
 refine rpZ 14 rfl (op_buildP rfl rfl rfl rfl (FillP.cons _ _ _ _ _ _ _ _ _ _ (by rfl) (oT rfl) tP (by rfl) tR (FillP.cons _ _ _ _ _ _ _ _ _ _ (by rfl) (oT rfl) tP (by rfl) tR (FillP.cons _ _ _ _ _ _ _ _ _ _ (by rfl) (oT rfl) tP (by rfl) tR (FillP.nil _))))) ?_
 refine zdf ?_
 refine zcp ?_
 refine zc ?_
 refine nK ?_
 refine nK ?_
 refine zb ?_
 refine zg ?_
 refine zy ?_
 refine Run.eff (dd := some 17) rfl rfl (op_call (n := 1) (n' := 1) [1] (fun _ => hso) rfl (Opd.func _) (oS (oT rfl) (oS (Opd.func _) Opds.nil)) rfl rfl (Lent.of rfl rfl wHZ107a rfl) rfl rfl rfl rfl rfl) ?_
 refine zc ?_
 refine nK ?_
 refine zb ?_
 refine zg ?_
 refine zy ?_
 refine Run.eff (dd := some 20) rfl rfl (op_call (n := 1) (n' := 1) [1] (fun _ => hco) rfl (Opd.func _) (oS (oT rfl) (oS (Opd.func _) Opds.nil)) rfl rfl (Lent.of rfl rfl wHZ107a rfl) rfl rfl rfl rfl rfl) ?_
 refine zg ?_
 refine zcp ?_
 refine zc ?_
 refine nK ?_
 have hzz : encG zeroG = [If .i64 0, If .i64 0, .vals 3 []] := rfl
 unfold ofF
 refine Next.weakS [6, 8] [] (by rfl) (keeps0 hC _) (G' := [(6, .ptr 0 3 0 0), (8, .ptr 1 3 0 0)]) (H' := [(0, OG zeroG), (1, OG ⟨r, n, ofL l⟩)]) wG ⟨⟨rfl, rfl, .fflat _ _ _ rfl tW⟩, ⟨⟨rfl, rfl, .flat _ _ _ rfl tW⟩, trivial⟩⟩ rfl ?_
 refine nK ?_
 refine zb ?_
 refine zk ?_
 refine rpZ 23 rfl (op_call_pure (fun _ => check_c _ (by assumption)) rfl (Opd.func _) (oS (oT rfl) Opds.nil)) ?_
 refine zd ?_
 refine zc ?_
 refine nK ?_
 refine zb ?_
 refine za ?_
 refine zbd ?_
 refine zc ?_
 refine nK ?_
 refine n_cond _ rfl (fun hb => ?_) (fun hb => ?_)
 ·rw [if_pos (by simpa using hb)]
  refine nK ?_
  refine zb ?_
  refine zbm ?_
  refine za ?_
  refine zr ?_
  refine zd ?_
  refine zc ?_
  refine nK ?_
  refine Next.weakS [6] [] (by rfl) (keeps0 hC _) (G' := [(6, .ptr 0 3 0 0), (7, IV .i64 (checkI ⟨r, n, ofL l⟩))]) (H' := [(0, OG zeroG)]) wG ⟨⟨rfl, rfl, .fflat _ _ _ rfl tW⟩, trivial⟩ rfl ?_
  exact wO hC
 rw [if_neg (by simpa using hb)]
 refine nK ?_
 refine zb ?_
 refine zk ?_
 refine zr ?_
 refine ze ?_
 refine zc ?_
 refine nK ?_
 exact wO hC
end Go.Proofs.YtmapchjcnifeiaaGreat
namespace Go.Pl
open Go Go.RT
set_option linter.all false
theorem ofF_by2 {r n : Int} {l s : List Edg} (h : Least l s) (hc : checkI ⟨r, n, s⟩ = 0) : ofF r n l = (⟨r, n, s⟩, 0) := by
  have e := (ofL_least l).uniq h
  unfold ofF
  rw [e, if_neg (by simp [hc])]
def pairL (i : Nat) : List Edg := [⟨i, ((i : Int) + 1) % 4, 1⟩, ⟨((i : Int) + 1) % 4, i, 1⟩]
def prL (k : Nat) : List Edg := (List.range k).flatMap pairL
theorem prL_succ (k : Nat) : prL (k + 1) = (prL k ++ [⟨k, ((k : Int) + 1) % 4, 1⟩]) ++ [⟨((k : Int) + 1) % 4, k, 1⟩] := by unfold prL; rw [List.range_succ, List.flatMap_append]; simp [pairL]
theorem prL_len : ∀ k, (prL k).length = 2 * k
  | 0 => rfl
  | k + 1 => by rw [prL_succ]; simp [prL_len k]; omega
def rg4 : List Edg := [⟨0, 1, 1⟩, ⟨0, 3, 1⟩, ⟨1, 0, 1⟩, ⟨1, 2, 1⟩, ⟨2, 1, 1⟩, ⟨2, 3, 1⟩, ⟨3, 0, 1⟩, ⟨3, 2, 1⟩]
theorem prL4 : prL 4 = [⟨0, 1, 1⟩, ⟨1, 0, 1⟩, ⟨1, 2, 1⟩, ⟨2, 1, 1⟩, ⟨2, 3, 1⟩, ⟨3, 2, 1⟩, ⟨3, 0, 1⟩, ⟨0, 3, 1⟩] := by decide +kernel
theorem of4 : ofF 4 0 (prL 4) = (⟨4, 0, rg4⟩, 0) := ofF_by2 (by
  rw [prL4]
  exact ⟨by unfold AscK ltK rg4; decide, by decide, by decide, by decide⟩) (by decide +kernel)
theorem last_row {l : List Int} {z : Int} (h : l.getLast? = some z) : 0 < l.length ∧ (l.map encN)[l.length - 1]? = some (encN z) := by
  have h0 : l ≠ [] := fun e => by rw [e] at h; cases h
  have hp : 0 < l.length := List.length_pos_iff.2 h0
  refine ⟨hp, ?_⟩
  rw [List.getLast?_eq_getElem?] at h
  rw [List.getElem?_map, h]; rfl
theorem mem_take_succ {l : List Int} {j : Nat} (h : j < l.length) (x : Int) : (x ∈ l.take (j + 1)) ↔ (x ∈ l.take j ∨ l[j] = x) := by
  rw [List.take_succ_eq_append_getElem h, List.mem_append, List.mem_singleton]
  constructor
  · rintro (h1 | h1)
    · exact .inl h1
    · exact .inr h1.symm
  · rintro (h1 | h1)
    · exact .inl h1
    · exact .inr h1.symm
end Go.Pl
namespace Go.Proofs.YtmapchjcnifeiaaGreat
open Go Go.RT Go.Proofs Go.Pl
set_option linter.all false
set_option maxRecDepth 20000
set_option maxHeartbeats 4000000
theorem lallp_c (g : Gr) (a : Int) (hok : okG g) : ∃ l e, AllRes g a l e ∧ Pure Tryz.prog 6 [.agg (encG g), If .i64 a] (.tup [VAl l, If .i64 e]) := by
 by_cases hp : plainI g = 0
 ·by_cases ha : a < 0 ∨ g.r ≤ a
  ·exact ⟨[], 5, ⟨by simp, by simp⟩, lall_out g a hok hp ha⟩
  obtain ⟨n, rfl⟩ : ∃ n : Nat, a = n := ⟨a.toNat, by omega⟩
  obtain ⟨hg, hN⟩ := plainI_ok hp
  obtain ⟨t, ht⟩ := run_exists hg (a := n) (by omega)
  have h1 := lall_c g n t hok hN ht
  rw [ht.refT (dst_of hg)] at h1
  exact ⟨_, 0, ⟨altlen hg _ _, fun _ => ⟨hg, hN, n, rfl, by omega, rfl⟩⟩, h1⟩
 exact ⟨[], plainI g, ⟨by simp, fun h => absurd h hp⟩, lall_bad g a hok hp⟩
theorem runp_c (g : Gr) (a : Int) (hok : okG g) : ∃ (t : Tr) (e : Int), (∀ n : Nat, e = 0 → a = n → t = refT g (disF g.es g.m) n) ∧ Pure Tryz.prog 7 [.agg (encG g), If .i64 a] (.tup [.agg (encTr t), If .i64 e]) := by
 by_cases hg : checkI g = 0
 ·by_cases ha : a < 0 ∨ g.r ≤ a
  ·exact ⟨zeroT, 5, (fun n h => absurd h (by decide)), run_out g a hok hg ha⟩
  obtain ⟨n, rfl⟩ : ∃ n : Nat, a = n := ⟨a.toNat, by omega⟩
  exact ⟨refT g (disF g.es g.m) n, 0, (fun m _ h => by
   have : n = m := by omega
   rw [this]), srunT g n hok hg (by omega)⟩
 exact ⟨zeroT, checkI g, fun n h => absurd h hg, run_bad g a hok hg⟩
theorem lives07_c : Pure Tryz.prog 5 [] (Bf true) := by
 have hof := of_c 4 0 (prL 4) (by decide) (by decide) (by rw [prL4]; unfold okEs okE; decide) (by rw [prL4]; decide)
 rw [of4] at hof
 have hpl4 := prL_len 4
 have hrg : (⟨4, 0, rg4⟩ : Gr) = ringG 4 := by decide +kernel
 rw [hrg] at hof
 obtain ⟨t, ht⟩ := run_exists chk4 (a := 0) (by decide)
 have h1 := lall_c (ringG 4) 0 t okG4 rfl ht
 rw [ht.refT (dst_of chk4)] at h1
 rw [show ((0 : Nat) : Int) = 0 from rfl, hops4, next4, tab4] at h1
 have e1 : allA (ringG 4) [[0, 1, 2, 1], [1, 0, 1, 2], [2, 1, 0, 1], [1, 2, 1, 0]] 0 [1, 3] [[], [1], [1, 3], [3]] (ringG 4).r.toNat = [⟨2, 1, 3, 2, true⟩, ⟨2, 3, 1, 2, true⟩] := by decide +kernel
 rw [e1] at h1
 have h2 := lwalk_c (ringG 4) 3 2 0 1 okG4 (pl_of chk4 rfl) (by decide) (by decide)
 have e2 : walkV (ringG 4) 3 2 0 1 = ([3, 2], true) := by decide +kernel
 rw [e2] at h2
 dsimp only at h2
 refine Meets.intro Tryz.func5 rfl (Nat.le_of_ble_eq_true rfl) fun C hC => ?_
 simp only [List.map, argEnv, Nat.reduceAdd]
 refine nK2 ?_
 refine zb ?_
 refine ze ?_
 refine zc ?_
 refine nK2 ?_
 refine zb ?_
 refine ze ?_
 refine zc ?_
 refine nK2 ?_
 refine Next.adopt 1 3 rfl ?_
 refine nK2 ?_
 refine zb ?_
 refine zbb ?_
 refine zc ?_
 refine nK2 ?_
 refine n_loop (ι := Nat) (fun i => ([(1, .sl 0 3 0 (prL i).length), (9, IV .i64 (i : Nat))], [(0, OE (prL i))], 1)) (fun i => i ≤ 4) (fun i => 4 - i) 0 (by omega) ?_ ?_
 ·refine Next.weak [0] [] (by rfl) (keepsN hC _ rfl) (by exact ⟨⟨_, rfl, .inl ⟨rfl, rfl⟩⟩, ⟨⟨_, rfl, .inl ⟨rfl, rfl⟩⟩, trivial⟩⟩) wR wN rel_intro
 intro i hi K hK
 try dsimp only at hi hK ⊢
 have hpl := prL_len i
 refine nK2 ?_
 refine zb ?_
 refine zbn ?_
 refine zc ?_
 refine nK2 ?_
 refine n_cond _ rfl (fun hb => ?_) (fun hb => ?_)
 ·have hlt : i < 4 := by simp at hb; omega
  have hK1 := hK (i + 1) (by omega) (by omega)
  rw [prL_succ] at hK1
  generalize prL i = R at *
  refine nK2 ?_
  refine zb ?_
  refine za ?_
  refine zd ?_
  refine zc ?_
  refine nK2 ?_
  refine zb ?_
  refine za ?_
  refine za ?_
  refine za ?_
  refine zl ?_
  refine rpZ 16 rfl (op_rem rfl (oT rfl) oC tM) ?_
  refine zdj ?_
  refine zbh ?_
  refine zbu ?_
  refine zd ?_
  refine zc ?_
  refine nK2 ?_
  refine zb ?_
  refine za ?_
  refine za ?_
  refine zl ?_
  refine rpZ 23 rfl (op_rem rfl (oT rfl) oC tM) ?_
  refine za ?_
  refine zdj ?_
  refine zbh ?_
  refine zbu ?_
  refine zd ?_
  refine zc ?_
  refine nK2 ?_
  refine zb ?_
  refine zl ?_
  refine za ?_
  refine zc ?_
  refine nK2 ?_
  refine Next.weak [2] [] (by rfl) (keepsN hC _ rfl) (by exact ⟨⟨_, rfl, .inl ⟨slEq rfl (by simp), rfl⟩⟩, ⟨⟨_, rfl, .inl ⟨rfl, rfl⟩⟩, trivial⟩⟩) (by exact ⟨ent_same rfl rfl (flEq rfl (by rw [List.map_append, List.map_append]; rfl)) trivial, trivial⟩) wN hK1
 have hie : i = 4 := by simp at hb; omega
 subst hie
 refine Next.weakS [] [1] (by rfl) (keepsN hC _ rfl) (G' := [(1, .fz (VE (prL 4)))]) (H' := []) (by exact ⟨⟨_, rfl, .inr ⟨_, rfl, .sl _ _ _ _ _ _ rfl rfl (take_all0 (List.length_map _)) (List.length_map _)⟩⟩, trivial⟩) trivial rfl ?_
 refine nK2 ?_
 refine zb ?_
 refine za ?_
 refine rpZ 31 rfl (op_call_pure (fun _ => hof) rfl (Opd.func _) (oS oC (oS oC (oS (oT rfl) Opds.nil)))) ?_
 refine za ?_
 refine zi ?_
 refine zi ?_
 refine zu ?_
 refine zr ?_
 refine zd ?_
 refine zc ?_
 refine nK2 ?_
 refine zb ?_
 refine zk ?_
 refine rpZ 36 rfl (op_call_pure (fun _ => h1) rfl (Opd.func _) (oS (oT rfl) (oS oC Opds.nil))) ?_
 refine za ?_
 refine zi ?_
 refine zi ?_
 refine zd ?_
 refine zd ?_
 refine zc ?_
 refine nK2 ?_
 refine zb ?_
 refine zk ?_
 refine rpZ 41 rfl (op_call_pure (fun _ => h2) rfl (Opd.func _) (oS (oT rfl) (oS oC (oS oC (oS oC (oS oC Opds.nil)))))) ?_
 refine za ?_
 refine zi ?_
 refine zi ?_
 refine zd ?_
 refine zd ?_
 refine zc ?_
 refine nK2 ?_
 refine zb ?_
 refine za ?_
 refine zci ?_
 refine za ?_
 refine zf ?_
 refine zce ?_
 refine zt ?_
 refine za ?_
 refine zf ?_
 refine zt ?_
 refine za ?_
 refine zf ?_
 refine zbt ?_
 refine zce ?_
 refine zt ?_
 refine za ?_
 refine zf ?_
 refine zbt ?_
 refine zce ?_
 refine zt ?_
 refine za ?_
 refine zf ?_
 refine rgZ 65 rfl rfl tG (op_idx_fz 0 rfl (oO rfl tO) oC (by intro _; exact ⟨rfl, rfl⟩)) ?_
 refine zdg ?_
 refine zw ?_
 refine zce ?_
 refine zt ?_
 refine za ?_
 refine zf ?_
 refine rgZ 72 rfl rfl tG (op_idx_fz 0 rfl (oO rfl tO) oC (by intro _; exact ⟨rfl, rfl⟩)) ?_
 refine zdg ?_
 refine zw ?_
 refine zce ?_
 refine zt ?_
 refine za ?_
 refine zf ?_
 refine rgZ 79 rfl rfl tG (op_idx_fz 1 rfl (oO rfl tO) oC (by intro _; exact ⟨rfl, rfl⟩)) ?_
 refine zdg ?_
 refine zw ?_
 refine zce ?_
 refine zt ?_
 refine za ?_
 refine zf ?_
 refine rgZ 86 rfl rfl tG (op_idx_fz 0 rfl (oO rfl tO) oC (by intro _; exact ⟨rfl, rfl⟩)) ?_
 refine zdg ?_
 refine zw ?_
 refine zce ?_
 refine zt ?_
 refine zd ?_
 refine zc ?_
 refine nK2 ?_
 refine s_oB hC rfl rfl ?_
 decide
theorem alternates_law (g : Gr) (a : Int) (hok : okG g) : Pure Tryz.prog 3 [.agg (encG g), If .i64 a] (Bf true) := by
 obtain ⟨l, e, hr, h1⟩ := lallp_c g a hok
 obtain ⟨t, f, ft, h2⟩ := runp_c g a hok
 refine Meets.intro Tryz.func3 rfl (Nat.le_of_ble_eq_true rfl) fun C hC => ?_
 simp only [List.map, argEnv, Nat.reduceAdd]
 refine nK2 ?_
 refine zb ?_
 refine zq ?_
 refine ze ?_
 refine zc ?_
 refine nK2 ?_
 refine zb ?_
 refine zg ?_
 refine zh ?_
 refine zo ?_
 refine zcg ?_
 refine za ?_
 refine zn ?_
 refine zm ?_
 refine zcb ?_
 refine zv ?_
 refine za ?_
 refine zbe ?_
 refine rgZ 27 rfl rfl tG (op_call_pure (fun _ => check_c _ (by assumption)) rfl (Opd.func _) (oS (oO rfl tO) Opds.nil)) ?_
 refine zcw ?_
 refine zv ?_
 refine zc ?_
 refine nK2 ?_
 refine n_cond _ rfl (fun hb => ?_) (fun hb => ?_)
 ·refine nK2 ?_
  refine zb ?_
  refine rpZ 30 rfl (op_call_pure (fun _ => lives07_c) rfl (Opd.func _) Opds.nil) ?_
  refine zd ?_
  refine zc ?_
  refine nK2 ?_
  exact wO hC
 clear hb
 refine nK2 ?_
 refine zb ?_
 refine zk ?_
 refine za ?_
 refine rpZ 34 rfl (op_call_pure (fun _ => h1) rfl (Opd.func _) (oS (oT rfl) (oS (oT rfl) Opds.nil))) ?_
 refine za ?_
 refine zi ?_
 refine zi ?_
 refine zd ?_
 refine zd ?_
 refine zc ?_
 refine nK2 ?_
 refine zb ?_
 refine zk ?_
 refine za ?_
 refine rpZ 40 rfl (op_call_pure (fun _ => h2) rfl (Opd.func _) (oS (oT rfl) (oS (oT rfl) Opds.nil))) ?_
 refine za ?_
 refine zi ?_
 refine zi ?_
 refine zu ?_
 refine zr ?_
 refine zd ?_
 refine zc ?_
 refine nK2 ?_
 refine zb ?_
 refine za ?_
 refine zbd ?_
 refine za ?_
 refine zf ?_
 refine zcw ?_
 refine zv ?_
 refine zc ?_
 refine nK2 ?_
 refine nK2 ?_
 refine n_cond _ rfl (fun hb => ?_) (fun hb => ?_)
 ·refine nK2 ?_
  refine zb ?_
  refine rpZ 49 rfl (op_call_pure (fun _ => lives07_c) rfl (Opd.func _) Opds.nil) ?_
  refine zd ?_
  refine zc ?_
  refine nK2 ?_
  exact wO hC
 have hz : e = 0 ∧ f = 0 := by simp at hb; omega
 obtain ⟨he, hf⟩ := hz
 obtain ⟨hg, hN, n, rfl, hn, hl⟩ := hr.ok he
 have et := ft n hf rfl
 subst et he hf
 have hll := hr.len
 have d := dst_of hg
 have hp0 := pl_of hg hN
 have hm := plain_m hN
 have h128 := d.vg.n128
 have hnm : n < g.m := by omega
 have hga : ∀ x ∈ l, GoodA g (disF g.es g.m) n x := fun x hx => by
  rw [hl] at hx
  exact allA_good d hN hnm (fun z hz => refT_hops hz) hx
 clear hl hb hr h1 h2 ft
 have hhl : (refT g (disF g.es g.m) n).hops.length = g.m := by simp [refT]
 refine Next.weakS [] [2, 7] (by rfl) (keepsN hC _ rfl) (G' := [(1, IV .i64 (n : Nat)), (2, .fz (.cellp (encG g))), (5, .fz (VAl l)), (7, .fz (.cellp (encTr (refT g (disF g.es g.m) n))))]) (H' := []) wF trivial rfl ?_
 refine nK2 ?_
 refine zb ?_
 refine za ?_
 refine zo ?_
 refine zbb ?_
 refine zc ?_
 refine nK2 ?_
 refine n_loop (ι := Nat) (fun i => ([(1, IV .i64 (n : Nat)), (2, .fz (.cellp (encG g))), (5, .fz (VAl l)), (7, .fz (.cellp (encTr (refT g (disF g.es g.m) n)))), (51, IV .i64 l.length), (52, IV .i64 (i : Nat))], [], 0)) (fun i => i ≤ l.length) (fun i => l.length - i) 0 (Nat.zero_le _) ?_ ?_
 ·refine Next.weak [] [] (by rfl) (keepsN hC _ rfl) wG (by exact trivial) wN rel_intro
 intro i hi K hK
 try dsimp only at hi hK ⊢
 refine nK2 ?_
 refine zb ?_
 refine zp ?_
 refine zc ?_
 refine nK2 ?_
 refine n_cond _ rfl (fun hb => ?_) (fun hb => ?_)
 ·have hlt : i < l.length := by simp at hb; omega
  have hri := row_at' encAl l i hlt
  obtain ⟨z, p, v, e1, e2, e3, hz, hpm, hv, hp, hvp, _, h0, hW, hWp, _, hd0⟩ := (hga _ (List.getElem_mem hlt)).ex
  have hK1 := hK (i + 1) (by omega) (by omega)
  clear hK hb
  generalize l[i] = x at *
  obtain ⟨xd, xp, xv, xk, xn⟩ := x
  dsimp only at e1 e2 e3 hWp
  subst e1; subst e2; subst e3
  have hal := alt_ok hg d hN hv hz h0 hW (kd := xk) hWp
  have hwk := lwalk_c g v z (n : Int) (p : Int) hok hp0 (by omega) (by omega)
  obtain ⟨q, q1, q2, q3, q4⟩ := hal.path
  unfold walkV at hwk
  rw [q1] at hwk
  dsimp only at hwk
  have hql := walkL_len (fun x => hopR g (disF g.es g.m) x z) z (n : Int) (p : Int) ((disF g.es g.m v z).toNat + 1) v [(v : Int)]
  rw [q1] at hql
  have hbz := d.bnd (i := v) (k := z) hv hz
  clear hal q1
  have hqb : ((v : Int) :: q).length ≤ 1000000000 := by dsimp only at hql; simp at hql ⊢; omega
  obtain ⟨hpp, hrl⟩ := last_row q4
  have hr0 : (((v : Int) :: q).map encN)[0]? = some (encN v) := rfl
  have hrow : (refT g (disF g.es g.m) n).hops.map encL = (refT g (disF g.es g.m) n).hops.map encL := rfl
  have hrz := row_of encL (refT g (disF g.es g.m) n).hops z [] (by omega)
  have hgz : (refT g (disF g.es g.m) n).hops.getD z [] = hopR g (disF g.es g.m) n z := refT_hops hz
  rw [hgz] at hrz
  clear hrow hgz hql
  generalize (v : Int) :: q = pt at *
  have hrwl := hopR_len g (disF g.es g.m) n z
  generalize hopR g (disF g.es g.m) n z = row at *
  refine nK2 ?_
  refine zb ?_
  refine za ?_
  refine zd ?_
  refine zc ?_
  refine nK2 ?_
  refine zb ?_
  refine za ?_
  refine za ?_
  refine rpZ 57 rfl (op_idx_fz i rfl (oT rfl) (oT rfl) (by intro _; exact ⟨rfl, hri⟩)) ?_
  refine zbf ?_
  refine zu ?_
  refine zr ?_
  refine zc ?_
  refine nK2 ?_
  refine Next.weakS [] [10] (by rfl) (keepsN hC _ rfl) (G' := [(1, IV .i64 (n : Nat)), (2, .fz (.cellp (encG g))), (5, .fz (VAl l)), (7, .fz (.cellp (encTr (refT g (disF g.es g.m) n)))), (51, IV .i64 l.length), (52, IV .i64 (i : Nat)), (10, .fz (.cellp (encAl ⟨(z : Int), (p : Int), (v : Int), xk, xn⟩)))]) (H' := []) wF trivial rfl ?_
  refine nK2 ?_
  refine zb ?_
  refine zbf ?_
  refine zx ?_
  refine zj ?_
  refine zx ?_
  refine zj ?_
  refine za ?_
  refine zx ?_
  refine zj ?_
  refine rpZ 68 rfl (op_call_pure (fun _ => hwk) rfl (Opd.func _) (oS (oT rfl) (oS (oT rfl) (oS (oT rfl) (oS (oT rfl) (oS (oT rfl) Opds.nil)))))) ?_
  refine za ?_
  refine zi ?_
  refine zi ?_
  refine zd ?_
  refine zd ?_
  refine zc ?_
  refine nK2 ?_
  refine s_draw mixed ?_
  refine za ?_
  refine zbj ?_
  refine za ?_
  refine zbq ?_
  refine zw ?_
  refine zcc ?_
  refine zv ?_
  refine za ?_
  refine zbq ?_
  refine zw ?_
  refine zbq ?_
  refine zw ?_
  refine zbt ?_
  refine zbz ?_
  refine zv ?_
  refine za ?_
  refine zf ?_
  refine zbt ?_
  refine zce ?_
  refine zv ?_
  refine za ?_
  refine zf ?_
  refine rgZ 93 rfl rfl tG (op_idx_fz 0 rfl (oO rfl tO) oC (by intro _; exact ⟨rfl, hr0⟩)) ?_
  refine zw ?_
  refine zbq ?_
  refine zw ?_
  refine zcl ?_
  refine zv ?_
  refine za ?_
  refine zf ?_
  refine zf ?_
  refine zbt ?_
  refine zcz ?_
  refine rgZ 104 rfl rfl tG (op_idx_fz (pt.length - 1) rfl (oO rfl tO) (oO rfl tO) (by intro _; exact ⟨by omega, hrl⟩)) ?_
  refine zw ?_
  refine zbq ?_
  refine zw ?_
  refine zcl ?_
  refine zv ?_
  refine za ?_
  refine zbq ?_
  refine zw ?_
  refine zbq ?_
  refine zw ?_
  refine zbo ?_
  refine zv ?_
  refine zs ?_
  refine nK2 ?_
  refine nK2 ?_
  refine n_cond _ rfl (fun hb => ?_) (fun hb => ?_)
  ·exfalso
   have f1 : ¬ (z : Int) < 0 := by omega
   have f2 : ¬ ((refT g (disF g.es g.m) n).hops.length : Int) ≤ z := by omega
   have f3 : ¬ (pt.length : Int) = 0 := by omega
   have f4 : ¬ (v : Int) = p := by omega
   simp [f1, f2, f3, f4] at hb
   rw [hb] at hpp
   simp at hpp
  clear hb
  refine Next.weakS [] [] (by rfl) (keepsN hC _ rfl) (G' := [(1, IV .i64 (n : Nat)), (2, .fz (.cellp (encG g))), (5, .fz (VAl l)), (7, .fz (.cellp (encTr (refT g (disF g.es g.m) n)))), (51, IV .i64 l.length), (52, IV .i64 (i : Nat)), (10, .fz (.cellp (encAl ⟨(z : Int), (p : Int), (v : Int), xk, xn⟩))), (11, .fz (VI pt))]) (H' := []) wG trivial rfl ?_
  refine nK2 ?_
  refine zb ?_
  refine za ?_
  refine zo ?_
  refine zbb ?_
  refine zc ?_
  refine nK2 ?_
  refine n_loop (ι := Nat) (fun k => ([(1, IV .i64 (n : Nat)), (2, .fz (.cellp (encG g))), (5, .fz (VAl l)), (7, .fz (.cellp (encTr (refT g (disF g.es g.m) n)))), (51, IV .i64 l.length), (52, IV .i64 (i : Nat)), (10, .fz (.cellp (encAl ⟨(z : Int), (p : Int), (v : Int), xk, xn⟩))), (11, .fz (VI pt)), (118, IV .i64 pt.length), (119, IV .i64 (k : Nat))], [], 0)) (fun k => k ≤ pt.length) (fun k => pt.length - k) 0 (Nat.zero_le _) ?_ ?_
  ·refine Next.weak [] [] (by rfl) (keepsN hC _ rfl) wG (by exact trivial) wN rel_intro
  intro k hk K2 hK2
  try dsimp only at hk hK2 ⊢
  refine nK2 ?_
  refine zb ?_
  refine zp ?_
  refine zc ?_
  refine nK2 ?_
  refine n_cond _ rfl (fun hb => ?_) (fun hb => ?_)
  ·have hkl : k < pt.length := by simp at hb; omega
   have hrk := row_at' encN pt k hkl
   have hmk := List.getElem_mem hkl
   have hK3 := hK2 (k + 1) (by omega) (by omega)
   have hne : pt[k] ≠ (n : Int) := fun h => q2 (h ▸ hmk)
   have hne2 : xk = 2 → pt[k] ≠ (p : Int) := fun hq h => q3 hq (h ▸ hmk)
   generalize pt[k] = y at *
   clear hK2 hb
   refine nK2 ?_
   refine zb ?_
   refine za ?_
   refine zd ?_
   refine zc ?_
   refine nK2 ?_
   refine s_draw mixed ?_
   refine za ?_
   refine za ?_
   refine rpZ 124 rfl (op_idx_fz k rfl (oT rfl) (oT rfl) (by intro _; exact ⟨rfl, hrk⟩)) ?_
   refine zj ?_
   refine za ?_
   refine zbr ?_
   refine za ?_
   refine zbq ?_
   refine zw ?_
   refine zce ?_
   refine zbp ?_
   refine zf ?_
   refine zf ?_
   refine rgZ 135 rfl rfl tG (op_idx_fz k rfl (oO rfl tO) (oO rfl tO) (by intro _; exact ⟨rfl, hrk⟩)) ?_
   refine zw ?_
   refine zbq ?_
   refine zw ?_
   refine zbo ?_
   refine zcf ?_
   refine zv ?_
   refine zs ?_
   refine nK2 ?_
   refine n_cond _ rfl (fun hb => ?_) (fun hb => ?_)
   ·exfalso
    simp only [Bool.or_eq_true, Bool.and_eq_true, decide_eq_true_eq] at hb
    rcases hb with h | ⟨h, h'⟩
    ·exact hne h
    exact hne2 h h'
   refine nK2 ?_
   refine zb ?_
   refine zl ?_
   refine za ?_
   refine zc ?_
   refine nK2 ?_
   refine Next.weak [] [] (by rfl) (keepsN hC _ rfl) wG (by exact trivial) wN hK3
  clear hK2 hb
  refine nK2 ?_
  refine zb ?_
  refine ze ?_
  refine zc ?_
  refine nK2 ?_
  refine zb ?_
  refine zx ?_
  refine zj ?_
  refine zx ?_
  refine zj ?_
  refine rpZ 147 rfl (op_idx_fz z rfl (oT rfl) (oT rfl) (by intro _; exact ⟨rfl, hrz⟩)) ?_
  refine zj ?_
  refine zo ?_
  refine zbb ?_
  refine zc ?_
  refine nK2 ?_
  refine n_loop (ι := Nat) (fun j => ([(1, IV .i64 (n : Nat)), (2, .fz (.cellp (encG g))), (5, .fz (VAl l)), (7, .fz (.cellp (encTr (refT g (disF g.es g.m) n)))), (51, IV .i64 l.length), (52, IV .i64 (i : Nat)), (10, .fz (.cellp (encAl ⟨(z : Int), (p : Int), (v : Int), xk, xn⟩))), (14, BV (decide ((p : Int) ∈ row.take j))), (149, IV .i64 row.length), (150, IV .i64 (j : Nat))], [], 0)) (fun j => j ≤ row.length) (fun j => row.length - j) 0 (Nat.zero_le _) ?_ ?_
  ·refine Next.weak [] [] (by rfl) (keepsN hC _ rfl) wG (by exact trivial) wN rel_intro
  intro j hj K3 hK3
  try dsimp only at hj hK3 ⊢
  refine nK2 ?_
  refine zb ?_
  refine zp ?_
  refine zc ?_
  refine nK2 ?_
  refine n_cond _ rfl (fun hb => ?_) (fun hb => ?_)
  ·have hjl : j < row.length := by simp at hb; omega
   have hrj := row_at' encN row j hjl
   have hK4 := hK3 (j + 1) (by omega) (by omega)
   have hms : decide ((p : Int) ∈ row.take (j + 1)) = (decide ((p : Int) ∈ row.take j) || decide (row[j] = (p : Int))) := by
    rw [Bool.eq_iff_iff]
    simp only [Bool.or_eq_true, decide_eq_true_eq]
    exact mem_take_succ hjl _
   rw [hms] at hK4
   generalize decide ((p : Int) ∈ row.take j) = bj at *
   generalize row[j] = y at *
   clear hK3 hb
   refine nK2 ?_
   refine zb ?_
   refine za ?_
   refine zd ?_
   refine zc ?_
   refine nK2 ?_
   refine s_draw mixed ?_
   refine za ?_
   refine za ?_
   refine zbq ?_
   refine zw ?_
   refine zbq ?_
   refine zw ?_
   refine rgZ 159 rfl rfl tG (op_idx_fz z rfl (oO rfl tO) (oO rfl tO) (by intro _; exact ⟨rfl, hrz⟩)) ?_
   refine zw ?_
   refine zf ?_
   refine rgZ 162 rfl rfl tG (op_idx_fz j rfl (oO rfl tO) (oO rfl tO) (by intro _; exact ⟨rfl, hrj⟩)) ?_
   refine zw ?_
   refine zbq ?_
   refine zw ?_
   refine zbo ?_
   refine zv ?_
   refine zd ?_
   refine zs ?_
   refine nK2 ?_
   refine zb ?_
   refine zl ?_
   refine za ?_
   refine zc ?_
   refine nK2 ?_
   refine Next.weak [] [] (by rfl) (keepsN hC _ rfl) wG (by exact trivial) wN hK4
  have hje : j = row.length := by simp at hb; omega
  subst hje
  rw [List.take_length, decide_eq_true hp]
  clear hb
  refine nK2 ?_
  refine zb ?_
  refine za ?_
  refine zbj ?_
  refine zc ?_
  refine nK2 ?_
  refine n_cond _ rfl (fun hb => ?_) (fun hb => ?_)
  ·simp at hb
  refine nK2 ?_
  refine zb ?_
  refine zl ?_
  refine za ?_
  refine zc ?_
  refine nK2 ?_
  refine Next.weak [] [] (by rfl) (keepsN hC _ rfl) wG (by exact trivial) wN hK1
 refine nK2 ?_
 refine zb ?_
 refine rpZ 172 rfl (op_call_pure (fun _ => lives07_c) rfl (Opd.func _) Opds.nil) ?_
 refine zd ?_
 refine zc ?_
 refine nK2 ?_
 exact wO hC
end Go.Proofs.YtmapchjcnifeiaaGreat
/- How the arguments of the rows read. -/
namespace Go.Proofs.YtmapchjcnifeiaaGreat
open Go Go.RT Go.Proofs Go.Pl
set_option linter.all false
variable {H : Type} {enc : TypeId × Value → H} {W : World} {ok : DataW H → Prop} {B : Nat}
theorem rdc_n : RdC ok enc Tryz.prog W 3 (fun fs => ∃ n, inr .i64 n ∧ fs = [If .i64 n]) := rdc_int (P := Tryz.prog) (t := 3) inferInstance
theorem rdc_edge (dn : DnOk H ok B) : RdC ok enc Tryz.prog W 43 (fun fs => ∃ e : Edg, okE e ∧ fs = encE e) :=
  (rdc_struct (P := Tryz.prog) (t := 43) dn Tryz.underlying43 (by kernel_rfl) (.cons _ _ _ _ rdc_n (.cons _ _ _ _ rdc_n (.cons _ _ _ _ rdc_n .nil)))).imp fun fs h => by
    obtain ⟨_, _, rfl, ⟨a, ha, rfl⟩, _, _, rfl, ⟨b, hb, rfl⟩, _, _, rfl, ⟨c, hc, rfl⟩, rfl⟩ := h
    exact ⟨⟨a, b, c⟩, ⟨ha, hb, hc⟩, rfl⟩
theorem rdc_edges (dn : DnOk H ok B) : RdC ok enc Tryz.prog W 22 (fun fs => ∃ l : List Edg, okEs l ∧ l.length ≤ B ∧ fs = [VE l]) :=
  (rdc_slice (P := Tryz.prog) (t := 22) (e := 43) dn inferInstance inferInstance (by decide) (rdc_edge dn)).imp fun fs h => by
    obtain ⟨rows, hr, hl, rfl⟩ := h
    obtain ⟨l, rfl, ho⟩ := rows_of (fun fs h => h) hr
    exact ⟨l, ho, by simpa using hl, rfl⟩
theorem rdc_graph (dn : DnOk H ok B) : RdC ok enc Tryz.prog W 24 (fun fs => ∃ g : Gr, okG g ∧ g.es.length ≤ B ∧ fs = encG g) :=
  (rdc_struct (P := Tryz.prog) (t := 24) dn Tryz.underlying24 (by kernel_rfl) (.cons _ _ _ _ rdc_n (.cons _ _ _ _ rdc_n (.cons _ _ _ _ (rdc_edges dn) .nil)))).imp fun fs h => by
    obtain ⟨_, _, rfl, ⟨a, ha, rfl⟩, _, _, rfl, ⟨b, hb, rfl⟩, _, _, rfl, ⟨l, hl, hB, rfl⟩, rfl⟩ := h
    exact ⟨⟨a, b, l⟩, ⟨ha, hb, hl⟩, hB, rfl⟩
end Go.Proofs.YtmapchjcnifeiaaGreat
