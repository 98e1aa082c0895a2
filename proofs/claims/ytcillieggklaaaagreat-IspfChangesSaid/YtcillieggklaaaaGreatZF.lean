/- A part of the proof: X203, IP7, X204, SI1, SI2, SI3, SI4, SI5, IP8, X205, GP12, IP9, IP10, IP11, X120, X206, IP12, X207. -/
import Derived.Test.YtcillieggklaaaaGreatZE
set_option linter.all false
namespace Go.Proofs.YtcillieggklaaaaGreat
open Go Go.RT Go.Proofs Go.Pl
set_option linter.all false
set_option maxRecDepth 20000
set_option maxHeartbeats 4000000
abbrev HLo (n : Nat) (gone : List Bool) (h : Hq) (k : Int) (out : List Int) : Hp := [(0, some (.refs 1 [[.sl 1 1 0 n]])), (1, OBl gone), (2, some (.refs 3 [[.sl 5 1 0 h.it.length, .sl 3 1 0 h.pl.length, .sl 4 1 0 h.ky.length]])), (3, OI h.pl), (4, OI h.ky), (5, OT h.it), (6, some (.flat 1 [[If .i64 k]])), (7, OI out)]
theorem lost_c (g : Gr) (hg : checkI g = 0) (a at_ : Nat) (d : List Int) (f0 : Nat) (p : DP g.es g.m a d) (hbd : ∀ v, v < g.m → gt0 d v ≤ 8388480) (hat : at_ < g.m) (hJ0 : LJ g.es g.m a d (List.replicate g.m false) [] (setH (newH g.m) at_ (gt0 d at_)) []) (hf0 : lostM g.m [] (setH (newH g.m) at_ (gt0 d at_)) < f0) :
  Pure Tryz.prog 59 [.agg (encG g), VI d, .vals 1 (fzL 3 (rowsN g.es g.m)), If .i64 (at_ : Int)] (VI (lostF g.es d f0 (List.replicate g.m false) [] (setH (newH g.m) at_ (gt0 d at_)))) := by
 obtain ⟨vg, hr0, hn0⟩ := checkI_vg hg
 have hn := vg.n128
 have hel := vg.e1024
 have hasc := vg.asc
 have hm128 : g.m ≤ 128 := hn
 have hmm : g.m = (g.r + g.n).toNat := rfl
 rw [← hmm] at vg
 generalize hR : lostF g.es d f0 (List.replicate g.m false) [] (setH (newH g.m) at_ (gt0 d at_)) = R at *
 generalize g.m = n at *
 have hSet := set_c (newH n) (HG.new n).hi at_ (gt0 d at_) (by simpa [newH] using hat) (by simp [newH])
 have hdl := p.dl
 have hrd := row_at' encN d at_ (by omega)
 have hdd : d[at_] = gt0 d at_ := by unfold gt0; rw [List.getD_eq_getElem?_getD, List.getElem?_eq_getElem]; rfl
 rw [hdd] at hrd
 have hok0 := hJ0.hg.hi
 have hpl0 := hJ0.hl
 have hsm0 := hok0.small
 generalize hq0 : setH (newH n) at_ (gt0 d at_) = q0 at *
 have hpop0 := pop_c q0 hok0 (by omega)
 subst hdl
 refine Meets.intro Tryz.func59 rfl (Nat.le_of_ble_eq_true rfl) fun C hC => ?_
 simp only [List.map, argEnv, Nat.reduceAdd]
 refine nK2 ?_
 refine zb ?_
 refine zq ?_
 refine zq ?_
 refine ze ?_
 refine zc ?_
 refine nK2 ?_
 refine Next.weakS [] [4, 5] (by rfl) (keepsN hC _ rfl) (G' := [(2, .fz (.vals 1 (fzL 3 (rowsN g.es d.length)))), (3, IV .i64 at_), (4, .fz (.cellp (encG g))), (5, .fz (.cellp [VI d]))]) (H' := []) wF trivial rfl ?_
 refine nK2 ?_
 refine zb ?_
 refine zj ?_
 refine zo ?_
 refine Run.eff (dd := some 22) rfl rfl (op_make (l := d.length) (c := d.length) rfl (oT rfl) (oT rfl) rfl rfl rfl rfl (by intro _; refine ⟨by omega, by omega, ?_⟩; omega)) ?_
 refine zdf ?_
 refine zcp ?_
 refine zc ?_
 refine nK2 ?_
 refine Next.weak [1, 0] [] (by rfl) (keepsN hC _ rfl) (G' := [(2, .fz (.vals 1 (fzL 3 (rowsN g.es d.length)))), (3, IV .i64 at_), (4, .fz (.cellp (encG g))), (5, .fz (.cellp [VI d])), (9, .ptr 0 1 0 0)]) (H' := [(0, some (.refs 1 [[.sl 1 1 0 d.length]])), (1, OBl (List.replicate d.length false))]) wG (by exact ⟨wS, ⟨ent_same rfl rfl (flEq rfl (by rw [List.map_replicate]; rfl)) trivial, trivial⟩⟩) wN ?_
 refine nK2 ?_
 refine zb ?_
 refine ze ?_
 refine zc ?_
 refine nK2 ?_
 refine zb ?_
 refine zj ?_
 refine zo ?_
 refine Run.eff (dd := some 25) rfl rfl (op_call (n := 0) (n' := 4) [] (fun _ => new_c d.length (by omega)) rfl (Opd.func _) (oS (oT rfl) Opds.nil) rfl rfl (Lent.of rfl rfl trivial rfl) rfl rfl rfl rfl rfl) ?_
 refine zd ?_
 refine zc ?_
 refine nK2 ?_
 refine zb ?_
 refine za ?_
 refine za ?_
 refine zj ?_
 refine za ?_
 refine rpZ 30 rfl (op_idx_fz at_ rfl (oT rfl) (oT rfl) (by intro _; exact ⟨rfl, hrd⟩)) ?_
 refine zj ?_
 refine Run.eff (dd := some 32) rfl rfl (op_call (n := 4) (n' := 5) [2, 3, 4, 5] (fun _ => hSet) rfl (Opd.func _) (oS (oT rfl) (oS (oT rfl) (oS (oT rfl) Opds.nil))) rfl rfl (Lent.of rfl rfl (by exact ⟨⟨rfl, rfl, rfl, tL⟩, ⟨rfl, rfl, rfl, trivial⟩, ⟨rfl, rfl, rfl, trivial⟩, ⟨rfl, rfl, rfl, trivial⟩, trivial⟩) rfl) rfl rfl rfl rfl rfl) ?_
 refine zc ?_
 refine nK2 ?_
 refine zb ?_
 refine za ?_
 refine Run.eff (dd := some 35) rfl rfl (op_call (n := 4) (n' := 5) [2, 6, 4, 5] (fun _ => hpop0) rfl (Opd.func _) (oS (oT rfl) Opds.nil) rfl rfl (Lent.of rfl rfl (by exact ⟨⟨rfl, rfl, rfl, tL⟩, ⟨rfl, rfl, rfl, trivial⟩, ⟨rfl, rfl, rfl, trivial⟩, ⟨rfl, rfl, rfl, trivial⟩, trivial⟩) rfl) rfl rfl rfl rfl rfl) ?_
 refine za ?_
 refine zi ?_
 refine zi ?_
 refine zi ?_
 refine zu ?_
 refine zd ?_
 refine zr ?_
 refine zd ?_
 refine zc ?_
 refine nK2 ?_
 refine Next.adopt 10 1 rfl ?_
 refine n_loop (ι := List Bool × List Int × Hq × Nat) (fun s => ([(2, .fz (.vals 1 (fzL 3 (rowsN g.es d.length)))), (4, .fz (.cellp (encG g))), (5, .fz (.cellp [VI d])), (9, .ptr 0 1 0 0), (10, .sl 7 1 0 s.2.1.length), (11, .ptr 2 3 0 0), (12, IV .i64 (s.2.2.1.item 0 : Nat)), (13, .ptr 6 1 0 0), (14, BV (popB s.2.2.1))], HLo d.length s.1 (popH s.2.2.1) (popK s.2.2.1) s.2.1, 8)) (fun s => LJ g.es d.length a d s.1 s.2.1 s.2.2.1 [] ∧ lostM d.length s.2.1 s.2.2.1 < s.2.2.2 ∧ lostF g.es d s.2.2.2 s.1 s.2.1 s.2.2.1 = R) (fun s => s.2.2.2) (List.replicate d.length false, [], q0, f0) ⟨hJ0, hf0, hR⟩ ?_ ?_
 ·refine Next.weak [0, 1, 2, 4, 5, 7, 8, 9] [] (by rfl) (keepsN hC _ rfl) wG wR wN rel_intro
 intro ⟨gone, out, h, f⟩ ⟨hJ, hfm, hRs⟩ K hK
 try dsimp only at hJ hfm hRs hK ⊢
 refine nK2 ?_
 refine zb ?_
 refine za ?_
 refine zc ?_
 refine nK2 ?_
 refine n_cond _ rfl (fun hb => ?_) (fun hb => ?_)
 ·have hne : 0 < h.it.length := by simpa [popB] using hb
  have hnz : ¬ h.it.length = 0 := by omega
  obtain ⟨x1, x2, x3, x4, x5, x6, x7, x8⟩ := hJ.pop p hne
  match f, hfm, hRs, hK with
  | 0, hfm, hRs, hK => omega
  | f + 1, hfm, hRs, hK =>
   rw [lostF_step hnz] at hRs
   have hgl := hJ.gl
   have hrE := fzL_get (sz := 3) (rowsN_get g.es x1)
   have hcf := contF_c d.length d gone (h.key (h.item 0)) (inE g.es (h.item 0)) (fun e he => p.f e (List.mem_filter.1 he).1) (fun e he => p.c e (List.mem_filter.1 he).1) rfl hgl hm128 (fun v hv => by have := hbd v hv; omega) (by have := inE_len g.es (h.item 0); omega)
   have hrb := row_of encB gone (h.item 0) false (by omega)
   have hLsub : ∀ e ∈ outE g.es (h.item 0), e ∈ g.es ∧ e.f = (h.item 0 : Nat) := fun e he => by simpa [outE] using he
   have hLl := outE_len g.es (h.item 0)
   have hnx := next_out hasc (h.item 0)
   have hx20 : h.key (h.item 0) ≤ 20000000 := by rw [x4]; have := hbd _ x1; omega
   rw [show popK h = h.key (h.item 0) by unfold popK; rw [if_neg hnz], show popH h = dropH h (h.item 0) by unfold popH; rw [if_neg hnz]]
   refine nK2 ?_
   refine zb ?_
   refine za ?_
   refine za ?_
   refine rpZ 48 rfl (op_idx_fz (h.item 0) rfl (oT rfl) (oT rfl) (by intro _; exact ⟨rfl, hrE⟩)) ?_
   refine zj ?_
   refine rpZ 50 rfl (op_makeFunc rfl Opds.nil (oS (oT rfl) (oS (oT rfl) (oS (oT rfl) Opds.nil)))) ?_
   refine rlZ 51 rfl (op_call_read (n := 3) [0, 1, 6] (fun _ => hcf) rfl (Opd.func _) (oS (oT rfl) (oS (oT rfl) Opds.nil)) rfl rfl (Lent.of rfl rfl (by exact ⟨⟨rfl, rfl, rfl, tL⟩, ⟨rfl, rfl, rfl, trivial⟩, ⟨rfl, rfl, rfl, trivial⟩, trivial⟩) rfl) rfl) ?_
   refine zd ?_
   refine zc ?_
   refine nK2 ?_
   refine zb ?_
   refine za ?_
   refine zc ?_
   refine nK2 ?_
   refine n_cond _ rfl (fun hb => ?_) (fun hb => ?_)
   ·have hA : (inE g.es (h.item 0)).any (heldP d gone (h.key (h.item 0))) = true := by assumption
    rw [if_pos hA] at hRs
    have hJ2 := x7 hA
    have hok2 := hJ2.hg.hi
    have hpl2 := hJ2.hl
    have hsm2 := hok2.small
    have hpop2 := pop_c (dropH h (h.item 0)) hok2 (by omega)
    have hmm2 := lostM_yes (n := d.length) (out := out) hne x6
    have hK2 := hK (gone, out, dropH h (h.item 0), f) ⟨hJ2, by dsimp only; omega, hRs⟩ (by dsimp only; omega)
    dsimp only at hK2
    generalize dropH h (h.item 0) = h1 at *
    refine nK2 ?_
    refine zb ?_
    refine zh ?_
    refine zc ?_
    refine nK2 ?_
    refine zb ?_
    refine zu ?_
    refine zr ?_
    refine zc ?_
    refine nK2 ?_
    refine zb ?_
    refine za ?_
    refine Run.eff (dd := some 42) rfl rfl (op_call (n := 4) (n' := 5) [2, 5, 3, 4] (fun _ => hpop2) rfl (Opd.func _) (oS (oT rfl) Opds.nil) rfl rfl (Lent.of rfl rfl (by exact ⟨⟨rfl, rfl, rfl, tL⟩, ⟨rfl, rfl, rfl, trivial⟩, ⟨rfl, rfl, rfl, trivial⟩, ⟨rfl, rfl, rfl, trivial⟩, trivial⟩) rfl) rfl rfl rfl rfl rfl) ?_
    refine za ?_
    refine zi ?_
    refine zi ?_
    refine zi ?_
    refine zd ?_
    refine zr ?_
    refine zd ?_
    refine zc ?_
    refine nK2 ?_
    refine Next.weak [0, 1, 2, 3, 4, 9, 8, 7] [] (by rfl) (keepsN hC _ rfl) wG wR wN hK2
   have hA : (inE g.es (h.item 0)).any (heldP d gone (h.key (h.item 0))) = false := by assumption
   rw [if_neg (by rw [hA]; simp)] at hRs
   have hsmJ := hJ.small
   obtain ⟨hol, hJ3⟩ := x8 hA
   have hfr := hJ.fresh p x1 x5 x3
   have hgx : gtb (gone.set (h.item 0) true) (h.item 0) = true := by rw [gtb_set (by omega), if_pos rfl]
   have hK4 : ∀ h2, LJ g.es d.length a d (gone.set (h.item 0) true) (out ++ [(h.item 0 : Int)]) h2 [] → lostF g.es d f (gone.set (h.item 0) true) (out ++ [(h.item 0 : Int)]) h2 = R → _ := fun h2 hj2 hr2 => hK (gone.set (h.item 0) true, out ++ [(h.item 0 : Int)], h2, f) ⟨hj2, by have := lostM_no (x := h.item 0) hol hne hj2.small.1; dsimp only; omega, hr2⟩ (by dsimp only; omega)
   dsimp only at hK4
   refine nK2 ?_
   refine zb ?_
   refine zy ?_
   refine za ?_
   refine rpZ 55 rfl (op_idx_sl0 (h.item 0) rfl (oT rfl) (oT rfl) (by intro _; omega)) ?_
   refine Run.eff (dd := none) rfl rfl (op_store_flat rfl (oT rfl) oC tC rfl rfl hrb tS) ?_
   refine zc ?_
   refine nK2 ?_
   refine zb ?_
   refine za ?_
   refine za ?_
   refine zbh ?_
   refine zbu ?_
   refine zd ?_
   refine zc ?_
   refine nK2 ?_
   rw [x4] at hRs
   rw [x4]
   have hxk : 0 ≤ gt0 d (h.item 0) ∧ gt0 d (h.item 0) ≤ 20000000 := by rw [← x4]; exact ⟨by omega, hx20⟩
   clear hK hpop0 hcf x6 x7 x8 hJ
   generalize h.item 0 = x at *
   generalize hdk : gt0 d x = kx at *
   generalize dropH h x = h1 at *
   generalize hLq : outE g.es x = L at *
   obtain ⟨gn, hgne⟩ : ∃ gn, gn = gone.set x true := ⟨_, rfl⟩
   obtain ⟨ou, houe⟩ : ∃ ou, ou = out ++ [(x : Int)] := ⟨_, rfl⟩
   have houl : ou.length = out.length + 1 := by rw [houe]; simp
   rw [← hgne, ← houe] at hRs hJ3 hK4
   rw [← hgne] at hgx hfr
   refine Next.weak [0, 1, 2, 3, 4, 5, 6, 8] [] (by rfl) (keepsN hC _ rfl) (G' := [(2, .fz (.vals 1 (fzL 3 (rowsN g.es d.length)))), (4, .fz (.cellp (encG g))), (5, .fz (.cellp [VI d])), (9, .ptr 0 1 0 0), (10, .sl 7 1 0 ou.length), (11, .ptr 2 3 0 0), (12, IV .i64 x), (13, .ptr 6 1 0 0)]) (H' := HLo d.length gn h1 kx ou) (by exact ⟨⟨_, rfl, .inl ⟨rfl, rfl⟩⟩, ⟨_, rfl, .inl ⟨rfl, rfl⟩⟩, ⟨_, rfl, .inl ⟨rfl, rfl⟩⟩, ⟨_, rfl, .inl ⟨rfl, rfl⟩⟩, ⟨_, rfl, .inl ⟨slEq rfl (by rw [houl]; rfl), rfl⟩⟩, ⟨_, rfl, .inl ⟨rfl, rfl⟩⟩, ⟨_, rfl, .inl ⟨rfl, rfl⟩⟩, ⟨_, rfl, .inl ⟨rfl, rfl⟩⟩, trivial⟩) (by exact ⟨wS, ⟨ent_same rfl rfl (flEq rfl (by rw [hgne, List.map_set]; rfl)) trivial, ⟨wS, ⟨wS, ⟨wS, ⟨wS, ⟨wS, ⟨ent_same rfl rfl (flEq rfl (by rw [houe, List.map_append]; rfl)) trivial, trivial⟩⟩⟩⟩⟩⟩⟩⟩) wN ?_
   refine nK2 ?_
   refine zb ?_
   refine zbf ?_
   refine za ?_
   refine rpZ 62 rfl (op_call_pure (fun _ => next_c _ _ (by omega)) rfl (Opd.func _) (oS (oT rfl) (oS (oT rfl) Opds.nil))) ?_
   refine zo ?_
   refine zbb ?_
   refine zc ?_
   refine nK2 ?_
   rw [hnx]
   have hln : (L.map (·.t)).length = L.length := List.length_map _
   refine n_loop (ι := Nat × Hq) (fun s => ([(2, .fz (.vals 1 (fzL 3 (rowsN g.es d.length)))), (4, .fz (.cellp (encG g))), (5, .fz (.cellp [VI d])), (9, .ptr 0 1 0 0), (10, .sl 7 1 0 ou.length), (11, .ptr 2 3 0 0), (12, IV .i64 x), (13, .ptr 6 1 0 0), (62, .fz (VI (L.map (·.t)))), (63, IV .i64 L.length), (64, IV .i64 s.1)], HLo d.length gn s.2 kx ou, 8)) (fun s => s.1 ≤ L.length ∧ LJ g.es d.length a d gn ou s.2 (L.drop s.1) ∧ lostF g.es d f gn ou ((L.drop s.1).foldl (lrE d kx) s.2) = R) (fun s => L.length - s.1) (0, h1) ⟨Nat.zero_le _, hJ3, hRs⟩ ?_ ?_
   ·refine Next.weak [0, 1, 2, 3, 4, 5, 6, 7] [] (by rfl) (keepsN hC _ rfl) wG wR wN rel_intro
   intro ⟨j, h2⟩ ⟨hj, hJ2, hR2⟩ K2 hK2
   try dsimp only at hj hJ2 hR2 hK2 ⊢
   refine nK2 ?_
   refine zb ?_
   refine zp ?_
   refine zc ?_
   refine nK2 ?_
   refine n_cond _ rfl (fun hb => ?_) (fun hb => ?_)
   ·have hlt : j < L.length := by have := of_decide_eq_true hb; omega
    have hr1 : ((L.map (·.t)).map encN)[j]? = some (encN L[j].t) := by rw [List.getElem?_map, List.getElem?_map, List.getElem?_eq_getElem hlt]; rfl
    obtain ⟨he, hef⟩ := hLsub _ (List.getElem_mem hlt)
    have hdr : ∀ e' ∈ L.drop (j + 1), e'.f = (x : Int) := fun e' he' => (hLsub e' (List.mem_of_mem_drop he')).2
    rw [List.drop_eq_getElem_cons hlt] at hJ2 hR2
    rw [List.foldl_cons] at hR2
    have hK3 := fun h3 hh hh2 => hK2 (j + 1, h3) ⟨by dsimp only; omega, hh, hh2⟩ (by dsimp only; omega)
    dsimp only at hK3
    generalize L[j] = e at *
    have hco := cost_at hasc he
    rw [hef] at hco
    have het := p.t e he
    have hec := p.c e he
    have hJo := hJ2.hg.hi
    have hJl := hJ2.hl
    have hJs := hJo.small
    have hrt := row_at' encN d e.t.toNat (by omega)
    have hdt : d[e.t.toNat] = gt0 d e.t.toNat := by unfold gt0; rw [List.getD_eq_getElem?_getD, List.getElem?_eq_getElem]; rfl
    rw [hdt] at hrt
    have hbt := hbd e.t.toNat (by omega)
    have hset := set_i h2 hJo e.t e.t.toNat (gt0 d e.t.toNat) (by omega) (by omega) (by omega)
    have hcoP := cost_c g x e.t (by omega)
    rw [hco] at hcoP
    have hst2 := hJ2.step (x := x) p he hef hgx x1 hdr (by rw [hdk]; exact hfr)
    rw [hdk] at hst2
    refine nK2 ?_
    refine zb ?_
    refine zz ?_
    refine zj ?_
    refine zd ?_
    refine zc ?_
    refine nK2 ?_
    refine zb ?_
    refine zbf ?_
    refine za ?_
    refine za ?_
    refine rpZ 72 rfl (op_call_pure (fun _ => hcoP) rfl (Opd.func _) (oS (oT rfl) (oS (oT rfl) (oS (oT rfl) Opds.nil)))) ?_
    refine za ?_
    refine zi ?_
    refine zi ?_
    refine zd ?_
    refine zd ?_
    refine zc ?_
    refine nK2 ?_
    refine s_draw mixed ?_
    refine zj ?_
    refine za ?_
    refine rpZ 77 rfl (op_idx_fz e.t.toNat rfl (oT rfl) (oT rfl) (by intro _; exact ⟨by omega, hrt⟩)) ?_
    refine zj ?_
    refine zby ?_
    refine za ?_
    refine rkZ 81 rfl rfl tG (op_load1_flat rfl (oT rfl) tH rfl) ?_
    refine zf ?_
    refine zbs ?_
    refine zcu ?_
    refine zf ?_
    refine rgZ 86 rfl rfl tG (op_idx_fz e.t.toNat rfl (oO rfl tO) (oO rfl tO) (by intro _; exact ⟨by omega, hrt⟩)) ?_
    refine zw ?_
    refine zbo ?_
    refine zt ?_
    refine zs ?_
    refine nK2 ?_
    refine n_cond _ rfl (fun hb => ?_) (fun hb => ?_)
    ·have hc : 0 ≤ gt0 d e.t.toNat ∧ kx + e.c = gt0 d e.t.toNat := by simpa using hb
     unfold lrE at hst2 hR2
     rw [if_pos hc] at hst2 hR2
     refine nK2 ?_
     refine zb ?_
     refine za ?_
     refine za ?_
     refine zj ?_
     refine za ?_
     refine rpZ 94 rfl (op_idx_fz e.t.toNat rfl (oT rfl) (oT rfl) (by intro _; exact ⟨by omega, hrt⟩)) ?_
     refine zj ?_
     refine Run.eff (dd := some 96) rfl rfl (op_call (n := 4) (n' := 5) [2, 5, 3, 4] (fun _ => hset) rfl (Opd.func _) (oS (oT rfl) (oS (oT rfl) (oS (oT rfl) Opds.nil))) rfl rfl (Lent.of rfl rfl (by exact ⟨⟨rfl, rfl, rfl, tL⟩, ⟨rfl, rfl, rfl, trivial⟩, ⟨rfl, rfl, rfl, trivial⟩, ⟨rfl, rfl, rfl, trivial⟩, trivial⟩) rfl) rfl rfl rfl rfl rfl) ?_
     refine zc ?_
     refine nK2 ?_
     refine zb ?_
     refine zl ?_
     refine za ?_
     refine zc ?_
     refine nK2 ?_
     refine Next.weak [0, 1, 2, 3, 4, 8, 6, 7] [] (by rfl) (keepsN hC _ rfl) wG wR wN (hK3 _ hst2 hR2)
    have hc : ¬ (0 ≤ gt0 d e.t.toNat ∧ kx + e.c = gt0 d e.t.toNat) := by simpa using hb
    unfold lrE at hst2 hR2
    rw [if_neg hc] at hst2 hR2
    refine nK2 ?_
    refine zb ?_
    refine zl ?_
    refine za ?_
    refine zc ?_
    refine nK2 ?_
    refine Next.weak [0, 1, 2, 3, 4, 5, 6, 7] [] (by rfl) (keepsN hC _ rfl) wG wR wN (hK3 _ hst2 hR2)
   have hje : j = L.length := by have := of_decide_eq_false hb; omega
   rw [hje, List.drop_length] at hJ2 hR2
   have hJo := hJ2.hg.hi
   have hJl := hJ2.hl
   have hJs := hJo.small
   have hpop := pop_c h2 hJo (by omega)
   refine nK2 ?_
   refine zb ?_
   refine zh ?_
   refine zc ?_
   refine nK2 ?_
   refine zb ?_
   refine zu ?_
   refine zr ?_
   refine zc ?_
   refine nK2 ?_
   refine zb ?_
   refine za ?_
   refine Run.eff (dd := some 42) rfl rfl (op_call (n := 4) (n' := 5) [2, 5, 3, 4] (fun _ => hpop) rfl (Opd.func _) (oS (oT rfl) Opds.nil) rfl rfl (Lent.of rfl rfl (by exact ⟨⟨rfl, rfl, rfl, tL⟩, ⟨rfl, rfl, rfl, trivial⟩, ⟨rfl, rfl, rfl, trivial⟩, ⟨rfl, rfl, rfl, trivial⟩, trivial⟩) rfl) rfl rfl rfl rfl rfl) ?_
   refine za ?_
   refine zi ?_
   refine zi ?_
   refine zi ?_
   refine zd ?_
   refine zr ?_
   refine zd ?_
   refine zc ?_
   refine nK2 ?_
   refine Next.weak [0, 1, 2, 3, 4, 9, 8, 7] [] (by rfl) (keepsN hC _ rfl) wG wR wN (hK4 h2 hJ2 hR2)
 have hz : h.it.length = 0 := by simp [popB] at hb; simp [hb]
 rw [lostF_stop hz] at hRs
 subst hRs
 have hsmJ := hJ.small
 refine nK2 ?_
 refine zb ?_
 refine za ?_
 refine zd ?_
 refine zc ?_
 refine nK2 ?_
 refine Next.weakS [] [8] (by rfl) (keeps0 hC _) (G' := [(8, .fz (VI out))]) (H' := []) wF trivial rfl ?_
 exact n_out1 rfl (by rfl) rfl rfl
end Go.Proofs.YtcillieggklaaaaGreat
namespace Go.Pl
open Go Go.RT
set_option linter.all false
def lessP (d : List Int) (c : Edg) : Prop := 0 ≤ c.c ∧ (gt0 d c.t.toNat < 0 ∨ gt0 d c.f.toNat + c.c < gt0 d c.t.toNat)
instance (d : List Int) (c : Edg) : Decidable (lessP d c) := by unfold lessP; infer_instance
def moreP (d : List Int) (c : Edg) (old : Int) : Prop := (0 ≤ old ∧ gt0 d c.f.toNat + old = gt0 d c.t.toNat) ∧ (c.c < 0 ∨ old < c.c)
instance (d : List Int) (c : Edg) (old : Int) : Decidable (moreP d c old) := by unfold moreP; infer_instance
def lostL (es : List Edg) (n : Nat) (d : List Int) (v : Nat) : List Int := lostF es d ((n + 2) * (n + 2)) (List.replicate n false) [] (setH (newH n) v (gt0 d v))
def stD (es : List Edg) (n : Nat) (d : List Int) (c : Edg) (old : Int) : List Int := if lessP d c then d else if moreP d c old then negL d (lostL es n d c.t.toNat) else d
def stH (es : List Edg) (n : Nat) (d : List Int) (c : Edg) (old : Int) : Hq := if lessP d c then setH (newH n) c.t.toNat (gt0 d c.f.toNat + c.c) else if moreP d c old then (lostL es n d c.t.toNat).foldl (qV es (negL d (lostL es n d c.t.toNat))) (newH n) else newH n
theorem lostM_start {es : List Edg} {n a : Nat} {d : List Int} {q : Hq} {gone : List Bool} (o : LJ es n a d gone [] q []) : lostM n [] q < (n + 2) * (n + 2) := by
  have := o.small.1
  unfold lostM
  simp only [List.length_nil, Nat.sub_zero]
  have e : (n + 2) * (n + 2) = n * (n + 1) + (3 * n + 4) := by
    have : (n + 2) * (n + 2) = n * n + 4 * n + 4 := by
      rw [Nat.add_mul, Nat.mul_add]; omega
    rw [this, Nat.mul_add]; omega
  omega
theorem lost_ok {es es' : List Edg} {r n a : Nat} {d : List Int} {c : Edg} {old : Int} (har : a < r) (R : ChRel es es' c old) (vg : VG es r n) (vg' : VG es' r n) (dl : d.length = n) (h : Fx es n a d) (hcn : c.t.toNat < n ∧ 0 ≤ c.t) (hf0 : 0 ≤ gt0 d c.f.toNat) (hta : c.t ≠ (a : Int)) (hm : moreP d c old) :
    LJ es' n a d (List.replicate n false) [] (setH (newH n) c.t.toNat (gt0 d c.t.toNat)) [] ∧ LostOk es' n a d (lostL es' n d c.t.toNat) := by
  have o := step_more har R vg vg' dl h hcn hf0 hta hm.1.1 hm.1.2
  exact ⟨o, LJ.run (dp_of har vg vg' dl h) _ (lostM_start o) o⟩
theorem fx_SJ {es : List Edg} {n a : Nat} {d : List Int} (dl : d.length = n) (hb : ∀ v, v < n → gt0 d v ≤ 8388480) (h : Fx es n a d) : SJ es n a topB d (newH n) [] 0 [] :=
  ⟨HG.new n, by simp [newH], dl, h.root, h.neg, fun v hv hva h0 => by
    obtain ⟨e, he, ht, hf, hs⟩ := h.sup v hv hva h0
    exact .inr ⟨e, he, ht, hf, by omega⟩, fun v hv hp => by rw [newH_place hv] at hp; omega, fun e he h0 => .inr (.inl (h.fix e he h0)), by simp, by simp, by simp, fun v hv => by have := hb v hv; simp only [List.length_nil, topB]; omega, by decide⟩
theorem step_SJ {es es' : List Edg} {r n a : Nat} {d : List Int} {c : Edg} {old : Int} (har : a < r) (ha : a < n) (R : ChRel es es' c old) (vg : VG es r n) (vg' : VG es' r n) (dl : d.length = n) (hb : ∀ v, v < n → gt0 d v ≤ 8388480) (h : Fx es n a d) (hcf : c.f.toNat < n) (hcn : c.t.toNat < n ∧ 0 ≤ c.t)
    (hfar : ¬ (gt0 d c.f.toNat < 0 ∨ c.t = (a : Int))) : SJ es' n a topB (stD es' n d c old) (stH es' n d c old) [] 0 [] := by
  have hf0 : 0 ≤ gt0 d c.f.toNat := by omega
  have hta : c.t ≠ (a : Int) := fun e => hfar (.inr e)
  unfold stD stH
  by_cases h1 : lessP d c
  · rw [if_pos h1, if_pos h1]
    exact step_less R vg vg' dl hb h hcn hf0 hcf hta h1.1 h1.2
  · rw [if_neg h1, if_neg h1]
    by_cases h2 : moreP d c old
    · rw [if_pos h2, if_pos h2]
      exact step_queue har ha R vg vg' dl hb h h2.2 h2.1.2 h2.1.1 (lost_ok har R vg vg' dl h hcn hf0 hta h2).2
    · rw [if_neg h2, if_neg h2]
      exact fx_SJ dl hb (step_no R vg h hf0 h1 h2)
theorem dist_uniq {es : List Edg} {n a : Nat} {d D : List Int} (dl : d.length = n) (Dl : D.length = n) (h1 : ∀ v, v < n → IsD es a v (gt0 d v)) (h2 : ∀ v, v < n → IsD es a v (gt0 D v)) : d = D := by
  apply List.ext_getElem (by omega)
  intro v h3 h4
  have := (h1 v (by omega)).uniq (h2 v (by omega))
  simpa [gt0, List.getD_eq_getElem?_getD, h3, h4] using this
theorem stepD_end {es' : List Edg} {r n a : Nat} {d D : List Int} {h : Hq} (vg' : VG es' r n) (o : SJ es' n a topB d h [] 0 []) (Dl : D.length = n) (hD : ∀ v, v < n → IsD es' a v (gt0 D v)) : (setF es' (n + 1) d h).1 = D := by
  obtain ⟨h1, h2⟩ := SJ.run vg' (n + 1) (by simp) o
  exact dist_uniq h2 Dl (h1.isD vg') hD
theorem negL_step (d : List Int) {L : List Int} {j : Nat} (h : j < L.length) : (negL d (L.take j)).set L[j].toNat (-1) = negL d (L.take (j + 1)) := by
  unfold negL
  rw [List.take_succ_eq_append_getElem h, List.foldl_append]; rfl
end Go.Pl
namespace Go.Proofs.YtcillieggklaaaaGreat
open Go Go.RT Go.Proofs Go.Pl
set_option linter.all false
set_option maxRecDepth 20000
set_option maxHeartbeats 4000000
theorem clonei_c (l : List Int) (hn : l.length ≤ 2000000) : Meets Tryz.prog 27 ([VI l].map PV.fz) 0 [] (.sl 0 1 0 l.length) [(0, OI l)] 1 := by
 refine Meets.intro Tryz.func27 rfl (Nat.le_of_ble_eq_true rfl) fun C hC => ?_
 simp only [List.map, argEnv, Nat.reduceAdd]
 refine nK2 ?_
 refine zb ?_
 refine ze ?_
 refine zc ?_
 refine nK2 ?_
 refine zb ?_
 refine za ?_
 refine rpZ 4 rfl (op_eqnil rfl (oT rfl)) ?_
 refine zc ?_
 refine nK2 ?_
 refine Next.abool 4 rfl (fun b hb0 => ?_)
 refine nK2 ?_
 refine n_cond _ rfl (fun hb => ?_) (fun hb => ?_)
 ·have he : l = [] := by have := hb0 hb; simpa using this
  subst he
  refine nK2 ?_
  refine zb ?_
  refine ze ?_
  refine zc ?_
  refine nK2 ?_
  refine Next.adopt 2 1 rfl ?_
  exact wO hC
 refine nK2 ?_
 refine zb ?_
 refine zct ?_
 refine za ?_
 refine Run.eff (dd := some 7) rfl rfl (op_append rfl (oT rfl) (oT rfl) rfl rfl rfl rfl tB tB) ?_
 refine zd ?_
 refine zc ?_
 refine nK2 ?_
 refine Next.weakS [2] [] (by rfl) (keeps0 hC _) (G' := [(2, .sl 0 1 0 l.length)]) (H' := [(0, OI l)]) wG (by repeat (first | exact trivial | refine ⟨wS, ?_⟩ | refine ⟨ent_same rfl rfl (rfEq rfl tU) tL, ?_⟩ | refine ⟨ent_same rfl rfl (flEq rfl (by first | (simp; done) | (simp; omega) | (simp [encE, encN, encB, encT]; done) | simp [maxC, minC])) trivial, ?_⟩)) rfl ?_
 exact wO hC
theorem step_c (g : Gr) (hg : checkI g = 0) (es : List Edg) (r a : Nat) (d D : List Int) (c : Edg) (old : Int) (har : a < r) (ha : a < g.m) (R : ChRel es g.es c old) (vg0 : VG es r g.m) (vg1 : VG g.es r g.m) (dl : d.length = g.m) (hbd : ∀ v, v < g.m → -1 ≤ gt0 d v ∧ gt0 d v ≤ 8388480) (h : Fx es g.m a d)
  (hcf : 0 ≤ c.f ∧ c.f < g.m) (hct : 0 ≤ c.t ∧ c.t < g.m) (hcc : inr .i64 c.c ∧ c.c ≤ 65535) (hold : -1 ≤ old ∧ old ≤ 65535) (Dl : D.length = g.m) (hD : ∀ v, v < g.m → IsD g.es a v (gt0 D v)) :
  Pure Tryz.prog 29 [.agg (encG g), If .i64 (a : Int), VI d, .agg (encE c), If .i64 old] (VI D) := by
 have hm128 : g.m ≤ 128 := vg1.n128
 have hel := vg1.e1024
 have hasc := vg1.asc
 have hcl := clonei_c d (by omega)
 have hnew := new_c d.length (by omega)
 have hinto := into_c g hg
 have hrf := row_at' encN d c.f.toNat (by omega)
 have hrt := row_at' encN d c.t.toNat (by omega)
 have hdf : d[c.f.toNat] = gt0 d c.f.toNat := by unfold gt0; rw [List.getD_eq_getElem?_getD, List.getElem?_eq_getElem]; rfl
 have hdt : d[c.t.toNat] = gt0 d c.t.toNat := by unfold gt0; rw [List.getD_eq_getElem?_getD, List.getElem?_eq_getElem]; rfl
 rw [hdf] at hrf
 rw [hdt] at hrt
 have hbf := hbd c.f.toNat (by omega)
 have hbt := hbd c.t.toNat (by omega)
 have hlost := fun f0 h1 h2 h3 h4 => lost_c g hg a c.t.toNat d f0 h1 h2 h3 h4
 have hset5' := fun d0 q0 f0 S0 b0 h1 h2 => settle5_c g hg a d0 q0 f0 S0 b0 h1 h2
 clear hdf hdt
 generalize hmn : g.m = n at *
 subst dl
 refine Meets.intro Tryz.func29 rfl (Nat.le_of_ble_eq_true rfl) fun C hC => ?_
 simp only [List.map, argEnv, Nat.reduceAdd]
 refine nK2 ?_
 refine zb ?_
 refine zq ?_
 refine zq ?_
 refine ze ?_
 refine zc ?_
 refine nK2 ?_
 refine Next.weakS [] [5, 8] (by rfl) (keepsN hC _ rfl) (G' := [(1, IV .i64 a), (2, .fz (VI d)), (4, IV .i64 old), (5, .fz (.cellp (encG g))), (8, .fz (.cellp (encE c)))]) (H' := []) wF trivial rfl ?_
 refine nK2 ?_
 refine zb ?_
 refine za ?_
 refine Run.eff (dd := some 25) rfl rfl (op_call_fresh (fun _ => hcl) rfl (Opd.func _) (oS (oT rfl) Opds.nil)) ?_
 refine zd ?_
 refine zc ?_
 refine nK2 ?_
 refine zb ?_
 refine za ?_
 refine zx ?_
 refine zj ?_
 refine rpZ 29 rfl (op_idx_fz c.f.toNat rfl (oT rfl) (oT rfl) (by intro _; exact ⟨by omega, hrf⟩)) ?_
 refine zj ?_
 refine zbn ?_
 refine za ?_
 refine zbq ?_
 refine zw ?_
 refine zf ?_
 refine zbo ?_
 refine zv ?_
 refine zc ?_
 refine nK2 ?_
 refine n_cond _ rfl (fun hb => ?_) (fun hb => ?_)
 ·have hfar : gt0 d c.f.toNat < 0 ∨ c.t = (a : Int) := by simpa using hb
  have hdD : d = D := dist_uniq rfl Dl ((step_far R vg0 h hfar).isD vg1) hD
  subst hdD
  refine nK2 ?_
  refine zb ?_
  refine za ?_
  refine zd ?_
  refine zc ?_
  refine nK2 ?_
  refine Next.weakS [] [10] (by rfl) (keeps0 hC _) (G' := [(10, .fz (VI d))]) (H' := []) wF trivial rfl ?_
  exact n_out1 rfl (by rfl) rfl rfl
 have hfar : ¬ (gt0 d c.f.toNat < 0 ∨ c.t = (a : Int)) := by simpa using hb
 have hSJ := step_SJ har ha R vg0 vg1 rfl (fun v hv => (hbd v hv).2) h (by omega) (by omega) hfar
 have hend := stepD_end vg1 hSJ Dl hD
 have hset5 := hset5' _ _ (d.length + 1) [] 0 (by simp) hSJ
 rw [hend] at hset5
 have hok := hSJ.hg.hi
 refine nK2 ?_
 refine zb ?_
 refine za ?_
 refine zo ?_
 refine Run.eff (dd := some 41) rfl rfl (op_call (n := 0) (n' := 4) [] (fun _ => hnew) rfl (Opd.func _) (oS (oT rfl) Opds.nil) rfl rfl (Lent.of rfl rfl trivial rfl) rfl rfl rfl rfl rfl) ?_
 refine zd ?_
 refine zc ?_
 refine nK2 ?_
 refine zb ?_
 refine za ?_
 refine zx ?_
 refine zj ?_
 refine rpZ 45 rfl (op_idx_fz c.f.toNat rfl (oT rfl) (oT rfl) (by intro _; exact ⟨by omega, hrf⟩)) ?_
 refine zj ?_
 refine zd ?_
 refine zc ?_
 refine nK2 ?_
 refine Next.weak [0, 1, 2, 3, 4] [] (by rfl) (keepsN hC _ rfl) (G' := [(1, IV .i64 a), (2, .fz (VI d)), (4, IV .i64 old), (5, .fz (.cellp (encG g))), (8, .fz (.cellp (encE c))), (11, .sl 0 1 0 d.length), (12, .ptr 1 3 0 0), (13, IV .i64 (gt0 d c.f.toNat))]) (H' := HDS d (newH d.length)) wG wR wN ?_
 refine nK2 ?_
 refine s_draw mixed ?_
 refine zx ?_
 refine zj ?_
 refine zby ?_
 refine za ?_
 refine zf ?_
 refine zbq ?_
 refine zw ?_
 refine rgZ 55 rfl rfl tG (op_idx_fz c.t.toNat rfl (oO rfl tO) (oO rfl tO) (by intro _; exact ⟨by omega, hrt⟩)) ?_
 refine zw ?_
 refine zcc ?_
 refine zbp ?_
 refine zf ?_
 refine zbq ?_
 refine zw ?_
 refine zbs ?_
 refine zf ?_
 refine zbq ?_
 refine zw ?_
 refine rgZ 66 rfl rfl tG (op_idx_fz c.t.toNat rfl (oO rfl tO) (oO rfl tO) (by intro _; exact ⟨by omega, hrt⟩)) ?_
 refine zw ?_
 refine zbk ?_
 refine zcd ?_
 refine zt ?_
 refine zd ?_
 refine zs ?_
 refine nK2 ?_
 refine n_joinB [(5, .fz (.cellp (encG g))), (11, .sl 0 1 0 d.length), (12, .ptr 1 3 0 0)] (HDS (stD g.es d.length d c old) (stH g.es d.length d c old)) 5 ?_ ?_
 ·refine nK2 ?_
  refine n_cond _ rfl (fun hb => ?_) (fun hb => ?_)
  ·have hl : lessP d c := by simpa [lessP] using hb
   have hl0 := hl.1
   have hs := set_i (newH d.length) (HG.new _).hi c.t c.t.toNat (gt0 d c.f.toNat + c.c) (by omega) (by simp [newH]; omega) (by simp [newH])
   have e1 : stD g.es d.length d c old = d := by unfold stD; rw [if_pos hl]
   have e2 : stH g.es d.length d c old = setH (newH d.length) c.t.toNat (gt0 d c.f.toNat + c.c) := by unfold stH; rw [if_pos hl]
   rw [e1, e2]
   refine nK2 ?_
   refine zb ?_
   refine za ?_
   refine zx ?_
   refine zj ?_
   refine za ?_
   refine zx ?_
   refine zj ?_
   refine zbc ?_
   refine Run.eff (dd := some 78) rfl rfl (op_call (n := 4) (n' := 5) [1, 2, 3, 4] (fun _ => hs) rfl (Opd.func _) (oS (oT rfl) (oS (oT rfl) (oS (oT rfl) Opds.nil))) rfl rfl (Lent.of rfl rfl (by exact ⟨⟨rfl, rfl, rfl, tL⟩, ⟨rfl, rfl, rfl, trivial⟩, ⟨rfl, rfl, rfl, trivial⟩, ⟨rfl, rfl, rfl, trivial⟩, trivial⟩) rfl) rfl rfl rfl rfl rfl) ?_
   refine zc ?_
   refine nK2 ?_
   refine Next.weak [0, 1, 5, 3, 4] [] (by rfl) (keepsN hC _ rfl) wG wR wN rel_intro
  have hl : ¬ lessP d c := by simpa [lessP] using hb
  refine nK2 ?_
  refine zb ?_
  refine za ?_
  refine zby ?_
  refine za ?_
  refine zf ?_
  refine zf ?_
  refine zbs ?_
  refine zf ?_
  refine zbq ?_
  refine zw ?_
  refine rgZ 89 rfl rfl tG (op_idx_fz c.t.toNat rfl (oO rfl tO) (oO rfl tO) (by intro _; exact ⟨by omega, hrt⟩)) ?_
  refine zw ?_
  refine zbo ?_
  refine zt ?_
  refine za ?_
  refine zbq ?_
  refine zw ?_
  refine zcc ?_
  refine zbp ?_
  refine zbq ?_
  refine zw ?_
  refine zf ?_
  refine zda ?_
  refine zcd ?_
  refine zt ?_
  refine zd ?_
  refine zc ?_
  refine nK2 ?_
  refine n_cond _ rfl (fun hb => ?_) (fun hb => ?_)
  ·have hm : moreP d c old := by simpa [moreP] using hb
   obtain ⟨o1, o2⟩ := lost_ok har R vg0 vg1 rfl h ⟨by omega, hct.1⟩ (by omega) (fun e => hfar (.inr e)) hm
   have hlo := hlost ((d.length + 2) * (d.length + 2)) (dp_of har vg0 vg1 rfl h) (fun v hv => (hbd v hv).2) (by omega) o1 (lostM_start o1)
   have hct2 : ((c.t.toNat : Nat) : Int) = c.t := by omega
   rw [hct2] at hlo
   have e1 : stD g.es d.length d c old = negL d (lostL g.es d.length d c.t.toNat) := by unfold stD; rw [if_neg hl, if_pos hm]
   have e2 : stH g.es d.length d c old = (lostL g.es d.length d c.t.toNat).foldl (qV g.es (negL d (lostL g.es d.length d c.t.toNat))) (newH d.length) := by unfold stH; rw [if_neg hl, if_pos hm]
   rw [e1, e2]
   change RT.Pure _ _ _ (VI (lostL g.es d.length d c.t.toNat)) at hlo
   clear e1 e2 hset5 hset5' hSJ hend hok hlost
   generalize lostL g.es d.length d c.t.toNat = L at *
   obtain ⟨ol1, ol2, ol3⟩ := o2
   refine nK2 ?_
   refine zb ?_
   refine zbf ?_
   refine rpZ 105 rfl (op_call_pure (fun _ => hinto) rfl (Opd.func _) (oS (oT rfl) Opds.nil)) ?_
   refine zd ?_
   refine zc ?_
   refine nK2 ?_
   refine zb ?_
   refine zbf ?_
   refine za ?_
   refine za ?_
   refine zx ?_
   refine zj ?_
   refine rpZ 111 rfl (op_call_pure (fun _ => hlo) rfl (Opd.func _) (oS (oT rfl) (oS (oT rfl) (oS (oT rfl) (oS (oT rfl) Opds.nil))))) ?_
   refine zd ?_
   refine zc ?_
   refine nK2 ?_
   refine zb ?_
   refine za ?_
   refine zo ?_
   refine zbb ?_
   refine zc ?_
   refine nK2 ?_
   refine Next.weak [0, 1, 2, 3, 4] [] (by rfl) (keepsN hC _ rfl) (G' := [(5, .fz (.cellp (encG g))), (11, .sl 0 1 0 d.length), (12, .ptr 1 3 0 0), (14, .fz (.vals 1 (fzL 3 (rowsN g.es d.length)))), (15, .fz (VI L)), (112, .fz (VI L)), (113, IV .i64 L.length), (114, IV .i64 0)]) (H' := HDS d (newH d.length)) wG wR wN ?_
   have hLn : ∀ x ∈ L, 0 ≤ x ∧ x < d.length := fun x hx => ⟨(ol2 x hx).1, (ol2 x hx).2.1⟩
   refine nK2 ?_
   refine n_loop (ι := Nat) (fun j => ([(5, .fz (.cellp (encG g))), (11, .sl 0 1 0 d.length), (12, .ptr 1 3 0 0), (14, .fz (.vals 1 (fzL 3 (rowsN g.es d.length)))), (15, .fz (VI L)), (112, .fz (VI L)), (113, IV .i64 L.length), (114, IV .i64 j)], HDS (negL d (L.take j)) (newH d.length), 5)) (fun j => j ≤ L.length) (fun j => L.length - j) 0 (Nat.zero_le _) ?_ ?_
   ·refine Next.weak [0, 1, 2, 3, 4] [] (by rfl) (keepsN hC _ rfl) wG wR wN rel_intro
   intro j hj K hK
   try dsimp only at hj hK ⊢
   refine nK2 ?_
   refine zb ?_
   refine zp ?_
   refine zc ?_
   refine nK2 ?_
   refine n_cond _ rfl (fun hb => ?_) (fun hb => ?_)
   ·have hlt : j < L.length := by have := of_decide_eq_true hb; omega
    have hr1 := row_at' encN L j hlt
    have hLj := hLn _ (List.getElem_mem hlt)
    have hK1 := hK (j + 1) (by omega) (by omega)
    rw [← negL_step d hlt] at hK1
    have hnl := negL_len (L.take j) d
    generalize negL d (L.take j) = dn at *
    generalize L[j] = x at *
    have hrx := row_of encN dn x.toNat 0 (by omega)
    refine nK2 ?_
    refine zb ?_
    refine zz ?_
    refine zj ?_
    refine zd ?_
    refine zc ?_
    refine nK2 ?_
    refine zb ?_
    refine za ?_
    refine za ?_
    refine rpZ 120 rfl (op_idx_sl0 x.toNat rfl (oT rfl) (oT rfl) (by intro _; omega)) ?_
    refine Run.eff (dd := none) rfl rfl (op_store_flat rfl (oT rfl) oC tC rfl rfl hrx tS) ?_
    refine zc ?_
    refine nK2 ?_
    refine zb ?_
    refine zl ?_
    refine za ?_
    refine zc ?_
    refine nK2 ?_
    refine Next.weak [0, 1, 2, 3, 4] [] (by rfl) (keepsN hC _ rfl) wG (by exact ⟨ent_same rfl rfl (flEq rfl (by rw [List.map_set]; rfl)) trivial, ⟨wS, ⟨wS, ⟨wS, ⟨wS, trivial⟩⟩⟩⟩⟩) wN hK1
   have hje : j = L.length := by have := of_decide_eq_false hb; omega
   subst hje
   rw [List.take_length]
   have hnl := negL_len L d
   have hdnb : ∀ v, v < d.length → -1 ≤ gt0 (negL d L) v ∧ gt0 (negL d L) v ≤ 8388480 := fun v hv => by
    rw [negL_get L d rfl hLn v]
    have := hbd v hv
    split <;> omega
   have hQ0 := QJ.start g.es d.length (negL d L) L hLn
   generalize hQR : L.foldl (qV g.es (negL d L)) (newH d.length) = QR
   generalize negL d L = dn at *
   refine nK2 ?_
   refine zb ?_
   refine za ?_
   refine zo ?_
   refine zbb ?_
   refine zc ?_
   refine nK2 ?_
   refine n_loop (ι := Nat × Hq) (fun s => ([(5, .fz (.cellp (encG g))), (11, .sl 0 1 0 d.length), (12, .ptr 1 3 0 0), (14, .fz (.vals 1 (fzL 3 (rowsN g.es d.length)))), (122, .fz (VI L)), (123, IV .i64 L.length), (124, IV .i64 s.1)], HDS dn s.2, 5)) (fun s => s.1 ≤ L.length ∧ QJ g.es d.length dn L s.2 [] (L.drop s.1) ∧ (L.drop s.1).foldl (qV g.es dn) s.2 = QR) (fun s => L.length - s.1) (0, newH d.length) ⟨Nat.zero_le _, hQ0, hQR⟩ ?_ ?_
   ·refine Next.weak [0, 1, 2, 3, 4] [] (by rfl) (keepsN hC _ rfl) wG wR wN rel_intro
   intro ⟨j, h2⟩ ⟨hj, hJ2, hR2⟩ K2 hK2
   try dsimp only at hj hJ2 hR2 hK2 ⊢
   refine nK2 ?_
   refine zb ?_
   refine zp ?_
   refine zc ?_
   refine nK2 ?_
   refine n_cond _ rfl (fun hb => ?_) (fun hb => ?_)
   ·have hlt : j < L.length := by have := of_decide_eq_true hb; omega
    have hr1 := row_at' encN L j hlt
    have hLj := hLn _ (List.getElem_mem hlt)
    have hxm := List.getElem_mem hlt
    rw [List.drop_eq_getElem_cons hlt] at hJ2 hR2
    rw [List.foldl_cons] at hR2
    have hK3 := fun h3 hh hh2 => hK2 (j + 1, h3) ⟨by dsimp only; omega, hh, hh2⟩ (by dsimp only; omega)
    dsimp only at hK3
    generalize L[j] = x at *
    have hJn := (hJ2.node hLj hxm).1
    have hex : ((x.toNat : Nat) : Int) = x := by omega
    have hrE := fzL_get (sz := 3) (rowsN_get g.es (n := d.length) (v := x.toNat) (by omega))
    have hRl := inE_len g.es x.toNat
    have hRin : ∀ e ∈ inE g.es x.toNat, e ∈ g.es ∧ e.t = (x.toNat : Int) := fun e he => by simpa [inE] using he
    unfold qV at hR2
    generalize inE g.es x.toNat = Rw at *
    refine nK2 ?_
    refine zb ?_
    refine zz ?_
    refine zj ?_
    refine zd ?_
    refine zc ?_
    refine nK2 ?_
    refine zb ?_
    refine za ?_
    refine za ?_
    refine rpZ 130 rfl (op_idx_fz x.toNat rfl (oT rfl) (oT rfl) (by intro _; exact ⟨by omega, hrE⟩)) ?_
    refine zj ?_
    refine zo ?_
    refine zbb ?_
    refine zc ?_
    refine nK2 ?_
    refine n_loop (ι := Nat × Hq) (fun s => ([(5, .fz (.cellp (encG g))), (11, .sl 0 1 0 d.length), (12, .ptr 1 3 0 0), (14, .fz (.vals 1 (fzL 3 (rowsN g.es d.length)))), (122, .fz (VI L)), (123, IV .i64 L.length), (124, IV .i64 j), (19, IV .i64 x), (131, .fz (VE Rw)), (132, IV .i64 Rw.length), (133, IV .i64 s.1)], HDS dn s.2, 5)) (fun s => s.1 ≤ Rw.length ∧ QJ g.es d.length dn L s.2 (Rw.drop s.1) (L.drop (j + 1)) ∧ (L.drop (j + 1)).foldl (qV g.es dn) ((Rw.drop s.1).foldl (qE dn x.toNat) s.2) = QR) (fun s => Rw.length - s.1) (0, h2) ⟨Nat.zero_le _, hJn, hR2⟩ ?_ ?_
    ·refine Next.weak [0, 1, 2, 3, 4] [] (by rfl) (keepsN hC _ rfl) wG wR wN rel_intro
    intro ⟨i, h4⟩ ⟨hi, hJ4, hR4⟩ K4 hK4
    try dsimp only at hi hJ4 hR4 hK4 ⊢
    refine nK2 ?_
    refine zb ?_
    refine zp ?_
    refine zc ?_
    refine nK2 ?_
    refine n_cond _ rfl (fun hb => ?_) (fun hb => ?_)
    ·have hlt2 : i < Rw.length := by have := of_decide_eq_true hb; omega
     have hr2 := row_at' encE Rw i hlt2
     obtain ⟨he, het⟩ := hRin _ (List.getElem_mem hlt2)
     rw [List.drop_eq_getElem_cons hlt2] at hJ4 hR4
     rw [List.foldl_cons] at hR4
     have hK5 := fun h3 hh hh2 => hK4 (i + 1, h3) ⟨by dsimp only; omega, hh, hh2⟩ (by dsimp only; omega)
     dsimp only at hK5
     generalize Rw[i] = e at *
     have hef := vg1.f e he
     have hec := vg1.c e he
     have hJo := hJ4.hg.hi
     have hJl := hJ4.hl
     have hJs := hJo.small
     have hkey := key_i h4 hJo.ok x x.toNat (by omega) (by omega)
     have hrf2 := row_of encN dn e.f.toNat 0 (by omega)
     have hgf : dn.getD e.f.toNat 0 = gt0 dn e.f.toNat := rfl
     rw [hgf] at hrf2
     have hbf2 := hdnb e.f.toNat (by omega)
     have hst := hJ4.step he (by rw [hex]; omega) (by omega) (by rw [hex]; exact hxm)
     have hset := set_i h4 hJo x x.toNat (gt0 dn e.f.toNat + e.c) (by omega) (by omega) (by omega)
     refine nK2 ?_
     refine zb ?_
     refine zz ?_
     refine zbf ?_
     refine zu ?_
     refine zr ?_
     refine zc ?_
     refine nK2 ?_
     refine zb ?_
     refine za ?_
     refine za ?_
     refine rlZ 140 rfl (op_call_read (n := 4) [1, 2, 3, 4] (fun _ => hkey) rfl (Opd.func _) (oS (oT rfl) (oS (oT rfl) Opds.nil)) rfl rfl (Lent.of rfl rfl (by exact ⟨⟨rfl, rfl, rfl, tL⟩, ⟨rfl, rfl, rfl, trivial⟩, ⟨rfl, rfl, rfl, trivial⟩, ⟨rfl, rfl, rfl, trivial⟩, trivial⟩) rfl) rfl) ?_
     refine za ?_
     refine zi ?_
     refine zi ?_
     refine zd ?_
     refine zd ?_
     refine zc ?_
     refine nK2 ?_
     refine s_draw mixed ?_
     refine za ?_
     refine zg ?_
     refine zh ?_
     refine rpZ 146 rfl (op_idx_sl0 e.f.toNat rfl (oT rfl) (oT rfl) (by intro _; omega)) ?_
     refine rlZ 147 rfl (op_load1_flat rfl (oT rfl) (by intro _; exact ⟨rfl, hrf2⟩) rfl) ?_
     refine zby ?_
     refine za ?_
     refine zf ?_
     refine zbl ?_
     refine zbp ?_
     refine zf ?_
     refine zn ?_
     refine zm ?_
     refine rgZ 156 rfl rfl tG (op_idx_sl0 e.f.toNat rfl (oO rfl tO) (oO rfl tO) (by intro _; omega)) ?_
     refine rkZ 157 rfl rfl tG (op_load1_flat rfl (oO rfl tO) (by intro _; exact ⟨rfl, hrf2⟩) rfl) ?_
     refine zn ?_
     refine zm ?_
     refine zbs ?_
     refine zf ?_
     refine zbk ?_
     refine zcd ?_
     refine zt ?_
     refine zs ?_
     refine nK2 ?_
     refine n_cond _ rfl (fun hb => ?_) (fun hb => ?_)
     ·have hc : 0 ≤ gt0 dn e.f.toNat ∧ (h4.place x.toNat < 0 ∨ gt0 dn e.f.toNat + e.c < h4.key x.toNat) := by
       simp only [Bool.and_eq_true, Bool.or_eq_true, Bool.not_eq_true', decide_eq_true_eq, decide_eq_false_iff_not] at hb
       refine ⟨hb.1, ?_⟩
       rcases hb.2 with h5 | h5
       ·exact .inl (by omega)
       by_cases h6 : 0 ≤ h4.place x.toNat
       ·rw [if_pos h6] at h5; exact .inr h5
       exact .inl (by omega)
      unfold qE at hst hR4
      rw [if_pos hc] at hst hR4
      refine nK2 ?_
      refine s_draw mixed ?_
      refine za ?_
      refine za ?_
      refine za ?_
      refine zg ?_
      refine zh ?_
      refine rpZ 170 rfl (op_idx_sl0 e.f.toNat rfl (oT rfl) (oT rfl) (by intro _; omega)) ?_
      refine rlZ 171 rfl (op_load1_flat rfl (oT rfl) (by intro _; exact ⟨rfl, hrf2⟩) rfl) ?_
      refine zg ?_
      refine zh ?_
      refine zbc ?_
      refine Run.effW (dd := some 175) rfl rfl (op_call (n := 4) (n' := 5) [1, 2, 3, 4] (fun _ => hset) rfl (Opd.func _) (oS (oT rfl) (oS (oT rfl) (oS (oT rfl) Opds.nil))) rfl rfl (Lent.of rfl rfl (by exact ⟨⟨rfl, rfl, rfl, tL⟩, ⟨rfl, rfl, rfl, trivial⟩, ⟨rfl, rfl, rfl, trivial⟩, ⟨rfl, rfl, rfl, trivial⟩, trivial⟩) rfl) rfl rfl rfl rfl rfl) (by first | exact ext_call | exact tE) ?_
      refine zs ?_
      refine nK2 ?_
      refine zb ?_
      refine zl ?_
      refine za ?_
      refine zc ?_
      refine nK2 ?_
      refine Next.weak [0, 1, 6, 3, 4] [] (by rfl) (keepsN hC _ rfl) wG wR wN (hK5 _ hst hR4)
     have hc : ¬ (0 ≤ gt0 dn e.f.toNat ∧ (h4.place x.toNat < 0 ∨ gt0 dn e.f.toNat + e.c < h4.key x.toNat)) := fun hc => by
      rw [Bool.eq_false_iff] at hb
      apply hb
      simp only [Bool.and_eq_true, Bool.or_eq_true, Bool.not_eq_true', decide_eq_true_eq, decide_eq_false_iff_not]
      refine ⟨hc.1, ?_⟩
      rcases hc.2 with h5 | h5
      ·exact .inl (by omega)
      by_cases h6 : 0 ≤ h4.place x.toNat
      ·rw [if_pos h6]; exact .inr h5
      exact .inl h6
     unfold qE at hst hR4
     rw [if_neg hc] at hst hR4
     refine nK2 ?_
     refine zb ?_
     refine zl ?_
     refine za ?_
     refine zc ?_
     refine nK2 ?_
     refine Next.weak [0, 1, 2, 3, 4] [] (by rfl) (keepsN hC _ rfl) wG wR wN (hK5 _ hst hR4)
    have hie : i = Rw.length := by have := of_decide_eq_false hb; omega
    rw [hie, List.drop_length] at hJ4 hR4
    refine nK2 ?_
    refine zb ?_
    refine zl ?_
    refine za ?_
    refine zc ?_
    refine nK2 ?_
    refine Next.weak [0, 1, 2, 3, 4] [] (by rfl) (keepsN hC _ rfl) wG wR wN (hK3 _ hJ4 hR4)
   have hje : j = L.length := by have := of_decide_eq_false hb; omega
   rw [hje, List.drop_length] at hR2
   rw [← show h2 = QR from hR2]
   refine nK2 ?_
   refine Next.weak [0, 1, 2, 3, 4] [] (by rfl) (keepsN hC _ rfl) wG wR wN rel_intro
  have hm : ¬ moreP d c old := by simpa [moreP] using hb
  have e1 : stD g.es d.length d c old = d := by unfold stD; rw [if_neg hl, if_neg hm]
  have e2 : stH g.es d.length d c old = newH d.length := by unfold stH; rw [if_neg hl, if_neg hm]
  rw [e1, e2]
  refine nK2 ?_
  refine Next.weak [0, 1, 2, 3, 4] [] (by rfl) (keepsN hC _ rfl) wG wR wN rel_intro
 have hpl := hSJ.hl
 have hdl := hSJ.dl
 generalize stD g.es d.length d c old = d2 at *
 generalize stH g.es d.length d c old = q2 at *
 generalize setF g.es (d.length + 1) d2 q2 = R2 at *
 refine nK2 ?_
 refine zb ?_
 refine zbf ?_
 refine za ?_
 refine za ?_
 refine Run.eff (dd := some 181) rfl rfl (op_call (n := 5) (n' := 6) [0, 1, 2, 3, 4] (fun _ => hset5) rfl (Opd.func _) (oS (oT rfl) (oS (oT rfl) (oS (oT rfl) Opds.nil))) rfl rfl (Lent.of rfl rfl (by exact ⟨⟨rfl, rfl, rfl, trivial⟩, ⟨rfl, rfl, rfl, tL⟩, ⟨rfl, rfl, rfl, trivial⟩, ⟨rfl, rfl, rfl, trivial⟩, ⟨rfl, rfl, rfl, trivial⟩, trivial⟩) rfl) rfl rfl rfl rfl rfl) ?_
 refine zc ?_
 refine nK2 ?_
 refine zb ?_
 refine za ?_
 refine zd ?_
 refine zc ?_
 refine nK2 ?_
 refine Next.weakS [] [10] (by rfl) (keeps0 hC _) (G' := [(10, .fz (VI D))]) (H' := []) ⟨⟨_, rfl, .inr ⟨_, rfl, .sl _ _ _ _ _ _ rfl rfl (take_all0 (by rw [List.length_map]; exact Dl)) (by rw [List.length_map]; omega)⟩⟩, trivial⟩ trivial rfl ?_
 exact n_out1 rfl (by rfl) rfl rfl
open Go Go.RT Go.Proofs Go.Pl
set_option maxRecDepth 20000
set_option maxHeartbeats 4000000
def encF {dn : Nat} (x : Fin dn) : List FV := [If .i64 (x.val : Int)]
abbrev OF {dn : Nat} (l : List (Fin dn)) : Option Ob := some (.flat 1 (l.map encF))
theorem swapR_c {dn : Nat} (P U M V R : List (Fin dn)) (cl : PV) (h : U.length = V.length) (hn : P.length + U.length + M.length + V.length + R.length ≤ 2000000) : Meets Tryz.prog 133 [.sl 0 1 0 (P.length + U.length + M.length + V.length + R.length), IV .i64 P.length, IV .i64 (P.length + U.length + M.length : Nat), IV .i64 U.length, cl] 1 [(0, OF (P ++ (U ++ (M ++ (V ++ R)))))] (.fz (.tup [])) [(0, OF (P ++ (V ++ (M ++ (U ++ R)))))] 1 := by
 rw [← swI_0, ← swI_n h]
 refine Meets.intro Tryz.func133 rfl (Nat.le_of_ble_eq_true rfl) fun C hC => ?_
 simp only [List.map, argEnv, Nat.reduceAdd]
 refine nK ?_
 refine zb ?_
 refine ze ?_
 refine zc ?_
 refine nK ?_
 refine n_loop (ι := Nat) (fun i => ([(0, .sl 0 1 0 (P.length + U.length + M.length + V.length + R.length)), (1, IV .i64 P.length), (2, IV .i64 (P.length + U.length + M.length : Nat)), (3, IV .i64 U.length), (10, IV .i64 i)], [(0, OF (swI P U M V R i))], 1)) (fun i => i ≤ U.length) (fun i => U.length - i) 0 (Nat.zero_le _) ?_ ?_
 ·refine Next.weak [0] [] (by rfl) (keepsN hC _ rfl) wG wR wN rel_intro
 intro i hi K hK
 try dsimp only at hi hK ⊢
 refine nK ?_
 refine zb ?_
 refine za ?_
 refine za ?_
 refine zp ?_
 refine zc ?_
 refine nK ?_
 refine n_cond _ rfl (fun hb => ?_) (fun hb => ?_)
 ·have hu : i < U.length := by have := of_decide_eq_true hb; omega
  have hv : i < V.length := by omega
  have ru : ((swI P U M V R i).map encF)[P.length + i]? = some (encF U[i]) := by rw [List.getElem?_map, swI_u hu hv]; rfl
  have rv : ((swI P U M V R i).map encF)[P.length + U.length + M.length + i]? = some (encF V[i]) := by rw [List.getElem?_map, swI_v hu hv]; rfl
  have hK1 := hK (i + 1) (by omega) (by omega)
  rw [← swI_step hu hv] at hK1
  have rv2 : ∀ x, (((swI P U M V R i).map encF).set (P.length + i) x)[P.length + U.length + M.length + i]? = some (encF V[i]) := fun x => by rw [List.getElem?_set_ne (by omega)]; exact rv
  generalize swI P U M V R i = L at *
  generalize U[i] = u at *
  generalize V[i] = v at *
  refine nK ?_
  refine s_draw mixed ?_
  refine za ?_
  refine za ?_
  refine za ?_
  refine zbc ?_
  refine za ?_
  refine za ?_
  refine za ?_
  refine zbc ?_
  refine za ?_
  refine za ?_
  refine za ?_
  refine zbc ?_
  refine rpZ 28 rfl (op_idx_sl0 (P.length + U.length + M.length + i) rfl (oT rfl) (oT rfl) (by intro _; constructor <;> omega)) ?_
  refine rlZ 29 rfl (op_load1_flat rfl (oT rfl) (by intro _; exact ⟨rfl, rv⟩) rfl) ?_
  refine za ?_
  refine za ?_
  refine za ?_
  refine zbc ?_
  refine rpZ 34 rfl (op_idx_sl0 (P.length + i) rfl (oT rfl) (oT rfl) (by intro _; constructor <;> omega)) ?_
  refine rlZ 35 rfl (op_load1_flat rfl (oT rfl) (by intro _; exact ⟨rfl, ru⟩) rfl) ?_
  refine rpZ 36 rfl (op_idx_sl0 (P.length + i) rfl (oT rfl) (oT rfl) (by intro _; constructor <;> omega)) ?_
  refine Run.effW (dd := none) rfl rfl (op_store_flat rfl (oT rfl) (oT rfl) tC rfl rfl ru tS) tE ?_
  refine rpZ 37 rfl (op_idx_sl0 (P.length + U.length + M.length + i) rfl (oT rfl) (oT rfl) (by intro _; constructor <;> omega)) ?_
  refine Run.effW (dd := none) rfl rfl (op_store_flat rfl (oT rfl) (oT rfl) tC rfl rfl (rv2 _) tS) tE ?_
  refine zs ?_
  refine nK ?_
  refine zb ?_
  refine za ?_
  refine zl ?_
  refine zd ?_
  refine zc ?_
  refine nK ?_
  refine Next.weak [0] [] (by rfl) (keepsN hC _ rfl) wG (by exact ⟨ent_same rfl rfl (flEq rfl (by rw [List.map_set, List.map_set] <;> rfl)) trivial, trivial⟩) wN hK1
 have hie : i = U.length := by have := of_decide_eq_false hb; omega
 subst hie
 refine nK ?_
 refine Next.weak [0] [] (by rfl) (keepsN hC _ rfl) (G' := []) (H' := [(0, OF (swI P U M V R U.length))]) trivial wR wN ?_
 exact n_out0 rfl
open Go Go.RT Go.Proofs Go.Pl
set_option maxRecDepth 20000
set_option maxHeartbeats 4000000
theorem wHSI2a {α : Prop} (h : α := by repeat (first | exact trivial | refine ⟨⟨_, rfl, .inl ⟨rfl, rfl⟩⟩, ?_⟩ | refine ⟨⟨_, rfl, .inl ⟨ivEq (by omega), rfl⟩⟩, ?_⟩)) : α := h
theorem swapR_i {dn : Nat} (P U M V R L T : List (Fin dn)) (cl : PV) (N : Nat) (a b n : Int) (h : U.length = V.length) (hN : N = P.length + U.length + M.length + V.length + R.length) (hn : N ≤ 2000000) (ha : a = P.length) (hb : b = (P.length + U.length + M.length : Nat)) (hc : n = U.length) (hL : L = P ++ (U ++ (M ++ (V ++ R)))) (hT : T = P ++ (V ++ (M ++ (U ++ R)))) :
  Meets Tryz.prog 133 [.sl 0 1 0 N, IV .i64 a, IV .i64 b, IV .i64 n, cl] 1 [(0, OF L)] (.fz (.tup [])) [(0, OF T)] 1 := by
 subst hN; subst ha; subst hb; subst hc; subst hL; subst hT
 exact swapR_c P U M V R cl h hn
theorem rotate_c {dn : Nat} (gf : Nat) (caps : List FV) (X U V Y : List (Fin dn)) (N : Nat) (hN : N = X.length + U.length + V.length + Y.length) (hn : N ≤ 2000000) (hu : 0 < U.length) (hv : 0 < V.length) : Meets Tryz.prog 118 [.sl 0 1 0 N, IV .i64 X.length, IV .i64 (X.length + U.length : Nat), IV .i64 (X.length + U.length + V.length : Nat), (PV.fz (.clo gf caps))] 1 [(0, OF (X ++ (U ++ (V ++ Y))))] (.fz (.tup [])) [(0, OF (X ++ (V ++ (U ++ Y))))] 1 := by
 generalize hm : X.length + U.length = m
 have hm2 : ((X.length + U.length + V.length : Nat) : Int) = ((m + V.length : Nat) : Int) := by omega
 generalize hT : X ++ (V ++ (U ++ Y)) = T
 refine Meets.intro Tryz.func118 rfl (Nat.le_of_ble_eq_true rfl) fun C hC => ?_
 simp only [List.map, argEnv, Nat.reduceAdd]
 refine nK ?_
 refine zb ?_
 refine za ?_
 refine za ?_
 refine zbw ?_
 refine zd ?_
 refine zc ?_
 refine nK ?_
 refine zb ?_
 refine za ?_
 refine za ?_
 refine zbw ?_
 refine zd ?_
 refine zc ?_
 refine nK ?_
 refine n_loop (ι := List (Fin dn) × List (Fin dn) × List (Fin dn) × List (Fin dn)) (fun s => ([(0, .sl 0 1 0 N), (2, IV .i64 m), (4, (PV.fz (.clo gf caps))), (10, IV .i64 s.2.1.length), (11, IV .i64 s.2.2.1.length)], [(0, OF (s.1 ++ (s.2.1 ++ (s.2.2.1 ++ s.2.2.2))))], 1)) (fun s => s.1 ++ (s.2.2.1 ++ (s.2.1 ++ s.2.2.2)) = T ∧ s.1.length + s.2.1.length = m ∧ 0 < s.2.1.length ∧ 0 < s.2.2.1.length ∧ N = s.1.length + s.2.1.length + s.2.2.1.length + s.2.2.2.length) (fun s => s.2.1.length + s.2.2.1.length) (X, U, V, Y) ⟨hT, hm, hu, hv, hN⟩ ?_ ?_
 ·refine Next.weak [0] [] (by rfl) (keepsN hC _ rfl) (by exact ⟨⟨_, rfl, .inl ⟨rfl, rfl⟩⟩, ⟨⟨_, rfl, .inl ⟨rfl, rfl⟩⟩, ⟨⟨_, rfl, .inl ⟨rfl, rfl⟩⟩, ⟨⟨_, rfl, .inl ⟨ivEq (by dsimp only; omega), rfl⟩⟩, ⟨⟨_, rfl, .inl ⟨ivEq (by dsimp only; omega), rfl⟩⟩, trivial⟩⟩⟩⟩⟩) wR wN rel_intro
 intro ⟨X, U, V, Y⟩ ⟨hT, hm, hu, hv, hN⟩ K hK
 dsimp only at hT hm hu hv hN hK ⊢
 refine nK ?_
 refine zb ?_
 refine za ?_
 refine za ?_
 refine zbg ?_
 refine zc ?_
 refine nK ?_
 refine n_cond _ rfl (fun hb => ?_) (fun hb => ?_)
 ·have hne : U.length ≠ V.length := by simp at hb; omega
  clear hb
  refine nK ?_
  refine zb ?_
  refine za ?_
  refine za ?_
  refine zcn ?_
  refine zc ?_
  refine nK ?_
  refine n_cond _ rfl (fun hb => ?_) (fun hb => ?_)
  ·have hlt : V.length < U.length := by have := of_decide_eq_true hb; omega
   have hK1 := hK (X ++ V, U.drop V.length, U.take V.length, Y) ⟨by dsimp only; rw [← hT]; simp only [List.append_assoc]; rw [← List.append_assoc (U.take V.length), List.take_append_drop], by simp; omega, by simp; omega, by simp; omega, by simp; omega⟩ (by simp; omega)
   dsimp only at hK1
   have e1 : (U.drop V.length).length = U.length - V.length := List.length_drop
   have e2 : (U.take V.length).length = V.length := by simp; omega
   rw [e1, e2] at hK1
   have hsw := swapR_i X (U.take V.length) (U.drop V.length) V Y (X ++ (U ++ (V ++ Y))) ((X ++ V) ++ (U.drop V.length ++ (U.take V.length ++ Y))) (PV.fz (.clo gf caps)) N (m - U.length) m V.length e2 (by rw [e1, e2]; omega) hn (by omega) (by rw [e1, e2]; omega) (by rw [e2]) (by rw [← List.append_assoc (U.take V.length), List.take_append_drop]) (by simp only [List.append_assoc])
   refine nK ?_
   refine zb ?_
   refine za ?_
   refine za ?_
   refine za ?_
   refine zbw ?_
   refine za ?_
   refine za ?_
   refine za ?_
   refine Run.eff (dd := some 31) rfl rfl (op_call (n := 1) (n' := 1) [0] (fun _ => hsw) rfl (Opd.func _) (oS (oT rfl) (oS (oT rfl) (oS (oT rfl) (oS (oT rfl) (oS (oT rfl) Opds.nil))))) rfl rfl (Lent.of rfl rfl (by exact ⟨⟨rfl, rfl, rfl, trivial⟩, trivial⟩) rfl) rfl rfl rfl rfl rfl) ?_
   refine zc ?_
   refine nK ?_
   refine zb ?_
   refine za ?_
   refine za ?_
   refine zbw ?_
   refine zd ?_
   refine zc ?_
   refine nK ?_
   refine Next.weak [0] [] (by rfl) (keepsN hC _ rfl) wHSI2a wR wN hK1
  have hlt : U.length < V.length := by have := of_decide_eq_false hb; omega
  have hK1 := hK (X, V.drop (V.length - U.length), V.take (V.length - U.length), U ++ Y) ⟨by dsimp only; rw [← hT, ← List.append_assoc (V.take _), List.take_append_drop], by simp; omega, by simp; omega, by simp; omega, by simp; omega⟩ (by simp; omega)
  dsimp only at hK1
  have e1 : (V.drop (V.length - U.length)).length = U.length := by simp; omega
  have e2 : (V.take (V.length - U.length)).length = V.length - U.length := by simp
  rw [e1, e2] at hK1
  have hsw := swapR_i X U (V.take (V.length - U.length)) (V.drop (V.length - U.length)) Y (X ++ (U ++ (V ++ Y))) (X ++ (V.drop (V.length - U.length) ++ (V.take (V.length - U.length) ++ (U ++ Y)))) (PV.fz (.clo gf caps)) N (m - U.length) (m + V.length - U.length) U.length e1.symm (by rw [e1, e2]; omega) hn (by omega) (by rw [e2]; omega) rfl (by rw [← List.append_assoc (V.take _), List.take_append_drop]) rfl
  refine nK ?_
  refine zb ?_
  refine za ?_
  refine za ?_
  refine za ?_
  refine zbw ?_
  refine za ?_
  refine za ?_
  refine zbc ?_
  refine za ?_
  refine zbw ?_
  refine za ?_
  refine za ?_
  refine Run.eff (dd := some 46) rfl rfl (op_call (n := 1) (n' := 1) [0] (fun _ => hsw) rfl (Opd.func _) (oS (oT rfl) (oS (oT rfl) (oS (oT rfl) (oS (oT rfl) (oS (oT rfl) Opds.nil))))) rfl rfl (Lent.of rfl rfl (by exact ⟨⟨rfl, rfl, rfl, trivial⟩, trivial⟩) rfl) rfl rfl rfl rfl rfl) ?_
  refine zc ?_
  refine nK ?_
  refine zb ?_
  refine za ?_
  refine za ?_
  refine zbw ?_
  refine zd ?_
  refine zc ?_
  refine nK ?_
  refine Next.weak [0] [] (by rfl) (keepsN hC _ rfl) wHSI2a wR wN hK1
 have heq : U.length = V.length := by simp at hb; omega
 have hsw := swapR_i X U [] V Y (X ++ (U ++ (V ++ Y))) T (PV.fz (.clo gf caps)) N (m - U.length) m U.length heq (by simp; omega) hn (by omega) (by simp; omega) rfl (by simp) (by rw [← hT]; simp)
 refine nK ?_
 refine zb ?_
 refine za ?_
 refine za ?_
 refine za ?_
 refine zbw ?_
 refine za ?_
 refine za ?_
 refine za ?_
 refine Run.eff (dd := some 57) rfl rfl (op_call (n := 1) (n' := 1) [0] (fun _ => hsw) rfl (Opd.func _) (oS (oT rfl) (oS (oT rfl) (oS (oT rfl) (oS (oT rfl) (oS (oT rfl) Opds.nil))))) rfl rfl (Lent.of rfl rfl (by exact ⟨⟨rfl, rfl, rfl, trivial⟩, trivial⟩) rfl) rfl rfl rfl rfl rfl) ?_
 refine zc ?_
 refine nK ?_
 refine Next.weak [0] [] (by rfl) (keepsN hC _ rfl) (G' := []) (H' := [(0, OF T)]) trivial wR wN ?_
 exact n_out0 rfl
open Go Go.RT Go.Proofs Go.Pl
set_option maxRecDepth 20000
set_option maxHeartbeats 4000000
theorem wHSI3a {α : Prop} (h : α := by repeat (first | exact trivial | refine ⟨wS, ?_⟩ | refine ⟨ent_same rfl rfl (rfEq rfl tU) tL, ?_⟩ | refine ⟨ent_same rfl rfl (flEq rfl (by first | (simp; done) | (simp; omega) | (simp [encF]; done) | simp [maxC, minC])) trivial, ?_⟩)) : α := h
theorem ins_c {dn : Nat} (gf : Nat) [FnB Tryz.prog gf] (caps : List FV) (c : (Fin dn) → (Fin dn) → Int) (o : SWk (ltS c)) (hp : ∀ x y, Pure Tryz.prog gf ([If .i64 (x.val : Int), If .i64 (y.val : Int)] ++ caps) (If .i64 (c x y)))
  (X M Y L T : List (Fin dn)) (N : Nat) (a b : Int) (hN : N = X.length + M.length + Y.length) (hn : N ≤ 2000000) (ha : a = X.length) (hb : b = (X.length + M.length : Nat)) (hL : L = X ++ (M ++ Y)) (hT : T = X ++ (srtS (ltS c) M ++ Y)) :
  Meets Tryz.prog 99 [.sl 0 1 0 N, IV .i64 a, IV .i64 b, (PV.fz (.clo gf caps))] 1 [(0, OF L)] (.fz (.tup [])) [(0, OF T)] 1 := by
 subst ha; subst hb; subst hL; subst hT
 refine Meets.intro Tryz.func99 rfl (Nat.le_of_ble_eq_true rfl) fun C hC => ?_
 simp only [List.map, argEnv, Nat.reduceAdd]
 refine nK ?_
 refine zb ?_
 refine za ?_
 refine zl ?_
 refine zd ?_
 refine zc ?_
 refine nK ?_
 refine n_loop (ι := Nat) (fun i => ([(0, .sl 0 1 0 N), (1, IV .i64 X.length), (2, IV .i64 (X.length + M.length : Nat)), (3, (PV.fz (.clo gf caps))), (8, IV .i64 (X.length + i : Nat))], [(0, OF (X ++ (srtS (ltS c) (M.take i) ++ (M.drop i ++ Y))))], 1)) (fun i => 1 ≤ i ∧ i ≤ max 1 M.length) (fun i => M.length - i) 1 ⟨Nat.le_refl _, Nat.le_max_left _ _⟩ ?_ ?_
 ·have e1 : srtS (ltS c) (M.take 1) ++ (M.drop 1 ++ Y) = M ++ Y := by
   cases M with
   | nil => simp [srtS]
   | cons m M => simp [srtS, mrg]
  dsimp only
  rw [e1]
  refine Next.weakS [0] [] (by rfl) (wK hC) wG wHSI3a rfl (rel_intro)
 intro i ⟨hi1, hi2⟩ K hK
 dsimp only at hK ⊢
 refine nK ?_
 refine zb ?_
 refine za ?_
 refine za ?_
 refine zp ?_
 refine zc ?_
 refine nK ?_
 refine n_cond _ rfl (fun hb => ?_) (fun hb => ?_)
 ·have hlt : i < M.length := by have := of_decide_eq_true hb; omega
  have hSl : (srtS (ltS c) (M.take i)).length = i := by rw [srtS_len]; simp; omega
  have hSs : Srt (ltS c) (srtS (ltS c) (M.take i)) := srtS_srt o _
  have hK1 := hK (i + 1) ⟨by omega, by omega⟩ (by omega)
  rw [List.take_succ_eq_append_getElem hlt, srtS_snoc] at hK1
  rw [List.drop_eq_getElem_cons hlt]
  generalize srtS (ltS c) (M.take i) = S at *
  generalize M[i] = x at *
  generalize M.drop (i + 1) = R0 at *
  have e0 : X ++ (S ++ (x :: R0 ++ Y)) = X ++ (S.take i ++ x :: (S.drop i ++ (R0 ++ Y))) := by
   rw [List.take_of_length_le (by omega), List.drop_eq_nil_of_le (by omega)]; rfl
  rw [e0]
  refine nK ?_
  refine zb ?_
  refine za ?_
  refine zd ?_
  refine zc ?_
  refine nK ?_
  refine n_loop (ι := Nat) (fun k => ([(0, .sl 0 1 0 N), (1, IV .i64 X.length), (2, IV .i64 (X.length + M.length : Nat)), (3, (PV.fz (.clo gf caps))), (8, IV .i64 (X.length + i : Nat)), (9, IV .i64 (X.length + k : Nat))], [(0, OF (X ++ (S.take k ++ x :: (S.drop k ++ (R0 ++ Y)))))], 1)) (fun k => k ≤ i ∧ (∀ h : k < S.length, ltS c x S[k] = true)) (fun k => k) i ⟨Nat.le_refl _, fun h => by omega⟩ ?_ ?_
  ·refine Next.weakS [0] [] (by rfl) (wK hC) wG wHSI3a rfl (rel_intro)
  intro k ⟨hk, hkk⟩ K2 hK2
  dsimp only at hK2 ⊢
  have hpi : k - 1 < S.length := by omega
  have ra : ((X ++ (S.take k ++ x :: (S.drop k ++ (R0 ++ Y)))).map encF)[X.length + k]? = some (encF x) := by rw [List.getElem?_map, ins_at (by omega)]; rfl
  have rp : 0 < k → ((X ++ (S.take k ++ x :: (S.drop k ++ (R0 ++ Y)))).map encF)[X.length + (k - 1)]? = some (encF S[k - 1]) := fun h => by rw [List.getElem?_map, ins_prev h (by omega)]; rfl
  have hK3 := fun h0 h1 h2 => hK2 (k - 1) ⟨h1, h2⟩ h0
  have hst := fun h : 0 < k => ins_step (S := S) (R := R0 ++ Y) (x := x) (X := X) h (by omega)
  have hone := one_right (y := x) o hSs (S := k) (by omega)
  generalize hq : S[k - 1] = q at *
  refine nK ?_
  refine s_draw mixed ?_
  refine za ?_
  refine za ?_
  refine zcn ?_
  refine za ?_
  refine zf ?_
  refine zf ?_
  refine zf ?_
  refine rgZ 25 rfl rfl tG (op_idx_sl0 (X.length + k) rfl (oO rfl tO) (oO rfl tO) (by intro _; constructor <;> omega)) ?_
  refine rkZ 26 rfl rfl tG (op_load1_flat rfl (oO rfl tO) (by intro _; exact ⟨rfl, ra⟩) rfl) ?_
  refine zf ?_
  refine zf ?_
  refine zcz ?_
  refine rgZ 30 rfl rfl tG (op_idx_sl0 (X.length + (k - 1)) rfl (oO rfl tO) (oO rfl tO) (by intro hg; simp at hg; constructor <;> omega)) ?_
  refine rkZ 31 rfl rfl tG (op_load1_flat rfl (oO rfl tO) (by intro hg; exact ⟨rfl, rp (by simp at hg; omega)⟩) rfl) ?_
  refine rgZ 32 rfl rfl tG (op_call_pureC (fun _ => hp x q) rfl (oO rfl tO) (oS (oO rfl tO) (oS (oO rfl tO) Opds.nil))) ?_
  refine zcc ?_
  refine zt ?_
  refine zs ?_
  refine nK ?_
  refine n_cond _ rfl (fun hb => ?_) (fun hb => ?_)
  ·have hb2 : 0 < k ∧ c x q < 0 := by simp at hb; exact ⟨by omega, hb.2⟩
   obtain ⟨hk0, hcx⟩ := hb2
   have rp' := rp hk0
   have rp2 : ∀ z, (((X ++ (S.take k ++ x :: (S.drop k ++ (R0 ++ Y)))).map encF).set (X.length + k) z)[X.length + (k - 1)]? = some (encF q) := fun z => by rw [List.getElem?_set_ne (by omega)]; exact rp'
   have hK4 := hK3 (by omega) (by omega) (fun h => by rw [hq]; exact decide_eq_true hcx)
   have hst' := hst hk0
   rw [← hst'] at hK4
   rw [hq] at hK4
   generalize X ++ (S.take k ++ x :: (S.drop k ++ (R0 ++ Y))) = W at *
   refine nK ?_
   refine s_draw mixed ?_
   refine za ?_
   refine za ?_
   refine za ?_
   refine za ?_
   refine zbx ?_
   refine za ?_
   refine za ?_
   refine zbx ?_
   refine rpZ 45 rfl (op_idx_sl0 (X.length + (k - 1)) rfl (oT rfl) (oT rfl) (by intro _; constructor <;> omega)) ?_
   refine rlZ 46 rfl (op_load1_flat rfl (oT rfl) (by intro _; exact ⟨rfl, rp'⟩) rfl) ?_
   refine za ?_
   refine za ?_
   refine rpZ 49 rfl (op_idx_sl0 (X.length + k) rfl (oT rfl) (oT rfl) (by intro _; constructor <;> omega)) ?_
   refine rlZ 50 rfl (op_load1_flat rfl (oT rfl) (by intro _; exact ⟨rfl, ra⟩) rfl) ?_
   refine rpZ 51 rfl (op_idx_sl0 (X.length + k) rfl (oT rfl) (oT rfl) (by intro _; constructor <;> omega)) ?_
   refine Run.effW (dd := none) rfl rfl (op_store_flat rfl (oT rfl) (oT rfl) tC rfl rfl ra tS) tE ?_
   refine rpZ 52 rfl (op_idx_sl0 (X.length + (k - 1)) rfl (oT rfl) (oT rfl) (by intro _; constructor <;> omega)) ?_
   refine Run.effW (dd := none) rfl rfl (op_store_flat rfl (oT rfl) (oT rfl) tC rfl rfl (rp2 _) tS) tE ?_
   refine zs ?_
   refine nK ?_
   refine zb ?_
   refine za ?_
   refine zbx ?_
   refine zd ?_
   refine zc ?_
   refine nK ?_
   refine Next.weak [0] [] (by rfl) (keepsN hC _ rfl) wG (by exact ⟨ent_same rfl rfl (flEq rfl (by rw [List.map_set, List.map_set] <;> rfl)) trivial, trivial⟩) wN hK4
  have hb2 : ¬ (0 < k ∧ c x q < 0) := by
   intro ⟨h1, h2⟩
   simp at hb; exact absurd h2 (by have := hb (by omega); omega)
  have e5 := hone (fun h => by
   have : ¬ c x q < 0 := fun h2 => hb2 ⟨h, h2⟩
   rw [hq]; exact decide_eq_false this) (fun h => hkk h)
  rw [e5] at hK1
  have e6 : X ++ ((S.take k ++ x :: S.drop k) ++ (R0 ++ Y)) = X ++ (S.take k ++ x :: (S.drop k ++ (R0 ++ Y))) := by simp
  rw [e6] at hK1
  refine nK ?_
  refine zb ?_
  refine za ?_
  refine zl ?_
  refine zd ?_
  refine zc ?_
  refine nK ?_
  refine Next.weakS [0] [] (by rfl) (wK hC) wG wHSI3a rfl (hK1)
 have hie : M.length ≤ i := by have := of_decide_eq_false hb; omega
 rw [List.take_of_length_le hie, List.drop_eq_nil_of_le hie]
 refine nK ?_
 refine Next.weak [0] [] (by rfl) (keepsN hC _ rfl) (G' := []) (H' := [(0, OF (X ++ (srtS (ltS c) M ++ Y)))]) trivial wR wN ?_
 exact n_out0 rfl
open Go Go.RT Go.Proofs Go.Pl
set_option maxRecDepth 20000
set_option maxHeartbeats 4000000
theorem wHSI4a {α : Prop} (h : α := by repeat (first | exact trivial | refine ⟨wS, ?_⟩ | refine ⟨ent_same rfl rfl (rfEq rfl tU) tL, ?_⟩ | refine ⟨ent_same rfl rfl (flEq rfl (by first | (simp; done) | (simp; omega) | (simp [encF]; done) | simp [maxC, minC])) trivial, ?_⟩)) : α := h
theorem rotate_i {dn : Nat} (gf : Nat) (caps : List FV) (X U V Y L T : List (Fin dn)) (N : Nat) (a m b : Int) (hN : N = X.length + U.length + V.length + Y.length) (hn : N ≤ 2000000) (hu : 0 < U.length) (hv : 0 < V.length) (ha : a = X.length) (hm : m = (X.length + U.length : Nat)) (hb : b = (X.length + U.length + V.length : Nat)) (hL : L = X ++ (U ++ (V ++ Y))) (hT : T = X ++ (V ++ (U ++ Y))) :
  Meets Tryz.prog 118 [.sl 0 1 0 N, IV .i64 a, IV .i64 m, IV .i64 b, (PV.fz (.clo gf caps))] 1 [(0, OF L)] (.fz (.tup [])) [(0, OF T)] 1 := by
 subst ha; subst hm; subst hb; subst hL; subst hT
 exact rotate_c gf caps X U V Y N hN hn hu hv
theorem sym_c {dn : Nat} (gf : Nat) [FnB Tryz.prog gf] (caps : List FV) (c : (Fin dn) → (Fin dn) → Int) (o : SWk (ltS c)) (hp : ∀ x y, Pure Tryz.prog gf ([If .i64 (x.val : Int), If .i64 (y.val : Int)] ++ caps) (If .i64 (c x y))) (N : Nat) (hn : N ≤ 2000000) :
  ∀ (kk : Nat) (X A B Y L T : List (Fin dn)) (a m b : Int), A.length + B.length ≤ kk → 0 < A.length → 0 < B.length → Srt (ltS c) A → Srt (ltS c) B → N = X.length + A.length + B.length + Y.length → a = X.length → m = (X.length + A.length : Nat) → b = (X.length + A.length + B.length : Nat) → L = X ++ (A ++ (B ++ Y)) → T = X ++ (mrg (ltS c) A B ++ Y) →
  Meets Tryz.prog 100 [.sl 0 1 0 N, IV .i64 a, IV .i64 m, IV .i64 b, (PV.fz (.clo gf caps))] 1 [(0, OF L)] (.fz (.tup [])) [(0, OF T)] 1 := by
 intro kk
 induction kk with
 | zero => intro X A B Y L T a m b h1 h2; omega
 | succ kk ih =>
 intro X A B Y L T a m b hk hA hB sA sB hN ha hm hb hL hT
 subst ha; subst hm; subst hb; subst hL; subst hT
 refine Meets.intro Tryz.func100 rfl (Nat.le_of_ble_eq_true rfl) fun C hC => ?_
 simp only [List.map, argEnv, Nat.reduceAdd]
 refine nK ?_
 refine zb ?_
 refine za ?_
 refine za ?_
 refine zbw ?_
 refine zci ?_
 refine zc ?_
 refine nK ?_
 refine n_cond _ rfl (fun hb => ?_) (fun hb => ?_)
 ·have hp1 : A.length = 1 := by have := of_decide_eq_true hb; omega
  obtain ⟨x, rfl⟩ := List.length_eq_one_iff.1 hp1
  clear ih hb hk hA
  simp only [List.length_singleton] at *
  have rx : (X ++ ([x] ++ (B ++ Y)))[X.length]? = some x := get_at_len
  have rb : ∀ h (hh : h < B.length), (X ++ ([x] ++ (B ++ Y)))[X.length + 1 + h]? = some B[h] := fun h hh => by
   rw [List.getElem?_append_right (by omega), List.getElem?_append_right (by simp; omega), List.getElem?_append_left (by simp; omega)]
   rw [show X.length + 1 + h - X.length - [x].length = h by simp; omega]
   exact List.getElem?_eq_getElem _
  refine nK ?_
  refine zb ?_
  refine za ?_
  refine zd ?_
  refine zc ?_
  refine nK ?_
  refine zb ?_
  refine za ?_
  refine zd ?_
  refine zc ?_
  refine nK ?_
  refine n_loop (ι := Nat × Nat) (fun s => ([(0, .sl 0 1 0 N), (1, IV .i64 X.length), (4, (PV.fz (.clo gf caps))), (10, IV .i64 (X.length + 1 + s.1 : Nat)), (11, IV .i64 (X.length + 1 + s.2 : Nat))], [(0, OF (X ++ ([x] ++ (B ++ Y))))], 1)) (fun s => s.1 ≤ s.2 ∧ s.2 ≤ B.length ∧ (∀ (h : 0 < s.1) (h2 : s.1 - 1 < B.length), ltS c B[s.1 - 1] x = true) ∧ (∀ h : s.2 < B.length, ltS c B[s.2] x = false)) (fun s => s.2 - s.1) (0, B.length) ⟨Nat.zero_le _, Nat.le_refl _, fun h => by simp at h, fun h => by simp at h⟩ ?_ ?_
  ·refine Next.weakS [0] [] (by rfl) (wK hC) wG wHSI4a rfl (rel_intro)
  intro ⟨i, j⟩ ⟨h1, h2, h3, h4⟩ K hK
  dsimp only at h1 h2 h3 h4 hK ⊢
  refine nK ?_
  refine zb ?_
  refine za ?_
  refine za ?_
  refine zp ?_
  refine zc ?_
  refine nK ?_
  refine n_cond _ rfl (fun hb => ?_) (fun hb => ?_)
  ·have hij : i < j := by have := of_decide_eq_true hb; omega
   have hh : (i + j) / 2 < B.length := by omega
   have hrb := rb _ hh
   have hra : ((X ++ ([x] ++ (B ++ Y))).map encF)[X.length]? = some (encF x) := by rw [List.getElem?_map, rx]; rfl
   have hrb : ((X ++ ([x] ++ (B ++ Y))).map encF)[X.length + 1 + (i + j) / 2]? = some (encF B[(i + j) / 2]) := by rw [List.getElem?_map, hrb]; rfl
   have hKa := fun (hq : ltS c B[(i + j) / 2] x = true) => hK ((i + j) / 2 + 1, j) ⟨by dsimp only; omega, h2, fun _ _ => hq, h4⟩ (by dsimp only; omega)
   have hKb := fun (hq : ltS c B[(i + j) / 2] x = false) => hK (i, (i + j) / 2) ⟨by dsimp only; omega, by dsimp only; omega, h3, fun _ => hq⟩ (by dsimp only; omega)
   generalize B[(i + j) / 2] = z at *
   dsimp only at hKa hKb
   refine nK ?_
   refine zb ?_
   refine za ?_
   refine za ?_
   refine zbc ?_
   refine zca ?_
   refine rpZ 38 rfl (op_shr (n := 1) rfl (oT rfl) oC (by intro _; simp only [IntKind.bits]; omega)) ?_
   refine zca ?_
   refine zd ?_
   refine zc ?_
   refine nK ?_
   refine s_draw mixed ?_
   refine za ?_
   refine za ?_
   refine za ?_
   refine rpZ 43 rfl (op_idx_sl0 (X.length + 1 + (i + j) / 2) rfl (oT rfl) (oT rfl) (by intro _; constructor <;> omega)) ?_
   refine rlZ 44 rfl (op_load1_flat rfl (oT rfl) (by intro _; exact ⟨rfl, hrb⟩) rfl) ?_
   refine za ?_
   refine za ?_
   refine rpZ 47 rfl (op_idx_sl0 X.length rfl (oT rfl) (oT rfl) (by intro _; constructor <;> omega)) ?_
   refine rlZ 48 rfl (op_load1_flat rfl (oT rfl) (by intro _; exact ⟨rfl, hra⟩) rfl) ?_
   refine rpZ 49 rfl (op_call_pureC (fun _ => hp z x) rfl (oT rfl) (oS (oT rfl) (oS (oT rfl) Opds.nil))) ?_
   refine zbn ?_
   refine zs ?_
   refine nK ?_
   refine n_cond _ rfl (fun hb => ?_) (fun hb => ?_)
   ·refine nK ?_
    refine zb ?_
    refine za ?_
    refine zl ?_
    refine zd ?_
    refine zc ?_
    refine nK ?_
    refine Next.weakS [0] [] (by rfl) (wK hC) wG wHSI4a rfl ((hKa hb))
   refine nK ?_
   refine zb ?_
   refine za ?_
   refine zd ?_
   refine zc ?_
   refine nK ?_
   refine Next.weakS [0] [] (by rfl) (wK hC) wG wHSI4a rfl ((hKb hb))
  have hij : i = j := by have := of_decide_eq_false hb; omega
  subst hij
  have ho1 := one_left o sB h2 (fun h => h3 h _) h4
  refine nK ?_
  refine zb ?_
  refine za ?_
  refine zd ?_
  refine zc ?_
  refine nK ?_
  refine n_loop (ι := Nat) (fun k => ([(0, .sl 0 1 0 N), (10, IV .i64 (X.length + 1 + i : Nat)), (13, IV .i64 (X.length + k : Nat))], [(0, OF (X ++ (B.take k ++ x :: (B.drop k ++ Y))))], 1)) (fun k => k ≤ i) (fun k => i - k) 0 (Nat.zero_le _) ?_ ?_
  ·refine Next.weakS [0] [] (by rfl) (wK hC) wG wHSI4a rfl (rel_intro)
  intro k hki K2 hK2
  dsimp only at hK2 ⊢
  refine nK ?_
  refine zb ?_
  refine za ?_
  refine za ?_
  refine zbx ?_
  refine zp ?_
  refine zc ?_
  refine nK ?_
  refine n_cond _ rfl (fun hb => ?_) (fun hb => ?_)
  ·have hk1 : k < i := by have := of_decide_eq_true hb; omega
   have hkB : k < B.length := by omega
   have ra : ((X ++ (B.take k ++ x :: (B.drop k ++ Y))).map encF)[X.length + k]? = some (encF x) := by rw [List.getElem?_map, ins_at (by omega)]; rfl
   have rn : ((X ++ (B.take k ++ x :: (B.drop k ++ Y))).map encF)[X.length + (k + 1)]? = some (encF B[k]) := by rw [List.getElem?_map, ins_next hkB]; rfl
   have rn2 : ∀ z, (((X ++ (B.take k ++ x :: (B.drop k ++ Y))).map encF).set (X.length + k) z)[X.length + (k + 1)]? = some (encF B[k]) := fun z => by rw [List.getElem?_set_ne (by omega)]; exact rn
   have hK3 := hK2 (k + 1) hk1 (by omega)
   rw [← ins_fwd hkB] at hK3
   generalize X ++ (B.take k ++ x :: (B.drop k ++ Y)) = W at *
   generalize B[k] = z at *
   refine nK ?_
   refine s_draw mixed ?_
   refine za ?_
   refine za ?_
   refine za ?_
   refine za ?_
   refine zl ?_
   refine za ?_
   refine za ?_
   refine zl ?_
   refine rpZ 69 rfl (op_idx_sl0 (X.length + (k + 1)) rfl (oT rfl) (oT rfl) (by intro _; constructor <;> omega)) ?_
   refine rlZ 70 rfl (op_load1_flat rfl (oT rfl) (by intro _; exact ⟨rfl, rn⟩) rfl) ?_
   refine za ?_
   refine za ?_
   refine rpZ 73 rfl (op_idx_sl0 (X.length + k) rfl (oT rfl) (oT rfl) (by intro _; constructor <;> omega)) ?_
   refine rlZ 74 rfl (op_load1_flat rfl (oT rfl) (by intro _; exact ⟨rfl, ra⟩) rfl) ?_
   refine rpZ 75 rfl (op_idx_sl0 (X.length + k) rfl (oT rfl) (oT rfl) (by intro _; constructor <;> omega)) ?_
   refine Run.effW (dd := none) rfl rfl (op_store_flat rfl (oT rfl) (oT rfl) tC rfl rfl ra tS) tE ?_
   refine rpZ 76 rfl (op_idx_sl0 (X.length + (k + 1)) rfl (oT rfl) (oT rfl) (by intro _; constructor <;> omega)) ?_
   refine Run.effW (dd := none) rfl rfl (op_store_flat rfl (oT rfl) (oT rfl) tC rfl rfl (rn2 _) tS) tE ?_
   refine zs ?_
   refine nK ?_
   refine zb ?_
   refine za ?_
   refine zl ?_
   refine zd ?_
   refine zc ?_
   refine nK ?_
   refine Next.weak [0] [] (by rfl) (keepsN hC _ rfl) wG (by exact ⟨ent_same rfl rfl (flEq rfl (by rw [List.map_set, List.map_set] <;> rfl)) trivial, trivial⟩) wN hK3
  have hk1 : k = i := by have := of_decide_eq_false hb; omega
  subst hk1
  rw [ho1]
  have e9 : X ++ (B.take k ++ x :: B.drop k ++ Y) = X ++ (B.take k ++ x :: (B.drop k ++ Y)) := by simp
  rw [e9]
  refine nK ?_
  refine Next.weak [0] [] (by rfl) (keepsN hC _ rfl) (G' := []) (H' := [(0, OF (X ++ (B.take k ++ x :: (B.drop k ++ Y))))]) trivial wR wN ?_
  exact n_out0 rfl
 have hp1 : A.length ≠ 1 := by simp at hb; omega
 clear hb
 refine nK ?_
 refine zb ?_
 refine za ?_
 refine za ?_
 refine zbw ?_
 refine zci ?_
 refine zc ?_
 refine nK ?_
 refine n_cond _ rfl (fun hb => ?_) (fun hb => ?_)
 ·have hq1 : B.length = 1 := by have := of_decide_eq_true hb; omega
  obtain ⟨y, rfl⟩ := List.length_eq_one_iff.1 hq1
  clear ih hb hk hB
  simp only [List.length_singleton] at *
  have ry : (X ++ (A ++ ([y] ++ Y)))[X.length + A.length]? = some y := by
   have := get_at_len (P := X ++ A) (R := Y) (u := y)
   simpa using this
  have rb : ∀ h (hh : h < A.length), (X ++ (A ++ ([y] ++ Y)))[X.length + h]? = some A[h] := fun h hh => by
   rw [List.getElem?_append_right (by omega), List.getElem?_append_left (by omega)]
   rw [show X.length + h - X.length = h by omega]
   exact List.getElem?_eq_getElem _
  refine nK ?_
  refine zb ?_
  refine za ?_
  refine zd ?_
  refine zc ?_
  refine nK ?_
  refine zb ?_
  refine za ?_
  refine zd ?_
  refine zc ?_
  refine nK ?_
  refine n_loop (ι := Nat × Nat) (fun s => ([(0, .sl 0 1 0 N), (2, IV .i64 (X.length + A.length : Nat)), (4, (PV.fz (.clo gf caps))), (14, IV .i64 (X.length + s.1 : Nat)), (15, IV .i64 (X.length + s.2 : Nat))], [(0, OF (X ++ (A ++ ([y] ++ Y))))], 1)) (fun s => s.1 ≤ s.2 ∧ s.2 ≤ A.length ∧ (∀ (h : 0 < s.1) (h2 : s.1 - 1 < A.length), ltS c y A[s.1 - 1] = false) ∧ (∀ h : s.2 < A.length, ltS c y A[s.2] = true)) (fun s => s.2 - s.1) (0, A.length) ⟨Nat.zero_le _, Nat.le_refl _, fun h => by simp at h, fun h => by simp at h⟩ ?_ ?_
  ·refine Next.weakS [0] [] (by rfl) (wK hC) wG wHSI4a rfl (rel_intro)
  intro ⟨i, j⟩ ⟨h1, h2, h3, h4⟩ K hK
  dsimp only at h1 h2 h3 h4 hK ⊢
  refine nK ?_
  refine zb ?_
  refine za ?_
  refine za ?_
  refine zp ?_
  refine zc ?_
  refine nK ?_
  refine n_cond _ rfl (fun hb => ?_) (fun hb => ?_)
  ·have hij : i < j := by have := of_decide_eq_true hb; omega
   have hh : (i + j) / 2 < A.length := by omega
   have hrb := rb _ hh
   have hra : ((X ++ (A ++ ([y] ++ Y))).map encF)[X.length + A.length]? = some (encF y) := by rw [List.getElem?_map, ry]; rfl
   have hrb : ((X ++ (A ++ ([y] ++ Y))).map encF)[X.length + (i + j) / 2]? = some (encF A[(i + j) / 2]) := by rw [List.getElem?_map, hrb]; rfl
   have hKa := fun (hq : ltS c y A[(i + j) / 2] = false) => hK ((i + j) / 2 + 1, j) ⟨by dsimp only; omega, h2, fun _ _ => hq, h4⟩ (by dsimp only; omega)
   have hKb := fun (hq : ltS c y A[(i + j) / 2] = true) => hK (i, (i + j) / 2) ⟨by dsimp only; omega, by dsimp only; omega, h3, fun _ => hq⟩ (by dsimp only; omega)
   generalize A[(i + j) / 2] = z at *
   dsimp only at hKa hKb
   refine nK ?_
   refine zb ?_
   refine za ?_
   refine za ?_
   refine zbc ?_
   refine zca ?_
   refine rpZ 90 rfl (op_shr (n := 1) rfl (oT rfl) oC (by intro _; simp only [IntKind.bits]; omega)) ?_
   refine zca ?_
   refine zd ?_
   refine zc ?_
   refine nK ?_
   refine s_draw mixed ?_
   refine za ?_
   refine za ?_
   refine za ?_
   refine rpZ 95 rfl (op_idx_sl0 (X.length + A.length) rfl (oT rfl) (oT rfl) (by intro _; constructor <;> omega)) ?_
   refine rlZ 96 rfl (op_load1_flat rfl (oT rfl) (by intro _; exact ⟨rfl, hra⟩) rfl) ?_
   refine za ?_
   refine za ?_
   refine rpZ 99 rfl (op_idx_sl0 (X.length + (i + j) / 2) rfl (oT rfl) (oT rfl) (by intro _; constructor <;> omega)) ?_
   refine rlZ 100 rfl (op_load1_flat rfl (oT rfl) (by intro _; exact ⟨rfl, hrb⟩) rfl) ?_
   refine rpZ 101 rfl (op_call_pureC (fun _ => hp y z) rfl (oT rfl) (oS (oT rfl) (oS (oT rfl) Opds.nil))) ?_
   refine zbn ?_
   refine zbj ?_
   refine zs ?_
   refine nK ?_
   refine n_cond _ rfl (fun hb => ?_) (fun hb => ?_)
   ·refine nK ?_
    refine zb ?_
    refine za ?_
    refine zl ?_
    refine zd ?_
    refine zc ?_
    refine nK ?_
    refine Next.weakS [0] [] (by rfl) (wK hC) wG wHSI4a rfl ((hKa (by simpa using hb)))
   refine nK ?_
   refine zb ?_
   refine za ?_
   refine zd ?_
   refine zc ?_
   refine nK ?_
   refine Next.weakS [0] [] (by rfl) (wK hC) wG wHSI4a rfl ((hKb (by simpa using hb)))
  have hij : i = j := by have := of_decide_eq_false hb; omega
  subst hij
  have ho1 := one_right o sA h2 (fun h => h3 h _) h4
  refine nK ?_
  refine zb ?_
  refine za ?_
  refine zd ?_
  refine zc ?_
  refine nK ?_
  refine n_loop (ι := Nat) (fun k => ([(0, .sl 0 1 0 N), (14, IV .i64 (X.length + i : Nat)), (17, IV .i64 (X.length + k : Nat))], [(0, OF (X ++ (A.take k ++ y :: (A.drop k ++ Y))))], 1)) (fun k => i ≤ k ∧ k ≤ A.length) (fun k => k) A.length ⟨h2, Nat.le_refl _⟩ ?_ ?_
  ·have e8 : X ++ (A.take A.length ++ y :: (A.drop A.length ++ Y)) = X ++ (A ++ ([y] ++ Y)) := by simp
   dsimp only
   rw [e8]
   refine Next.weakS [0] [] (by rfl) (wK hC) wG wHSI4a rfl (rel_intro)
  intro k ⟨hki, hkA⟩ K2 hK2
  dsimp only at hK2 ⊢
  refine nK ?_
  refine zb ?_
  refine za ?_
  refine za ?_
  refine zcn ?_
  refine zc ?_
  refine nK ?_
  refine n_cond _ rfl (fun hb => ?_) (fun hb => ?_)
  ·have hk1 : i < k := by have := of_decide_eq_true hb; omega
   have ra : ((X ++ (A.take k ++ y :: (A.drop k ++ Y))).map encF)[X.length + k]? = some (encF y) := by rw [List.getElem?_map, ins_at (by omega)]; rfl
   have hkp : k - 1 < A.length := by omega
   have rp : ((X ++ (A.take k ++ y :: (A.drop k ++ Y))).map encF)[X.length + (k - 1)]? = some (encF A[k - 1]) := by rw [List.getElem?_map, ins_prev (by omega) (by omega)]; rfl
   have rp2 : ∀ z, (((X ++ (A.take k ++ y :: (A.drop k ++ Y))).map encF).set (X.length + k) z)[X.length + (k - 1)]? = some (encF A[k - 1]) := fun z => by rw [List.getElem?_set_ne (by omega)]; exact rp
   have hK3 := hK2 (k - 1) ⟨by omega, by omega⟩ (by omega)
   rw [← ins_step (by omega) hkA] at hK3
   generalize X ++ (A.take k ++ y :: (A.drop k ++ Y)) = W at *
   generalize A[k - 1] = z at *
   refine nK ?_
   refine s_draw mixed ?_
   refine za ?_
   refine za ?_
   refine za ?_
   refine za ?_
   refine zbx ?_
   refine za ?_
   refine za ?_
   refine zbx ?_
   refine rpZ 121 rfl (op_idx_sl0 (X.length + (k - 1)) rfl (oT rfl) (oT rfl) (by intro _; constructor <;> omega)) ?_
   refine rlZ 122 rfl (op_load1_flat rfl (oT rfl) (by intro _; exact ⟨rfl, rp⟩) rfl) ?_
   refine za ?_
   refine za ?_
   refine rpZ 125 rfl (op_idx_sl0 (X.length + k) rfl (oT rfl) (oT rfl) (by intro _; constructor <;> omega)) ?_
   refine rlZ 126 rfl (op_load1_flat rfl (oT rfl) (by intro _; exact ⟨rfl, ra⟩) rfl) ?_
   refine rpZ 127 rfl (op_idx_sl0 (X.length + k) rfl (oT rfl) (oT rfl) (by intro _; constructor <;> omega)) ?_
   refine Run.effW (dd := none) rfl rfl (op_store_flat rfl (oT rfl) (oT rfl) tC rfl rfl ra tS) tE ?_
   refine rpZ 128 rfl (op_idx_sl0 (X.length + (k - 1)) rfl (oT rfl) (oT rfl) (by intro _; constructor <;> omega)) ?_
   refine Run.effW (dd := none) rfl rfl (op_store_flat rfl (oT rfl) (oT rfl) tC rfl rfl (rp2 _) tS) tE ?_
   refine zs ?_
   refine nK ?_
   refine zb ?_
   refine za ?_
   refine zbx ?_
   refine zd ?_
   refine zc ?_
   refine nK ?_
   refine Next.weak [0] [] (by rfl) (keepsN hC _ rfl) wG (by exact ⟨ent_same rfl rfl (flEq rfl (by rw [List.map_set, List.map_set] <;> rfl)) trivial, trivial⟩) wN hK3
  have hk1 : k = i := by have := of_decide_eq_false hb; omega
  subst hk1
  rw [ho1]
  have e9 : X ++ (A.take k ++ y :: A.drop k ++ Y) = X ++ (A.take k ++ y :: (A.drop k ++ Y)) := by simp
  rw [e9]
  refine nK ?_
  refine Next.weak [0] [] (by rfl) (keepsN hC _ rfl) (G' := []) (H' := [(0, OF (X ++ (A.take k ++ y :: (A.drop k ++ Y))))]) trivial wR wN ?_
  exact n_out0 rfl
 have hq1 : B.length ≠ 1 := by simp at hb; omega
 clear hb
 generalize hh : (A.length + B.length) / 2 = h
 refine nK ?_
 refine zb ?_
 refine za ?_
 refine za ?_
 refine zbc ?_
 refine zca ?_
 refine rpZ 133 rfl (op_shr (n := 1) rfl (oT rfl) oC (by intro _; simp only [IntKind.bits]; omega)) ?_
 refine zca ?_
 refine zd ?_
 refine zc ?_
 refine nK ?_
 refine zb ?_
 refine za ?_
 refine za ?_
 refine zbc ?_
 refine zd ?_
 refine zc ?_
 refine nK ?_
 refine zb ?_
 refine ze ?_
 refine ze ?_
 refine zc ?_
 refine nK ?_
 refine zb ?_
 refine za ?_
 refine za ?_
 refine zcn ?_
 refine zc ?_
 refine nK ?_
 have hsr : ∃ s0 r0 : Nat, s0 ≤ r0 ∧ r0 ≤ A.length ∧ r0 ≤ h ∧ h ≤ s0 + B.length ∧ (s0 = 0 ∨ s0 + B.length = h) ∧ (r0 = h ∨ r0 = A.length) ∧ (h < A.length → s0 + B.length = h ∧ r0 = h) ∧ (A.length ≤ h → s0 = 0 ∧ r0 = A.length) := by
  by_cases h1 : h < A.length
  ·exact ⟨h - B.length, h, by omega, by omega, by omega, by omega, by omega, by omega, by omega, by omega⟩
  exact ⟨0, A.length, by omega, by omega, by omega, by omega, by omega, by omega, by omega, by omega⟩
 obtain ⟨s0, r0, i1, i2, i3, i4, i5, i6, i7, i8⟩ := hsr
 refine n_join [(0, .sl 0 1 0 N), (1, IV .i64 X.length), (2, IV .i64 (X.length + A.length : Nat)), (3, IV .i64 (X.length + A.length + B.length : Nat)), (4, (PV.fz (.clo gf caps))), (18, IV .i64 (X.length + h : Nat)), (19, IV .i64 (X.length + h + (X.length + A.length) : Nat)), (20, IV .i64 (X.length + s0 : Nat)), (21, IV .i64 (X.length + r0 : Nat))] [(0, OF (X ++ (A ++ (B ++ Y))))] 1 ?_ ?_
 ·refine nK ?_
  refine n_cond _ rfl (fun hb => ?_) (fun hb => ?_)
  ·have h1 : h < A.length := by have := of_decide_eq_true hb; omega
   refine nK ?_
   refine zb ?_
   refine za ?_
   refine za ?_
   refine zbw ?_
   refine zd ?_
   refine zc ?_
   refine nK ?_
   refine zb ?_
   refine za ?_
   refine zd ?_
   refine zc ?_
   refine nK ?_
   refine Next.weakS [0] [] (by rfl) (wK hC) wG wHSI4a rfl (rel_intro)
  have h1 : A.length ≤ h := by have := of_decide_eq_false hb; omega
  refine nK ?_
  refine zb ?_
  refine za ?_
  refine zd ?_
  refine zc ?_
  refine nK ?_
  refine zb ?_
  refine za ?_
  refine zd ?_
  refine zc ?_
  refine nK ?_
  refine Next.weakS [0] [] (by rfl) (wK hC) wG wHSI4a rfl (rel_intro)
 refine nK ?_
 refine zb ?_
 refine za ?_
 refine zbx ?_
 refine zd ?_
 refine zc ?_
 refine nK ?_
 refine n_loop (ι := Nat × Nat) (fun s => ([(0, .sl 0 1 0 N), (1, IV .i64 X.length), (2, IV .i64 (X.length + A.length : Nat)), (3, IV .i64 (X.length + A.length + B.length : Nat)), (4, (PV.fz (.clo gf caps))), (18, IV .i64 (X.length + h : Nat)), (19, IV .i64 (X.length + h + (X.length + A.length) : Nat)), (20, IV .i64 (X.length + s.1 : Nat)), (21, IV .i64 (X.length + s.2 : Nat)), (22, IV .i64 (X.length + h + (X.length + A.length) - 1 : Nat))], [(0, OF (X ++ (A ++ (B ++ Y))))], 1)) (fun s => s0 ≤ s.1 ∧ s.1 ≤ s.2 ∧ s.2 ≤ r0 ∧ (∀ (_ : s0 < s.1) (h1 : h - s.1 < B.length) (h2 : s.1 - 1 < A.length), ltS c B[h - s.1] A[s.1 - 1] = false) ∧ (∀ (_ : s.2 < r0) (h1 : h - 1 - s.2 < B.length) (h2 : s.2 < A.length), ltS c B[h - 1 - s.2] A[s.2] = true)) (fun s => s.2 - s.1) (s0, r0) ⟨Nat.le_refl _, i1, Nat.le_refl _, fun h => by simp at h, fun h => by simp at h⟩ ?_ ?_
 ·refine Next.weakS [0] [] (by rfl) (wK hC) wG wHSI4a rfl (rel_intro)
 intro ⟨i, j⟩ ⟨h1, h2, h3, h4, h5⟩ K hK
 dsimp only at h1 h2 h3 h4 h5 hK ⊢
 refine nK ?_
 refine zb ?_
 refine za ?_
 refine za ?_
 refine zp ?_
 refine zc ?_
 refine nK ?_
 refine n_cond _ rfl (fun hb => ?_) (fun hb => ?_)
 ·have hij : i < j := by have := of_decide_eq_true hb; omega
  have hha : (i + j) / 2 < A.length := by omega
  have hhb : h - 1 - (i + j) / 2 < B.length := by omega
  have hra : ((X ++ (A ++ (B ++ Y))).map encF)[X.length + (i + j) / 2]? = some (encF A[(i + j) / 2]) := by
   rw [List.getElem?_map, List.getElem?_append_right (by omega), List.getElem?_append_left (by omega), show X.length + (i + j) / 2 - X.length = (i + j) / 2 by omega, List.getElem?_eq_getElem hha]; rfl
  have hrb : ((X ++ (A ++ (B ++ Y))).map encF)[X.length + A.length + (h - 1 - (i + j) / 2)]? = some (encF B[h - 1 - (i + j) / 2]) := by
   rw [List.getElem?_map, List.getElem?_append_right (by omega), List.getElem?_append_right (by omega), List.getElem?_append_left (by omega), show X.length + A.length + (h - 1 - (i + j) / 2) - X.length - A.length = h - 1 - (i + j) / 2 by omega, List.getElem?_eq_getElem hhb]; rfl
  have hKa := fun (hq : ltS c B[h - 1 - (i + j) / 2] A[(i + j) / 2] = false) => hK ((i + j) / 2 + 1, j) ⟨by dsimp only; omega, by dsimp only; omega, by dsimp only; omega, fun _ _ _ => by
   simp only [show h - ((i + j) / 2 + 1) = h - 1 - (i + j) / 2 by omega, Nat.add_sub_cancel]; exact hq, h5⟩ (by dsimp only; omega)
  have hKb := fun (hq : ltS c B[h - 1 - (i + j) / 2] A[(i + j) / 2] = true) => hK (i, (i + j) / 2) ⟨by dsimp only; omega, by dsimp only; omega, by dsimp only; omega, h4, fun _ _ _ => hq⟩ (by dsimp only; omega)
  generalize A[(i + j) / 2] = u at *
  generalize B[h - 1 - (i + j) / 2] = v at *
  dsimp only at hKa hKb
  refine nK ?_
  refine zb ?_
  refine za ?_
  refine za ?_
  refine zbc ?_
  refine zca ?_
  refine rpZ 156 rfl (op_shr (n := 1) rfl (oT rfl) oC (by intro _; simp only [IntKind.bits]; omega)) ?_
  refine zca ?_
  refine zd ?_
  refine zc ?_
  refine nK ?_
  refine s_draw mixed ?_
  refine za ?_
  refine za ?_
  refine za ?_
  refine za ?_
  refine zbw ?_
  refine rpZ 163 rfl (op_idx_sl0 (X.length + A.length + (h - 1 - (i + j) / 2)) rfl (oT rfl) (oT rfl) (by intro _; constructor <;> omega)) ?_
  refine rlZ 164 rfl (op_load1_flat rfl (oT rfl) (by intro _; exact ⟨rfl, hrb⟩) rfl) ?_
  refine za ?_
  refine za ?_
  refine rpZ 167 rfl (op_idx_sl0 (X.length + (i + j) / 2) rfl (oT rfl) (oT rfl) (by intro _; constructor <;> omega)) ?_
  refine rlZ 168 rfl (op_load1_flat rfl (oT rfl) (by intro _; exact ⟨rfl, hra⟩) rfl) ?_
  refine rpZ 169 rfl (op_call_pureC (fun _ => hp v u) rfl (oT rfl) (oS (oT rfl) (oS (oT rfl) Opds.nil))) ?_
  refine zbn ?_
  refine zbj ?_
  refine zs ?_
  refine nK ?_
  refine n_cond _ rfl (fun hb => ?_) (fun hb => ?_)
  ·refine nK ?_
   refine zb ?_
   refine za ?_
   refine zl ?_
   refine zd ?_
   refine zc ?_
   refine nK ?_
   refine Next.weakS [0] [] (by rfl) (wK hC) wG wHSI4a rfl ((hKa (by simpa using hb)))
  refine nK ?_
  refine zb ?_
  refine za ?_
  refine zd ?_
  refine zc ?_
  refine nK ?_
  refine Next.weakS [0] [] (by rfl) (wK hC) wG wHSI4a rfl ((hKb (by simpa using hb)))
 have hij : i = j := by have := of_decide_eq_false hb; omega
 subst hij
 have hT1 : h - i ≤ B.length := by omega
 have hS1 : i ≤ A.length := by omega
 have hcut := sym_cut o sA sB hS1 hT1 (fun k1 k2 => h4 (by omega) k2 (by omega)) (fun k1 k2 => by
  have := h5 (by omega) (by omega) k1
  simp only [show h - 1 - i = h - i - 1 by omega] at this; exact this)
 generalize hTt : h - i = t at *
 rw [hcut]
 have l1 : (A.take i).length = i := by simp; omega
 have l2 : (A.drop i).length = A.length - i := by simp
 have l3 : (B.take t).length = t := by simp; omega
 have l4 : (B.drop t).length = B.length - t := by simp
 have sA1 : Srt (ltS c) (A.take i) := List.Pairwise.sublist (List.take_sublist _ _) sA
 have sA2 : Srt (ltS c) (A.drop i) := List.Pairwise.sublist (List.drop_sublist _ _) sA
 have sB1 : Srt (ltS c) (B.take t) := List.Pairwise.sublist (List.take_sublist _ _) sB
 have sB2 : Srt (ltS c) (B.drop t) := List.Pairwise.sublist (List.drop_sublist _ _) sB
 have eA : A = A.take i ++ A.drop i := (List.take_append_drop i A).symm
 have eB : B = B.take t ++ B.drop t := (List.take_append_drop t B).symm
 have hD0 : X ++ (A ++ (B ++ Y)) = X ++ (A.take i ++ (A.drop i ++ (B.take t ++ (B.drop t ++ Y)))) := by
  rw [← List.append_assoc (A.take i), List.take_append_drop, ← List.append_assoc (B.take t), List.take_append_drop]
 rw [hD0]
 generalize A.take i = A1 at *
 generalize A.drop i = A2 at *
 generalize B.take t = B1 at *
 generalize B.drop t = B2 at *
 clear hcut hK h4 h5 hD0 sA sB
 refine nK ?_
 refine zb ?_
 refine za ?_
 refine za ?_
 refine zbw ?_
 refine zd ?_
 refine zc ?_
 refine nK ?_
 refine zb ?_
 refine za ?_
 refine za ?_
 refine zp ?_
 refine za ?_
 refine zf ?_
 refine zf ?_
 refine zbk ?_
 refine zt ?_
 refine zc ?_
 refine nK ?_
 refine n_join [(0, .sl 0 1 0 N), (1, IV .i64 X.length), (2, IV .i64 (X.length + A.length : Nat)), (3, IV .i64 (X.length + A.length + B.length : Nat)), (4, (PV.fz (.clo gf caps))), (18, IV .i64 (X.length + h : Nat)), (20, IV .i64 (X.length + i : Nat)), (24, IV .i64 (X.length + A.length + t : Nat))] [(0, OF (X ++ (A1 ++ (B1 ++ (A2 ++ (B2 ++ Y))))))] 1 ?_ ?_
 ·refine nK ?_
  refine n_cond _ rfl (fun hb => ?_) (fun hb => ?_)
  ·have hb1 : i < A.length ∧ 0 < t := by simp at hb; omega
   have hr := rotate_i gf caps (X ++ A1) A2 B1 (B2 ++ Y) (X ++ (A1 ++ (A2 ++ (B1 ++ (B2 ++ Y))))) (X ++ (A1 ++ (B1 ++ (A2 ++ (B2 ++ Y))))) N (X.length + i : Nat) (X.length + A.length : Nat) (((X.length + h + (X.length + A.length) : Nat) : Int) - ((X.length + i : Nat) : Int)) (by simp; omega) hn (by omega) (by omega) (by simp; omega) (by simp; omega) (by simp; omega) (by simp) (by simp)
   refine nK ?_
   refine zb ?_
   refine za ?_
   refine za ?_
   refine za ?_
   refine za ?_
   refine za ?_
   refine Run.eff (dd := some 191) rfl rfl (op_call (n := 1) (n' := 1) [0] (fun _ => hr) rfl (Opd.func _) (oS (oT rfl) (oS (oT rfl) (oS (oT rfl) (oS (oT rfl) (oS (oT rfl) Opds.nil))))) rfl rfl (Lent.of rfl rfl (by exact ⟨⟨rfl, rfl, rfl, trivial⟩, trivial⟩) rfl) rfl rfl rfl rfl rfl) ?_
   refine zc ?_
   refine nK ?_
   refine Next.weakS [0] [] (by rfl) (wK hC) wG wHSI4a rfl (rel_intro)
  have hb1 : ¬ (i < A.length ∧ 0 < t) := by simp at hb; omega
  have e1 : A1 ++ (A2 ++ (B1 ++ (B2 ++ Y))) = A1 ++ (B1 ++ (A2 ++ (B2 ++ Y))) := by
   by_cases h6 : A2 = []
   ·rw [h6]; simp
   have : B1 = [] := by
    have : A2.length ≠ 0 := fun h => h6 (List.length_eq_zero_iff.1 h)
    exact List.length_eq_zero_iff.1 (by omega)
   rw [this]; simp
  rw [e1]
  refine nK ?_
  refine Next.weakS [0] [] (by rfl) (wK hC) wG wHSI4a rfl (rel_intro)
 refine nK ?_
 refine zb ?_
 refine za ?_
 refine za ?_
 refine zp ?_
 refine za ?_
 refine zf ?_
 refine zf ?_
 refine zbk ?_
 refine zt ?_
 refine zc ?_
 refine nK ?_
 refine n_join [(0, .sl 0 1 0 N), (3, IV .i64 (X.length + A.length + B.length : Nat)), (4, (PV.fz (.clo gf caps))), (18, IV .i64 (X.length + h : Nat)), (24, IV .i64 (X.length + A.length + t : Nat))] [(0, OF (X ++ (mrg (ltS c) A1 B1 ++ (A2 ++ (B2 ++ Y)))))] 1 ?_ ?_
 ·refine nK ?_
  refine n_cond _ rfl (fun hb => ?_) (fun hb => ?_)
  ·have hb1 : 0 < i ∧ i < h := by simp at hb; omega
   have hr := ih X A1 B1 (A2 ++ (B2 ++ Y)) (X ++ (A1 ++ (B1 ++ (A2 ++ (B2 ++ Y))))) (X ++ (mrg (ltS c) A1 B1 ++ (A2 ++ (B2 ++ Y)))) X.length (X.length + i : Nat) (X.length + h : Nat) (by omega) (by omega) (by omega) sA1 sB1 (by simp; omega) rfl (by omega) (by omega) rfl rfl
   refine nK ?_
   refine zb ?_
   refine za ?_
   refine za ?_
   refine za ?_
   refine za ?_
   refine za ?_
   refine Run.eff (dd := some 205) rfl rfl (op_call (n := 1) (n' := 1) [0] (fun _ => hr) rfl (Opd.func _) (oS (oT rfl) (oS (oT rfl) (oS (oT rfl) (oS (oT rfl) (oS (oT rfl) Opds.nil))))) rfl rfl (Lent.of rfl rfl (by exact ⟨⟨rfl, rfl, rfl, trivial⟩, trivial⟩) rfl) rfl rfl rfl rfl rfl) ?_
   refine zc ?_
   refine nK ?_
   refine Next.weakS [0] [] (by rfl) (wK hC) wG wHSI4a rfl (rel_intro)
  have hb1 : ¬ (0 < i ∧ i < h) := by simp at hb; omega
  have e1 : A1 ++ (B1 ++ (A2 ++ (B2 ++ Y))) = mrg (ltS c) A1 B1 ++ (A2 ++ (B2 ++ Y)) := by
   by_cases h6 : A1 = []
   ·rw [h6, mrg_nil_left]; simp
   have : B1 = [] := by
    have : A1.length ≠ 0 := fun h => h6 (List.length_eq_zero_iff.1 h)
    exact List.length_eq_zero_iff.1 (by omega)
   rw [this, mrg_nil]; simp
  rw [e1]
  refine nK ?_
  refine Next.weakS [0] [] (by rfl) (wK hC) wG wHSI4a rfl (rel_intro)
 have l5 : (mrg (ltS c) A1 B1).length = h := by rw [mrg_len _ _ _ (Nat.le_refl _)]; omega
 generalize mrg (ltS c) A1 B1 = M1 at *
 refine nK ?_
 refine zb ?_
 refine za ?_
 refine za ?_
 refine zp ?_
 refine za ?_
 refine zf ?_
 refine zf ?_
 refine zbk ?_
 refine zt ?_
 refine zc ?_
 refine nK ?_
 refine n_cond _ rfl (fun hb => ?_) (fun hb => ?_)
 ·have hb1 : h < A.length + t ∧ t < B.length := by simp at hb; omega
  have hr := ih (X ++ M1) A2 B2 Y (X ++ (M1 ++ (A2 ++ (B2 ++ Y)))) (X ++ (M1 ++ mrg (ltS c) A2 B2 ++ Y)) (X.length + h : Nat) (X.length + A.length + t : Nat) (X.length + A.length + B.length : Nat) (by omega) (by omega) (by omega) sA2 sB2 (by simp; omega) (by simp; omega) (by simp; omega) (by simp; omega) (by simp) (by simp)
  refine nK ?_
  refine zb ?_
  refine za ?_
  refine za ?_
  refine za ?_
  refine za ?_
  refine za ?_
  refine Run.eff (dd := some 219) rfl rfl (op_call (n := 1) (n' := 1) [0] (fun _ => hr) rfl (Opd.func _) (oS (oT rfl) (oS (oT rfl) (oS (oT rfl) (oS (oT rfl) (oS (oT rfl) Opds.nil))))) rfl rfl (Lent.of rfl rfl (by exact ⟨⟨rfl, rfl, rfl, trivial⟩, trivial⟩) rfl) rfl rfl rfl rfl rfl) ?_
  refine zc ?_
  refine nK ?_
  refine Next.weak [0] [] (by rfl) (keepsN hC _ rfl) (G' := []) (H' := [(0, OF (X ++ (M1 ++ mrg (ltS c) A2 B2 ++ Y)))]) trivial wR wN ?_
  exact n_out0 rfl
 have hb1 : ¬ (h < A.length + t ∧ t < B.length) := by simp at hb; omega
 have e1 : X ++ (M1 ++ (A2 ++ (B2 ++ Y))) = X ++ (M1 ++ mrg (ltS c) A2 B2 ++ Y) := by
  by_cases h6 : A2 = []
  ·rw [h6, mrg_nil_left]; simp
  have : B2 = [] := by
   have : A2.length ≠ 0 := fun h => h6 (List.length_eq_zero_iff.1 h)
   exact List.length_eq_zero_iff.1 (by omega)
  rw [this, mrg_nil]; simp
 rw [e1]
 refine nK ?_
 refine Next.weak [0] [] (by rfl) (keepsN hC _ rfl) (G' := []) (H' := [(0, OF (X ++ (M1 ++ mrg (ltS c) A2 B2 ++ Y)))]) trivial wR wN ?_
 exact n_out0 rfl
open Go Go.RT Go.Proofs Go.Pl
set_option maxRecDepth 20000
set_option maxHeartbeats 4000000
theorem wHSI5a {α : Prop} (h : α := by repeat (first | exact trivial | refine ⟨wS, ?_⟩ | refine ⟨ent_same rfl rfl (rfEq rfl tU) tL, ?_⟩ | refine ⟨ent_same rfl rfl (flEq rfl (by first | (simp; done) | (simp; omega) | (simp [encF]; done) | simp [maxC, minC])) trivial, ?_⟩)) : α := h
theorem stable_c {dn : Nat} (gf : Nat) [FnB Tryz.prog gf] (caps : List FV) (c : (Fin dn) → (Fin dn) → Int) (o : SWk (ltS c)) (hp : ∀ x y, Pure Tryz.prog gf ([If .i64 (x.val : Int), If .i64 (y.val : Int)] ++ caps) (If .i64 (c x y))) (l : List (Fin dn)) (hn : l.length ≤ 2000000) :
  Meets Tryz.prog 86 [.sl 0 1 0 l.length, IV .i64 l.length, (PV.fz (.clo gf caps))] 1 [(0, OF l)] (.fz (.tup [])) [(0, OF (srtS (ltS c) l))] 1 := by
 generalize hN : l.length = N at *
 refine Meets.intro Tryz.func86 rfl (Nat.le_of_ble_eq_true rfl) fun C hC => ?_
 simp only [List.map, argEnv, Nat.reduceAdd]
 refine nK ?_
 refine zb ?_
 refine ze ?_
 refine zc ?_
 refine nK ?_
 refine zb ?_
 refine za ?_
 refine ze ?_
 refine zd ?_
 refine zc ?_
 refine nK ?_
 refine n_loop (ι := List (Fin dn) × List (Fin dn)) (fun s => ([(0, .sl 0 1 0 N), (1, IV .i64 N), (2, (PV.fz (.clo gf caps))), (6, IV .i64 20), (7, IV .i64 s.1.length), (8, IV .i64 (s.1.length + 20 : Nat))], [(0, OF (s.1 ++ s.2))], 1)) (fun s => s.1.length + s.2.length = N ∧ s.1 ++ bsL (ltS c) 20 s.2 = bsL (ltS c) 20 l) (fun s => s.2.length) ([], l) ⟨by simp [hN], rfl⟩ ?_ ?_
 ·refine Next.weakS [0] [] (by rfl) (wK hC) wG wHSI5a rfl (rel_intro)
 intro ⟨P, R⟩ ⟨h1, h2⟩ K hK
 dsimp only at h1 h2 hK ⊢
 refine nK ?_
 refine zb ?_
 refine za ?_
 refine za ?_
 refine rpZ 13 rfl (op_leq rfl (oT rfl) (oT rfl)) ?_
 refine zc ?_
 refine nK ?_
 refine n_cond _ rfl (fun hb => ?_) (fun hb => ?_)
 ·have h3 : 20 ≤ R.length := by have := of_decide_eq_true hb; omega
  have hr := ins_c gf caps c o hp P (R.take 20) (R.drop 20) (P ++ R) ((P ++ srtS (ltS c) (R.take 20)) ++ R.drop 20) N P.length (P.length + 20 : Nat) (by simp; omega) hn rfl (by simp; omega) (by simp) (by simp)
  have e2 : (srtS (ltS c) (R.take 20)).length = 20 := by rw [srtS_len]; simp; omega
  have hK1 := hK (P ++ srtS (ltS c) (R.take 20), R.drop 20) ⟨by simp [e2]; omega, by
   dsimp only
   rw [← h2, bsL_cut (l := R) (by omega) h3]; simp⟩ (by simp; omega)
  dsimp only at hK1
  rw [List.length_append, e2] at hK1
  refine nK ?_
  refine zb ?_
  refine za ?_
  refine za ?_
  refine za ?_
  refine za ?_
  refine Run.eff (dd := some 18) rfl rfl (op_call (n := 1) (n' := 1) [0] (fun _ => hr) rfl (Opd.func _) (oS (oT rfl) (oS (oT rfl) (oS (oT rfl) (oS (oT rfl) Opds.nil)))) rfl rfl (Lent.of rfl rfl (by exact ⟨⟨rfl, rfl, rfl, trivial⟩, trivial⟩) rfl) rfl rfl rfl rfl rfl) ?_
  refine zc ?_
  refine nK ?_
  refine zb ?_
  refine za ?_
  refine zd ?_
  refine zc ?_
  refine nK ?_
  refine zb ?_
  refine za ?_
  refine za ?_
  refine zbc ?_
  refine zd ?_
  refine zc ?_
  refine nK ?_
  refine Next.weakS [0] [] (by rfl) (wK hC) wG wHSI5a rfl (hK1)
 have h3 : R.length < 20 := by have := of_decide_eq_false hb; omega
 have hr := ins_c gf caps c o hp P R [] (P ++ R) (bsL (ltS c) 20 l) N P.length N (by simp; omega) hn rfl (by omega) (by simp) (by rw [← h2, bsL_small (by omega)]; simp)
 clear hK
 refine nK ?_
 refine zb ?_
 refine za ?_
 refine za ?_
 refine za ?_
 refine za ?_
 refine Run.eff (dd := some 27) rfl rfl (op_call (n := 1) (n' := 1) [0] (fun _ => hr) rfl (Opd.func _) (oS (oT rfl) (oS (oT rfl) (oS (oT rfl) (oS (oT rfl) Opds.nil)))) rfl rfl (Lent.of rfl rfl (by exact ⟨⟨rfl, rfl, rfl, trivial⟩, trivial⟩) rfl) rfl rfl rfl rfl rfl) ?_
 refine zc ?_
 refine nK ?_
 refine n_loop (ι := Nat) (fun w => ([(0, .sl 0 1 0 N), (1, IV .i64 N), (2, (PV.fz (.clo gf caps))), (6, IV .i64 w)], [(0, OF (bsL (ltS c) w l))], 1)) (fun w => 0 < w ∧ w ≤ 4000000) (fun w => 4000000 - w) 20 ⟨by omega, by omega⟩ ?_ ?_
 ·refine Next.weakS [0] [] (by rfl) (wK hC) wG wHSI5a rfl (rel_intro)
 intro w ⟨hw, hw2⟩ K2 hK2
 dsimp only at hK2 ⊢
 refine nK ?_
 refine zb ?_
 refine za ?_
 refine za ?_
 refine zp ?_
 refine zc ?_
 refine nK ?_
 refine n_cond _ rfl (fun hb => ?_) (fun hb => ?_)
 ·have hwn : w < N := by have := of_decide_eq_true hb; omega
  refine nK ?_
  refine zb ?_
  refine za ?_
  refine rpZ 32 rfl (op_mul rfl oC (oT rfl) tI) ?_
  refine ze ?_
  refine zd ?_
  refine zc ?_
  refine nK ?_
  refine n_loop (ι := List (Fin dn) × List (Fin dn)) (fun s => ([(0, .sl 0 1 0 N), (1, IV .i64 N), (2, (PV.fz (.clo gf caps))), (6, IV .i64 w), (7, IV .i64 s.1.length), (8, IV .i64 (s.1.length + 2 * w : Nat))], [(0, OF (s.1 ++ bsL (ltS c) w s.2))], 1)) (fun s => s.1.length + s.2.length = N ∧ s.1 ++ bsL (ltS c) (2 * w) s.2 = bsL (ltS c) (2 * w) l) (fun s => s.2.length) ([], l) ⟨by simp [hN], rfl⟩ ?_ ?_
  ·simp only [List.length_nil, Nat.zero_add, List.nil_append]
   refine Next.weakS [0] [] (by rfl) (wK hC) wG wHSI5a rfl (rel_intro)
  intro ⟨P, R⟩ ⟨h1, h2⟩ K3 hK3
  dsimp only at h1 h2 hK3 ⊢
  have lw := bsL_len (lt := ltS c) w hw _ R (Nat.le_refl _)
  refine nK ?_
  refine zb ?_
  refine za ?_
  refine za ?_
  refine rpZ 35 rfl (op_leq rfl (oT rfl) (oT rfl)) ?_
  refine zc ?_
  refine nK ?_
  refine n_cond _ rfl (fun hb => ?_) (fun hb => ?_)
  ·have h3 : 2 * w ≤ R.length := by have := of_decide_eq_true hb; omega
   obtain ⟨q1, q2⟩ := bsL_two o hw h3
   have e1 : (srtS (ltS c) (R.take w)).length = w := by rw [srtS_len]; simp; omega
   have e2 : (srtS (ltS c) ((R.drop w).take w)).length = w := by rw [srtS_len]; simp; omega
   have e3 : (bsL (ltS c) w (R.drop (2 * w))).length = R.length - 2 * w := by rw [bsL_len w hw _ _ (Nat.le_refl _)]; simp
   have hr := sym_c gf caps c o hp N hn (2 * w) P (srtS (ltS c) (R.take w)) (srtS (ltS c) ((R.drop w).take w)) (bsL (ltS c) w (R.drop (2 * w))) (P ++ bsL (ltS c) w R) ((P ++ mrg (ltS c) (srtS (ltS c) (R.take w)) (srtS (ltS c) ((R.drop w).take w))) ++ bsL (ltS c) w (R.drop (2 * w))) P.length (P.length + w) (P.length + 2 * w : Nat) (by omega) (by omega) (by omega) (srtS_srt o _) (srtS_srt o _) (by omega) rfl (by omega) (by omega) (by rw [q1]) (by simp)
   have e4 : (mrg (ltS c) (srtS (ltS c) (R.take w)) (srtS (ltS c) ((R.drop w).take w))).length = 2 * w := by rw [mrg_len _ _ _ (Nat.le_refl _)]; omega
   have hK4 := hK3 (P ++ mrg (ltS c) (srtS (ltS c) (R.take w)) (srtS (ltS c) ((R.drop w).take w)), R.drop (2 * w)) ⟨by simp [e4]; omega, by
    dsimp only
    rw [← h2, q2]; simp⟩ (by simp; omega)
   dsimp only at hK4
   rw [List.length_append, e4] at hK4
   refine nK ?_
   refine zb ?_
   refine za ?_
   refine za ?_
   refine za ?_
   refine za ?_
   refine zbc ?_
   refine za ?_
   refine za ?_
   refine Run.eff (dd := some 43) rfl rfl (op_call (n := 1) (n' := 1) [0] (fun _ => hr) rfl (Opd.func _) (oS (oT rfl) (oS (oT rfl) (oS (oT rfl) (oS (oT rfl) (oS (oT rfl) Opds.nil))))) rfl rfl (Lent.of rfl rfl (by exact ⟨⟨rfl, rfl, rfl, trivial⟩, trivial⟩) rfl) rfl rfl rfl rfl rfl) ?_
   refine zc ?_
   refine nK ?_
   refine zb ?_
   refine za ?_
   refine zd ?_
   refine zc ?_
   refine nK ?_
   refine zb ?_
   refine za ?_
   refine za ?_
   refine rpZ 47 rfl (op_mul rfl oC (oT rfl) tI) ?_
   refine zbc ?_
   refine zd ?_
   refine zc ?_
   refine nK ?_
   refine Next.weakS [0] [] (by rfl) (wK hC) wG wHSI5a rfl (hK4)
  have h3 : R.length < 2 * w := by have := of_decide_eq_false hb; omega
  have hK5 := hK2 (w * 2) ⟨by omega, by omega⟩ (by omega)
  rw [Nat.mul_comm w 2, ← h2] at hK5
  clear hK3
  refine nK ?_
  refine zb ?_
  refine za ?_
  refine za ?_
  refine zbc ?_
  refine zd ?_
  refine zc ?_
  refine nK ?_
  refine zb ?_
  refine za ?_
  refine za ?_
  refine zp ?_
  refine zc ?_
  refine nK ?_
  refine n_cond _ rfl (fun hb => ?_) (fun hb => ?_)
  ·have h4 : w < R.length := by have := of_decide_eq_true hb; omega
   obtain ⟨q1, q2⟩ := bsL_last o hw h4 h3
   have e1 : (srtS (ltS c) (R.take w)).length = w := by rw [srtS_len]; simp; omega
   have e2 : (srtS (ltS c) (R.drop w)).length = R.length - w := by rw [srtS_len]; simp
   have hr := sym_c gf caps c o hp N hn (2 * w) P (srtS (ltS c) (R.take w)) (srtS (ltS c) (R.drop w)) [] (P ++ bsL (ltS c) w R) (P ++ bsL (ltS c) (2 * w) R) P.length (P.length + w) N (by omega) (by omega) (by omega) (srtS_srt o _) (srtS_srt o _) (by simp; omega) rfl (by omega) (by omega) (by rw [q1]; simp) (by rw [q2]; simp)
   refine nK ?_
   refine zb ?_
   refine za ?_
   refine za ?_
   refine za ?_
   refine za ?_
   refine za ?_
   refine Run.eff (dd := some 60) rfl rfl (op_call (n := 1) (n' := 1) [0] (fun _ => hr) rfl (Opd.func _) (oS (oT rfl) (oS (oT rfl) (oS (oT rfl) (oS (oT rfl) (oS (oT rfl) Opds.nil))))) rfl rfl (Lent.of rfl rfl (by exact ⟨⟨rfl, rfl, rfl, trivial⟩, trivial⟩) rfl) rfl rfl rfl rfl rfl) ?_
   refine zc ?_
   refine nK ?_
   refine zb ?_
   refine za ?_
   refine rpZ 62 rfl (op_mul rfl (oT rfl) oC tI) ?_
   refine zd ?_
   refine zc ?_
   refine nK ?_
   refine Next.weakS [0] [] (by rfl) (wK hC) wG wHSI5a rfl (hK5)
  have h4 : R.length ≤ w := by have := of_decide_eq_false hb; omega
  rw [bsL_small (w := w) h4]
  rw [bsL_small (w := 2 * w) (by omega)] at hK5
  refine nK ?_
  refine zb ?_
  refine za ?_
  refine rpZ 62 rfl (op_mul rfl (oT rfl) oC tI) ?_
  refine zd ?_
  refine zc ?_
  refine nK ?_
  refine Next.weakS [0] [] (by rfl) (wK hC) wG wHSI5a rfl (hK5)
 have hwn : N ≤ w := by have := of_decide_eq_false hb; omega
 rw [bsL_small (by omega)]
 refine nK ?_
 refine Next.weak [0] [] (by rfl) (keepsN hC _ rfl) (G' := []) (H' := [(0, OF (srtS (ltS c) l))]) trivial wR wN ?_
 exact n_out0 rfl
theorem sortS_c {dn : Nat} (gf : Nat) [FnB Tryz.prog gf] (caps : List FV) (c : (Fin dn) → (Fin dn) → Int) (o : SWk (ltS c)) (hp : ∀ x y, Pure Tryz.prog gf ([If .i64 (x.val : Int), If .i64 (y.val : Int)] ++ caps) (If .i64 (c x y))) (l : List (Fin dn)) (hn : l.length ≤ 2000000) :
  Meets Tryz.prog 62 [.sl 0 1 0 l.length, (PV.fz (.clo gf caps))] 1 [(0, OF l)] (.fz (.tup [])) [(0, OF (srtS (ltS c) l))] 1 := by
 have hr := stable_c gf caps c o hp l hn
 refine Meets.intro Tryz.func62 rfl (Nat.le_of_ble_eq_true rfl) fun C hC => ?_
 simp only [List.map, argEnv, Nat.reduceAdd]
 refine nK ?_
 refine zb ?_
 refine za ?_
 refine za ?_
 refine zbi ?_
 refine za ?_
 refine Run.eff (dd := some 8) rfl rfl (op_call (n := 1) (n' := 1) [0] (fun _ => hr) rfl (Opd.func _) (oS (oT rfl) (oS (oT rfl) (oS (oT rfl) Opds.nil))) rfl rfl (Lent.of rfl rfl (by exact ⟨⟨rfl, rfl, rfl, trivial⟩, trivial⟩) rfl) rfl rfl rfl rfl rfl) ?_
 refine zc ?_
 refine nK ?_
 refine Next.weak [0] [] (by rfl) (keepsN hC _ rfl) (G' := []) (H' := [(0, OF (srtS (ltS c) l))]) trivial wR wN ?_
 exact n_out0 rfl
end Go.Proofs.YtcillieggklaaaaGreat
namespace Go.Pl
open Go Go.RT
set_option linter.all false
section
variable {α : Type} {lt : α → α → Bool}
theorem mrg_perm : ∀ (k : Nat) (A B : List α), A.length + B.length ≤ k → (mrg lt A B).Perm (A ++ B)
  | k, [], B, _ => by rw [mrg_nil_left]; exact List.Perm.refl _
  | k, a :: A, [], _ => by rw [mrg_nil, List.append_nil]
  | 0, a :: A, b :: B, h => by simp at h
  | k + 1, a :: A, b :: B, h => by
    rw [mrg]
    split
    · refine (List.Perm.cons _ (mrg_perm k (a :: A) B (by simp at h ⊢; omega))).trans ?_
      exact (List.perm_middle (l₁ := a :: A) (l₂ := B)).symm
    · exact List.Perm.cons _ (mrg_perm k A (b :: B) (by simp at h ⊢; omega))
theorem srtS_perm : ∀ l : List α, (srtS lt l).Perm l := rev_ind (List.Perm.refl _) fun l y ih => by
  rw [srtS_snoc]
  exact (mrg_perm _ _ _ (Nat.le_refl _)).trans (List.Perm.append_right _ ih)
end
theorem fin_val (n : Nat) : (List.finRange n).map (fun x : Fin n => x.val) = List.range n := by
  apply List.ext_getElem (by simp)
  intro i h1 h2
  simp
abbrev ordF (r : Int) (d : List Int) (n : Nat) (x y : Fin n) : Int := ordT r d x.val y.val
theorem sw_ordF (r : Int) (d : List Int) (n : Nat) : SWk (ltS (ordF r d n)) := by
  have e : ∀ x y : Fin n, ltS (ordF r d n) x y = decide (gt0 d x < gt0 d y ∨ gt0 d x = gt0 d y ∧ min ((y.val : Nat) : Int) r < min ((x.val : Nat) : Int) r) := fun x y => by
    unfold ltS; rw [Bool.eq_iff_iff]; simp only [decide_eq_true_eq]; exact ordT_neg r d x.val y.val
  refine ⟨fun x y h => ?_, fun x y z h1 h2 => ?_⟩
  · rw [e] at *; simp only [decide_eq_true_eq, decide_eq_false_iff_not] at *; omega
  · rw [e] at *; simp only [decide_eq_false_iff_not] at *; omega
def topF (r : Int) (n : Nat) (d : List Int) : List (Fin n) := srtS (ltS (ordF r d n)) (List.finRange n)
def topL (r : Int) (n : Nat) (d : List Int) : List Nat := (topF r n d).map fun x => x.val
theorem topL_ok (r : Int) (n : Nat) (d : List Int) : TopL r n d (topL r n d) := by
  have hp : (topL r n d).Perm (List.range n) := by
    have := (srtS_perm (lt := ltS (ordF r d n)) (List.finRange n)).map (fun x : Fin n => x.val)
    rwa [fin_val] at this
  refine ⟨fun v => by rw [hp.mem_iff, List.mem_range], hp.nodup_iff.2 List.nodup_range, ?_⟩
  unfold topL
  rw [List.pairwise_map]
  exact (srtS_srt (sw_ordF r d n) (List.finRange n)).imp fun {x y} h => by
    have : decide (ordF r d n y x < 0) = false := h
    exact of_decide_eq_false this
theorem topL_len (r : Int) (n : Nat) (d : List Int) : (topL r n d).length = n := by simp [topL, topF, srtS_len]
theorem topL_lt {r : Int} {n : Nat} {d : List Int} {v : Nat} (h : v ∈ topL r n d) : v < n := ((topL_ok r n d).mem v).1 h
/- the list 0 .. n-1, as it is filled -/
def fillL (n i : Nat) : List Int := (List.range n).map fun j => if j < i then (j : Int) else 0
theorem fillL_0 (n : Nat) : List.replicate n (0 : Int) = fillL n 0 := by rw [rng_const]; exact rng_same n _ _ fun w _ => by simp
theorem fillL_n (n : Nat) : fillL n n = (List.finRange n).map fun x => (x.val : Int) := by
  have : (List.finRange n).map (fun x : Fin n => (x.val : Int)) = ((List.finRange n).map fun x => x.val).map fun j : Nat => (j : Int) := by rw [List.map_map]; rfl
  rw [this, fin_val]
  exact rng_same n _ _ fun w hw => by simp [hw]
theorem fillL_set (n i : Nat) : (fillL n i).set i (i : Int) = fillL n (i + 1) := rng_set n _ _ i _ (by simp) (fun w hw => by
  by_cases h : w < i
  · rw [if_pos h, if_pos (by omega)]
  · rw [if_neg h, if_neg (by omega)])
theorem fillL_len (n i : Nat) : (fillL n i).length = n := by simp [fillL]
/- rows of the tree in the making -/
theorem rawU_ok {r : Int} {a n v : Nat} {ll : List (List Int)} (h : LLok n ll) (hv : v < n) {u : Int} (hu : 0 ≤ u ∧ u < n) : (rawU r a v ll u).length ≤ n + 1 ∧ ∀ x ∈ rawU r a v ll u, 0 ≤ x ∧ x < n := by
  have hr := h.row u.toNat (by omega)
  have hl := hr.len
  unfold rawU
  generalize rowAt' ll u.toNat = q at *
  refine ⟨by rw [List.length_append, List.length_map]; split <;> simp only [List.length_cons, List.length_nil] <;> omega, fun x hx => ?_⟩
  rcases List.mem_append.1 hx with h1 | h1
  · split at h1
    · have : x = (v : Int) := by simpa using h1
      omega
    · cases h1
  · obtain ⟨y, hy, rfl⟩ := List.mem_map.1 h1
    have := hr.2 y hy
    unfold capV; split <;> omega
theorem rawH_ok {r : Int} {a n v : Nat} {ll : List (List Int)} (h : LLok n ll) (hv : v < n) : ∀ (up : List Int), (∀ u ∈ up, 0 ≤ u ∧ u < n) → (rawH r a v ll up).length ≤ up.length * (n + 1) ∧ ∀ x ∈ rawH r a v ll up, 0 ≤ x ∧ x < n
  | [], _ => ⟨by simp [rawH], fun x hx => by simp [rawH] at hx⟩
  | u :: up, hu => by
    obtain ⟨i1, i2⟩ := rawH_ok (r := r) (a := a) h hv up fun w hw => hu w (by simp [hw])
    obtain ⟨j1, j2⟩ := rawU_ok (r := r) (a := a) h hv (hu u (by simp))
    have e : rawH r a v ll (u :: up) = rawU r a v ll u ++ rawH r a v ll up := by simp [rawH]
    rw [e]
    refine ⟨by rw [List.length_append, List.length_cons, Nat.add_mul]; omega, fun x hx => ?_⟩
    rcases List.mem_append.1 hx with h1 | h1
    · exact j2 x h1
    · exact i2 x h1
theorem rawH_succ (r : Int) (a v : Nat) (ll : List (List Int)) {up : List Int} {j : Nat} (h : j < up.length) : rawH r a v ll (up.take (j + 1)) = rawH r a v ll (up.take j) ++ rawU r a v ll up[j] := by
  unfold rawH
  rw [List.take_succ_eq_append_getElem h, List.flatMap_append]
  simp
theorem LLok.hopN {r : Int} {a n v : Nat} {par ll : List (List Int)} (h : LLok n ll) (hv : v < n) (hu : UpOk n par) : LLok n (Go.Pl.hopN r a par ll v) := by
  have hr := (hu.row v hv).2
  obtain ⟨_, h2⟩ := rawH_ok (r := r) (a := a) h hv (rowAt' par v) fun u hu' => by have := hr u hu'; omega
  obtain ⟨c1, c2⟩ := comp_asc (srtI_sorted (rawH r a v ll (rowAt' par v)))
  refine ⟨by rw [hopN_len, h.len], fun w hw => ?_⟩
  unfold Go.Pl.hopN rowAt'
  rw [getD_set _ _ _ _ _ (by rw [h.len]; exact hv)]
  by_cases e : v = w
  · rw [if_pos e]
    exact ⟨c1, fun x hx => h2 x ((srtI_perm _).mem_iff.1 ((c2 x).1 hx))⟩
  · rw [if_neg e]; exact h.row w hw
theorem LLok.hopT {r : Int} {a n : Nat} {par : List (List Int)} (hu : UpOk n par) : ∀ (l : List Nat) {ll : List (List Int)}, LLok n ll → (∀ x ∈ l, x < n) → LLok n (l.foldl (Go.Pl.hopN r a par) ll)
  | [], _, h, _ => h
  | x :: l, _, h, hx => LLok.hopT hu l (h.hopN (hx x (by simp)) hu) fun y hy => hx y (by simp [hy])
theorem nil_rows {H : Hp} {F : List Nat} : ∀ n : Nat, AsRs H F ((List.replicate n [FV.lit (.slice none 0 0)]).map fun r => r.map PV.fz) ((List.replicate n ([] : List Int)).map encL)
  | 0 => .nil
  | n + 1 => .cons _ _ _ _ (.cons _ _ _ _ (.nil 1) .nil) (nil_rows n)
end Go.Pl
namespace Go.Proofs.YtcillieggklaaaaGreat
open Go Go.RT Go.Proofs Go.Pl
set_option linter.all false
set_option maxRecDepth 20000
set_option maxHeartbeats 4000000
theorem tcmp_c (g : Gr) (d : List Int) (x y : Nat) (hx : x < d.length) (hy : y < d.length) : Pure Tryz.prog 63 [If .i64 x, If .i64 y, .cellp [VI d], .cellp (encG g)] (If .i64 (ordT g.r d x y)) := by
 have rx := row_of encN d x 0 hx
 have ry := row_of encN d y 0 hy
 have hgx : d.getD x 0 = gt0 d x := rfl
 have hgy : d.getD y 0 = gt0 d y := rfl
 rw [hgx] at rx; rw [hgy] at ry
 unfold ordT
 refine Meets.intro Tryz.func63 rfl (Nat.le_of_ble_eq_true rfl) fun C hC => ?_
 simp only [List.map, argEnv, Nat.reduceAdd]
 refine nK2 ?_
 refine zb ?_
 refine ze ?_
 refine zc ?_
 refine nK2 ?_
 refine s_draw mixed ?_
 refine zj ?_
 refine za ?_
 refine rpZ 9 rfl (op_idx_fz x rfl (oT rfl) (oT rfl) (by intro _; exact ⟨rfl, rx⟩)) ?_
 refine zj ?_
 refine zj ?_
 refine za ?_
 refine rpZ 13 rfl (op_idx_fz y rfl (oT rfl) (oT rfl) (by intro _; exact ⟨rfl, ry⟩)) ?_
 refine zj ?_
 refine rpZ 15 rfl (op_call_pure (fun _ => cmp_c _ _) rfl (Opd.func _) (oS (oT rfl) (oS (oT rfl) Opds.nil))) ?_
 refine za ?_
 refine zx ?_
 refine zj ?_
 refine rpZ 19 rfl (op_min rfl (oT rfl) (oT rfl)) ?_
 refine za ?_
 refine zx ?_
 refine zj ?_
 refine rpZ 23 rfl (op_min rfl (oT rfl) (oT rfl)) ?_
 refine rpZ 24 rfl (op_call_pure (fun _ => cmp_c _ _) rfl (Opd.func _) (oS (oT rfl) (oS (oT rfl) Opds.nil))) ?_
 refine zcs ?_
 refine rpZ 26 rfl (op_call_pure (fun _ => or_c [_, _] (by simp)) rfl (Opd.func _) (oS (oT rfl) Opds.nil)) ?_
 refine zd ?_
 refine zs ?_
 refine nK2 ?_
 exact wO hC
theorem tree_c (g : Gr) (hg : checkI g = 0) (a : Nat) (har : (a : Int) < g.r) (d : List Int) (dl : d.length = g.m) (hD : ∀ v, v < g.m → -1 ≤ gt0 d v ∧ gt0 d v ≤ 8388480) : Pure Tryz.prog 30 [.agg (encG g), If .i64 a, VI d] (.agg (encTr ⟨a, d, hopT g.r a g.m (parL g.es a d g.m) (topL g.r g.m d), parL g.es a d g.m⟩)) := by
 obtain ⟨vg, hr0, hn0⟩ := checkI_vg hg
 have hn := vg.n128
 have hel := vg.e1024
 have hmm : g.m = (g.r + g.n).toNat := rfl
 rw [← hmm] at vg hn
 have hup := parL_ok vg a d
 have hTlt : ∀ v ∈ topL g.r g.m d, v < g.m := fun v hv => topL_lt hv
 have hTl := topL_len g.r g.m d
 have hso := sortS_c 63 [.cellp [VI d], .cellp (encG g)] (ordF g.r d g.m) (sw_ordF g.r d g.m) (fun x y => tcmp_c g d x.val y.val (by have := x.isLt; omega) (by have := y.isLt; omega)) (List.finRange g.m) (by rw [List.length_finRange]; omega)
 rw [List.length_finRange] at hso
 have hTF : (srtS (ltS (ordF g.r d g.m)) (List.finRange g.m)).map encF = (topL g.r g.m d).map encT := by unfold topL topF; rw [List.map_map]; rfl
 have hFF := fillL_n g.m
 clear hmm
 generalize g.m = n at *
 subst dl
 refine Meets.intro Tryz.func30 rfl (Nat.le_of_ble_eq_true rfl) fun C hC => ?_
 simp only [List.map, argEnv, Nat.reduceAdd]
 refine nK2 ?_
 refine zb ?_
 refine zq ?_
 refine zq ?_
 refine zu ?_
 refine zc ?_
 refine nK2 ?_
 refine Next.weakS [6] [3, 5] (by rfl) (keepsN hC _ rfl) (G' := [(1, IV .i64 a), (3, .fz (.cellp (encG g))), (5, .fz (.cellp [VI d])), (6, .ptr 0 4 0 0)]) (H' := [(0, OTr zeroT)]) wF (by exact ⟨⟨rfl, rfl, .fflat _ _ _ rfl tW⟩, trivial⟩) rfl ?_
 refine nK2 ?_
 refine draw_y [(1, IV .i64 a), (3, .fz (.cellp (encG g))), (5, .fz (.cellp [VI d])), (6, .ptr 0 4 0 0), (7, .ptr 1 4 0 0)] [(0, OTr zeroT), (1, some (.refs 4 [[.fz (If .i64 a), .fz (VI d), .sl 2 1 0 d.length, .sl 3 1 0 d.length]])), (2, some (.flat 1 (List.replicate d.length [.lit (.slice none 0 0)]))), (3, some (.flat 1 (List.replicate d.length [.lit (.slice none 0 0)])))] 4 mixed (fun hK => ?_) ?_
 ·skip
  refine AnyY.virt (by kernel_rfl) 0 rfl (op_move rfl (oT rfl)) (by kernel_rfl) rfl (fun t h => by cases h; rfl) ?_
  refine AnyY.virt (by kernel_rfl) 1 rfl (op_load1_fz rfl (oT rfl) rfl) (by kernel_rfl) rfl (fun t h => by cases h; rfl) ?_
  refine AnyY.virt (by kernel_rfl) 2 rfl (op_load1_fz rfl (oT rfl) rfl) (by kernel_rfl) rfl (fun t h => by cases h; rfl) ?_
  refine AnyY.virt (by kernel_rfl) 3 rfl (op_len_fz rfl (oT rfl) (List.length_map _)) (by kernel_rfl) rfl (fun t h => by cases h; rfl) ?_
  refine AnyY.virt (by kernel_rfl) 5 rfl (op_load1_fz rfl (oT rfl) rfl) (by kernel_rfl) rfl (fun t h => by cases h; rfl) ?_
  refine AnyY.virt (by kernel_rfl) 6 rfl (op_len_fz rfl (oT rfl) (List.length_map _)) (by kernel_rfl) rfl (fun t h => by cases h; rfl) ?_
  refine AnyY.three 4 7 9 (by kernel_rfl) rfl (by kernel_rfl) (StepY.mk rfl (op_make (l := d.length) (c := d.length) rfl (oT rfl) (oT rfl) rfl rfl rfl rfl (by intro _; refine ⟨rfl, rfl, ?_⟩; omega)) (fun t h => by cases h; rfl) ?_) (StepY.mk rfl (op_make (l := d.length) (c := d.length) rfl (oT rfl) (oT rfl) rfl rfl rfl rfl (by intro _; refine ⟨rfl, rfl, ?_⟩; omega)) (fun t h => by cases h; rfl) ?_) (StepY.mk rfl (op_alloc rfl rfl rfl rfl) (fun t h => by cases h; rfl) ?_)
  ·skip
   refine AnyY.two 7 9 (by kernel_rfl) rfl (by kernel_rfl) (StepY.mk rfl (op_make (l := d.length) (c := d.length) rfl (oT rfl) (oT rfl) rfl rfl rfl rfl (by intro _; refine ⟨rfl, rfl, ?_⟩; omega)) (fun t h => by cases h; rfl) ?_) (StepY.mk rfl (op_alloc rfl rfl rfl rfl) (fun t h => by cases h; rfl) ?_)
   ·skip
    refine AnyY.virt (by kernel_rfl) 8 rfl (op_buildP rfl rfl rfl rfl (FillP.cons _ _ _ _ _ _ _ _ _ _ (by rfl) (oT rfl) tP (by rfl) tR (FillP.cons _ _ _ _ _ _ _ _ _ _ (by rfl) (oT rfl) tP (by rfl) tR (FillP.cons _ _ _ _ _ _ _ _ _ _ (by rfl) (oT rfl) tP (by rfl) tR (FillP.cons _ _ _ _ _ _ _ _ _ _ (by rfl) (oT rfl) tP (by rfl) tR (FillP.nil _)))))) (by kernel_rfl) rfl (fun t h => by cases h; rfl) ?_
    refine AnyY.one 9 (by kernel_rfl) rfl (by kernel_rfl) (StepY.mk rfl (op_alloc rfl rfl rfl rfl) (fun t h => by cases h; rfl) ?_)
    refine AnyY.toRefs 3 rfl rfl ?_
    refine AnyY.one 10 (by kernel_rfl) rfl (by kernel_rfl) (StepY.mk rfl (op_store_refs rfl (oT rfl) (oT rfl) tP rfl rfl rfl tS) (fun t h => by cases h) ?_)
    refine AnyY.nil (by kernel_rfl) rfl (by kernel_rfl) ?_
    exact Next.weak [0, 3, 1, 2] [] (by rfl) (keepsN hC _ rfl) wG wR wN hK
   skip
   refine AnyY.one 7 (by kernel_rfl) rfl (by kernel_rfl) (StepY.mk rfl (op_make (l := d.length) (c := d.length) rfl (oT rfl) (oT rfl) rfl rfl rfl rfl (by intro _; refine ⟨rfl, rfl, ?_⟩; omega)) (fun t h => by cases h; rfl) ?_)
   refine AnyY.virt (by kernel_rfl) 8 rfl (op_buildP rfl rfl rfl rfl (FillP.cons _ _ _ _ _ _ _ _ _ _ (by rfl) (oT rfl) tP (by rfl) tR (FillP.cons _ _ _ _ _ _ _ _ _ _ (by rfl) (oT rfl) tP (by rfl) tR (FillP.cons _ _ _ _ _ _ _ _ _ _ (by rfl) (oT rfl) tP (by rfl) tR (FillP.cons _ _ _ _ _ _ _ _ _ _ (by rfl) (oT rfl) tP (by rfl) tR (FillP.nil _)))))) (by kernel_rfl) rfl (fun t h => by cases h; rfl) ?_
   refine AnyY.toRefs 2 rfl rfl ?_
   refine AnyY.one 10 (by kernel_rfl) rfl (by kernel_rfl) (StepY.mk rfl (op_store_refs rfl (oT rfl) (oT rfl) tP rfl rfl rfl tS) (fun t h => by cases h) ?_)
   refine AnyY.nil (by kernel_rfl) rfl (by kernel_rfl) ?_
   exact Next.weak [0, 2, 1, 3] [] (by rfl) (keepsN hC _ rfl) wG wR wN hK
  ·skip
   refine AnyY.two 4 9 (by kernel_rfl) rfl (by kernel_rfl) (StepY.mk rfl (op_make (l := d.length) (c := d.length) rfl (oT rfl) (oT rfl) rfl rfl rfl rfl (by intro _; refine ⟨rfl, rfl, ?_⟩; omega)) (fun t h => by cases h; rfl) ?_) (StepY.mk rfl (op_alloc rfl rfl rfl rfl) (fun t h => by cases h; rfl) ?_)
   ·skip
    refine AnyY.virt (by kernel_rfl) 8 rfl (op_buildP rfl rfl rfl rfl (FillP.cons _ _ _ _ _ _ _ _ _ _ (by rfl) (oT rfl) tP (by rfl) tR (FillP.cons _ _ _ _ _ _ _ _ _ _ (by rfl) (oT rfl) tP (by rfl) tR (FillP.cons _ _ _ _ _ _ _ _ _ _ (by rfl) (oT rfl) tP (by rfl) tR (FillP.cons _ _ _ _ _ _ _ _ _ _ (by rfl) (oT rfl) tP (by rfl) tR (FillP.nil _)))))) (by kernel_rfl) rfl (fun t h => by cases h; rfl) ?_
    refine AnyY.one 9 (by kernel_rfl) rfl (by kernel_rfl) (StepY.mk rfl (op_alloc rfl rfl rfl rfl) (fun t h => by cases h; rfl) ?_)
    refine AnyY.toRefs 3 rfl rfl ?_
    refine AnyY.one 10 (by kernel_rfl) rfl (by kernel_rfl) (StepY.mk rfl (op_store_refs rfl (oT rfl) (oT rfl) tP rfl rfl rfl tS) (fun t h => by cases h) ?_)
    refine AnyY.nil (by kernel_rfl) rfl (by kernel_rfl) ?_
    exact Next.weak [0, 3, 2, 1] [] (by rfl) (keepsN hC _ rfl) wG wR wN hK
   skip
   refine AnyY.one 4 (by kernel_rfl) rfl (by kernel_rfl) (StepY.mk rfl (op_make (l := d.length) (c := d.length) rfl (oT rfl) (oT rfl) rfl rfl rfl rfl (by intro _; refine ⟨rfl, rfl, ?_⟩; omega)) (fun t h => by cases h; rfl) ?_)
   refine AnyY.virt (by kernel_rfl) 8 rfl (op_buildP rfl rfl rfl rfl (FillP.cons _ _ _ _ _ _ _ _ _ _ (by rfl) (oT rfl) tP (by rfl) tR (FillP.cons _ _ _ _ _ _ _ _ _ _ (by rfl) (oT rfl) tP (by rfl) tR (FillP.cons _ _ _ _ _ _ _ _ _ _ (by rfl) (oT rfl) tP (by rfl) tR (FillP.cons _ _ _ _ _ _ _ _ _ _ (by rfl) (oT rfl) tP (by rfl) tR (FillP.nil _)))))) (by kernel_rfl) rfl (fun t h => by cases h; rfl) ?_
   refine AnyY.toRefs 2 rfl rfl ?_
   refine AnyY.one 10 (by kernel_rfl) rfl (by kernel_rfl) (StepY.mk rfl (op_store_refs rfl (oT rfl) (oT rfl) tP rfl rfl rfl tS) (fun t h => by cases h) ?_)
   refine AnyY.nil (by kernel_rfl) rfl (by kernel_rfl) ?_
   exact Next.weak [0, 2, 3, 1] [] (by rfl) (keepsN hC _ rfl) wG wR wN hK
  skip
  refine AnyY.two 4 7 (by kernel_rfl) rfl (by kernel_rfl) (StepY.mk rfl (op_make (l := d.length) (c := d.length) rfl (oT rfl) (oT rfl) rfl rfl rfl rfl (by intro _; refine ⟨rfl, rfl, ?_⟩; omega)) (fun t h => by cases h; rfl) ?_) (StepY.mk rfl (op_make (l := d.length) (c := d.length) rfl (oT rfl) (oT rfl) rfl rfl rfl rfl (by intro _; refine ⟨rfl, rfl, ?_⟩; omega)) (fun t h => by cases h; rfl) ?_)
  ·skip
   refine AnyY.one 7 (by kernel_rfl) rfl (by kernel_rfl) (StepY.mk rfl (op_make (l := d.length) (c := d.length) rfl (oT rfl) (oT rfl) rfl rfl rfl rfl (by intro _; refine ⟨rfl, rfl, ?_⟩; omega)) (fun t h => by cases h; rfl) ?_)
   refine AnyY.virt (by kernel_rfl) 8 rfl (op_buildP rfl rfl rfl rfl (FillP.cons _ _ _ _ _ _ _ _ _ _ (by rfl) (oT rfl) tP (by rfl) tR (FillP.cons _ _ _ _ _ _ _ _ _ _ (by rfl) (oT rfl) tP (by rfl) tR (FillP.cons _ _ _ _ _ _ _ _ _ _ (by rfl) (oT rfl) tP (by rfl) tR (FillP.cons _ _ _ _ _ _ _ _ _ _ (by rfl) (oT rfl) tP (by rfl) tR (FillP.nil _)))))) (by kernel_rfl) rfl (fun t h => by cases h; rfl) ?_
   refine AnyY.toRefs 1 rfl rfl ?_
   refine AnyY.one 10 (by kernel_rfl) rfl (by kernel_rfl) (StepY.mk rfl (op_store_refs rfl (oT rfl) (oT rfl) tP rfl rfl rfl tS) (fun t h => by cases h) ?_)
   refine AnyY.nil (by kernel_rfl) rfl (by kernel_rfl) ?_
   exact Next.weak [0, 1, 2, 3] [] (by rfl) (keepsN hC _ rfl) wG wR wN hK
  skip
  refine AnyY.one 4 (by kernel_rfl) rfl (by kernel_rfl) (StepY.mk rfl (op_make (l := d.length) (c := d.length) rfl (oT rfl) (oT rfl) rfl rfl rfl rfl (by intro _; refine ⟨rfl, rfl, ?_⟩; omega)) (fun t h => by cases h; rfl) ?_)
  refine AnyY.virt (by kernel_rfl) 8 rfl (op_buildP rfl rfl rfl rfl (FillP.cons _ _ _ _ _ _ _ _ _ _ (by rfl) (oT rfl) tP (by rfl) tR (FillP.cons _ _ _ _ _ _ _ _ _ _ (by rfl) (oT rfl) tP (by rfl) tR (FillP.cons _ _ _ _ _ _ _ _ _ _ (by rfl) (oT rfl) tP (by rfl) tR (FillP.cons _ _ _ _ _ _ _ _ _ _ (by rfl) (oT rfl) tP (by rfl) tR (FillP.nil _)))))) (by kernel_rfl) rfl (fun t h => by cases h; rfl) ?_
  refine AnyY.toRefs 1 rfl rfl ?_
  refine AnyY.one 10 (by kernel_rfl) rfl (by kernel_rfl) (StepY.mk rfl (op_store_refs rfl (oT rfl) (oT rfl) tP rfl rfl rfl tS) (fun t h => by cases h) ?_)
  refine AnyY.nil (by kernel_rfl) rfl (by kernel_rfl) ?_
  exact Next.weak [0, 1, 3, 2] [] (by rfl) (keepsN hC _ rfl) wG wR wN hK
 refine Next.toOwn 3 1 d.length rfl ?_
 have hLN := LLok.nil d.length
 refine Next.weak [0, 1, 2, 3] [] (by rfl) (keepsN hC _ rfl) (G' := [(1, IV .i64 a), (3, .fz (.cellp (encG g))), (5, .fz (.cellp [VI d])), (6, .ptr 0 4 0 0), (7, .ptr 1 4 0 0)]) (H' := [(0, OTr zeroT), (1, some (.refs 4 [[.fz (If .i64 a), .fz (VI d), .sl 2 1 0 d.length, .sl 3 1 0 d.length]])), (2, some (.flat 1 ((List.replicate d.length []).map encL))), (3, some (.refs 1 (ownL 1 (rowsI (parL [] a d d.length)))))]) wG (by exact ⟨wS, ⟨wS, ⟨⟨rfl, rfl, .fflat _ _ _ rfl (nil_rows _)⟩, ⟨ent_own rfl rfl (by rw [parL_nil, rowsI_nil, ← ownL_rep]; rfl), trivial⟩⟩⟩⟩) wN ?_
 refine nK2 ?_
 refine zb ?_
 refine zx ?_
 refine zj ?_
 refine zo ?_
 refine zbb ?_
 refine zc ?_
 refine nK2 ?_
 refine n_loop (ι := Nat) (fun i => ([(1, IV .i64 a), (3, .fz (.cellp (encG g))), (5, .fz (.cellp [VI d])), (6, .ptr 0 4 0 0), (7, .ptr 1 4 0 0), (29, .fz (VE g.es)), (30, IV .i64 g.es.length), (31, IV .i64 i)], [(0, OTr zeroT), (1, some (.refs 4 [[.fz (If .i64 a), .fz (VI d), .sl 2 1 0 d.length, .sl 3 1 0 d.length]])), (2, some (.flat 1 ((List.replicate d.length []).map encL))), (3, some (.refs 1 (ownL 1 (rowsI (parL (g.es.take i) a d d.length)))))], 4)) (fun i => i ≤ g.es.length) (fun i => g.es.length - i) 0 (Nat.zero_le _) ?_ ?_
 ·refine Next.weak [0, 1, 2, 3] [] (by rfl) (keepsN hC _ rfl) wG (by exact ⟨wS, ⟨wS, ⟨wS, ⟨ent_own rfl rfl rfl, trivial⟩⟩⟩⟩) wN rel_intro
 intro i hi K hK
 try dsimp only at hi ⊢
 refine nK2 ?_
 refine zb ?_
 refine zp ?_
 refine zc ?_
 refine nK2 ?_
 refine n_cond _ rfl (fun hb => ?_) (fun hb => ?_)
 ·have hlt : i < g.es.length := by simp at hb; omega
  have hr1 := row_at' encE g.es i hlt
  have hef := vg.f _ (List.getElem_mem hlt)
  have het := vg.t _ (List.getElem_mem hlt)
  have hec := vg.c _ (List.getElem_mem hlt)
  have hyes := parL_yes (n := d.length) (a := a) (d := d) hlt het.1
  have hno := parL_no (n := d.length) (a := a) (d := d) hlt
  have hgt := parL_get (g.es.take i) a d (n := d.length) (v := g.es[i].t.toNat) (by omega)
  have hpl := parL_len (g.es.take i) a d d.length
  have hlen : (parE (g.es.take i) a d g.es[i].t.toNat).length ≤ 1024 := by
   have h1 : (parE (g.es.take i) a d g.es[i].t.toNat).length ≤ (g.es.take i).length := by unfold parE; rw [List.length_map]; exact List.length_filter_le _ _
   have h2 : (g.es.take i).length ≤ g.es.length := List.length_take_le' _ _
   omega
  have hK1 := hK (i + 1) (by omega) (by omega)
  generalize parL (g.es.take (i + 1)) a d d.length = ll2 at *
  generalize parL (g.es.take i) a d d.length = ll at *
  have hrg := rowsI_get (ll := ll) (v := g.es[i].t.toNat) (by omega)
  rw [hgt] at hrg
  generalize parE (g.es.take i) a d g.es[i].t.toNat = row at *
  generalize g.es[i] = e at *
  have hrf := row_of encN d e.f.toNat 0 (by omega)
  have hrt := row_of encN d e.t.toNat 0 (by omega)
  have hDf := hD e.f.toNat (by omega)
  have hgf : d.getD e.f.toNat 0 = gt0 d e.f.toNat := rfl
  have hgt2 : d.getD e.t.toNat 0 = gt0 d e.t.toNat := rfl
  rw [hgf] at hrf; rw [hgt2] at hrt
  have hcc : parC a d e = ((!decide (e.t = (a : Int)) && decide (0 ≤ gt0 d e.f.toNat)) && decide (gt0 d e.f.toNat + e.c = gt0 d e.t.toNat)) := by
   unfold parC
   rw [Bool.eq_iff_iff]; simp only [Bool.and_eq_true, decide_eq_true_eq, Bool.not_eq_true', decide_eq_false_iff_not]; omega
  refine nK2 ?_
  refine zb ?_
  refine zz ?_
  refine zbf ?_
  refine zu ?_
  refine zr ?_
  refine zc ?_
  refine nK2 ?_
  refine s_draw mixed ?_
  refine zg ?_
  refine zh ?_
  refine za ?_
  refine zbg ?_
  refine za ?_
  refine zcu ?_
  refine zn ?_
  refine zm ?_
  refine rgZ 43 rfl rfl tG (op_idx_fz e.f.toNat rfl (oO rfl tO) (oO rfl tO) (by intro _; exact ⟨by omega, hrf⟩)) ?_
  refine zw ?_
  refine zck ?_
  refine zt ?_
  refine za ?_
  refine zcu ?_
  refine zn ?_
  refine zm ?_
  refine rgZ 51 rfl rfl tG (op_idx_fz e.f.toNat rfl (oO rfl tO) (oO rfl tO) (by intro _; exact ⟨by omega, hrf⟩)) ?_
  refine zw ?_
  refine zn ?_
  refine zm ?_
  refine zbs ?_
  refine zcu ?_
  refine zn ?_
  refine zm ?_
  refine rgZ 59 rfl rfl tG (op_idx_fz e.t.toNat rfl (oO rfl tO) (oO rfl tO) (by intro _; exact ⟨by omega, hrt⟩)) ?_
  refine zw ?_
  refine zbo ?_
  refine zt ?_
  refine zs ?_
  refine nK2 ?_
  refine n_cond _ rfl (fun hb => ?_) (fun hb => ?_)
  ·have hpc : parC a d e = true := by
    rw [hcc]; simp only [Bool.and_eq_true, decide_eq_true_eq, Bool.not_eq_true', decide_eq_false_iff_not] at hb ⊢; omega
   rw [← hyes hpc] at hK1
   refine nK2 ?_
   refine Next.take 3 e.t.toNat 0 rfl (ownL_get hrg) rfl rfl ?_
   have hs1 := set_get (ownL 1 (rowsI ll)) e.t.toNat [.sl 5 1 0 (row.map encN).length] (by rw [ownL_len, rowsI_len, hpl]; omega)
   refine nK2 ?_
   refine s_draw mixed ?_
   refine zg ?_
   refine zy ?_
   refine zg ?_
   refine zh ?_
   refine zg ?_
   refine zy ?_
   refine zg ?_
   refine zh ?_
   refine rpZ 71 rfl (op_idx_sl0 e.t.toNat rfl (oT rfl) (oT rfl) (by intro _; omega)) ?_
   refine rlZ 72 rfl (op_load1_refs rfl (oT rfl) (by intro _; exact ⟨rfl, hs1⟩) rfl) ?_
   refine zg ?_
   refine zh ?_
   refine zbh ?_
   refine zco ?_
   refine rpZ 77 rfl (op_idx_sl0 e.t.toNat rfl (oT rfl) (oT rfl) (by intro _; omega)) ?_
   refine Run.effW (dd := none) rfl rfl (op_store_refs rfl (oT rfl) (oT rfl) tP rfl rfl hs1 tS) (by first | exact ext_call | exact tE) ?_
   refine zs ?_
   refine nK2 ?_
   refine zb ?_
   refine zl ?_
   refine za ?_
   refine zc ?_
   refine nK2 ?_
   refine Next.untake 3 e.t.toNat 0 rfl (set_get _ _ _ (by rw [List.length_set, ownL_len, rowsI_len, hpl]; omega)) rfl rfl (by simp) rfl ?_
   refine Next.weak [0, 1, 2, 3] [] (by rfl) (keepsN hC _ rfl) wG (by exact ⟨wS, ⟨wS, ⟨wS, ⟨ent_own rfl rfl (congrArg (fun r => some (Ob.refs 1 r)) (own_back.trans (congrArg _ (by rw [← rowsI_set, List.map_append]; rfl)))), trivial⟩⟩⟩⟩) wN hK1
  have hpc : ¬ parC a d e = true := fun h => by
   rw [hcc] at h; rw [Bool.eq_false_iff] at hb; apply hb
   simp only [Bool.and_eq_true, decide_eq_true_eq, Bool.not_eq_true', decide_eq_false_iff_not] at h ⊢; omega
  rw [← hno hpc] at hK1
  refine nK2 ?_
  refine zb ?_
  refine zl ?_
  refine za ?_
  refine zc ?_
  refine nK2 ?_
  refine Next.weak [0, 1, 2, 3] [] (by rfl) (keepsN hC _ rfl) wG (by exact ⟨wS, ⟨wS, ⟨wS, ⟨ent_own rfl rfl rfl, trivial⟩⟩⟩⟩) wN hK1
 have hge : i = g.es.length := by simp at hb; omega
 subst hge
 rw [List.take_length]
 have hpl := hup.len
 generalize parL g.es a d d.length = par at *
 refine Next.freezeOwn 3 rfl rfl ?_
 refine Next.weak [0, 1, 2, 3] [] (by rfl) (keepsN hC _ rfl) (G' := [(1, IV .i64 a), (3, .fz (.cellp (encG g))), (5, .fz (.cellp [VI d])), (6, .ptr 0 4 0 0), (7, .ptr 1 4 0 0)]) (H' := [(0, OTr zeroT), (1, some (.refs 4 [[.fz (If .i64 a), .fz (VI d), .sl 2 1 0 d.length, .sl 3 1 0 d.length]])), (2, some (.flat 1 ((List.replicate d.length []).map encL))), (3, some (.flat 1 (par.map encL)))]) wG (by exact ⟨wS, ⟨wS, ⟨wS, ⟨ent_same rfl rfl (flEq rfl (fz_rowsI _)) trivial, trivial⟩⟩⟩⟩) wN ?_
 refine nK2 ?_
 refine zb ?_
 refine zj ?_
 refine zo ?_
 refine Run.eff (dd := some 81) rfl rfl (op_make (l := d.length) (c := d.length) rfl (oT rfl) (oT rfl) rfl rfl rfl rfl (by intro _; refine ⟨rfl, rfl, ?_⟩; omega)) ?_
 refine zd ?_
 refine zc ?_
 refine nK2 ?_
 refine Next.weak [0, 1, 2, 3, 4] [] (by rfl) (keepsN hC _ rfl) (G' := [(1, IV .i64 a), (3, .fz (.cellp (encG g))), (5, .fz (.cellp [VI d])), (6, .ptr 0 4 0 0), (7, .ptr 1 4 0 0), (10, .sl 4 1 0 d.length)]) (H' := [(0, OTr zeroT), (1, some (.refs 4 [[.fz (If .i64 a), .fz (VI d), .sl 2 1 0 d.length, .sl 3 1 0 d.length]])), (2, some (.flat 1 ((List.replicate d.length []).map encL))), (3, some (.flat 1 (par.map encL))), (4, OI (fillL d.length 0))]) wG (by exact ⟨wS, ⟨wS, ⟨wS, ⟨wS, ⟨ent_same rfl rfl (flEq rfl (by rw [← fillL_0, List.map_replicate]; rfl)) trivial, trivial⟩⟩⟩⟩⟩) wN ?_
 refine nK2 ?_
 refine zb ?_
 refine za ?_
 refine zbi ?_
 refine zbb ?_
 refine zc ?_
 refine nK2 ?_
 refine n_loop (ι := Nat) (fun i => ([(1, IV .i64 a), (3, .fz (.cellp (encG g))), (5, .fz (.cellp [VI d])), (6, .ptr 0 4 0 0), (7, .ptr 1 4 0 0), (10, .sl 4 1 0 d.length), (83, IV .i64 d.length), (84, IV .i64 i)], [(0, OTr zeroT), (1, some (.refs 4 [[.fz (If .i64 a), .fz (VI d), .sl 2 1 0 d.length, .sl 3 1 0 d.length]])), (2, some (.flat 1 ((List.replicate d.length []).map encL))), (3, some (.flat 1 (par.map encL))), (4, OI (fillL d.length i))], 5)) (fun i => i ≤ d.length) (fun i => d.length - i) 0 (Nat.zero_le _) ?_ ?_
 ·refine Next.weak [0, 1, 2, 3, 4] [] (by rfl) (keepsN hC _ rfl) wG wR wN rel_intro
 intro i hi K2 hK2
 try dsimp only at hi hK2 ⊢
 refine nK2 ?_
 refine zb ?_
 refine zp ?_
 refine zc ?_
 refine nK2 ?_
 refine n_cond _ rfl (fun hb => ?_) (fun hb => ?_)
 ·have hlt : i < d.length := by simp at hb; omega
  have hfl := fillL_len d.length i
  have hri := row_of encN (fillL d.length i) i 0 (by omega)
  have hK3 := hK2 (i + 1) (by omega) (by omega)
  rw [← fillL_set] at hK3
  generalize fillL d.length i = F at *
  refine nK2 ?_
  refine zb ?_
  refine za ?_
  refine zd ?_
  refine zc ?_
  refine nK2 ?_
  refine zb ?_
  refine za ?_
  refine za ?_
  refine za ?_
  refine rpZ 90 rfl (op_idx_sl0 i rfl (oT rfl) (oT rfl) (by intro _; exact ⟨rfl, by omega⟩)) ?_
  refine Run.eff (dd := none) rfl rfl (op_store_flat rfl (oT rfl) (oT rfl) tC rfl rfl hri tS) ?_
  refine zc ?_
  refine nK2 ?_
  refine zb ?_
  refine zl ?_
  refine za ?_
  refine zc ?_
  refine nK2 ?_
  refine Next.weak [0, 1, 2, 3, 4] [] (by rfl) (keepsN hC _ rfl) wG (by exact ⟨wS, ⟨wS, ⟨wS, ⟨wS, ⟨ent_same rfl rfl (flEq rfl (by rw [List.map_set]; rfl)) trivial, trivial⟩⟩⟩⟩⟩) wN hK3
 have hie : i = d.length := by simp at hb; omega
 subst hie
 refine Next.weak [0, 1, 2, 3, 4] [] (by rfl) (keepsN hC _ rfl) (G' := [(1, IV .i64 a), (3, .fz (.cellp (encG g))), (5, .fz (.cellp [VI d])), (6, .ptr 0 4 0 0), (7, .ptr 1 4 0 0), (10, .sl 4 1 0 d.length)]) (H' := [(0, OTr zeroT), (1, some (.refs 4 [[.fz (If .i64 a), .fz (VI d), .sl 2 1 0 d.length, .sl 3 1 0 d.length]])), (2, some (.flat 1 ((List.replicate d.length []).map encL))), (3, some (.flat 1 (par.map encL))), (4, OF (List.finRange d.length))]) wG (by exact ⟨wS, ⟨wS, ⟨wS, ⟨wS, ⟨ent_same rfl rfl (flEq rfl (by rw [hFF, List.map_map]; rfl)) trivial, trivial⟩⟩⟩⟩⟩) wN ?_
 refine nK2 ?_
 refine zb ?_
 refine za ?_
 refine rpZ 93 rfl (op_makeFuncF (fs := [.cellp [VI d], .cellp (encG g)]) rfl (oS (oT rfl) (oS (oT rfl) Opds.nil))) ?_
 refine Run.eff (dd := some 94) rfl rfl (op_call (n := 1) (n' := 1) [4] (fun _ => hso) rfl (Opd.func _) (oS (oT rfl) (oS (oT rfl) Opds.nil)) rfl rfl (Lent.of rfl rfl (by exact ⟨⟨rfl, rfl, rfl, trivial⟩, trivial⟩) rfl) rfl rfl rfl rfl rfl) ?_
 refine zc ?_
 refine nK2 ?_
 generalize topL g.r d.length d = L at *
 refine Next.weak [0, 1, 2, 3] [4] (by rfl) (keepsN hC _ rfl) (G' := [(1, IV .i64 a), (3, .fz (.cellp (encG g))), (5, .fz (.cellp [VI d])), (6, .ptr 0 4 0 0), (7, .ptr 1 4 0 0), (10, .fz (.vals 1 (L.map encT)))]) (H' := [(0, OTr zeroT), (1, some (.refs 4 [[.fz (If .i64 a), .fz (VI d), .sl 2 1 0 d.length, .sl 3 1 0 d.length]])), (2, some (.flat 1 ((List.replicate d.length []).map encL))), (3, some (.flat 1 (par.map encL)))]) (by exact ⟨⟨_, rfl, .inl ⟨rfl, rfl⟩⟩, ⟨⟨_, rfl, .inl ⟨rfl, rfl⟩⟩, ⟨⟨_, rfl, .inl ⟨rfl, rfl⟩⟩, ⟨⟨_, rfl, .inl ⟨rfl, rfl⟩⟩, ⟨⟨_, rfl, .inl ⟨rfl, rfl⟩⟩, ⟨⟨_, rfl, .inr ⟨_, rfl, .sl _ _ _ _ _ _ rfl rfl ((take_all0 ((congrArg List.length hTF).trans ((List.length_map _).trans hTl))).trans hTF) ((List.length_map _).trans hTl)⟩⟩, trivial⟩⟩⟩⟩⟩⟩) wR (fun id h => by simp at h; subst h; exact ⟨_, rfl⟩) ?_
 clear hso hTF hFF hK hK2 hD
 refine nK2 ?_
 refine zb ?_
 refine za ?_
 refine zo ?_
 refine zbb ?_
 refine zc ?_
 refine nK2 ?_
 refine n_loop (ι := Nat) (fun i => ([(1, IV .i64 a), (3, .fz (.cellp (encG g))), (5, .fz (.cellp [VI d])), (6, .ptr 0 4 0 0), (7, .ptr 1 4 0 0), (95, .fz (.vals 1 (L.map encT))), (96, IV .i64 L.length), (97, IV .i64 i)], [(0, OTr zeroT), (1, some (.refs 4 [[.fz (If .i64 a), .fz (VI d), .sl 2 1 0 d.length, .sl 3 1 0 d.length]])), (2, some (.flat 1 (((L.take i).foldl (hopN g.r a par) (List.replicate d.length [])).map encL))), (3, some (.flat 1 (par.map encL)))], 4)) (fun i => i ≤ L.length) (fun i => L.length - i) 0 (Nat.zero_le _) ?_ ?_
 ·refine Next.weak [0, 1, 2, 3] [] (by rfl) (keepsN hC _ rfl) wG wR wN rel_intro
 intro i hi K hK
 try dsimp only at hi hK ⊢
 have hli : LLok d.length ((L.take i).foldl (hopN g.r a par) (List.replicate d.length [])) := LLok.hopT hup _ hLN fun x hx => hTlt x (List.mem_of_mem_take hx)
 refine nK2 ?_
 refine zb ?_
 refine zp ?_
 refine zc ?_
 refine nK2 ?_
 refine n_cond _ rfl (fun hb => ?_) (fun hb => ?_)
 ·have hlt : i < L.length := by simp at hb; omega
  have hri := row_at' encT L i hlt
  have hv := hTlt _ (List.getElem_mem hlt)
  have hK1 := hK (i + 1) (by omega) (by omega)
  rw [foldl_take_succ _ _ _ _ hlt] at hK1
  generalize (L.take i).foldl (hopN g.r a par) (List.replicate d.length []) = ll at *
  generalize L[i] = v at *
  have hrp := row_of encL par v [] (by omega)
  obtain ⟨hrl, hrow⟩ := hup.row v hv
  have hhv : hopN g.r a par ll v = ll.set v (compL eqI (srtI (rawH g.r a v ll (rowAt' par v)))) := rfl
  have hgu : par.getD v [] = rowAt' par v := rfl
  rw [hhv] at hK1
  rw [hgu] at hrp
  have hrh := row_of encL ll v [] (by rw [hli.len]; exact hv)
  generalize rowAt' par v = row at *
  clear hK hhv
  refine nK2 ?_
  refine zb ?_
  refine zz ?_
  refine zj ?_
  refine zd ?_
  refine zc ?_
  refine nK2 ?_
  refine zb ?_
  refine zct ?_
  refine zd ?_
  refine zc ?_
  refine nK2 ?_
  refine zb ?_
  refine zg ?_
  refine zy ?_
  refine za ?_
  refine rpZ 105 rfl (op_idx_sl0 v rfl (oT rfl) (oT rfl) (by intro _; exact ⟨rfl, by omega⟩)) ?_
  refine rlZ 106 rfl (op_load1_flat rfl (oT rfl) (by intro _; exact ⟨rfl, hrp⟩) rfl) ?_
  refine zo ?_
  refine zbb ?_
  refine zc ?_
  refine nK2 ?_
  refine n_loop (ι := Nat) (fun j => ([(1, IV .i64 a), (3, .fz (.cellp (encG g))), (5, .fz (.cellp [VI d])), (6, .ptr 0 4 0 0), (7, .ptr 1 4 0 0), (95, .fz (.vals 1 (L.map encT))), (96, IV .i64 L.length), (97, IV .i64 i), (13, IV .i64 v), (14, .sl 4 1 0 (rawH g.r a v ll (row.take j)).length), (106, .fz (VI row)), (107, IV .i64 row.length), (108, IV .i64 j)], [(0, OTr zeroT), (1, some (.refs 4 [[.fz (If .i64 a), .fz (VI d), .sl 2 1 0 d.length, .sl 3 1 0 d.length]])), (2, some (.flat 1 (ll.map encL))), (3, some (.flat 1 (par.map encL))), (4, OI (rawH g.r a v ll (row.take j)))], 5)) (fun j => j ≤ row.length) (fun j => row.length - j) 0 (Nat.zero_le _) ?_ ?_
  ·refine Next.weak [0, 1, 2, 3, 4] [] (by rfl) (keepsN hC _ rfl) wG wR wN rel_intro
  intro j hj K2 hK2
  try dsimp only at hj hK2 ⊢
  have hrw := (rawH_ok (r := g.r) (a := a) hli hv (row.take j) fun u hu => by have := hrow u (List.mem_of_mem_take hu); omega).1
  have hrw2 : (row.take j).length ≤ 2000 := Nat.le_trans (List.length_take_le' _ _) hrl
  have hrw3 : (rawH g.r a v ll (row.take j)).length ≤ 258000 := by
   have : (row.take j).length * (d.length + 1) ≤ 2000 * 129 := Nat.mul_le_mul hrw2 (by omega)
   omega
  refine nK2 ?_
  refine zb ?_
  refine zp ?_
  refine zc ?_
  refine nK2 ?_
  refine n_cond _ rfl (fun hb => ?_) (fun hb => ?_)
  ·have hltj : j < row.length := by simp at hb; omega
   have hrj := row_at' encN row j hltj
   obtain ⟨hu0, hu1, huv0⟩ := hrow _ (List.getElem_mem hltj)
   have hK3 := hK2 (j + 1) (by omega) (by omega)
   rw [rawH_succ _ _ _ _ hltj] at hK3
   generalize rawH g.r a v ll (row.take j) = R at *
   generalize row[j] = u at *
   have hru := row_of encL ll u.toNat [] (by rw [hli.len]; omega)
   have hgu2 : ll.getD u.toNat [] = rowAt' ll u.toNat := rfl
   rw [hgu2] at hru
   have hul := (hli.row u.toNat (by omega)).len
   have hrU : rawU g.r a v ll u = (if u = (a : Int) then [(v : Int)] else []) ++ (rowAt' ll u.toNat).map (capV g.r v) := rfl
   rw [hrU] at hK3
   generalize rowAt' ll u.toNat = hu at *
   clear hK2 hrU hgu2
   have hRl : (R ++ (if u = (a : Int) then [(v : Int)] else [])).length ≤ 258001 := by rw [List.length_append]; split <;> simp <;> omega
   refine nK2 ?_
   refine zb ?_
   refine rpZ 110 rfl (op_idx_fz j rfl (oT rfl) (oT rfl) (by intro _; exact ⟨rfl, hrj⟩)) ?_
   refine zj ?_
   refine zd ?_
   refine zc ?_
   refine nK2 ?_
   refine zb ?_
   refine za ?_
   refine za ?_
   refine zbr ?_
   refine zc ?_
   refine nK2 ?_
   refine n_join [(1, IV .i64 a), (3, .fz (.cellp (encG g))), (5, .fz (.cellp [VI d])), (6, .ptr 0 4 0 0), (7, .ptr 1 4 0 0), (95, .fz (.vals 1 (L.map encT))), (96, IV .i64 L.length), (97, IV .i64 i), (13, IV .i64 v), (14, .sl 4 1 0 (R ++ (if u = (a : Int) then [(v : Int)] else [])).length), (106, .fz (VI row)), (107, IV .i64 row.length), (108, IV .i64 j), (16, IV .i64 u)] [(0, OTr zeroT), (1, some (.refs 4 [[.fz (If .i64 a), .fz (VI d), .sl 2 1 0 d.length, .sl 3 1 0 d.length]])), (2, some (.flat 1 (ll.map encL))), (3, some (.flat 1 (par.map encL))), (4, OI (R ++ (if u = (a : Int) then [(v : Int)] else [])))] 5 ?_ ?_
   ·refine nK2 ?_
    refine n_cond _ rfl (fun hb => ?_) (fun hb => ?_)
    ·have hua : u = (a : Int) := by simpa using hb
     rw [if_pos hua]
     refine nK2 ?_
     refine zb ?_
     refine za ?_
     refine za ?_
     refine zbh ?_
     refine zbu ?_
     refine zd ?_
     refine zc ?_
     refine nK2 ?_
     refine Next.weak [0, 1, 2, 3, 5] [] (by rfl) (keepsN hC _ rfl) wG (by exact ⟨wS, ⟨wS, ⟨wS, ⟨wS, ⟨ent_same rfl rfl (flEq rfl (by rw [List.map_append]; rfl)) trivial, trivial⟩⟩⟩⟩⟩) wN rel_intro
    have hua : ¬ u = (a : Int) := by simpa using hb
    rw [if_neg hua, List.append_nil]
    refine nK2 ?_
    refine Next.weak [0, 1, 2, 3, 4] [] (by rfl) (keepsN hC _ rfl) wG wR wN rel_intro
   rw [← List.append_assoc] at hK3
   generalize R ++ (if u = (a : Int) then [(v : Int)] else []) = R1 at *
   refine nK2 ?_
   refine zb ?_
   refine zg ?_
   refine zy ?_
   refine za ?_
   refine rpZ 122 rfl (op_idx_sl0 u.toNat rfl (oT rfl) (oT rfl) (by intro _; have := hli.len; omega)) ?_
   refine rlZ 123 rfl (op_load1_flat rfl (oT rfl) (by intro _; exact ⟨rfl, hru⟩) rfl) ?_
   refine zo ?_
   refine zbb ?_
   refine zc ?_
   refine nK2 ?_
   refine n_loop (ι := Nat) (fun k => ([(1, IV .i64 a), (3, .fz (.cellp (encG g))), (5, .fz (.cellp [VI d])), (6, .ptr 0 4 0 0), (7, .ptr 1 4 0 0), (95, .fz (.vals 1 (L.map encT))), (96, IV .i64 L.length), (97, IV .i64 i), (13, IV .i64 v), (14, .sl 4 1 0 (R1 ++ (hu.take k).map (capV g.r v)).length), (106, .fz (VI row)), (107, IV .i64 row.length), (108, IV .i64 j), (123, .fz (VI hu)), (124, IV .i64 hu.length), (125, IV .i64 k)], [(0, OTr zeroT), (1, some (.refs 4 [[.fz (If .i64 a), .fz (VI d), .sl 2 1 0 d.length, .sl 3 1 0 d.length]])), (2, some (.flat 1 (ll.map encL))), (3, some (.flat 1 (par.map encL))), (4, OI (R1 ++ (hu.take k).map (capV g.r v)))], 5)) (fun k => k ≤ hu.length) (fun k => hu.length - k) 0 (Nat.zero_le _) ?_ ?_
   ·refine Next.weak [0, 1, 2, 3, 4] [] (by rfl) (keepsN hC _ rfl) wG (by exact ⟨wS, ⟨wS, ⟨wS, ⟨wS, ⟨ent_same rfl rfl (flEq rfl (by rw [List.take_zero, List.map_nil, List.append_nil])) trivial, trivial⟩⟩⟩⟩⟩) wN rel_intro
   intro k hk K4 hK4
   try dsimp only at hk hK4 ⊢
   have htk : ((hu.take k).map (capV g.r v)).length ≤ 128 := by rw [List.length_map]; have : (hu.take k).length ≤ hu.length := List.length_take_le' _ _; omega
   have hRk : (R1 ++ (hu.take k).map (capV g.r v)).length ≤ 258200 := by rw [List.length_append]; omega
   refine nK2 ?_
   refine zb ?_
   refine zp ?_
   refine zc ?_
   refine nK2 ?_
   refine n_cond _ rfl (fun hb => ?_) (fun hb => ?_)
   ·have hkl : k < hu.length := by simp at hb; omega
    have hrk := row_at' encN hu k hkl
    have hK5 := hK4 (k + 1) (by omega) (by omega)
    rw [List.take_succ_eq_append_getElem hkl, List.map_append, ← List.append_assoc] at hK5
    generalize R1 ++ (hu.take k).map (capV g.r v) = R2 at *
    generalize hu[k] = y at *
    refine nK2 ?_
    refine zb ?_
    refine rpZ 127 rfl (op_idx_fz k rfl (oT rfl) (oT rfl) (by intro _; exact ⟨rfl, hrk⟩)) ?_
    refine zj ?_
    refine zd ?_
    refine zc ?_
    refine nK2 ?_
    refine zb ?_
    refine za ?_
    refine zx ?_
    refine zj ?_
    refine zcj ?_
    refine zc ?_
    refine nK2 ?_
    refine n_cond _ rfl (fun hb => ?_) (fun hb => ?_)
    ·have hc : capV g.r v y = (v : Int) := by unfold capV; rw [if_pos (by simpa using hb)]
     rw [List.map_cons, List.map_nil, hc] at hK5
     refine nK2 ?_
     refine zb ?_
     refine za ?_
     refine zd ?_
     refine zc ?_
     refine nK2 ?_
     refine zb ?_
     refine za ?_
     refine za ?_
     refine zbh ?_
     refine zbu ?_
     refine zd ?_
     refine zc ?_
     refine nK2 ?_
     refine zb ?_
     refine zl ?_
     refine za ?_
     refine zc ?_
     refine nK2 ?_
     refine Next.weak [0, 1, 2, 3, 5] [] (by rfl) (keepsN hC _ rfl) wG (by exact ⟨wS, ⟨wS, ⟨wS, ⟨wS, ⟨ent_same rfl rfl (flEq rfl (by rw [List.map_append]; rfl)) trivial, trivial⟩⟩⟩⟩⟩) wN hK5
    have hc : capV g.r v y = y := by unfold capV; rw [if_neg (by simpa using hb)]
    rw [List.map_cons, List.map_nil, hc] at hK5
    refine nK2 ?_
    refine zb ?_
    refine za ?_
    refine za ?_
    refine zbh ?_
    refine zbu ?_
    refine zd ?_
    refine zc ?_
    refine nK2 ?_
    refine zb ?_
    refine zl ?_
    refine za ?_
    refine zc ?_
    refine nK2 ?_
    refine Next.weak [0, 1, 2, 3, 5] [] (by rfl) (keepsN hC _ rfl) wG (by exact ⟨wS, ⟨wS, ⟨wS, ⟨wS, ⟨ent_same rfl rfl (flEq rfl (by rw [List.map_append]; rfl)) trivial, trivial⟩⟩⟩⟩⟩) wN hK5
   have hke : k = hu.length := by simp at hb; omega
   subst hke
   rw [List.take_length]
   clear hK4
   refine nK2 ?_
   refine zb ?_
   refine zl ?_
   refine za ?_
   refine zc ?_
   refine nK2 ?_
   refine Next.weak [0, 1, 2, 3, 4] [] (by rfl) (keepsN hC _ rfl) wG wR wN hK3
  have hje : j = row.length := by simp at hb; omega
  subst hje
  rw [List.take_length] at *
  clear hK2
  generalize rawH g.r a v ll row = R at *
  have hsr := sorti_c R (by omega)
  have hsl := srtI_len R
  have hcr := compact_c (srtI R) (by omega)
  rw [hsl] at hcr
  generalize srtI R = R2 at *
  generalize compL eqI R2 = R3 at *
  refine nK2 ?_
  refine zb ?_
  refine za ?_
  refine Run.eff (dd := some 141) rfl rfl (op_call (n := 1) (n' := 1) [4] (fun _ => hsr) rfl (Opd.func _) (oS (oT rfl) Opds.nil) rfl rfl (Lent.of rfl rfl (by exact ⟨⟨rfl, rfl, rfl, trivial⟩, trivial⟩) rfl) rfl rfl rfl rfl rfl) ?_
  refine zc ?_
  refine nK2 ?_
  refine s_draw mixed ?_
  refine zg ?_
  refine zy ?_
  refine za ?_
  refine za ?_
  refine Run.effW (dd := some 146) rfl rfl (op_call (n := 1) (n' := 1) [4] (fun _ => hcr) rfl (Opd.func _) (oS (oT rfl) Opds.nil) rfl rfl (Lent.of rfl rfl (by exact ⟨⟨rfl, rfl, rfl, trivial⟩, trivial⟩) rfl) rfl rfl rfl rfl rfl) (by first | exact ext_call | exact tE) ?_
  refine rpZ 147 rfl (op_idx_sl0 v rfl (oT rfl) (oT rfl) (by intro _; exact ⟨rfl, hv⟩)) ?_
  refine Run.effW (dd := none) rfl rfl (op_store_flat rfl (oT rfl) (oT rfl) tC rfl rfl hrh tS) (by first | exact ext_call | exact tE) ?_
  refine zs ?_
  refine nK2 ?_
  refine zb ?_
  refine zl ?_
  refine za ?_
  refine zc ?_
  refine nK2 ?_
  refine Next.weak [0, 1, 2, 3] [] (by rfl) (keepsN hC _ rfl) wG (by exact ⟨wS, ⟨wS, ⟨ent_same rfl rfl (flEq rfl (by rw [List.map_set]; rfl)) trivial, ⟨wS, trivial⟩⟩⟩⟩) wN hK1
 have hie : i = L.length := by simp at hb; omega
 subst hie
 rw [List.take_length] at *
 have hhT : hopT g.r a d.length par L = L.foldl (hopN g.r a par) (List.replicate d.length []) := rfl
 rw [hhT]
 have hhl := hli.len
 generalize L.foldl (hopN g.r a par) (List.replicate d.length []) = hops at *
 have hF2 : (hops.map encL).length = d.length := by rw [List.length_map]; exact hhl
 have hF3 : (par.map encL).length = d.length := by rw [List.length_map]; exact hpl
 clear hK
 refine nK2 ?_
 refine Next.weak [0, 1] [2, 3] (by rfl) (keepsN hC _ rfl) (G' := [(6, .ptr 0 4 0 0), (7, .ptr 1 4 0 0)]) (H' := [(0, OTr zeroT), (1, OTr ⟨a, d, hops, par⟩)]) wG (by exact ⟨wS, ⟨⟨rfl, rfl, .flat _ _ _ rfl (AsRs.cons _ _ _ _ (AsR.cons _ _ _ _ (.fz _) (AsR.cons _ _ _ _ (.fz _) (AsR.cons _ _ _ _ (.sl _ _ _ _ _ _ rfl rfl (take_all0 hF2) hF2) (AsR.cons _ _ _ _ (.sl _ _ _ _ _ _ rfl rfl (take_all0 hF3) hF3) .nil)))) .nil)⟩, trivial⟩⟩) (fun id h => by simp at h; rcases h with rfl | rfl <;> exact ⟨_, rfl⟩) ?_
 refine nK2 ?_
 refine zb ?_
 refine zk ?_
 refine zr ?_
 refine zc ?_
 refine nK2 ?_
 refine Next.weakS [6] [] (by rfl) (keeps0 hC _) (G' := [(6, .ptr 0 4 0 0)]) (H' := [(0, OTr ⟨a, d, hops, par⟩)]) wG wR rfl ?_
 exact wO hC
end Go.Proofs.YtcillieggklaaaaGreat
namespace Go.Pl
open Go.RT
set_option linter.all false
/-- the search comes to an edge that is there -/
theorem bs_mem {l : List Edg} (h : AscK l) {k : Nat} (hk : k < l.length) (x : Edg) (hf : x.f = l[k].f) (ht : x.t = l[k].t) : bsAt l x = k ∧ bsHit l x = true := by
  obtain ⟨h1, h2, h3⟩ := bsAt_spec h x
  have e : bsAt l x = k := by
    rcases Nat.lt_trichotomy (bsAt l x) k with h4 | h4 | h4
    · have a := h3 (bsAt l x) (Nat.le_refl _) (by omega)
      have b := asc_get h h4 hk
      unfold ltK at *; omega
    · exact h4
    · have a := h2 k h4 hk
      unfold ltK at *; omega
  refine ⟨e, ?_⟩
  unfold bsHit hitAt
  rw [e, List.getElem?_eq_getElem hk]
  simp [ordE_zero, hf, ht]
theorem alw_cost {g : Gr} {e : Edg} (h : alwI g e = 0) : 0 ≤ e.c := by
  unfold alwI at h
  split at h
  · cases h
  · split at h
    · cases h
    · rename_i h1 h2
      omega
theorem alw_nodes {g : Gr} {e : Edg} (h : alwI g e = 0) : ¬ (nodeB g e.f = false ∨ nodeB g e.t = false) := by
  unfold alwI at h
  split at h
  · cases h
  · assumption
theorem chg_gone {g : Gr} (ha : AscK g.es) {k : Nat} (hk : k < g.es.length) (hn : ¬ (nodeB g g.es[k].f = false ∨ nodeB g g.es[k].t = false)) : chgF g ⟨g.es[k].f, g.es[k].t, -1⟩ = (⟨g.r, g.n, delL g.es k (k + 1)⟩, 0) := by
  obtain ⟨b1, b2⟩ := bs_mem ha hk ⟨g.es[k].f, g.es[k].t, -1⟩ rfl rfl
  unfold chgF
  rw [if_neg hn, if_pos (show (-1 : Int) < 0 by decide), b2, if_neg (by simp), b1]
theorem app_gone {g : Gr} (hc : checkI g = 0) {k : Nat} (hk : k < g.es.length) : applyF g [⟨g.es[k].f, g.es[k].t, -1⟩] = (⟨g.r, g.n, delL g.es k (k + 1)⟩, 0) := by
  have ha := check_asc hc
  have h0 := chkL_alw _ _ (checkI_ok hc).2.2 _ (List.getElem_mem hk)
  have e := chg_gone ha hk (alw_nodes h0)
  unfold applyF
  rw [if_neg (by simp [hc])]
  simp [appL, e]
open Go Go.RT
/- the tree that Run returns -/
def trOf (g : Gr) (a : Nat) : Tr := refT g (disF g.es g.m) a
theorem trOf_ok {g : Gr} {a : Nat} (h : checkI g = 0) (ha : (a : Int) < g.r) : RunOk g a (trOf g a) := by
  obtain ⟨t, ht⟩ := run_exists h ha
  have e := ht.refT (dst_of h)
  unfold trOf; rw [← e]; exact ht
theorem trOf_uniq {g : Gr} {a : Nat} {t : Tr} (h : RunOk g a t) : t = trOf g a := h.refT (dst_of h.ok)
theorem applyF_one {g : Gr} (hg : checkI g = 0) (c : Edg) : applyF g [c] = if (chgF g c).2 ≠ 0 then (zeroG, (chgF g c).2) else ((chgF g c).1, 0) := by
  unfold applyF
  rw [if_neg (by simp [hg])]
  simp only [appL]
theorem applyF_nil {g : Gr} (hg : checkI g = 0) : applyF g [] = (g, 0) := by
  unfold applyF; rw [if_neg (by simp [hg])]; simp only [appL]
theorem one_ok {g : Gr} (hg : checkI g = 0) {c : Edg} (hz : (applyF g [c]).2 = 0) : ∃ es', applyF g [c] = (⟨g.r, g.n, es'⟩, 0) ∧ chgF g c = (⟨g.r, g.n, es'⟩, 0) ∧ checkI ⟨g.r, g.n, es'⟩ = 0 ∧ ChRel g.es es' c (oldI g.es c) ∧ nodeB g c.f = true ∧ nodeB g c.t = true := by
  rw [applyF_one hg] at hz
  have hc : (chgF g c).2 = 0 := by
    by_cases h : (chgF g c).2 = 0
    · exact h
    · rw [if_pos h] at hz; exact hz
  obtain ⟨es', h1, h2, h3, h4, h5⟩ := chg_rel hg c hc
  exact ⟨es', by rw [applyF_one hg, if_neg (by simp [hc]), h1], Prod.ext h1 hc, h2, h3, h4, h5⟩
theorem applyF_cons {g : Gr} (hg : checkI g = 0) (c : Edg) (cs : List Edg) : applyF g (c :: cs) = if (applyF g [c]).2 ≠ 0 then applyF g [c] else applyF (applyF g [c]).1 cs := by
  by_cases hz : (applyF g [c]).2 = 0
  · rw [if_neg (by simp [hz])]
    obtain ⟨es', h1, h2, h3, _⟩ := one_ok hg hz
    rw [h1]
    unfold applyF
    rw [if_neg (by simp [hg]), if_neg (by simp [h3])]
    simp only [appL]
    rw [h2]; simp
  · rw [if_pos hz]
    have hc : (chgF g c).2 ≠ 0 := fun h => hz (by rw [applyF_one hg, if_neg (by simp [h])])
    rw [applyF_one hg, if_pos hc]
    unfold applyF
    rw [if_neg (by simp [hg])]
    simp only [appL]
    rw [if_pos hc]
theorem okG_of {g : Gr} (hg : checkI g = 0) : okG g := by
  obtain ⟨vg, h0, h1⟩ := checkI_vg hg
  have hn := vg.n128
  refine ⟨by simp only [inr]; omega, by simp only [inr]; omega, fun e he => ?_⟩
  have a1 := vg.f e he
  have a2 := vg.t e he
  have a3 := vg.c e he
  exact ⟨by simp only [inr]; omega, by simp only [inr]; omega, by simp only [inr]; omega⟩
/- how many distances differ -/
def cntI (d D : List Int) (i : Nat) : Nat := ((List.range i).filter fun v => decide (gt0 D v ≠ gt0 d v)).length
theorem cntI_succ (d D : List Int) (i : Nat) : cntI d D (i + 1) = cntI d D i + if gt0 D i ≠ gt0 d i then 1 else 0 := by
  unfold cntI
  rw [List.range_succ, List.filter_append, List.length_append]
  congr 1
  rw [List.filter_cons, List.filter_nil]
  by_cases h : gt0 D i ≠ gt0 d i
  · rw [if_pos (decide_eq_true h), if_pos h]; rfl
  · rw [if_neg (by rw [decide_eq_false h]; simp), if_neg h]; rfl
theorem cntI_le (d D : List Int) (i : Nat) : cntI d D i ≤ i := by
  have := List.length_filter_le (fun v => decide (gt0 D v ≠ gt0 d v)) (List.range i)
  rw [List.length_range] at this
  exact this
def updF (a : Nat) : Gr → List Edg → Nat → Gr × Tr × Nat × Int
  | g, [], k => (g, trOf g a, k, 0)
  | g, c :: cs, k => if (applyF g [c]).2 ≠ 0 then (zeroG, zeroT, 0, (applyF g [c]).2) else updF a (applyF g [c]).1 cs (k + cntI (trOf g a).dist (trOf (applyF g [c]).1 a).dist g.m)
def updT (g : Gr) (t : Tr) (cs : List Edg) : Gr × Tr × Nat × Int :=
  if checkI g ≠ 0 then (zeroG, zeroT, 0, checkI g) else if 0 ≤ t.root ∧ t.root < g.r ∧ t = trOf g t.root.toNat then updF t.root.toNat g cs 0 else (zeroG, zeroT, 0, 1)
theorem updF_no {a : Nat} {g : Gr} {c : Edg} {cs : List Edg} {k : Nat} (h : (applyF g [c]).2 ≠ 0) : updF a g (c :: cs) k = (zeroG, zeroT, 0, (applyF g [c]).2) := by
  simp only [updF]; rw [if_pos h]
theorem updF_yes {a : Nat} {g : Gr} {c : Edg} {cs : List Edg} {k : Nat} (h : (applyF g [c]).2 = 0) : updF a g (c :: cs) k = updF a (applyF g [c]).1 cs (k + cntI (trOf g a).dist (trOf (applyF g [c]).1 a).dist g.m) := by
  simp only [updF]; rw [if_neg (by simp [h])]
theorem trOf_root (g : Gr) (a : Nat) : (trOf g a).root = a := rfl
theorem trOf_dl {g : Gr} {a : Nat} : (trOf g a).dist.length = g.m := rowF_len _ _
theorem updT_run {g : Gr} {a : Nat} (hg : checkI g = 0) (ha : (a : Int) < g.r) (cs : List Edg) : updT g (trOf g a) cs = updF a g cs 0 := by
  unfold updT
  rw [if_neg (by simp [hg]), trOf_root, if_pos ⟨by omega, ha, by rw [Int.toNat_natCast]⟩, Int.toNat_natCast]
open Go Go.RT
/- the changes between two graphs -/
def chM : List Edg → List Edg → List Edg
  | [], [] => []
  | x :: A, [] => ⟨x.f, x.t, -1⟩ :: chM A []
  | [], y :: B => y :: chM [] B
  | x :: A, y :: B => if ordE x y < 0 then ⟨x.f, x.t, -1⟩ :: chM A (y :: B) else if 0 < ordE x y then y :: chM (x :: A) B else (if x.c ≠ y.c then [y] else []) ++ chM A B
termination_by A B => A.length + B.length
theorem ordE_pos (a b : Edg) : 0 < ordE a b ↔ ltK b a := by
  have h1 := ordE_neg a b
  have h2 := ordE_zero a b
  unfold ltK
  omega
theorem ordE_neg' (a b : Edg) : ordE a b < 0 ↔ ltK a b := ordE_neg a b
abbrev sameK (x y : Edg) : Prop := x.f = y.f ∧ x.t = y.t
def ChMem (A B : List Edg) (p : Edg) : Prop := (p ∈ B ∧ p ∉ A) ∨ (p.c = -1 ∧ (∃ x ∈ A, sameK x p) ∧ ∀ y ∈ B, ¬ sameK y p)
theorem ltK_ne {x y : Edg} (h : ltK x y) : ¬ sameK x y ∧ ¬ sameK y x ∧ x ≠ y ∧ y ≠ x := by
  unfold ltK at h
  refine ⟨fun h2 => by obtain ⟨a, b⟩ := h2; omega, fun h2 => by obtain ⟨a, b⟩ := h2; omega, fun e => by rw [e] at h; omega, fun e => by rw [e] at h; omega⟩
theorem ltK_tr {x y z : Edg} (h : ltK x y) (h2 : ltK y z) : ltK x z := by unfold ltK at *; omega
theorem chM_mem : ∀ (k : Nat) (A B : List Edg), A.length + B.length ≤ k → AscK A → AscK B → ∀ p, p ∈ chM A B ↔ ChMem A B p
  | _, [], [], _, _, _, p => by simp [chM, ChMem]
  | 0, x :: A, B, h, _, _, _ => by simp at h
  | 0, [], y :: B, h, _, _, _ => by simp at h
  | k + 1, x :: A, [], h, hA, hB, p => by
    have ih := chM_mem k A [] (by simp at h ⊢; omega) (List.pairwise_cons.1 hA).2 hB p
    rw [chM, List.mem_cons, ih]
    unfold ChMem
    constructor
    · rintro (h1 | ⟨h1, h2⟩ | ⟨h1, ⟨z, h2, h3⟩, h4⟩)
      · subst h1; exact .inr ⟨rfl, ⟨x, by simp, rfl, rfl⟩, fun y hy => by cases hy⟩
      · cases h1
      · exact .inr ⟨h1, ⟨z, by simp [h2], h3⟩, h4⟩
    · rintro (⟨h1, h2⟩ | ⟨h1, ⟨z, h2, h3⟩, h4⟩)
      · cases h1
      · rcases List.mem_cons.1 h2 with e | h2
        · subst e; left; cases p; simp only [sameK] at h1 h3; simp [h1, h3]
        · exact .inr (.inr ⟨h1, ⟨z, h2, h3⟩, h4⟩)
  | k + 1, [], y :: B, h, hA, hB, p => by
    have ih := chM_mem k [] B (by simp at h ⊢; omega) hA (List.pairwise_cons.1 hB).2 p
    rw [chM, List.mem_cons, ih]
    unfold ChMem
    simp
  | k + 1, x :: A, y :: B, h, hA, hB, p => by
    obtain ⟨a1, a2⟩ := List.pairwise_cons.1 hA
    obtain ⟨b1, b2⟩ := List.pairwise_cons.1 hB
    rw [chM]
    by_cases c1 : ordE x y < 0
    · rw [if_pos c1, List.mem_cons, chM_mem k A (y :: B) (by simp at h ⊢; omega) a2 hB p]
      have hxy := (ordE_neg' x y).1 c1
      have hxB : ∀ z ∈ y :: B, ltK x z := fun z hz => by
        rcases List.mem_cons.1 hz with rfl | hz
        · exact hxy
        · exact ltK_tr hxy (b1 z hz)
      unfold ChMem
      constructor
      · rintro (h1 | ⟨h1, h2⟩ | ⟨h1, ⟨z, h2, h3⟩, h4⟩)
        · subst h1; exact .inr ⟨rfl, ⟨x, by simp, rfl, rfl⟩, fun z hz => (ltK_ne (hxB z hz)).2.1⟩
        · refine .inl ⟨h1, fun h3 => ?_⟩
          rcases List.mem_cons.1 h3 with e | h3
          · exact (ltK_ne (hxB p h1)).2.2.2 e
          · exact h2 h3
        · exact .inr ⟨h1, ⟨z, by simp [h2], h3⟩, h4⟩
      · rintro (⟨h1, h2⟩ | ⟨h1, ⟨z, h2, h3⟩, h4⟩)
        · exact .inr (.inl ⟨h1, fun h3 => h2 (by simp [h3])⟩)
        · rcases List.mem_cons.1 h2 with e | h2
          · subst e; left; cases p; simp only [sameK] at h1 h3; simp [h1, h3]
          · exact .inr (.inr ⟨h1, ⟨z, h2, h3⟩, h4⟩)
    · rw [if_neg c1]
      by_cases c2 : 0 < ordE x y
      · rw [if_pos c2, List.mem_cons, chM_mem k (x :: A) B (by simp at h ⊢; omega) hA b2 p]
        have hyx := (ordE_pos x y).1 c2
        have hyA : ∀ z ∈ x :: A, ltK y z := fun z hz => by
          rcases List.mem_cons.1 hz with rfl | hz
          · exact hyx
          · exact ltK_tr hyx (a1 z hz)
        unfold ChMem
        constructor
        · rintro (h1 | ⟨h1, h2⟩ | ⟨h1, ⟨z, h2, h3⟩, h4⟩)
          · subst h1; exact .inl ⟨by simp, fun h3 => (ltK_ne (hyA p h3)).2.2.1 rfl⟩
          · exact .inl ⟨by simp [h1], h2⟩
          · refine .inr ⟨h1, ⟨z, h2, h3⟩, fun w hw hk => ?_⟩
            rcases List.mem_cons.1 hw with rfl | hw
            · exact (ltK_ne (hyA z h2)).2.1 ⟨h3.1.trans hk.1.symm, h3.2.trans hk.2.symm⟩
            · exact h4 w hw hk
        · rintro (⟨h1, h2⟩ | ⟨h1, ⟨z, h2, h3⟩, h4⟩)
          · rcases List.mem_cons.1 h1 with e | h1
            · exact .inl e
            · exact .inr (.inl ⟨h1, h2⟩)
          · exact .inr (.inr ⟨h1, ⟨z, h2, h3⟩, fun w hw => h4 w (by simp [hw])⟩)
      · rw [if_neg c2, List.mem_append, chM_mem k A B (by simp at h ⊢; omega) a2 b2 p]
        have hs : sameK x y := (ordE_zero x y).1 (by omega)
        have hxB : ∀ z ∈ B, ltK x z := fun z hz => by have := b1 z hz; unfold ltK at *; obtain ⟨q1, q2⟩ := hs; omega
        have hyA : ∀ z ∈ A, ltK y z := fun z hz => by have := a1 z hz; unfold ltK at *; obtain ⟨q1, q2⟩ := hs; omega
        have hm : p ∈ (if x.c ≠ y.c then [y] else []) ↔ p = y ∧ x ≠ y := by
          by_cases hc : x.c = y.c
          · rw [if_neg (by simp [hc])]
            have : x = y := by cases x; cases y; simp only [sameK] at hs; simp_all
            simp [this]
          · rw [if_pos hc]
            have : x ≠ y := fun e => hc (by rw [e])
            simp [this]
        rw [hm]
        unfold ChMem
        constructor
        · rintro (⟨h1, h2⟩ | ⟨h1, h2⟩ | ⟨h1, ⟨z, h2, h3⟩, h4⟩)
          · subst h1; refine .inl ⟨by simp, fun h3 => ?_⟩
            rcases List.mem_cons.1 h3 with e | h3
            · exact h2 e.symm
            · exact (ltK_ne (hyA p h3)).2.2.1 rfl
          · refine .inl ⟨by simp [h1], fun h3 => ?_⟩
            rcases List.mem_cons.1 h3 with e | h3
            · exact (ltK_ne (hxB p h1)).2.2.1 e.symm
            · exact h2 h3
          · refine .inr ⟨h1, ⟨z, by simp [h2], h3⟩, fun w hw hk => ?_⟩
            rcases List.mem_cons.1 hw with rfl | hw
            · exact (ltK_ne (hyA z h2)).2.1 ⟨h3.1.trans hk.1.symm, h3.2.trans hk.2.symm⟩
            · exact h4 w hw hk
        · rintro (⟨h1, h2⟩ | ⟨h1, ⟨z, h2, h3⟩, h4⟩)
          · rcases List.mem_cons.1 h1 with e | h1
            · exact .inl ⟨e, fun e2 => h2 (by rw [e, e2]; simp)⟩
            · exact .inr (.inl ⟨h1, fun h3 => h2 (by simp [h3])⟩)
          · rcases List.mem_cons.1 h2 with e | h2
            · subst e
              exact absurd ⟨hs.1.symm.trans h3.1, hs.2.symm.trans h3.2⟩ (h4 y (by simp))
            · exact .inr (.inr ⟨h1, ⟨z, h2, h3⟩, fun w hw => h4 w (by simp [hw])⟩)
theorem chMem_key {A B : List Edg} {p : Edg} (h : ChMem A B p) : ∃ z, (z ∈ A ∨ z ∈ B) ∧ sameK z p := by
  rcases h with ⟨h1, _⟩ | ⟨_, ⟨z, h2, h3⟩, _⟩
  · exact ⟨p, .inr h1, rfl, rfl⟩
  · exact ⟨z, .inl h2, h3⟩
theorem ltK_same {x z p : Edg} (h : ltK x z) (hs : sameK z p) : ltK x p := by unfold ltK at *; obtain ⟨q1, q2⟩ := hs; omega
theorem chM_asc : ∀ (k : Nat) (A B : List Edg), A.length + B.length ≤ k → AscK A → AscK B → AscK (chM A B)
  | _, [], [], _, _, _ => by simp [chM, AscK]
  | 0, x :: A, B, h, _, _ => by simp at h
  | 0, [], y :: B, h, _, _ => by simp at h
  | k + 1, x :: A, [], h, hA, hB => by
    obtain ⟨a1, a2⟩ := List.pairwise_cons.1 hA
    rw [chM]
    refine List.pairwise_cons.2 ⟨fun p hp => ?_, chM_asc k A [] (by simp at h ⊢; omega) a2 hB⟩
    obtain ⟨z, hz, hs⟩ := chMem_key ((chM_mem _ A [] (Nat.le_refl _) a2 hB p).1 hp)
    rcases hz with hz | hz
    · exact ltK_same (a1 z hz) hs
    · cases hz
  | k + 1, [], y :: B, h, hA, hB => by
    obtain ⟨b1, b2⟩ := List.pairwise_cons.1 hB
    rw [chM]
    refine List.pairwise_cons.2 ⟨fun p hp => ?_, chM_asc k [] B (by simp at h ⊢; omega) hA b2⟩
    obtain ⟨z, hz, hs⟩ := chMem_key ((chM_mem _ [] B (Nat.le_refl _) hA b2 p).1 hp)
    rcases hz with hz | hz
    · cases hz
    · exact ltK_same (b1 z hz) hs
  | k + 1, x :: A, y :: B, h, hA, hB => by
    obtain ⟨a1, a2⟩ := List.pairwise_cons.1 hA
    obtain ⟨b1, b2⟩ := List.pairwise_cons.1 hB
    rw [chM]
    by_cases c1 : ordE x y < 0
    · rw [if_pos c1]
      have hxy := (ordE_neg' x y).1 c1
      refine List.pairwise_cons.2 ⟨fun p hp => ?_, chM_asc k A (y :: B) (by simp at h ⊢; omega) a2 hB⟩
      obtain ⟨z, hz, hs⟩ := chMem_key ((chM_mem _ A (y :: B) (Nat.le_refl _) a2 hB p).1 hp)
      rcases hz with hz | hz
      · exact ltK_same (a1 z hz) hs
      · rcases List.mem_cons.1 hz with rfl | hz
        · exact ltK_same hxy hs
        · exact ltK_same (ltK_tr hxy (b1 z hz)) hs
    · rw [if_neg c1]
      by_cases c2 : 0 < ordE x y
      · rw [if_pos c2]
        have hyx := (ordE_pos x y).1 c2
        refine List.pairwise_cons.2 ⟨fun p hp => ?_, chM_asc k (x :: A) B (by simp at h ⊢; omega) hA b2⟩
        obtain ⟨z, hz, hs⟩ := chMem_key ((chM_mem _ (x :: A) B (Nat.le_refl _) hA b2 p).1 hp)
        rcases hz with hz | hz
        · rcases List.mem_cons.1 hz with rfl | hz
          · exact ltK_same hyx hs
          · exact ltK_same (ltK_tr hyx (a1 z hz)) hs
        · exact ltK_same (b1 z hz) hs
      · rw [if_neg c2]
        have hs0 : sameK x y := (ordE_zero x y).1 (by omega)
        have ih := chM_asc k A B (by simp at h ⊢; omega) a2 b2
        by_cases hc : x.c ≠ y.c
        · rw [if_pos hc]
          refine List.pairwise_cons.2 ⟨fun p hp => ?_, ih⟩
          obtain ⟨z, hz, hs⟩ := chMem_key ((chM_mem _ A B (Nat.le_refl _) a2 b2 p).1 hp)
          rcases hz with hz | hz
          · have := a1 z hz
            refine ltK_same (x := y) (z := z) ?_ hs
            unfold ltK at *; obtain ⟨q1, q2⟩ := hs0; omega
          · exact ltK_same (b1 z hz) hs
        · rw [if_neg hc]; exact ih
/- as the reference finds them -/
def cellC (A B : List Edg) (f t : Int) : List Edg :=
  if (costL f t A).2 = true ∧ (costL f t B).2 = false then [⟨f, t, -1⟩] else if (costL f t B).2 = true ∧ ((costL f t A).2 = false ∨ (costL f t A).1 ≠ (costL f t B).1) then [⟨f, t, (costL f t B).1⟩] else []
def chRow (A B : List Edg) (f i : Nat) : List Edg := (List.range i).flatMap fun t : Nat => cellC A B (f : Int) (t : Int)
def chR (A B : List Edg) (n i : Nat) : List Edg := (List.range i).flatMap fun f => chRow A B f n
theorem chRow_succ (A B : List Edg) (f i : Nat) : chRow A B f (i + 1) = chRow A B f i ++ cellC A B f i := by unfold chRow; rw [List.range_succ, List.flatMap_append]; simp
theorem chR_succ (A B : List Edg) (n i : Nat) : chR A B n (i + 1) = chR A B n i ++ chRow A B i n := by unfold chR; rw [List.range_succ, List.flatMap_append]; simp
theorem cellC_key {A B : List Edg} {f t : Int} {p : Edg} (h : p ∈ cellC A B f t) : p.f = f ∧ p.t = t := by
  unfold cellC at h
  split at h
  · simp at h; subst h; exact ⟨rfl, rfl⟩
  · split at h
    · simp at h; subst h; exact ⟨rfl, rfl⟩
    · cases h
theorem cellC_len (A B : List Edg) (f t : Int) : (cellC A B f t).length ≤ 1 := by
  unfold cellC; split
  · simp
  · split <;> simp
theorem cost_val {A : List Edg} (hA : AscK A) {z : Edg} (hz : z ∈ A) : costL z.f z.t A = (z.c, true) := cost_at hA hz
theorem cellC_mem {A B : List Edg} (hA : AscK A) (hB : AscK B) (f t : Int) (p : Edg) : p ∈ cellC A B f t ↔ ChMem A B p ∧ p.f = f ∧ p.t = t := by
  constructor
  · intro h
    refine ⟨?_, cellC_key h⟩
    unfold cellC at h
    by_cases c1 : (costL f t A).2 = true ∧ (costL f t B).2 = false
    · rw [if_pos c1] at h
      have e : p = ⟨f, t, -1⟩ := by simpa using h
      subst e
      obtain ⟨z, hz, h1, h2, h3⟩ := (cost_yes hA).1 c1.1
      exact .inr ⟨rfl, ⟨z, hz, h1, h2⟩, fun y hy hk => cost_none.1 c1.2 y hy ⟨hk.1, hk.2⟩⟩
    · rw [if_neg c1] at h
      by_cases c2 : (costL f t B).2 = true ∧ ((costL f t A).2 = false ∨ (costL f t A).1 ≠ (costL f t B).1)
      · rw [if_pos c2] at h
        have e : p = ⟨f, t, (costL f t B).1⟩ := by simpa using h
        obtain ⟨z, hz, h1, h2, h3⟩ := (cost_yes hB).1 c2.1
        have ez : p = z := by rw [e]; cases z; simp only at h1 h2 h3; simp [h1, h2, h3]
        refine .inl ⟨by rw [ez]; exact hz, fun hpA => ?_⟩
        have := cost_val hA hpA
        rw [e] at this
        dsimp only at this
        rcases c2.2 with h4 | h4
        · rw [this] at h4; cases h4
        · rw [this] at h4; exact h4 rfl
      · rw [if_neg c2] at h; cases h
  · rintro ⟨h, rfl, rfl⟩
    unfold cellC
    rcases h with ⟨h1, h2⟩ | ⟨h1, ⟨z, hz, hs⟩, h3⟩
    · have hb := cost_val hB h1
      rw [hb]
      rw [if_neg (fun q => by have := q.2; simp at this), if_pos ?_]
      · simp
      · refine ⟨rfl, ?_⟩
        by_cases hq : (costL p.f p.t A).2 = true
        · right
          intro e
          obtain ⟨z, hz, z1, z2, z3⟩ := (cost_yes hA).1 hq
          have : p = z := by rw [e] at z3; cases p; cases z; simp only at z1 z2 z3; simp [z1, z2, z3]
          exact h2 (by rw [this]; exact hz)
        · left; simpa using hq
    · have ha := cost_val hA hz
      rw [hs.1, hs.2] at ha
      have hb : (costL p.f p.t B).2 = false := cost_none.2 fun y hy hk => h3 y hy ⟨hk.1, hk.2⟩
      rw [if_pos ⟨by rw [ha], hb⟩]
      have : p = ⟨p.f, p.t, -1⟩ := by cases p; simp only at h1; simp [h1]
      rw [List.mem_singleton]; exact this
theorem pw_short {α : Type} {R : α → α → Prop} {l : List α} (h : l.length ≤ 1) : l.Pairwise R := by
  cases l with
  | nil => exact .nil
  | cons x l =>
    cases l with
    | nil => exact List.pairwise_singleton _ _
    | cons y l => simp at h
theorem pw_flat {R : Edg → Edg → Prop} (F : Nat → List Edg) : ∀ n, (∀ i, i < n → (F i).Pairwise R) → (∀ i j, i < j → j < n → ∀ x ∈ F i, ∀ y ∈ F j, R x y) → ((List.range n).flatMap F).Pairwise R
  | 0, _, _ => by simp
  | n + 1, h1, h2 => by
    rw [List.range_succ, List.flatMap_append]
    refine List.pairwise_append.2 ⟨pw_flat F n (fun i hi => h1 i (by omega)) (fun i j hij hj => h2 i j hij (by omega)), by simpa using h1 n (by omega), fun x hx y hy => ?_⟩
    obtain ⟨i, hi, hx⟩ := List.mem_flatMap.1 hx
    exact h2 i n (List.mem_range.1 hi) (by omega) x hx y (by simpa using hy)
theorem chR_asc (A B : List Edg) (n : Nat) : AscK (chR A B n n) := by
  refine pw_flat _ n (fun i hi => pw_flat (fun t : Nat => cellC A B (i : Int) (t : Int)) n (fun j hj => pw_short (cellC_len _ _ _ _)) fun j k hjk hk x hx y hy => ?_) fun i j hij hj x hx y hy => ?_
  · have h1 := cellC_key hx
    have h2 := cellC_key hy
    unfold ltK; omega
  · obtain ⟨s, _, hx⟩ := List.mem_flatMap.1 hx
    obtain ⟨t, _, hy⟩ := List.mem_flatMap.1 hy
    have h1 := cellC_key hx
    have h2 := cellC_key hy
    unfold ltK; omega
theorem chR_eq {A B : List Edg} {n : Nat} (hA : AscK A) (hB : AscK B) (nA : ∀ e ∈ A, (0 ≤ e.f ∧ e.f < n) ∧ 0 ≤ e.t ∧ e.t < n) (nB : ∀ e ∈ B, (0 ≤ e.f ∧ e.f < n) ∧ 0 ≤ e.t ∧ e.t < n) : chR A B n n = chM A B := by
  refine AscK.ext (chR_asc A B n) (chM_asc _ A B (Nat.le_refl _) hA hB) fun p => ?_
  rw [chM_mem _ A B (Nat.le_refl _) hA hB]
  unfold chR chRow
  simp only [List.mem_flatMap, List.mem_range]
  constructor
  · rintro ⟨f, _, t, _, h⟩
    exact ((cellC_mem hA hB _ _ p).1 h).1
  · intro h
    obtain ⟨z, hz, hs⟩ := chMem_key h
    have hb : (0 ≤ p.f ∧ p.f < (n : Int)) ∧ 0 ≤ p.t ∧ p.t < (n : Int) := by
      rw [← hs.1, ← hs.2]
      rcases hz with hz | hz
      · exact nA z hz
      · exact nB z hz
    refine ⟨p.f.toNat, by omega, p.t.toNat, by omega, (cellC_mem hA hB _ _ p).2 ⟨h, (Int.toNat_of_nonneg hb.1.1).symm, (Int.toNat_of_nonneg hb.2.1).symm⟩⟩
theorem chM_len : ∀ (k : Nat) (A B : List Edg), A.length + B.length ≤ k → (chM A B).length ≤ A.length + B.length
  | _, [], [], _ => by simp [chM]
  | 0, x :: A, B, h => by simp at h
  | 0, [], y :: B, h => by simp at h
  | k + 1, x :: A, [], h => by
    have := chM_len k A [] (by simp at h ⊢; omega)
    rw [chM]; simp at this ⊢; omega
  | k + 1, [], y :: B, h => by
    have := chM_len k [] B (by simp at h ⊢; omega)
    rw [chM]; simp at this ⊢; omega
  | k + 1, x :: A, y :: B, h => by
    rw [chM]
    split
    · have := chM_len k A (y :: B) (by simp at h ⊢; omega)
      simp at this ⊢; omega
    · split
      · have := chM_len k (x :: A) B (by simp at h ⊢; omega)
        simp at this ⊢; omega
      · have := chM_len k A B (by simp at h ⊢; omega)
        split <;> simp at this ⊢ <;> omega
open Go Go.RT
theorem edg_ext {x y : Edg} (h : sameK x y) (hc : x.c = y.c) : x = y := by
  cases x; cases y
  obtain ⟨h1, h2⟩ := h
  dsimp only at h1 h2 hc
  rw [h1, h2, hc]
theorem check_mk {r n : Int} {es : List Edg} (hr : 0 ≤ r) (hn : 0 ≤ n) (hm : r + n ≤ 128) (hl : es.length ≤ 1024) (ha : ∀ e ∈ es, alwI ⟨r, n, []⟩ e = 0) (hs : AscK es) : checkI ⟨r, n, es⟩ = 0 := by
  have hs' : sizeI ⟨r, n, es⟩ = 0 := by
    unfold sizeI
    rw [if_neg (by dsimp only; omega), if_neg (by dsimp only; omega)]
  unfold checkI
  rw [if_neg (by rw [hs']; simp)]
  exact chkL_of es none ha hs (fun q hq => by cases hq)
theorem asc_cons {P A : List Edg} {y : Edg} (h1 : AscK (P ++ A)) (h2 : ∀ z ∈ P, ltK z y) (h3 : ∀ z ∈ A, ltK y z) : AscK (P ++ y :: A) := by
  obtain ⟨a, b, c⟩ := List.pairwise_append.1 h1
  refine List.pairwise_append.2 ⟨a, List.pairwise_cons.2 ⟨h3, b⟩, fun z hz w hw => ?_⟩
  rcases List.mem_cons.1 hw with rfl | hw
  · exact h2 z hz
  · exact c z hz w hw
theorem get_len {α : Type} {P A : List α} {x : α} (h : P.length < (P ++ x :: A).length) : (P ++ x :: A)[P.length] = x := by simp
theorem ins_back {r n : Int} {P A : List Edg} {y : Edg} (hc : checkI ⟨r, n, P ++ A⟩ = 0) (hl : (P ++ A).length < 1024) (hy : alwI ⟨r, n, []⟩ y = 0) (h2 : ∀ z ∈ P, ltK z y) (h3 : ∀ z ∈ A, ltK y z) : applyF ⟨r, n, P ++ A⟩ [y] = (⟨r, n, P ++ y :: A⟩, 0) := by
  have ha : AscK (P ++ A) := check_asc hc
  have hhit : bsHit (P ++ A) y = false := by
    cases hb : bsHit (P ++ A) y with
    | false => rfl
    | true =>
      obtain ⟨hk, e1, e2⟩ := bsHit_true y hb
      have hm := List.getElem_mem hk
      exfalso
      rcases List.mem_append.1 hm with hm | hm
      · have := h2 _ hm; unfold ltK at this; omega
      · have := h3 _ hm; unfold ltK at this; omega
  have hp := put_ins ha y hhit
  rw [putR_split y P A (fun x hx => befF (fun h => by have := h2 x hx; unfold ltK at *; omega)) (fun x hx => by have := h3 x hx; unfold ltK at this; unfold befB; simp only [Bool.or_eq_true, Bool.and_eq_true, decide_eq_true_eq]; omega)] at hp
  have e : chgF ⟨r, n, P ++ A⟩ y = (⟨r, n, P ++ y :: A⟩, 0) := by
    unfold chgF
    rw [if_neg (alw_nodes (g := ⟨r, n, P ++ A⟩) (e := y) hy), if_neg (by have := alw_cost (g := ⟨r, n, []⟩) hy; omega), if_neg (show ¬ alwI ⟨r, n, P ++ A⟩ y ≠ 0 from fun h => h hy), if_neg (by rw [hhit]; simp), if_neg (by dsimp only; omega)]
    dsimp only
    rw [← hp]
  rw [applyF_one hc, e]
  simp
theorem set_back {r n : Int} {P A : List Edg} {x y : Edg} (hc : checkI ⟨r, n, P ++ x :: A⟩ = 0) (hy : alwI ⟨r, n, []⟩ y = 0) (hs : sameK x y) : applyF ⟨r, n, P ++ x :: A⟩ [y] = (⟨r, n, P ++ y :: A⟩, 0) := by
  have ha : AscK (P ++ x :: A) := check_asc hc
  have hk : P.length < (P ++ x :: A).length := by simp
  obtain ⟨b1, b2⟩ := bs_mem ha hk y (by rw [get_len]; exact hs.1.symm) (by rw [get_len]; exact hs.2.symm)
  have e : chgF ⟨r, n, P ++ x :: A⟩ y = (⟨r, n, P ++ y :: A⟩, 0) := by
    unfold chgF
    rw [if_neg (alw_nodes (g := ⟨r, n, P ++ x :: A⟩) (e := y) hy), if_neg (by have := alw_cost (g := ⟨r, n, []⟩) hy; omega), if_neg (show ¬ alwI ⟨r, n, P ++ x :: A⟩ y ≠ 0 from fun h => h hy), if_pos b2, b1]
    dsimp only
    rw [set_at_len]
  rw [applyF_one hc, e]
  simp
theorem del_back {r n : Int} {P A : List Edg} {x : Edg} (hc : checkI ⟨r, n, P ++ x :: A⟩ = 0) : applyF ⟨r, n, P ++ x :: A⟩ [⟨x.f, x.t, -1⟩] = (⟨r, n, P ++ A⟩, 0) := by
  have hk : P.length < (P ++ x :: A).length := by simp
  have := app_gone (g := ⟨r, n, P ++ x :: A⟩) hc hk
  simp only [get_len] at this
  rw [this]
  simp [delL]
theorem back_go {r n : Int} (hr : 0 ≤ r) (hn : 0 ≤ n) (hm : r + n ≤ 128) : ∀ (k : Nat) (P A B : List Edg), A.length + B.length ≤ k → P.length + A.length + B.length ≤ 1024 → (∀ e ∈ P ++ A, alwI ⟨r, n, []⟩ e = 0) → (∀ e ∈ P ++ B, alwI ⟨r, n, []⟩ e = 0) → AscK (P ++ A) → AscK (P ++ B) → applyF ⟨r, n, P ++ A⟩ (chM A B) = (⟨r, n, P ++ B⟩, 0)
  | k, P, [], [], hk, hl, wA, wB, sA, sB => by
    rw [show chM [] [] = [] by simp [chM]]
    exact applyF_nil (check_mk hr hn hm (by simp at hl ⊢; omega) wA sA)
  | 0, P, x :: A, B, hk, _, _, _, _, _ => by simp at hk
  | 0, P, [], y :: B, hk, _, _, _, _, _ => by simp at hk
  | k + 1, P, x :: A, [], hk, hl, wA, wB, sA, sB => by
    have hc := check_mk hr hn hm (by simp at hl ⊢; omega) wA sA
    rw [chM, applyF_cons hc, del_back hc]
    dsimp only
    rw [if_neg (by simp)]
    obtain ⟨a, b, c⟩ := List.pairwise_append.1 sA
    refine back_go hr hn hm k P A [] (by simp at hk ⊢; omega) (by simp at hl ⊢; omega) (fun e he => wA e ?_) wB (List.pairwise_append.2 ⟨a, (List.pairwise_cons.1 b).2, fun z hz w hw => c z hz w (by simp [hw])⟩) sB
    rcases List.mem_append.1 he with he | he <;> simp [he]
  | k + 1, P, [], y :: B, hk, hl, wA, wB, sA, sB => by
    have hc := check_mk hr hn hm (by simp at hl ⊢; omega) wA sA
    obtain ⟨a, b, c⟩ := List.pairwise_append.1 sB
    have hPy : ∀ z ∈ P, ltK z y := fun z hz => c z hz y (by simp)
    rw [chM, applyF_cons hc, ins_back hc (by simp at hl ⊢; omega) (wB y (by simp)) hPy (fun z hz => by cases hz)]
    dsimp only
    rw [if_neg (by simp)]
    have e1 : P ++ y :: ([] : List Edg) = (P ++ [y]) ++ [] := by simp
    have e2 : P ++ y :: B = (P ++ [y]) ++ B := by simp
    rw [e1, e2]
    refine back_go hr hn hm k (P ++ [y]) [] B (by simp at hk ⊢; omega) (by simp at hl ⊢; omega) (fun e he => wB e ?_) (by rw [← e2]; exact wB) ?_ (by rw [← e2]; exact sB)
    · rw [List.append_nil] at he
      rcases List.mem_append.1 he with he | he
      · simp [he]
      · simp at he; simp [he]
    · rw [← e1]
      exact asc_cons sA hPy fun z hz => by cases hz
  | k + 1, P, x :: A, y :: B, hk, hl, wA, wB, sA, sB => by
    have hc := check_mk hr hn hm (by simp at hl ⊢; omega) wA sA
    obtain ⟨a, b, c⟩ := List.pairwise_append.1 sA
    obtain ⟨a', b', c'⟩ := List.pairwise_append.1 sB
    have hPy : ∀ z ∈ P, ltK z y := fun z hz => c' z hz y (by simp)
    have e2 : P ++ y :: B = (P ++ [y]) ++ B := by simp
    rw [chM]
    by_cases c1 : ordE x y < 0
    · rw [if_pos c1, applyF_cons hc, del_back hc]
      dsimp only
      rw [if_neg (by simp)]
      refine back_go hr hn hm k P A (y :: B) (by simp at hk ⊢; omega) (by simp at hl ⊢; omega) (fun e he => wA e ?_) wB (List.pairwise_append.2 ⟨a, (List.pairwise_cons.1 b).2, fun z hz w hw => c z hz w (by simp [hw])⟩) sB
      rcases List.mem_append.1 he with he | he <;> simp [he]
    · rw [if_neg c1]
      by_cases c2 : 0 < ordE x y
      · rw [if_pos c2]
        have hyx := (ordE_pos x y).1 c2
        have hyA : ∀ z ∈ x :: A, ltK y z := fun z hz => by
          rcases List.mem_cons.1 hz with rfl | hz
          · exact hyx
          · exact ltK_tr hyx ((List.pairwise_cons.1 b).1 z hz)
        rw [applyF_cons hc, ins_back hc (by simp at hl ⊢; omega) (wB y (by simp)) hPy hyA]
        dsimp only
        rw [if_neg (by simp)]
        have e1 : P ++ y :: x :: A = (P ++ [y]) ++ x :: A := by simp
        rw [e1, e2]
        refine back_go hr hn hm k (P ++ [y]) (x :: A) B (by simp at hk ⊢; omega) (by simp at hl ⊢; omega) (fun e he => ?_) (by rw [← e2]; exact wB) ?_ (by rw [← e2]; exact sB)
        · rw [← e1] at he
          rcases List.mem_append.1 he with he | he
          · exact wA e (by simp [he])
          · rcases List.mem_cons.1 he with rfl | he
            · exact wB e (by simp)
            · exact wA e (List.mem_append_right _ he)
        · rw [← e1]
          exact asc_cons sA hPy hyA
      · rw [if_neg c2]
        have hs : sameK x y := (ordE_zero x y).1 (by omega)
        have hyA : ∀ z ∈ A, ltK y z := fun z hz => by
          have := (List.pairwise_cons.1 b).1 z hz
          unfold ltK at *; obtain ⟨q1, q2⟩ := hs; omega
        have sPA : AscK (P ++ A) := List.pairwise_append.2 ⟨a, (List.pairwise_cons.1 b).2, fun z hz w hw => c z hz w (by simp [hw])⟩
        have e1 : P ++ y :: A = (P ++ [y]) ++ A := by simp
        have ih := back_go hr hn hm k (P ++ [y]) A B (by simp at hk ⊢; omega) (by simp at hl ⊢; omega) (fun e he => by
          rw [← e1] at he
          rcases List.mem_append.1 he with he | he
          · exact wA e (by simp [he])
          · rcases List.mem_cons.1 he with rfl | he
            · exact wB e (by simp)
            · exact wA e (by simp [he])) (by rw [← e2]; exact wB) (by rw [← e1]; exact asc_cons sPA hPy hyA) (by rw [← e2]; exact sB)
        by_cases hcc : x.c ≠ y.c
        · rw [if_pos hcc]
          show applyF ⟨r, n, P ++ x :: A⟩ (y :: chM A B) = _
          rw [applyF_cons hc, set_back hc (wB y (by simp)) hs]
          dsimp only
          rw [if_neg (by simp), e1, e2]
          exact ih
        · rw [if_neg hcc, List.nil_append, e2]
          have hxy : x = y := edg_ext hs (Decidable.not_not.1 hcc)
          rw [hxy, e1]; exact ih
theorem back {a b : Gr} (ha : checkI a = 0) (hb : checkI b = 0) (hr : a.r = b.r) (hn : a.n = b.n) (hl : a.es.length + b.es.length ≤ 1024) : applyF a (chM a.es b.es) = (b, 0) := by
  obtain ⟨⟨h1, h2, h3⟩, hlen, hchk⟩ := checkI_ok ha
  obtain ⟨_, _, hchkb⟩ := checkI_ok hb
  have hal := chkL_alw _ _ hchk
  have hbl := chkL_alw _ _ hchkb
  cases a with
  | mk r n A =>
  cases b with
  | mk r' n' B =>
  dsimp only at *
  subst hr hn
  exact back_go h1 h2 h3 _ [] A B (Nat.le_refl _) (by simpa using hl) hal hbl (check_asc ha) (check_asc hb)
end Go.Pl
namespace Go.Proofs.YtcillieggklaaaaGreat
open Go Go.RT Go.Proofs Go.Pl
set_option linter.all false
set_option maxRecDepth 20000
set_option maxHeartbeats 4000000
open Go Go.RT Go.Proofs Go.Pl
set_option maxRecDepth 20000
set_option maxHeartbeats 4000000
theorem smT_run {g : Gr} {a : Nat} {t : Tr} (h : RunOk g a t) : smT t := by
 have hm := h.vg.n128
 have hl := h.dl
 have hmm : g.m = (g.r + g.n).toNat := rfl
 have hk := h.hopInv.ok
 have hu := h.up
 have rowm : ∀ {ll : List (List Int)} {l : List Int}, l ∈ ll → ∃ v, v < ll.length ∧ l = rowAt' ll v := fun {ll l} hm => by
  obtain ⟨v, hv, rfl⟩ := List.mem_iff_getElem.1 hm
  exact ⟨v, hv, by simp [rowAt', List.getD_eq_getElem?_getD, hv]⟩
 refine ⟨by rw [hl]; omega, ⟨by rw [hk.len]; omega, fun l hl => ?_⟩, ⟨by rw [hu.len]; omega, fun l hl => ?_⟩⟩
 ·obtain ⟨v, hv, rfl⟩ := rowm hl
  rw [hk.len] at hv
  have := (hk.row v hv).len
  omega
 obtain ⟨v, hv, rfl⟩ := rowm hl
 rw [hu.len] at hv
 have := (hu.row v hv).1
 omega
theorem scheck_c (g : Gr) (t u : Tr) (e : Int) (ht : smT t) (hu : smT u) (hr : Pure Tryz.prog 52 [.agg (encG g), If .i64 t.root] (.tup [.agg (encTr u), If .i64 e])) : Pure Tryz.prog 25 [.agg (encG g), .agg (encTr t)] (Bf (decide (e = 0) && decide (u = t))) := by
 have hs := same_c u t hu ht
 refine Meets.intro Tryz.func25 rfl (Nat.le_of_ble_eq_true rfl) fun C hC => ?_
 simp only [List.map, argEnv, Nat.reduceAdd]
 refine nK2 ?_
 refine zb ?_
 refine zq ?_
 refine zq ?_
 refine ze ?_
 refine zc ?_
 refine nK2 ?_
 refine zb ?_
 refine zk ?_
 refine zg ?_
 refine zh ?_
 refine rpZ 11 rfl (op_call_pure (fun _ => hr) rfl (Opd.func _) (oS (oT rfl) (oS (oT rfl) Opds.nil))) ?_
 refine za ?_
 refine zi ?_
 refine zi ?_
 refine zu ?_
 refine zr ?_
 refine zd ?_
 refine zc ?_
 refine nK2 ?_
 refine zb ?_
 refine za ?_
 refine zci ?_
 refine za ?_
 refine zbe ?_
 refine zbe ?_
 refine rgZ 19 rfl rfl tG (op_call_pure (fun _ => hs) rfl (Opd.func _) (oS (oO rfl tO) (oS (oO rfl tO) Opds.nil))) ?_
 refine zt ?_
 refine zd ?_
 refine zc ?_
 refine nK2 ?_
 exact wO hC
theorem stp_c (g : Gr) (hg : checkI g = 0) (a : Nat) (har : (a : Int) < g.r) (c : Edg) (hc : okE c) (hz : (applyF g [c]).2 = 0) : Pure Tryz.prog 29 [.agg (encG (applyF g [c]).1), If .i64 (a : Int), VI (trOf g a).dist, .agg (encE c), If .i64 (oldI g.es c)] (VI (trOf (applyF g [c]).1 a).dist) := by
 obtain ⟨es', h1, h2, h3, hR, nf, nt⟩ := one_ok hg hz
 rw [h1]
 have hk := trOf_ok hg har
 have hk2 := trOf_ok (g := ⟨g.r, g.n, es'⟩) h3 (a := a) har
 obtain ⟨vg, v1, v2⟩ := checkI_vg hg
 obtain ⟨vg', _, _⟩ := checkI_vg h3
 have hb := cost_bnd vg c.f c.t
 have ham : a < g.m := hk.am
 have hm : (g.m : Int) = g.r + g.n := by unfold Gr.m; omega
 unfold nodeB at nf nt
 simp only [Bool.and_eq_true, decide_eq_true_eq] at nf nt
 refine step_c ⟨g.r, g.n, es'⟩ h3 g.es g.r.toNat a _ _ c _ (by omega) ham hR vg vg' hk.dl (fun v hv => (hk.dist v hv).small vg ham hv) (fx_of vg ham hk.dist) ⟨nf.1, ?_⟩ ⟨nt.1, ?_⟩ ⟨hc.2.2, ?_⟩ ?_ hk2.dl hk2.dist
 ·show c.f < (g.m : Int); omega
 ·show c.t < (g.m : Int); omega
 ·by_cases h0 : 0 ≤ c.c
  ·exact (vg'.c c (hR.new h0)).2
  omega
 unfold oldI; split
 ·omega
 omega
theorem tre_c (g : Gr) (hg : checkI g = 0) (a : Nat) (har : (a : Int) < g.r) : Pure Tryz.prog 30 [.agg (encG g), If .i64 a, VI (trOf g a).dist] (.agg (encTr (trOf g a))) := by
 have hk := trOf_ok hg har
 obtain ⟨vg, v1, v2⟩ := checkI_vg hg
 have h := tree_c g hg a har (trOf g a).dist hk.dl (fun v hv => (hk.dist v hv).small vg hk.am hv)
 have hp : parL g.es a (trOf g a).dist g.m = (trOf g a).par := hk.par.symm
 rw [hp, hopT_eq hk (topL_ok g.r g.m _)] at h
 exact h
theorem update_run (g : Gr) (a : Nat) (cs : List Edg) (hg : checkI g = 0) (har : (a : Int) < g.r) (hcs : okEs cs) (hl : cs.length ≤ 1000000) (hs : Pure Tryz.prog 25 [.agg (encG g), .agg (encTr (trOf g a))] (Bf true)) : Pure Tryz.prog 11 [.agg (encG g), .agg (encTr (trOf g a)), VE cs] (.tup [.agg (encG (updF a g cs 0).1), .agg (encTr (updF a g cs 0).2.1), If .i64 ((updF a g cs 0).2.2.1 : Nat), If .i64 (updF a g cs 0).2.2.2]) := by
 have hok := okG_of hg
 have hm128 : g.m ≤ 128 := (checkI_vg hg).1.n128
 have hdl0 : (trOf g a).dist.length = g.m := trOf_dl
 have hcl := clonei_c (trOf g a).dist (by omega)
 have hap := apply_c g [] hok (by simp)
 rw [applyF_nil hg] at hap
 have hroot : (encTr (trOf g a))[0]? = some (If .i64 (a : Int)) := rfl
 generalize hRR : updF a g cs 0 = RR at *
 refine Meets.intro Tryz.func11 rfl (Nat.le_of_ble_eq_true rfl) fun C hC => ?_
 simp only [List.map, argEnv, Nat.reduceAdd]
 refine nK2 ?_
 refine zb ?_
 refine zq ?_
 refine zq ?_
 refine zu ?_
 refine zu ?_
 refine ze ?_
 refine ze ?_
 refine zc ?_
 refine nK2 ?_
 refine zb ?_
 refine zk ?_
 refine rpZ 22 rfl (op_call_pure (fun _ => check_c _ (by assumption)) rfl (Opd.func _) (oS (oT rfl) Opds.nil)) ?_
 refine zd ?_
 refine zc ?_
 refine nK2 ?_
 refine zb ?_
 refine za ?_
 refine zbd ?_
 refine zc ?_
 refine nK2 ?_
 refine n_cond _ rfl (fun hb => ?_) (fun hb => ?_)
 ·simp at hb; omega
 refine nK2 ?_
 refine zb ?_
 refine zk ?_
 refine zk ?_
 refine rpZ 30 rfl (op_call_pure (fun _ => hs) rfl (Opd.func _) (oS (oT rfl) (oS (oT rfl) Opds.nil))) ?_
 refine zbj ?_
 refine zc ?_
 refine nK2 ?_
 refine n_cond _ rfl (fun hb => ?_) (fun hb => ?_)
 ·simp at hb
 refine nK2 ?_
 refine zb ?_
 refine zk ?_
 refine rpZ 36 rfl (op_call_pure (fun _ => hap) rfl (Opd.func _) (oS (oT rfl) (oS (Opd.nil _ _ oC) Opds.nil))) ?_
 refine za ?_
 refine zi ?_
 refine zi ?_
 refine zu ?_
 refine zr ?_
 refine zd ?_
 refine zc ?_
 refine nK2 ?_
 refine Next.weakS [6, 7, 11] [4] (by rfl) (keepsN hC _ rfl) (G' := [(4, .fz (.cellp (encTr (trOf g a)))), (6, .ptr 0 3 0 0), (7, .ptr 1 4 0 0), (2, .fz (VE cs)), (11, .ptr 2 3 0 0), (12, IV .i64 0)]) (H' := [(0, OG zeroG), (1, OTr zeroT), (2, OG g)]) wF (by exact ⟨⟨rfl, rfl, .fflat _ _ _ rfl tW⟩, ⟨⟨rfl, rfl, .fflat _ _ _ rfl tW⟩, ⟨wS, trivial⟩⟩⟩) rfl ?_
 refine nK2 ?_
 refine zb ?_
 refine za ?_
 refine zbd ?_
 refine zc ?_
 refine nK2 ?_
 refine n_cond _ rfl (fun hb => ?_) (fun hb => ?_)
 ·simp at hb
 refine nK2 ?_
 refine zb ?_
 refine zx ?_
 refine zj ?_
 refine Run.eff (dd := some 46) rfl rfl (op_call_fresh (fun _ => hcl) rfl (Opd.func _) (oS (oT rfl) Opds.nil)) ?_
 refine zd ?_
 refine ze ?_
 refine zc ?_
 refine nK2 ?_
 refine Next.weakS [6, 7, 11] [13] (by rfl) (keepsN hC _ rfl) (G' := [(4, .fz (.cellp (encTr (trOf g a)))), (6, .ptr 0 3 0 0), (7, .ptr 1 4 0 0), (2, .fz (VE cs)), (11, .ptr 2 3 0 0), (13, .fz (VI (trOf g a).dist)), (14, IV .i64 0)]) (H' := [(0, OG zeroG), (1, OTr zeroT), (2, OG g)]) (by exact ⟨⟨_, rfl, .inl ⟨rfl, rfl⟩⟩, ⟨⟨_, rfl, .inl ⟨rfl, rfl⟩⟩, ⟨⟨_, rfl, .inl ⟨rfl, rfl⟩⟩, ⟨⟨_, rfl, .inl ⟨rfl, rfl⟩⟩, ⟨⟨_, rfl, .inl ⟨rfl, rfl⟩⟩, ⟨⟨_, rfl, .inr ⟨_, rfl, .sl _ _ _ _ _ _ rfl rfl (take_all0 (List.length_map _)) (List.length_map _)⟩⟩, ⟨⟨_, rfl, .inl ⟨rfl, rfl⟩⟩, trivial⟩⟩⟩⟩⟩⟩⟩) wR rfl ?_
 clear hok hcl hap hs
 refine nK2 ?_
 refine zb ?_
 refine za ?_
 refine zo ?_
 refine zbb ?_
 refine zc ?_
 refine nK2 ?_
 refine n_loop (ι := Gr × Nat × Nat) (fun s => ([(4, .fz (.cellp (encTr (trOf g a)))), (6, .ptr 0 3 0 0), (7, .ptr 1 4 0 0), (11, .ptr 2 3 0 0), (13, .fz (VI (trOf s.1 a).dist)), (14, IV .i64 (s.2.1 : Nat)), (47, .fz (VE cs)), (48, IV .i64 cs.length), (49, IV .i64 (s.2.2 : Nat))], [(0, OG zeroG), (1, OTr zeroT), (2, OG s.1)], 3)) (fun s => s.2.2 ≤ cs.length ∧ checkI s.1 = 0 ∧ (a : Int) < s.1.r ∧ s.1.m = g.m ∧ s.2.1 ≤ 128 * s.2.2 ∧ updF a s.1 (cs.drop s.2.2) s.2.1 = RR) (fun s => cs.length - s.2.2) (g, 0, 0) ⟨Nat.zero_le _, hg, har, rfl, Nat.zero_le _, hRR⟩ ?_ ?_
 ·refine Next.weak [0, 1, 2] [] (by rfl) (keepsN hC _ rfl) wG wR wN rel_intro
 intro ⟨now, k, i⟩ ⟨hi, hnow, hnr, hnm, hk, hR⟩ K hK
 try dsimp only at hi hnow hnr hnm hk hR hK ⊢
 refine nK2 ?_
 refine zb ?_
 refine zp ?_
 refine zc ?_
 refine nK2 ?_
 refine n_cond _ rfl (fun hb => ?_) (fun hb => ?_)
 ·have hlt : i < cs.length := by simp at hb; omega
  have hr1 := row_at' encE cs i hlt
  have hce := hcs _ (List.getElem_mem hlt)
  rw [List.drop_eq_getElem_cons hlt] at hR
  have hK1 := fun now' k' h1 h2 h3 h4 h5 => hK (now', k', i + 1) ⟨by dsimp only; omega, h1, h2, h3, h4, h5⟩ (by dsimp only; omega)
  dsimp only at hK1
  generalize cs[i] = c at *
  have hoN := okG_of hnow
  have stp := fun hz => stp_c now hnow a hnr c hce hz
  have hco := cost_c now c.f c.t (by have := (checkI_ok hnow).2.1; omega)
  have hap := apply_c now [c] hoN (by simp)
  have hold1 := cost_old now.es c
  have hold2 := cost_old2 now.es c
  have hol : inr .i64 (oldI now.es c) := by
   have := cost_bnd (checkI_vg hnow).1 c.f c.t
   unfold oldI; simp only [inr]; split <;> omega
  refine nK2 ?_
  refine zb ?_
  refine zz ?_
  refine zbf ?_
  refine zu ?_
  refine zr ?_
  refine zc ?_
  refine nK2 ?_
  refine Next.weakS [6, 7, 11] [16] (by rfl) (keepsN hC _ rfl) (G' := [(4, .fz (.cellp (encTr (trOf g a)))), (6, .ptr 0 3 0 0), (7, .ptr 1 4 0 0), (11, .ptr 2 3 0 0), (13, .fz (VI (trOf now a).dist)), (14, IV .i64 (k : Nat)), (47, .fz (VE cs)), (48, IV .i64 cs.length), (49, IV .i64 (i : Nat)), (16, .fz (.cellp (encE c)))]) (H' := [(0, OG zeroG), (1, OTr zeroT), (2, OG now)]) wF wR rfl ?_
  refine nK2 ?_
  refine zb ?_
  refine zk ?_
  refine zx ?_
  refine zj ?_
  refine zx ?_
  refine zj ?_
  refine rpZ 59 rfl (op_call_pure (fun _ => hco) rfl (Opd.func _) (oS (oT rfl) (oS (oT rfl) (oS (oT rfl) Opds.nil)))) ?_
  refine za ?_
  refine zi ?_
  refine zi ?_
  refine zd ?_
  refine zd ?_
  refine zc ?_
  refine nK2 ?_
  refine zb ?_
  refine za ?_
  refine zbj ?_
  refine zc ?_
  refine nK2 ?_
  refine n_join [(4, .fz (.cellp (encTr (trOf g a)))), (6, .ptr 0 3 0 0), (7, .ptr 1 4 0 0), (11, .ptr 2 3 0 0), (13, .fz (VI (trOf now a).dist)), (14, IV .i64 (k : Nat)), (47, .fz (VE cs)), (48, IV .i64 cs.length), (49, IV .i64 (i : Nat)), (16, .fz (.cellp (encE c))), (17, IV .i64 (oldI now.es c))] [(0, OG zeroG), (1, OTr zeroT), (2, OG now)] 3 ?_ ?_
  ·refine nK2 ?_
   refine n_cond _ rfl (fun hb => ?_) (fun hb => ?_)
   ·rw [hold2 (by simpa using hb)]
    refine nK2 ?_
    refine zb ?_
    refine ze ?_
    refine zc ?_
    refine nK2 ?_
    refine Next.weak [0, 1, 2] [] (by rfl) (keepsN hC _ rfl) wG wR wN rel_intro
   rw [hold1 (by simpa using hb)]
   refine nK2 ?_
   refine Next.weak [0, 1, 2] [] (by rfl) (keepsN hC _ rfl) wG wR wN rel_intro
  clear hco hold1 hold2 hK
  generalize oldI now.es c = old at *
  refine nK2 ?_
  refine zb ?_
  refine zk ?_
  refine zbf ?_
  refine zbh ?_
  refine rpZ 68 rfl (op_call_pure (fun _ => hap) rfl (Opd.func _) (oS (oT rfl) (oS (oT rfl) Opds.nil))) ?_
  refine za ?_
  refine zi ?_
  refine zi ?_
  refine zr ?_
  refine zd ?_
  refine zc ?_
  refine nK2 ?_
  refine zb ?_
  refine za ?_
  refine zbd ?_
  refine zc ?_
  refine nK2 ?_
  refine n_cond _ rfl (fun hb => ?_) (fun hb => ?_)
  ·have hz : (applyF now [c]).2 ≠ 0 := by simpa using hb
   rw [updF_no hz] at hR
   subst hR
   refine nK2 ?_
   refine zb ?_
   refine zbm ?_
   refine zbm ?_
   refine za ?_
   refine zr ?_
   refine zr ?_
   refine ze ?_
   refine zd ?_
   refine zc ?_
   refine nK2 ?_
   (refine Next.weakS [6, 7] [] (by rfl) (keeps0 hC _) (G' := [(6, .ptr 0 3 0 0), (7, .ptr 1 4 0 0), (8, .fz _), (9, .fz _)]) (H' := [(0, OG zeroG), (1, OTr zeroT)]) wG (by exact ⟨⟨rfl, rfl, .fflat _ _ _ rfl tW⟩, ⟨⟨rfl, rfl, .fflat _ _ _ rfl tW⟩, trivial⟩⟩) rfl ?_; exact s_o4 hC rfl tV tV tV tV)
  have hz : (applyF now [c]).2 = 0 := by simpa using hb
  obtain ⟨es', h1, h2, h3, _⟩ := one_ok hnow hz
  have hst := stp hz
  have hK2 := fun k' h4 h5 => hK1 (applyF now [c]).1 k' (by rw [h1]; exact h3) (by rw [h1]; exact hnr) (by rw [h1]; exact hnm) h4 h5
  rw [updF_yes hz] at hR
  have hdl := trOf_dl (g := now) (a := a)
  have hDl := trOf_dl (g := (applyF now [c]).1) (a := a)
  have hm2 : (applyF now [c]).1.m = g.m := by rw [h1]; exact hnm
  rw [hm2] at hDl
  rw [hnm] at hdl hR
  clear stp hap hK1 h1 h2 h3
  generalize (applyF now [c]).1 = nw at *
  generalize (trOf now a).dist = d at *
  generalize (trOf nw a).dist = D at *
  rw [← hDl] at hR
  refine nK2 ?_
  refine zb ?_
  refine zk ?_
  refine zx ?_
  refine zj ?_
  refine za ?_
  refine zbf ?_
  refine za ?_
  refine rpZ 82 rfl (op_call_pure (fun _ => hst) rfl (Opd.func _) (oS (oT rfl) (oS (oT rfl) (oS (oT rfl) (oS (oT rfl) (oS (oT rfl) Opds.nil)))))) ?_
  refine zd ?_
  refine zc ?_
  refine nK2 ?_
  refine zb ?_
  refine za ?_
  refine zo ?_
  refine zbb ?_
  refine zc ?_
  refine nK2 ?_
  refine n_loop (ι := Nat) (fun j => ([(4, .fz (.cellp (encTr (trOf g a)))), (6, .ptr 0 3 0 0), (7, .ptr 1 4 0 0), (11, .ptr 2 3 0 0), (13, .fz (VI d)), (14, IV .i64 (k + cntI d D j : Nat)), (47, .fz (VE cs)), (48, IV .i64 cs.length), (49, IV .i64 (i : Nat)), (19, .fz (VI D)), (84, IV .i64 D.length), (85, IV .i64 (j : Nat))], [(0, OG zeroG), (1, OTr zeroT), (2, OG nw)], 3)) (fun j => j ≤ D.length) (fun j => D.length - j) 0 (Nat.zero_le _) ?_ ?_
  ·refine Next.weak [0, 1, 2] [] (by rfl) (keepsN hC _ rfl) wG wR wN rel_intro
  intro j hj K3 hK3
  try dsimp only at hj hK3 ⊢
  have hcl := cntI_le d D j
  refine nK2 ?_
  refine zb ?_
  refine zp ?_
  refine zc ?_
  refine nK2 ?_
  refine n_cond _ rfl (fun hb => ?_) (fun hb => ?_)
  ·have hlt : j < D.length := by simp at hb; omega
   have hrD := row_of encN D j 0 hlt
   have hrd := row_of encN d j 0 (by omega)
   have hgD : D.getD j 0 = gt0 D j := rfl
   have hgd : d.getD j 0 = gt0 d j := rfl
   rw [hgD] at hrD; rw [hgd] at hrd
   have hK4 := hK3 (j + 1) (by omega) (by omega)
   rw [cntI_succ, ← Nat.add_assoc] at hK4
   generalize cntI d D j = cn at *
   refine nK2 ?_
   refine zb ?_
   refine za ?_
   refine zd ?_
   refine zc ?_
   refine nK2 ?_
   refine s_draw mixed ?_
   refine za ?_
   refine za ?_
   refine rpZ 90 rfl (op_idx_fz j rfl (oT rfl) (oT rfl) (by intro _; exact ⟨rfl, hrD⟩)) ?_
   refine zj ?_
   refine za ?_
   refine za ?_
   refine rpZ 94 rfl (op_idx_fz j rfl (oT rfl) (oT rfl) (by intro _; exact ⟨rfl, hrd⟩)) ?_
   refine zj ?_
   refine zbg ?_
   refine zs ?_
   refine nK2 ?_
   refine n_cond _ rfl (fun hb => ?_) (fun hb => ?_)
   ·rw [if_pos (by simpa using hb)] at hK4
    refine nK2 ?_
    refine zb ?_
    refine za ?_
    refine zl ?_
    refine zd ?_
    refine zc ?_
    refine nK2 ?_
    refine zb ?_
    refine zl ?_
    refine za ?_
    refine zc ?_
    refine nK2 ?_
    refine Next.weak [0, 1, 2] [] (by rfl) (keepsN hC _ rfl) wG wR wN hK4
   rw [if_neg (by simpa using hb)] at hK4
   refine nK2 ?_
   refine zb ?_
   refine zl ?_
   refine za ?_
   refine zc ?_
   refine nK2 ?_
   refine Next.weak [0, 1, 2] [] (by rfl) (keepsN hC _ rfl) wG wR wN hK4
  have hje : j = D.length := by simp at hb; omega
  subst hje
  have hK5 := hK2 (k + cntI d D D.length) (by omega) hR
  refine nK2 ?_
  refine zb ?_
  refine za ?_
  refine zd ?_
  refine zc ?_
  refine nK2 ?_
  refine zb ?_
  refine zl ?_
  refine za ?_
  refine zc ?_
  refine nK2 ?_
  refine Next.weak [0, 1, 2] [] (by rfl) (keepsN hC _ rfl) wG wR wN hK5
 have hie : i = cs.length := by simp at hb; omega
 subst hie
 rw [List.drop_length] at hR
 have hT := tre_c now hnow a hnr
 simp only [updF] at hR
 subst hR
 refine nK2 ?_
 refine s_draw mixed ?_
 refine zk ?_
 refine zk ?_
 refine zx ?_
 refine zj ?_
 refine za ?_
 refine rpZ 107 rfl (op_call_pure (fun _ => hT) rfl (Opd.func _) (oS (oT rfl) (oS (oT rfl) (oS (oT rfl) Opds.nil)))) ?_
 refine za ?_
 refine zch ?_
 refine zch ?_
 refine zd ?_
 refine ze ?_
 refine zs ?_
 refine nK2 ?_
 refine Next.weakS [6, 7] [] (by rfl) (keeps0 hC _) (G' := [(6, .ptr 0 3 0 0), (7, .ptr 1 4 0 0), (8, IV .i64 (k : Nat)), (9, IV .i64 0)]) (H' := [(0, OG now), (1, OTr (trOf now a))]) wG wR rfl ?_
 exact s_o4 hC rfl tV tV tV tV
end Go.Proofs.YtcillieggklaaaaGreat
namespace Go.Pl
open Go Go.RT
set_option linter.all false
/- rows of two trees that differ -/
def affP (a b : Tr) (v : Nat) : Bool := !(decide (gt0 a.dist v = gt0 b.dist v) && decide (v < a.dist.length ↔ v < b.dist.length) && decide (rowAt' a.hops v = rowAt' b.hops v) && decide (rowAt' a.par v = rowAt' b.par v))
def affN (a b : Tr) : Nat := max (max (max (max (max a.dist.length b.dist.length) a.hops.length) b.hops.length) a.par.length) b.par.length
theorem affP_self (a : Tr) (v : Nat) : affP a a v = false := by simp [affP]
theorem fil_no {p : Nat → Bool} (h : ∀ v, p v = false) : ∀ k, fil p k = []
  | 0 => rfl
  | k + 1 => by rw [fil_succ, fil_no h k, h k]; rfl
theorem gt0_out {d : List Int} {v : Nat} (h : ¬ v < d.length) : gt0 d v = 0 := by unfold gt0; rw [List.getD_eq_getElem?_getD, List.getElem?_eq_none (by omega)]; rfl
theorem row_out {ll : List (List Int)} {v : Nat} (h : ¬ v < ll.length) : rowAt' ll v = [] := by unfold rowAt'; rw [List.getD_eq_getElem?_getD, List.getElem?_eq_none (by omega)]; rfl
/- two lists of edges, one step -/
def ordV : List Edg → List Edg → Int
  | _, [] => -1
  | [], _ => 1
  | x :: _, y :: _ => ordE x y
def headC : List Edg → List Edg → List Edg
  | [], [] => []
  | x :: _, [] => [⟨x.f, x.t, -1⟩]
  | [], y :: _ => [y]
  | x :: _, y :: _ => if ordE x y < 0 then [⟨x.f, x.t, -1⟩] else if 0 < ordE x y ∨ x.c ≠ y.c then [y] else []
theorem headC_len (A B : List Edg) : (headC A B).length ≤ 1 := by
  unfold headC
  split
  · simp
  · simp
  · simp
  · split
    · simp
    · split <;> simp
theorem chM_drop {A B : List Edg} {i j : Nat} (hi : i ≤ A.length) (hj : j ≤ B.length) (h : i < A.length ∨ j < B.length) :
    chM (A.drop i) (B.drop j) = headC (A.drop i) (B.drop j) ++ chM (A.drop (i + if ordV (A.drop i) (B.drop j) ≤ 0 then 1 else 0)) (B.drop (j + if 0 ≤ ordV (A.drop i) (B.drop j) then 1 else 0)) := by
  have dA : ∀ (h1 : i < A.length), A.drop i = A[i] :: A.drop (i + 1) := fun h1 => List.drop_eq_getElem_cons h1
  have dB : ∀ (h2 : j < B.length), B.drop j = B[j] :: B.drop (j + 1) := fun h2 => List.drop_eq_getElem_cons h2
  have key : ∀ (P Q : List Edg) (P' Q' : List Edg), (P = [] ∧ P' = [] ∨ ∃ x, P = x :: P') → (Q = [] ∧ Q' = [] ∨ ∃ y, Q = y :: Q') → ¬ (P = [] ∧ Q = []) → chM P Q = headC P Q ++ chM (if ordV P Q ≤ 0 then P' else P) (if 0 ≤ ordV P Q then Q' else Q) := fun P Q P' Q' hP hQ hPQ => by
    rcases hP with ⟨rfl, rfl⟩ | ⟨x, rfl⟩
    · rcases hQ with ⟨rfl, rfl⟩ | ⟨y, rfl⟩
      · exact absurd ⟨rfl, rfl⟩ hPQ
      · simp [ordV, headC, chM]
    · rcases hQ with ⟨rfl, rfl⟩ | ⟨y, rfl⟩
      · simp [ordV, headC, chM]
      · have eo : ordV (x :: P') (y :: Q') = ordE x y := rfl
        have eh : headC (x :: P') (y :: Q') = if ordE x y < 0 then [⟨x.f, x.t, -1⟩] else if 0 < ordE x y ∨ x.c ≠ y.c then [y] else [] := rfl
        rw [eo, eh, chM]
        by_cases c1 : ordE x y < 0
        · rw [if_pos c1, if_pos c1, if_pos (by omega), if_neg (by omega)]; rfl
        · rw [if_neg c1, if_neg c1]
          by_cases c2 : 0 < ordE x y
          · rw [if_pos c2, if_pos (.inl c2), if_neg (by omega), if_pos (by omega)]; rfl
          · have l1 : ordE x y ≤ 0 := by omega
            have l2 : 0 ≤ ordE x y := by omega
            rw [if_neg c2, if_pos l1, if_pos l2]
            by_cases c3 : x.c ≠ y.c
            · rw [if_pos c3, if_pos (.inr c3)]
            · rw [if_neg c3, if_neg (fun q => q.elim c2 c3)]
  have hp := key (A.drop i) (B.drop j) (A.drop (i + 1)) (B.drop (j + 1)) (by
    by_cases h1 : i < A.length
    · exact .inr ⟨_, dA h1⟩
    · exact .inl ⟨List.drop_of_length_le (by omega), List.drop_of_length_le (by omega)⟩) (by
    by_cases h2 : j < B.length
    · exact .inr ⟨_, dB h2⟩
    · exact .inl ⟨List.drop_of_length_le (by omega), List.drop_of_length_le (by omega)⟩) (fun q => by
    have q1 := List.drop_eq_nil_iff.1 q.1
    have q2 := List.drop_eq_nil_iff.1 q.2
    omega)
  rw [hp]
  congr 2
  · split <;> simp
  · split <;> simp
/-- how far each side goes -/
theorem ordV_le {A B : List Edg} {i j : Nat} (hi : i ≤ A.length) (hj : j ≤ B.length) (h : i < A.length ∨ j < B.length) : (ordV (A.drop i) (B.drop j) ≤ 0 → i < A.length) ∧ (0 ≤ ordV (A.drop i) (B.drop j) → j < B.length) := by
  by_cases h1 : i < A.length
  · by_cases h2 : j < B.length
    · exact ⟨fun _ => h1, fun _ => h2⟩
    · have : B.drop j = [] := List.drop_of_length_le (by omega)
      rw [this]
      refine ⟨fun _ => h1, fun q => ?_⟩
      cases A.drop i <;> simp [ordV] at q
  · have e : A.drop i = [] := List.drop_of_length_le (by omega)
    rw [e]
    by_cases h2 : j < B.length
    · rw [List.drop_eq_getElem_cons h2]
      exact ⟨fun q => by simp [ordV] at q, fun _ => h2⟩
    · omega
theorem ordV_end {A B : List Edg} {i j : Nat} (hj : j = B.length) : ordV (A.drop i) (B.drop j) = -1 := by
  have : B.drop j = [] := List.drop_of_length_le (by omega)
  rw [this]
  cases A.drop i <;> rfl
theorem ordV_one {A B : List Edg} {i j : Nat} (hi : ¬ i < A.length) (h2 : j < B.length) : ordV (A.drop i) (B.drop j) = 1 := by
  have : A.drop i = [] := List.drop_of_length_le (by omega)
  rw [this, List.drop_eq_getElem_cons h2]; rfl
theorem ordV_both {A B : List Edg} {i j : Nat} (h1 : i < A.length) (h2 : j < B.length) : ordV (A.drop i) (B.drop j) = ordE A[i] B[j] := by
  rw [List.drop_eq_getElem_cons h1, List.drop_eq_getElem_cons h2]; rfl
/-- what is put out -/
theorem headC_neg {A B : List Edg} {i j : Nat} (h1 : i < A.length) (h : ordV (A.drop i) (B.drop j) < 0) : headC (A.drop i) (B.drop j) = [⟨A[i].f, A[i].t, -1⟩] := by
  rw [List.drop_eq_getElem_cons h1] at h ⊢
  by_cases h2 : j < B.length
  · rw [List.drop_eq_getElem_cons h2] at h ⊢
    simp only [ordV, headC] at h ⊢
    rw [if_pos h]
  · have : B.drop j = [] := List.drop_of_length_le (by omega)
    rw [this]; rfl
theorem headC_put {A B : List Edg} {i j : Nat} (h2 : j < B.length) (h : 0 < ordV (A.drop i) (B.drop j) ∨ ordV (A.drop i) (B.drop j) = 0 ∧ ∀ h1 : i < A.length, A[i].c ≠ B[j].c) : headC (A.drop i) (B.drop j) = [B[j]] := by
  rw [List.drop_eq_getElem_cons h2] at h ⊢
  by_cases h1 : i < A.length
  · rw [List.drop_eq_getElem_cons h1] at h ⊢
    simp only [ordV, headC] at h ⊢
    rw [if_neg (by omega), if_pos]
    rcases h with h | h
    · exact .inl h
    · exact .inr (h.2 h1)
  · have : A.drop i = [] := List.drop_of_length_le (by omega)
    rw [this]; rfl
theorem headC_no {A B : List Edg} {i j : Nat} (h1 : i < A.length) (h2 : j < B.length) (h : ordV (A.drop i) (B.drop j) = 0) (hc : A[i].c = B[j].c) : headC (A.drop i) (B.drop j) = [] := by
  rw [List.drop_eq_getElem_cons h2, List.drop_eq_getElem_cons h1] at h ⊢
  simp only [ordV, headC] at h ⊢
  rw [if_neg (by omega), if_neg]
  rintro (q | q)
  · omega
  · exact q hc
end Go.Pl
namespace Go.Proofs.YtcillieggklaaaaGreat
open Go Go.RT Go.Proofs Go.Pl
set_option linter.all false
set_option maxRecDepth 20000
set_option maxHeartbeats 4000000
theorem wHX207a {α : Prop} (h : α := by repeat (first | exact trivial | refine ⟨wS, ?_⟩ | refine ⟨ent_same rfl rfl (rfEq rfl tU) tL, ?_⟩ | refine ⟨ent_same rfl rfl (flEq rfl (by first | (simp; done) | (simp; omega) | (simp [encE, encN, encB, encT, encL]; done) | simp [maxC, minC])) trivial, ?_⟩)) : α := h
theorem at_c (ll : List (List Int)) (i : Nat) : Pure Tryz.prog 44 [VLL ll, If .i64 (i : Nat)] (VI (rowAt' ll i)) := by
 by_cases h : i < ll.length
 ·have hr := row_of encL ll i [] h
  have hg : ll.getD i [] = rowAt' ll i := rfl
  rw [hg] at hr
  generalize rowAt' ll i = row at *
  refine Meets.intro Tryz.func44 rfl (Nat.le_of_ble_eq_true rfl) fun C hC => ?_
  simp only [List.map, argEnv, Nat.reduceAdd]
  refine nK ?_
  refine zb ?_
  refine ze ?_
  refine zc ?_
  refine nK ?_
  refine zb ?_
  refine za ?_
  refine za ?_
  refine zo ?_
  refine zcj ?_
  refine zc ?_
  refine nK ?_
  refine n_cond _ rfl (fun hb => ?_) (fun hb => ?_)
  ·exfalso; simp at hb; omega
  refine nK ?_
  refine zb ?_
  refine za ?_
  refine za ?_
  refine rpZ 11 rfl (op_idx_fz i rfl (oT rfl) (oT rfl) (by intro _; exact ⟨rfl, hr⟩)) ?_
  refine zj ?_
  refine zd ?_
  refine zc ?_
  refine nK ?_
  exact wO hC
 rw [row_out h]
 refine Meets.intro Tryz.func44 rfl (Nat.le_of_ble_eq_true rfl) fun C hC => ?_
 simp only [List.map, argEnv, Nat.reduceAdd]
 refine nK ?_
 refine zb ?_
 refine ze ?_
 refine zc ?_
 refine nK ?_
 refine zb ?_
 refine za ?_
 refine za ?_
 refine zo ?_
 refine zcj ?_
 refine zc ?_
 refine nK ?_
 refine n_cond _ rfl (fun hb => ?_) (fun hb => ?_)
 ·refine nK ?_
  refine zb ?_
  refine ze ?_
  refine zc ?_
  refine nK ?_
  refine Next.weakS [] [] (by rfl) (keeps0 hC _) (G' := [(4, .fz (VI []))]) (H' := []) wF trivial rfl ?_
  exact wO hC
 exfalso; simp at hb; omega
theorem row_c (t : Tr) (v : Nat) : Pure Tryz.prog 45 [.agg (encTr t), If .i64 (v : Nat)] (.tup [If .i64 (gt0 t.dist v), Bf (decide ((v : Int) < (t.dist.length : Int))), VI (rowAt' t.hops v), VI (rowAt' t.par v)]) := by
 have hd := fun h => row_of encN t.dist v 0 h
 have hh := fun h => row_of encL t.hops v [] h
 have hp := fun h => row_of encL t.par v [] h
 have gd : t.dist.getD v 0 = gt0 t.dist v := rfl
 have gh : t.hops.getD v [] = rowAt' t.hops v := rfl
 have gp : t.par.getD v [] = rowAt' t.par v := rfl
 have od := fun h => gt0_out (d := t.dist) (v := v) h
 have oh := fun h => row_out (ll := t.hops) (v := v) h
 have op := fun h => row_out (ll := t.par) (v := v) h
 rw [gd] at hd
 rw [gh] at hh
 rw [gp] at hp
 generalize gt0 t.dist v = dv at *
 generalize rowAt' t.hops v = hv at *
 generalize rowAt' t.par v = pv at *
 refine Meets.intro Tryz.func45 rfl (Nat.le_of_ble_eq_true rfl) fun C hC => ?_
 simp only [List.map, argEnv, Nat.reduceAdd]
 refine nK ?_
 refine zb ?_
 refine zq ?_
 refine ze ?_
 refine ze ?_
 refine ze ?_
 refine ze ?_
 refine zc ?_
 refine nK ?_
 refine Next.weakS [] [2] (by rfl) (keepsN hC _ rfl) (G' := [(1, IV .i64 v), (2, .fz (.cellp (encTr t)))]) (H' := []) wF trivial rfl ?_
 refine nK ?_
 refine s_draw mixed ?_
 refine za ?_
 refine zx ?_
 refine zj ?_
 refine zo ?_
 refine zp ?_
 refine ze ?_
 refine zd ?_
 refine zs ?_
 refine nK ?_
 refine zb ?_
 refine ze ?_
 refine ze ?_
 refine zc ?_
 refine nK ?_
 refine zb ?_
 refine za ?_
 refine zc ?_
 refine nK ?_
 refine n_join [(1, IV .i64 v), (2, .fz (.cellp (encTr t))), (8, IV .i64 dv), (9, BV (decide ((v : Int) < (t.dist.length : Int)))), (10, .fz (VI [])), (11, .fz (VI []))] [] 0 ?_ ?_
 ·refine nK ?_
  refine n_cond _ rfl (fun hb => ?_) (fun hb => ?_)
  ·have hlt : v < t.dist.length := by simpa using hb
   refine nK ?_
   refine zb ?_
   refine zx ?_
   refine zj ?_
   refine za ?_
   refine rpZ 21 rfl (op_idx_fz v rfl (oT rfl) (oT rfl) (by intro _; exact ⟨rfl, hd hlt⟩)) ?_
   refine zj ?_
   refine zd ?_
   refine zc ?_
   refine nK ?_
   refine Next.weakS [] [] (by rfl) (keepsN hC _ rfl) (by exact ⟨⟨_, rfl, .inl ⟨rfl, rfl⟩⟩, ⟨⟨_, rfl, .inl ⟨rfl, rfl⟩⟩, ⟨⟨_, rfl, .inl ⟨rfl, rfl⟩⟩, ⟨⟨_, rfl, .inl ⟨rfl, rfl⟩⟩, ⟨⟨_, rfl, .inr ⟨_, rfl, .nil 1⟩⟩, ⟨⟨_, rfl, .inr ⟨_, rfl, .nil 1⟩⟩, trivial⟩⟩⟩⟩⟩⟩) (by exact trivial) rfl rel_intro
  have hlt : ¬ v < t.dist.length := by simpa using hb
  rw [od hlt]
  refine nK ?_
  refine Next.weakS [] [] (by rfl) (keepsN hC _ rfl) (by exact ⟨⟨_, rfl, .inl ⟨rfl, rfl⟩⟩, ⟨⟨_, rfl, .inl ⟨rfl, rfl⟩⟩, ⟨⟨_, rfl, .inl ⟨rfl, rfl⟩⟩, ⟨⟨_, rfl, .inl ⟨rfl, rfl⟩⟩, ⟨⟨_, rfl, .inr ⟨_, rfl, .nil 1⟩⟩, ⟨⟨_, rfl, .inr ⟨_, rfl, .nil 1⟩⟩, trivial⟩⟩⟩⟩⟩⟩) (by exact trivial) rfl rel_intro
 refine nK ?_
 refine zb ?_
 refine za ?_
 refine zx ?_
 refine zj ?_
 refine zo ?_
 refine zp ?_
 refine zc ?_
 refine nK ?_
 refine n_join [(1, IV .i64 v), (2, .fz (.cellp (encTr t))), (8, IV .i64 dv), (9, BV (decide ((v : Int) < (t.dist.length : Int)))), (10, .fz (VI hv)), (11, .fz (VI []))] [] 0 ?_ ?_
 ·refine nK ?_
  refine n_cond _ rfl (fun hb => ?_) (fun hb => ?_)
  ·have hlt : v < t.hops.length := by simpa using hb
   refine nK ?_
   refine zb ?_
   refine zx ?_
   refine zj ?_
   refine za ?_
   refine rpZ 31 rfl (op_idx_fz v rfl (oT rfl) (oT rfl) (by intro _; exact ⟨rfl, hh hlt⟩)) ?_
   refine zj ?_
   refine zd ?_
   refine zc ?_
   refine nK ?_
   refine Next.weakS [] [] (by rfl) (wK hC) wG wHX207a rfl (rel_intro)
  have hlt : ¬ v < t.hops.length := by simpa using hb
  rw [oh hlt]
  refine nK ?_
  refine Next.weakS [] [] (by rfl) (wK hC) wG wHX207a rfl (rel_intro)
 refine nK ?_
 refine zb ?_
 refine za ?_
 refine zx ?_
 refine zj ?_
 refine zo ?_
 refine zp ?_
 refine zc ?_
 refine nK ?_
 refine n_join [(8, IV .i64 dv), (9, BV (decide ((v : Int) < (t.dist.length : Int)))), (10, .fz (VI hv)), (11, .fz (VI pv))] [] 0 ?_ ?_
 ·refine nK ?_
  refine n_cond _ rfl (fun hb => ?_) (fun hb => ?_)
  ·have hlt : v < t.par.length := by simpa using hb
   refine nK ?_
   refine zb ?_
   refine zx ?_
   refine zj ?_
   refine za ?_
   refine rpZ 41 rfl (op_idx_fz v rfl (oT rfl) (oT rfl) (by intro _; exact ⟨rfl, hp hlt⟩)) ?_
   refine zj ?_
   refine zd ?_
   refine zc ?_
   refine nK ?_
   refine Next.weakS [] [] (by rfl) (wK hC) wG wHX207a rfl (rel_intro)
  have hlt : ¬ v < t.par.length := by simpa using hb
  rw [op hlt]
  refine nK ?_
  refine Next.weakS [] [] (by rfl) (wK hC) wG wHX207a rfl (rel_intro)
 refine nK ?_
 refine zb ?_
 refine za ?_
 refine za ?_
 refine za ?_
 refine za ?_
 refine zd ?_
 refine zd ?_
 refine zd ?_
 refine zd ?_
 refine zc ?_
 refine nK ?_
 exact wO hC
theorem smL_row {ll : List (List Int)} (h : smL ll) (v : Nat) : (rowAt' ll v).length ≤ 9223372036854775807 := by
 by_cases hv : v < ll.length
 ·have := h.2 ll[v] (List.getElem_mem hv)
  simpa [rowAt', List.getD_eq_getElem?_getD, hv] using this
 rw [row_out hv]; simp
theorem affected_c (a b : Tr) (ha : smT a) (hb0 : smT b) (hn : affN a b ≤ 1000000) : Pure Tryz.prog 18 [.agg (encTr a), .agg (encTr b)] (VI (fil (affP a b) (affN a b))) := by
 have hN : (max (max (max (max (max (a.dist.length : Int) b.dist.length) a.hops.length) b.hops.length) a.par.length) b.par.length) = (affN a b : Nat) := by unfold affN; omega
 generalize affN a b = n at *
 refine Meets.intro Tryz.func18 rfl (Nat.le_of_ble_eq_true rfl) fun C hC => ?_
 simp only [List.map, argEnv, Nat.reduceAdd]
 refine nK ?_
 refine zb ?_
 refine zq ?_
 refine zq ?_
 refine ze ?_
 refine zc ?_
 refine nK ?_
 refine zb ?_
 refine ze ?_
 refine zc ?_
 refine nK ?_
 refine Next.weakS [] [2, 3] (by rfl) (keepsN hC _ rfl) (G' := [(2, .fz (.cellp (encTr a))), (3, .fz (.cellp (encTr b))), (5, .fz (.lit (.slice none 0 0)))]) (H' := []) wF trivial rfl ?_
 refine Next.adopt 5 1 rfl ?_
 refine nK ?_
 refine zb ?_
 refine zx ?_
 refine zj ?_
 refine zo ?_
 refine zx ?_
 refine zj ?_
 refine zo ?_
 refine zx ?_
 refine zj ?_
 refine zo ?_
 refine zx ?_
 refine zj ?_
 refine zo ?_
 refine zx ?_
 refine zj ?_
 refine zo ?_
 refine zx ?_
 refine zj ?_
 refine zo ?_
 refine rpZ 27 rfl (op_max6 rfl (oT rfl) (oT rfl) (oT rfl) (oT rfl) (oT rfl) (oT rfl)) ?_
 refine zd ?_
 refine zc ?_
 refine nK ?_
 refine zb ?_
 refine za ?_
 refine zbb ?_
 refine zc ?_
 refine nK ?_
 refine n_loop (ι := Nat) (fun i => ([(2, .fz (.cellp (encTr a))), (3, .fz (.cellp (encTr b))), (5, .sl 0 1 0 (fil (affP a b) i).length), (28, IV .i64 n), (29, IV .i64 i)], [(0, OI (fil (affP a b) i))], 1)) (fun i => i ≤ n) (fun i => n - i) 0 (Nat.zero_le _) ?_ ?_
 ·refine Next.weak [0] [] (by rfl) (keepsN hC _ rfl) (by exact ⟨⟨_, rfl, .inl ⟨rfl, rfl⟩⟩, ⟨⟨_, rfl, .inl ⟨rfl, rfl⟩⟩, ⟨⟨_, rfl, .inl ⟨rfl, rfl⟩⟩, ⟨⟨_, rfl, .inl ⟨ivEq hN, rfl⟩⟩, ⟨⟨_, rfl, .inl ⟨rfl, rfl⟩⟩, trivial⟩⟩⟩⟩⟩) wR wN rel_intro
 intro i hi K hK
 try dsimp only at hi hK ⊢
 have hfl := fil_len (affP a b) i
 refine nK ?_
 refine zb ?_
 refine zp ?_
 refine zc ?_
 refine nK ?_
 refine n_cond _ rfl (fun hb => ?_) (fun hb => ?_)
 ·have hlt : i < n := by simp at hb; omega
  have hK1 := hK (i + 1) (by omega) (by omega)
  rw [fil_succ] at hK1
  have h1 := smL_row ha.2.1 i
  have h2 := smL_row hb0.2.1 i
  have h3 := smL_row ha.2.2 i
  have h4 := smL_row hb0.2.2 i
  have hap : affP a b i = !(decide (gt0 a.dist i = gt0 b.dist i) && decide (i < a.dist.length ↔ i < b.dist.length) && decide (rowAt' a.hops i = rowAt' b.hops i) && decide (rowAt' a.par i = rowAt' b.par i)) := rfl
  have oa := fun h => gt0_out (d := a.dist) (v := i) h
  have ob := fun h => gt0_out (d := b.dist) (v := i) h
  have ra := fun h => row_of encN a.dist i 0 h
  have rb := fun h => row_of encN b.dist i 0 h
  have ga : a.dist.getD i 0 = gt0 a.dist i := rfl
  have gb : b.dist.getD i 0 = gt0 b.dist i := rfl
  rw [ga] at ra
  rw [gb] at rb
  generalize affP a b i = ap at *
  generalize fil (affP a b) i = F at *
  generalize gt0 a.dist i = da at *
  generalize gt0 b.dist i = db at *
  refine nK ?_
  refine zb ?_
  refine za ?_
  refine zd ?_
  refine zc ?_
  refine nK ?_
  refine s_draw mixed ?_
  refine za ?_
  refine zx ?_
  refine zj ?_
  refine zo ?_
  refine zp ?_
  refine za ?_
  refine zf ?_
  refine zbq ?_
  refine zw ?_
  refine zbt ?_
  refine zbk ?_
  refine zt ?_
  refine za ?_
  refine zbq ?_
  refine zw ?_
  refine zf ?_
  refine rgZ 48 rfl rfl tG (op_idx_fz i rfl (oO rfl tO) (oO rfl tO) (by intro hg; simp at hg; exact ⟨rfl, ra (by omega)⟩)) ?_
  refine zw ?_
  refine zbq ?_
  refine zw ?_
  refine zf ?_
  refine rgZ 53 rfl rfl tG (op_idx_fz i rfl (oO rfl tO) (oO rfl tO) (by intro hg; simp at hg; exact ⟨rfl, rb (by omega)⟩)) ?_
  refine zw ?_
  refine zbo ?_
  refine zt ?_
  refine za ?_
  refine zf ?_
  refine zbq ?_
  refine zw ?_
  refine zbt ?_
  refine zbz ?_
  refine zbp ?_
  refine zf ?_
  refine zbq ?_
  refine zw ?_
  refine zbt ?_
  refine zbz ?_
  refine zcf ?_
  refine zv ?_
  refine zd ?_
  refine zs ?_
  refine nK ?_
  refine s_draw mixed ?_
  refine za ?_
  refine zbj ?_
  refine za ?_
  refine zbq ?_
  refine zw ?_
  refine zf ?_
  refine rgZ 77 rfl rfl tG (op_call_pure (fun _ => at_c _ _) rfl (Opd.func _) (oS (oO rfl tO) (oS (oO rfl tO) Opds.nil))) ?_
  refine zbq ?_
  refine zw ?_
  refine zf ?_
  refine rgZ 81 rfl rfl tG (op_call_pure (fun _ => at_c _ _) rfl (Opd.func _) (oS (oO rfl tO) (oS (oO rfl tO) Opds.nil))) ?_
  refine rgZ 82 rfl rfl tG (op_call_pure (fun _ => equali_c _ _ (by assumption) (by assumption)) rfl (Opd.func _) (oS (oO rfl tO) (oS (oO rfl tO) Opds.nil))) ?_
  refine zbl ?_
  refine zv ?_
  refine za ?_
  refine zbq ?_
  refine zw ?_
  refine zf ?_
  refine rgZ 89 rfl rfl tG (op_call_pure (fun _ => at_c _ _) rfl (Opd.func _) (oS (oO rfl tO) (oS (oO rfl tO) Opds.nil))) ?_
  refine zbq ?_
  refine zw ?_
  refine zf ?_
  refine rgZ 93 rfl rfl tG (op_call_pure (fun _ => at_c _ _) rfl (Opd.func _) (oS (oO rfl tO) (oS (oO rfl tO) Opds.nil))) ?_
  refine rgZ 94 rfl rfl tG (op_call_pure (fun _ => equali_c _ _ (by assumption) (by assumption)) rfl (Opd.func _) (oS (oO rfl tO) (oS (oO rfl tO) Opds.nil))) ?_
  refine zbl ?_
  refine zv ?_
  refine zs ?_
  refine nK ?_
  refine n_cond _ rfl (fun hb => ?_) (fun hb => ?_)
  ·have e : ap = true := by
    rw [hap]
    clear hap hK1 hfl ra rb ga gb
    generalize decide (rowAt' a.hops i = rowAt' b.hops i) = p1 at hb ⊢
    generalize decide (rowAt' a.par i = rowAt' b.par i) = p2 at hb ⊢
    by_cases qa : i < a.dist.length
    ·have qa' : (i : Int) < a.dist.length := by omega
     have qa2 : ¬ (a.dist.length : Int) ≤ i := by omega
     by_cases qb : i < b.dist.length
     ·have qb' : (i : Int) < b.dist.length := by omega
      have qb2 : ¬ (b.dist.length : Int) ≤ i := by omega
      by_cases qd : da = db <;> cases p1 <;> cases p2 <;> simp [qa, qb, qa', qb', qa2, qb2, qd] at hb ⊢
     have qb' : ¬ (i : Int) < b.dist.length := by omega
     have qb2 : (b.dist.length : Int) ≤ i := by omega
     cases p1 <;> cases p2 <;> simp [qa, qb, qa', qb', qa2, qb2] at hb ⊢
    have qa' : ¬ (i : Int) < a.dist.length := by omega
    have qa2 : (a.dist.length : Int) ≤ i := by omega
    by_cases qb : i < b.dist.length
    ·have qb' : (i : Int) < b.dist.length := by omega
     have qb2 : ¬ (b.dist.length : Int) ≤ i := by omega
     cases p1 <;> cases p2 <;> simp [qa, qb, qa', qb', qa2, qb2] at hb ⊢
    have qb' : ¬ (i : Int) < b.dist.length := by omega
    have qb2 : (b.dist.length : Int) ≤ i := by omega
    have qd : da = db := (oa qa).trans (ob qb).symm
    cases p1 <;> cases p2 <;> simp [qa, qb, qa', qb', qa2, qb2, qd] at hb ⊢
   rw [if_pos e] at hK1
   refine nK ?_
   refine zb ?_
   refine za ?_
   refine za ?_
   refine zbh ?_
   refine zbu ?_
   refine zd ?_
   refine zc ?_
   refine nK ?_
   refine zb ?_
   refine zl ?_
   refine za ?_
   refine zc ?_
   refine nK ?_
   refine Next.weak [1] [] (by rfl) (keepsN hC _ rfl) wG (by exact ⟨ent_same rfl rfl (flEq rfl (by rw [List.map_append]; rfl)) trivial, trivial⟩) wN hK1
  have e : ¬ ap = true := by
   rw [hap]
   clear hap hK1 hfl ra rb ga gb
   generalize decide (rowAt' a.hops i = rowAt' b.hops i) = p1 at hb ⊢
   generalize decide (rowAt' a.par i = rowAt' b.par i) = p2 at hb ⊢
   by_cases qa : i < a.dist.length
   ·have qa' : (i : Int) < a.dist.length := by omega
    have qa2 : ¬ (a.dist.length : Int) ≤ i := by omega
    by_cases qb : i < b.dist.length
    ·have qb' : (i : Int) < b.dist.length := by omega
     have qb2 : ¬ (b.dist.length : Int) ≤ i := by omega
     by_cases qd : da = db <;> cases p1 <;> cases p2 <;> simp [qa, qb, qa', qb', qa2, qb2, qd] at hb ⊢
    have qb' : ¬ (i : Int) < b.dist.length := by omega
    have qb2 : (b.dist.length : Int) ≤ i := by omega
    cases p1 <;> cases p2 <;> simp [qa, qb, qa', qb', qa2, qb2] at hb ⊢
   have qa' : ¬ (i : Int) < a.dist.length := by omega
   have qa2 : (a.dist.length : Int) ≤ i := by omega
   by_cases qb : i < b.dist.length
   ·have qb' : (i : Int) < b.dist.length := by omega
    have qb2 : ¬ (b.dist.length : Int) ≤ i := by omega
    cases p1 <;> cases p2 <;> simp [qa, qb, qa', qb', qa2, qb2] at hb ⊢
   have qb' : ¬ (i : Int) < b.dist.length := by omega
   have qb2 : (b.dist.length : Int) ≤ i := by omega
   have qd : da = db := (oa qa).trans (ob qb).symm
   cases p1 <;> cases p2 <;> simp [qa, qb, qa', qb', qa2, qb2, qd] at hb ⊢
  rw [if_neg e, List.append_nil] at hK1
  refine nK ?_
  refine zb ?_
  refine zl ?_
  refine za ?_
  refine zc ?_
  refine nK ?_
  refine Next.weak [0] [] (by rfl) (keepsN hC _ rfl) wG wR wN hK1
 have hie : i = n := by simp at hb; omega
 subst hie
 refine nK ?_
 refine zb ?_
 refine za ?_
 refine zd ?_
 refine zc ?_
 refine nK ?_
 refine Next.weakS [] [4] (by rfl) (keeps0 hC _) (G' := [(4, .fz (VI (fil (affP a b) i)))]) (H' := []) (by exact ⟨⟨_, rfl, .inr ⟨_, rfl, .sl _ _ _ _ _ _ rfl rfl (take_all0 (List.length_map _)) (List.length_map _)⟩⟩, trivial⟩) trivial rfl ?_
 exact wO hC
end Go.Proofs.YtcillieggklaaaaGreat
