/- A part of the proof: HP12, P18, P19, P20, HP13, P21, P22, HP14, P23, P24, HP15, HP20, HP16, HP21, HP22, HP23, P29, LS. -/
import Derived.Test.YtgbfkpcigipniaaZD
set_option linter.all false
namespace Go.Pl
open Go Go.RT
set_option linter.all false
theorem relax_ex {es : List Edg} {r n a x : Nat} {kx : Int} {dist : List Int} (vg : VG es r n) (hx : gt0 dist x = kx) (h0 : 0 ≤ kx) (hb : kx + 65535 ≤ 65535 * cntP dist) : ∀ (todo : List Edg) (h : Hq), (∀ e ∈ todo, e ∈ es ∧ e.f = (x : Int)) → DJ es n a dist h todo → ∃ h', DJ es n a dist h' []
  | [], h, _, o => ⟨h, o⟩
  | e :: todo, h, ht, o => by
    obtain ⟨he, hef⟩ := ht e (by simp)
    have hfx : gt0 dist e.f.toNat = kx := by rw [hef, Int.toNat_natCast]; exact hx
    by_cases hc : gt0 dist e.t.toNat < 0 ∧ (h.place e.t.toNat < 0 ∨ gt0 dist e.f.toNat + e.c < h.key e.t.toNat)
    · exact relax_ex vg hx h0 hb todo _ (fun e' h' => ht e' (by simp [h'])) (o.put vg he (by omega) (by omega) hc)
    · exact relax_ex vg hx h0 hb todo _ (fun e' h' => ht e' (by simp [h'])) (o.skip vg hc)
theorem run_ex {es : List Edg} {r n a : Nat} (vg : VG es r n) (ha : a < n) : ∀ (m : Nat) (dist : List Int) (h : Hq), n - cntP dist ≤ m → DJ es n a dist h [] → (∀ v, v < n → gt0 dist v ≤ 65535 * cntP dist) → ∃ D : List Int, D.length = n ∧ (∀ v, v < n → IsD es a v (gt0 D v)) ∧ ∀ v, v < n → gt0 D v ≤ 8388480
  | m, dist, h, hm, o, hb => by
    by_cases he : h.it = []
    · refine ⟨dist, o.dl, fun v hv => o.done vg ha he hv, fun v hv => ?_⟩
      have h1 := hb v hv
      have h2 := cntP_le dist
      have h3 := vg.n128
      rw [o.dl] at h2; omega
    · have hne : 0 < h.it.length := Nat.pos_of_ne_zero fun e => he (List.length_eq_zero_iff.1 e)
      obtain ⟨x1, x2, x3, x4, x5, x6⟩ := o.pop vg ha hne
      have hcl := cntP_le (dist.set (h.item 0) (h.key (h.item 0)))
      rw [List.length_set, o.dl] at hcl
      have hget : ∀ v, gt0 (dist.set (h.item 0) (h.key (h.item 0))) v = if h.item 0 = v then h.key (h.item 0) else gt0 dist v := fun v => getD_set _ _ _ _ _ (by rw [o.dl]; exact x1)
      obtain ⟨h', o'⟩ := relax_ex vg (by rw [hget, if_pos rfl]) x3 (by rw [x5]; omega) _ _ (fun e he => by simpa using he) x6
      match m with
      | 0 => omega
      | m + 1 =>
        refine run_ex vg ha m _ h' (by omega) o' fun v hv => ?_
        rw [hget, x5]
        have := hb v hv
        split <;> omega
theorem dist_ex {es : List Edg} {r n a : Nat} (vg : VG es r n) (ha : a < n) : ∃ D : List Int, D.length = n ∧ (∀ v, v < n → IsD es a v (gt0 D v)) ∧ ∀ v, v < n → gt0 D v ≤ 8388480 := by
  obtain ⟨o, h0⟩ := DJ.start vg ha
  refine run_ex vg ha n _ _ (by omega) o fun v hv => ?_
  rw [h0]
  have : gt0 (List.replicate n (-1)) v = -1 := getD_rep _ _ _ _ hv
  rw [this]; omega
theorem IsD.small {es : List Edg} {r n a v : Nat} {d : Int} (vg : VG es r n) (ha : a < n) (hv : v < n) (h : IsD es a v d) : -1 ≤ d ∧ d ≤ 8388480 := by
  obtain ⟨D, h1, h2, h3⟩ := dist_ex vg ha
  rw [h.uniq (h2 v hv)]
  exact ⟨(h2 v hv).ge vg, h3 v hv⟩
theorem srt_ex (d : List Int) : ∀ (l : List Nat), l.Nodup → ∃ l2 : List Nat, l2.Perm l ∧ l2.Pairwise (ltHd d)
  | [], _ => ⟨[], .nil, .nil⟩
  | x :: l, h => by
    obtain ⟨h1, h2⟩ := List.nodup_cons.1 h
    obtain ⟨l2, p, q⟩ := srt_ex d l h2
    have : ∀ (l2 : List Nat), x ∉ l2 → l2.Pairwise (ltHd d) → ∃ l3 : List Nat, l3.Perm (x :: l2) ∧ l3.Pairwise (ltHd d) := by
      intro l2
      induction l2 with
      | nil => exact fun _ _ => ⟨[x], .refl _, by simp⟩
      | cons y l2 ih =>
        intro hx hq
        obtain ⟨q1, q2⟩ := List.pairwise_cons.1 hq
        by_cases hxy : ltHd d x y
        · refine ⟨x :: y :: l2, .refl _, List.pairwise_cons.2 ⟨fun z hz => ?_, hq⟩⟩
          rcases List.mem_cons.1 hz with rfl | hz
          · exact hxy
          · have := q1 z hz; unfold ltHd at *; omega
        · obtain ⟨l3, p3, q3⟩ := ih (fun e => hx (by simp [e])) q2
          refine ⟨y :: l3, (p3.cons y).trans (List.Perm.swap x y l2), List.pairwise_cons.2 ⟨fun z hz => ?_, q3⟩⟩
          rcases List.mem_cons.1 (p3.mem_iff.1 hz) with rfl | hz
          · have hne : z ≠ y := fun e => hx (by simp [e])
            unfold ltHd at *; omega
          · exact q1 z hz
    obtain ⟨l3, p3, q3⟩ := this l2 (fun e => h1 (p.mem_iff.1 e)) q
    exact ⟨l3, p3.trans (p.cons x), q3⟩
theorem run_exists {g : Gr} {a : Nat} (h : checkI g = 0) (ha : (a : Int) < g.r) : ∃ t, RunOk g a t := by
  obtain ⟨vg, h0, h1⟩ := checkI_vg h
  obtain ⟨D, d1, d2, d3⟩ := dist_ex vg (a := a) (by omega)
  obtain ⟨l2, p, q⟩ := srt_ex D (ordA D a (g.r + g.n).toNat) (List.nodup_range.filter _)
  exact ⟨⟨a, D, hopsL g.r a (g.r + g.n).toNat (parL g.es a D (g.r + g.n).toNat) l2, parL g.es a D (g.r + g.n).toNat⟩, h, ha, rfl, d1, d2, rfl, l2, p, q, rfl⟩
end Go.Pl
namespace Go.Proofs.Ytgbfkpcigipniaa
open Go Go.RT Go.Proofs Go.Pl
set_option linter.all false
set_option maxRecDepth 20000
set_option maxHeartbeats 2000000
theorem run_bad (g : Gr) (a : Int) (hok : okG g) (hg : checkI g ≠ 0) : Pure Try.prog 12 [.agg (encG g), If .i64 a] (.tup [.agg (encTr zeroT), If .i64 (checkI g)]) := by
  refine Meets.intro Try.func12 rfl (Nat.le_of_ble_eq_true rfl) fun C hC => ?_
  simp only [List.map, argEnv, Nat.reduceAdd]
  refine nK ?_
  refine s_reg rfl ?_
  refine Run.eff (dd := some 2) rfl rfl (op_box_flat rfl (Opd.tmp _ _ rfl) tC rfl) ?_
  refine Run.eff (dd := some 4) rfl rfl (op_alloc rfl rfl rfl rfl) ?_
  refine Run.pure (dd := some 5) rfl rfl (op_assign rfl (Opd.const _)) ?_
  refine Run.nil (FinR.mk ?_)
  refine nK ?_
  refine s_reg rfl ?_
  refine Run.load (dd := some 8) rfl rfl (op_loadw_flat rfl (Opd.tmp _ _ rfl) tH rfl) ?_
  refine Run.pure (dd := some 9) rfl rfl (op_call_pure (fun _ => check_c _ (by assumption)) rfl (Opd.func _) (Opds.cons _ _ _ _ (Opd.tmp _ _ rfl) Opds.nil)) ?_
  refine Run.pure (dd := some 6) rfl rfl (op_assign rfl (Opd.tmp _ _ rfl)) ?_
  refine Run.nil (FinR.mk ?_)
  refine nK ?_
  refine s_reg rfl ?_
  refine Run.pure (dd := some 10) rfl rfl (op_move rfl (Opd.tmp _ _ rfl)) ?_
  refine Run.pure (dd := some 11) rfl rfl (op_neq rfl (Opd.tmp _ _ rfl) (Opd.const _)) ?_
  refine Run.nil (FinR.mk ?_)
  refine nK ?_
  refine n_cond _ rfl (fun hb => ?_) (fun hb => ?_)
  · refine nK ?_
    refine s_reg rfl ?_
    refine Run.pure (dd := some 12) rfl rfl (op_build rfl rfl rfl (FillF.nil _)) ?_
    refine Run.pure (dd := some 13) rfl rfl (op_move rfl (Opd.tmp _ _ rfl)) ?_
    refine Run.eff (dd := none) rfl rfl (op_store_flat rfl (Opd.tmp _ _ rfl) (Opd.tmp _ _ rfl) tC rfl rfl (by first | rfl | assumption) tS) ?_
    refine Run.pure (dd := some 5) rfl rfl (op_assign rfl (Opd.tmp _ _ rfl)) ?_
    refine Run.nil (FinR.mk ?_)
    refine nK ?_
    (refine Next.weakS [4] [] (by rfl) (keeps0 hC _) (G' := [(4, .ptr 0 4 0 0), (5, .fz _)]) (H' := [(0, OTr zeroT)]) (by repeat (first | exact trivial | refine ⟨⟨_, rfl, .inl ⟨rfl, rfl⟩⟩, ?_⟩ | refine ⟨⟨_, rfl, .inl ⟨slEq rfl tN, rfl⟩⟩, ?_⟩ | refine ⟨⟨_, rfl, .inl ⟨ivEq tX, rfl⟩⟩, ?_⟩)) (by exact ⟨⟨rfl, rfl, .fflat _ _ _ rfl tW⟩, trivial⟩) rfl ?_; (first | exact s_o1 hC rfl tV | exact s_o2 hC rfl tV tV | exact s_o3 hC rfl tV tV tV | exact s_out0 hC rfl | exact s_outO hC rfl rfl rfl))
  · simp at hb; omega
theorem run_out (g : Gr) (a : Int) (hok : okG g) (hg : checkI g = 0) (ha : a < 0 ∨ g.r ≤ a) : Pure Try.prog 12 [.agg (encG g), If .i64 a] (.tup [.agg (encTr zeroT), If .i64 5]) := by
  refine Meets.intro Try.func12 rfl (Nat.le_of_ble_eq_true rfl) fun C hC => ?_
  simp only [List.map, argEnv, Nat.reduceAdd]
  refine nK ?_
  refine s_reg rfl ?_
  refine Run.eff (dd := some 2) rfl rfl (op_box_flat rfl (Opd.tmp _ _ rfl) tC rfl) ?_
  refine Run.eff (dd := some 4) rfl rfl (op_alloc rfl rfl rfl rfl) ?_
  refine Run.pure (dd := some 5) rfl rfl (op_assign rfl (Opd.const _)) ?_
  refine Run.nil (FinR.mk ?_)
  refine nK ?_
  refine s_reg rfl ?_
  refine Run.load (dd := some 8) rfl rfl (op_loadw_flat rfl (Opd.tmp _ _ rfl) tH rfl) ?_
  refine Run.pure (dd := some 9) rfl rfl (op_call_pure (fun _ => check_c _ (by assumption)) rfl (Opd.func _) (Opds.cons _ _ _ _ (Opd.tmp _ _ rfl) Opds.nil)) ?_
  refine Run.pure (dd := some 6) rfl rfl (op_assign rfl (Opd.tmp _ _ rfl)) ?_
  refine Run.nil (FinR.mk ?_)
  refine nK ?_
  refine s_reg rfl ?_
  refine Run.pure (dd := some 10) rfl rfl (op_move rfl (Opd.tmp _ _ rfl)) ?_
  refine Run.pure (dd := some 11) rfl rfl (op_neq rfl (Opd.tmp _ _ rfl) (Opd.const _)) ?_
  refine Run.nil (FinR.mk ?_)
  refine nK ?_
  refine n_cond _ rfl (fun hb => ?_) (fun hb => ?_)
  · simp at hb; omega
  · refine nK ?_
    refine s_reg rfl ?_
    refine Run.pure (dd := some 14) rfl rfl (op_move rfl (Opd.tmp _ _ rfl)) ?_
    refine Run.pure (dd := some 15) rfl rfl (op_lss rfl (Opd.tmp _ _ rfl) (Opd.const _)) ?_
    refine Run.pure (dd := some 16) rfl rfl (op_move rfl (Opd.tmp _ _ rfl)) ?_
    refine Run.pureG (dd := some 17) rfl rfl rfl tG (op_move rfl (Opd.tmp _ _ rfl)) ?_
    refine Run.pureG (dd := some 18) rfl rfl rfl tG (op_fld_ptr (by decide) rfl (Opd.tmp _ _ rfl)) ?_
    refine Run.loadG (dd := some 19) rfl rfl rfl tG (op_load1_flat rfl (Opd.topt _ _ _ rfl tO) tH rfl) ?_
    refine Run.pureG (dd := some 20) rfl rfl rfl tG (op_geq rfl (Opd.topt _ _ _ rfl tO) (Opd.topt _ _ _ rfl tO)) ?_
    refine Run.pure (dd := some 21) rfl rfl (op_pick_or rfl (Opd.tmp _ _ rfl) (Opd.topt _ _ _ rfl tO)) ?_
    refine Run.nil (FinR.mk ?_)
    refine nK ?_
    refine n_cond _ rfl (fun hb => ?_) (fun hb => ?_)
    · refine nK ?_
      refine s_reg rfl ?_
      refine Run.pure (dd := some 22) rfl rfl (op_build rfl rfl rfl (FillF.nil _)) ?_
      refine Run.eff (dd := none) rfl rfl (op_store_flat rfl (Opd.tmp _ _ rfl) (Opd.tmp _ _ rfl) tC rfl rfl (by first | rfl | assumption) tS) ?_
      refine Run.pure (dd := some 5) rfl rfl (op_assign rfl (Opd.const _)) ?_
      refine Run.nil (FinR.mk ?_)
      refine nK ?_
      (refine Next.weakS [4] [] (by rfl) (keeps0 hC _) (G' := [(4, .ptr 0 4 0 0), (5, .fz _)]) (H' := [(0, OTr zeroT)]) (by repeat (first | exact trivial | refine ⟨⟨_, rfl, .inl ⟨rfl, rfl⟩⟩, ?_⟩ | refine ⟨⟨_, rfl, .inl ⟨slEq rfl tN, rfl⟩⟩, ?_⟩ | refine ⟨⟨_, rfl, .inl ⟨ivEq tX, rfl⟩⟩, ?_⟩)) (by exact ⟨⟨rfl, rfl, .fflat _ _ _ rfl tW⟩, trivial⟩) rfl ?_; (first | exact s_o1 hC rfl tV | exact s_o2 hC rfl tV tV | exact s_o3 hC rfl tV tV tV | exact s_out0 hC rfl | exact s_outO hC rfl rfl rfl))
    · simp at hb; omega
theorem run_c (g : Gr) (a : Nat) (t : Tr) (hok : okG g) (h : RunOk g a t) : Pure Try.prog 12 [.agg (encG g), If .i64 a] (.tup [.agg (encTr t), If .i64 0]) := by
  obtain ⟨vg, h0, h1⟩ := checkI_vg h.ok
  have hlt := h.lt
  obtain ⟨l2, p, q, hh⟩ := h.hops
  have hd := dist_c g a t.dist h.ok hok (by omega) h.dl h.dist
  have hp := parents_c g a t.dist h.ok h.dl (fun v hv => by have := (h.dist v hv).small vg (by omega) hv; omega)
  have hup := parL_ok vg a t.dist
  rw [← h.par] at hp hup
  have hho := hops_c g a (g.r + g.n).toNat t.dist t.par l2 vg.n128 h.dl (by omega) hup p q
  rw [← hh] at hho
  have hck := h.ok
  obtain ⟨rt, d, hs, pr⟩ := t
  have hrt : rt = a := h.root
  subst hrt
  dsimp only at hd hp hho
  clear hh h hup q p
  refine Meets.intro Try.func12 rfl (Nat.le_of_ble_eq_true rfl) fun C hC => ?_
  simp only [List.map, argEnv, Nat.reduceAdd]
  refine nK ?_
  refine s_reg rfl ?_
  refine Run.eff (dd := some 2) rfl rfl (op_box_flat rfl (Opd.tmp _ _ rfl) tC rfl) ?_
  refine Run.eff (dd := some 4) rfl rfl (op_alloc rfl rfl rfl rfl) ?_
  refine Run.pure (dd := some 5) rfl rfl (op_assign rfl (Opd.const _)) ?_
  refine Run.nil (FinR.mk ?_)
  refine nK ?_
  refine s_reg rfl ?_
  refine Run.load (dd := some 8) rfl rfl (op_loadw_flat rfl (Opd.tmp _ _ rfl) tH rfl) ?_
  refine Run.pure (dd := some 9) rfl rfl (op_call_pure (fun _ => check_c _ (by assumption)) rfl (Opd.func _) (Opds.cons _ _ _ _ (Opd.tmp _ _ rfl) Opds.nil)) ?_
  refine Run.pure (dd := some 6) rfl rfl (op_assign rfl (Opd.tmp _ _ rfl)) ?_
  refine Run.nil (FinR.mk ?_)
  refine nK ?_
  refine s_reg rfl ?_
  refine Run.pure (dd := some 10) rfl rfl (op_move rfl (Opd.tmp _ _ rfl)) ?_
  refine Run.pure (dd := some 11) rfl rfl (op_neq rfl (Opd.tmp _ _ rfl) (Opd.const _)) ?_
  refine Run.nil (FinR.mk ?_)
  refine nK ?_
  refine n_cond _ rfl (fun hb => ?_) (fun hb => ?_)
  · simp at hb; omega
  · refine nK ?_
    refine s_reg rfl ?_
    refine Run.pure (dd := some 14) rfl rfl (op_move rfl (Opd.tmp _ _ rfl)) ?_
    refine Run.pure (dd := some 15) rfl rfl (op_lss rfl (Opd.tmp _ _ rfl) (Opd.const _)) ?_
    refine Run.pure (dd := some 16) rfl rfl (op_move rfl (Opd.tmp _ _ rfl)) ?_
    refine Run.pureG (dd := some 17) rfl rfl rfl tG (op_move rfl (Opd.tmp _ _ rfl)) ?_
    refine Run.pureG (dd := some 18) rfl rfl rfl tG (op_fld_ptr (by decide) rfl (Opd.tmp _ _ rfl)) ?_
    refine Run.loadG (dd := some 19) rfl rfl rfl tG (op_load1_flat rfl (Opd.topt _ _ _ rfl tO) tH rfl) ?_
    refine Run.pureG (dd := some 20) rfl rfl rfl tG (op_geq rfl (Opd.topt _ _ _ rfl tO) (Opd.topt _ _ _ rfl tO)) ?_
    refine Run.pure (dd := some 21) rfl rfl (op_pick_or rfl (Opd.tmp _ _ rfl) (Opd.topt _ _ _ rfl tO)) ?_
    refine Run.nil (FinR.mk ?_)
    refine nK ?_
    refine n_cond _ rfl (fun hb => ?_) (fun hb => ?_)
    · simp at hb; omega
    · refine nK ?_
      refine s_reg rfl ?_
      refine Run.pure (dd := some 23) rfl rfl (op_move rfl (Opd.tmp _ _ rfl)) ?_
      refine Run.load (dd := some 24) rfl rfl (op_loadw_flat rfl (Opd.tmp _ _ rfl) tH rfl) ?_
      refine Run.pure (dd := some 25) rfl rfl (op_move rfl (Opd.tmp _ _ rfl)) ?_
      refine Run.pure (dd := some 26) rfl rfl (op_call_pure (fun _ => hd) rfl (Opd.func _) (Opds.cons _ _ _ _ (Opd.tmp _ _ rfl) (Opds.cons _ _ _ _ (Opd.tmp _ _ rfl) Opds.nil))) ?_
      refine Run.pure (dd := some 27) rfl rfl (op_build rfl rfl rfl (FillF.cons _ _ _ _ _ _ _ _ _ _ (by rfl) (Opd.tmp _ _ rfl) tC (by rfl) tR (FillF.cons _ _ _ _ _ _ _ _ _ _ (by rfl) (Opd.tmp _ _ rfl) tC (by rfl) tR (FillF.nil _)))) ?_
      refine Run.eff (dd := some 7) rfl rfl (op_alloc rfl rfl rfl rfl) ?_
      refine Run.eff (dd := none) rfl rfl (op_store_flat rfl (Opd.tmp _ _ rfl) (Opd.tmp _ _ rfl) tC rfl rfl (by first | rfl | assumption) tS) ?_
      refine Run.nil (FinR.mk ?_)
      refine nK ?_
      refine s_reg rfl ?_
      refine Run.load (dd := some 28) rfl rfl (op_loadw_flat rfl (Opd.tmp _ _ rfl) tH rfl) ?_
      refine Run.pure (dd := some 29) rfl rfl (op_move rfl (Opd.tmp _ _ rfl)) ?_
      refine Run.pure (dd := some 30) rfl rfl (op_fld_ptr (by decide) rfl (Opd.tmp _ _ rfl)) ?_
      refine Run.load (dd := some 31) rfl rfl (op_load1_flat rfl (Opd.tmp _ _ rfl) tH rfl) ?_
      refine Run.pure (dd := some 32) rfl rfl (op_call_pure (fun _ => hp) rfl (Opd.func _) (Opds.cons _ _ _ _ (Opd.tmp _ _ rfl) (Opds.cons _ _ _ _ (Opd.tmp _ _ rfl) (Opds.cons _ _ _ _ (Opd.tmp _ _ rfl) Opds.nil)))) ?_
      refine Run.pure (dd := some 33) rfl rfl (op_fld_ptr (by decide) rfl (Opd.tmp _ _ rfl)) ?_
      refine Run.eff (dd := none) rfl rfl (op_store_flat rfl (Opd.tmp _ _ rfl) (Opd.tmp _ _ rfl) tC rfl rfl (by first | rfl | assumption) tS) ?_
      refine Run.nil (FinR.mk ?_)
      refine nK ?_
      refine s_reg rfl ?_
      refine Run.load (dd := some 34) rfl rfl (op_loadw_flat rfl (Opd.tmp _ _ rfl) tH rfl) ?_
      refine Run.pure (dd := some 35) rfl rfl (op_move rfl (Opd.tmp _ _ rfl)) ?_
      refine Run.pure (dd := some 36) rfl rfl (op_fld_ptr (by decide) rfl (Opd.tmp _ _ rfl)) ?_
      refine Run.load (dd := some 37) rfl rfl (op_load1_flat rfl (Opd.tmp _ _ rfl) tH rfl) ?_
      refine Run.pure (dd := some 38) rfl rfl (op_fld_ptr (by decide) rfl (Opd.tmp _ _ rfl)) ?_
      refine Run.load (dd := some 39) rfl rfl (op_load1_flat rfl (Opd.tmp _ _ rfl) tH rfl) ?_
      refine Run.pure (dd := some 40) rfl rfl (op_call_pure (fun _ => hho) rfl (Opd.func _) (Opds.cons _ _ _ _ (Opd.tmp _ _ rfl) (Opds.cons _ _ _ _ (Opd.tmp _ _ rfl) (Opds.cons _ _ _ _ (Opd.tmp _ _ rfl) (Opds.cons _ _ _ _ (Opd.tmp _ _ rfl) Opds.nil))))) ?_
      refine Run.pure (dd := some 41) rfl rfl (op_fld_ptr (by decide) rfl (Opd.tmp _ _ rfl)) ?_
      refine Run.eff (dd := none) rfl rfl (op_store_flat rfl (Opd.tmp _ _ rfl) (Opd.tmp _ _ rfl) tC rfl rfl (by first | rfl | assumption) tS) ?_
      refine Run.nil (FinR.mk ?_)
      refine nK ?_
      refine s_reg rfl ?_
      refine Run.load (dd := some 42) rfl rfl (op_loadw_flat rfl (Opd.tmp _ _ rfl) tH rfl) ?_
      refine Run.eff (dd := none) rfl rfl (op_store_flat rfl (Opd.tmp _ _ rfl) (Opd.tmp _ _ rfl) tC rfl rfl (by first | rfl | assumption) tS) ?_
      refine Run.pure (dd := some 5) rfl rfl (op_assign rfl (Opd.const _)) ?_
      refine Run.nil (FinR.mk ?_)
      refine nK ?_
      (first | exact s_o1 hC rfl tV | exact s_o2 hC rfl tV tV | exact s_o3 hC rfl tV tV tV | exact s_out0 hC rfl | exact s_outO hC rfl rfl rfl)
end Go.Proofs.Ytgbfkpcigipniaa
namespace Go.Proofs.Ytgbfkpcigipniaa
open Go Go.RT Go.Proofs Go.Pl
set_option linter.all false
set_option maxRecDepth 20000
set_option maxHeartbeats 2000000
end Go.Proofs.Ytgbfkpcigipniaa
namespace Go.Proofs.Ytgbfkpcigipniaa
open Go Go.RT Go.Proofs Go.Pl
set_option linter.all false
set_option maxRecDepth 20000
set_option maxHeartbeats 2000000
theorem indexi_c (l : List Int) (x : Int) (hl : l.length ≤ 1999999) : Pure Try.prog 59 [VI l, If .i64 x] (If .i64 (idxAt (fun y => decide (x = y)) 0 l)) := by
  refine Meets.intro Try.func59 rfl (Nat.le_of_ble_eq_true rfl) fun C hC => ?_
  simp only [List.map, argEnv, Nat.reduceAdd]
  refine nK ?_
  refine s_reg rfl ?_
  refine Run.pure (dd := some 4) rfl rfl (op_assign rfl (Opd.const _)) ?_
  refine Run.nil (FinR.mk ?_)
  refine nK ?_
  refine s_reg rfl ?_
  refine Run.pure (dd := some 6) rfl rfl (op_move rfl (Opd.tmp _ _ rfl)) ?_
  refine Run.pure (dd := some 7) rfl rfl (op_len_fz rfl (by first | exact Opd.tmp _ _ rfl | exact Opd.nil _ _ (Opd.tmp _ _ rfl)) (by first | exact List.length_map _ | rfl)) ?_
  refine Run.pure (dd := some 8) rfl rfl (op_move rfl (Opd.const _)) ?_
  refine Run.nil (FinR.mk ?_)
  refine nK ?_
  refine n_loop (ι := Nat) (fun i => ([(0, .fz (VI l)), (1, IV .i64 x), (7, IV .i64 l.length), (8, IV .i64 i)], [], 0)) (fun i => i ≤ l.length ∧ idxAt (fun y => decide (x = y)) 0 l = idxAt (fun y => decide (x = y)) i (l.drop i)) (fun i => l.length - i) 0 ⟨Nat.zero_le _, rfl⟩ ?_ ?_
  · refine Next.weak [] [] (by rfl) (keeps0 hC _) (by repeat (first | exact trivial | refine ⟨⟨_, rfl, .inl ⟨rfl, rfl⟩⟩, ?_⟩)) (by repeat (first | exact trivial | refine ⟨ent_same rfl rfl rfl tL, ?_⟩ | refine ⟨ent_same rfl rfl (rfEq rfl tU) tL, ?_⟩ | refine ⟨ent_same rfl rfl (flEq rfl (by first | (simp; done) | (simp; omega) | (simp [encE, encN, encB, encT, encL, encTr]; done) | simp [maxC, minC])) trivial, ?_⟩)) (fun _ h => by simp at h) rel_intro
  · intro i ⟨hi, ho⟩ K hK
    refine nK ?_
    refine s_reg rfl ?_
    refine Run.pure (dd := some 9) rfl rfl (op_lss rfl (Opd.tmp _ _ rfl) (Opd.tmp _ _ rfl)) ?_
    refine Run.nil (FinR.mk ?_)
    refine nK ?_
    refine n_cond _ rfl (fun hb => ?_) (fun hb => ?_)
    · have hlt : i < l.length := by simp at hb; omega
      rw [List.drop_eq_getElem_cons hlt] at ho
      have hr1 := row_at' encN l i hlt
      have hK1 := fun h => hK (i + 1) ⟨by omega, h⟩ (by omega)
      generalize l[i] = y at *
      refine nK ?_
      refine s_reg rfl ?_
      refine Run.pure (dd := some 10) rfl rfl (op_move rfl (Opd.tmp _ _ rfl)) ?_
      refine Run.pure (dd := some 5) rfl rfl (op_assign rfl (Opd.tmp _ _ rfl)) ?_
      refine Run.nil (FinR.mk ?_)
      refine nK ?_
      refine s_reg rfl ?_
      refine Run.pure (dd := some 11) rfl rfl (op_move rfl (Opd.tmp _ _ rfl)) ?_
      refine Run.pure (dd := some 12) rfl rfl (op_move rfl (Opd.tmp _ _ rfl)) ?_
      refine Run.pure (dd := some 13) rfl rfl (op_move rfl (Opd.tmp _ _ rfl)) ?_
      refine Run.pure (dd := some 14) rfl rfl (op_idx_fz _ rfl (Opd.tmp _ _ rfl) (Opd.tmp _ _ rfl) tF) ?_
      refine Run.pure (dd := some 15) rfl rfl (op_load1_fz rfl (Opd.tmp _ _ rfl) rfl) ?_
      refine Run.pure (dd := some 16) rfl rfl (op_eql rfl (Opd.tmp _ _ rfl) (Opd.tmp _ _ rfl)) ?_
      refine Run.nil (FinR.mk ?_)
      refine nK ?_
      refine n_cond _ rfl (fun hb => ?_) (fun hb => ?_)
      · have e : x = y := by simpa using hb
        rw [ho, show idxAt (fun y => decide (x = y)) i (y :: l.drop (i + 1)) = (i : Int) by simp [idxAt, e]]
        refine nK ?_
        refine s_reg rfl ?_
        refine Run.pure (dd := some 17) rfl rfl (op_move rfl (Opd.tmp _ _ rfl)) ?_
        refine Run.pure (dd := some 4) rfl rfl (op_assign rfl (Opd.tmp _ _ rfl)) ?_
        refine Run.nil (FinR.mk ?_)
        refine nK ?_
        (first | exact s_o1 hC rfl tV | exact s_o2 hC rfl tV tV | exact s_o3 hC rfl tV tV tV | exact s_out0 hC rfl | exact s_outO hC rfl rfl rfl)
      · have e : ¬ x = y := by simpa using hb
        rw [show idxAt (fun y => decide (x = y)) i (y :: l.drop (i + 1)) = idxAt (fun y => decide (x = y)) (i + 1) (l.drop (i + 1)) by simp [idxAt, e]] at ho
        refine nK ?_
        refine s_reg rfl ?_
        refine Run.pure (dd := some 18) rfl rfl (op_add rfl (Opd.tmp _ _ rfl) (Opd.const _) tI) ?_
        refine Run.pure (dd := some 8) rfl rfl (op_move rfl (Opd.tmp _ _ rfl)) ?_
        refine Run.nil (FinR.mk ?_)
        refine nK ?_
        refine Next.weak [] [] (by rfl) (keeps0 hC _) (by repeat (first | exact trivial | refine ⟨⟨_, rfl, .inl ⟨rfl, rfl⟩⟩, ?_⟩)) (by repeat (first | exact trivial | refine ⟨ent_same rfl rfl rfl tL, ?_⟩ | refine ⟨ent_same rfl rfl (rfEq rfl tU) tL, ?_⟩ | refine ⟨ent_same rfl rfl (flEq rfl (by first | (simp; done) | (simp; omega) | (simp [encE, encN, encB, encT, encL, encTr]; done) | simp [maxC, minC])) trivial, ?_⟩)) (fun _ h => by simp at h) (hK1 ho)
    · have hie : i = l.length := by simp at hb; omega
      rw [hie, List.drop_length] at ho
      rw [ho]
      refine nK ?_
      refine s_reg rfl ?_
      refine Run.pure (dd := some 4) rfl rfl (op_assign rfl (Opd.const _)) ?_
      refine Run.nil (FinR.mk ?_)
      refine nK ?_
      (first | exact s_o1 hC rfl tV | exact s_o2 hC rfl tV tV | exact s_o3 hC rfl tV tV tV | exact s_out0 hC rfl | exact s_outO hC rfl rfl rfl)
theorem containsi_c (l : List Int) (x : Int) (hl : l.length ≤ 1999999) : Pure Try.prog 38 [VI l, If .i64 x] (Bf (decide (x ∈ l))) := by
  have e : decide (x ∈ l) = decide (0 ≤ idxAt (fun y => decide (x = y)) 0 l) := by
    rw [decide_eq_decide]
    have : ∀ (l : List Int) (k : Nat), x ∈ l ↔ 0 ≤ idxAt (fun y => decide (x = y)) k l := by
      intro l
      induction l with
      | nil => intro k; simp [idxAt]
      | cons y l ih =>
        intro k
        simp only [idxAt, List.mem_cons]
        by_cases e : x = y
        · simp [e]
        · simp [e, ← ih (k + 1)]
    exact this l 0
  rw [e]
  refine Meets.intro Try.func38 rfl (Nat.le_of_ble_eq_true rfl) fun C hC => ?_
  simp only [List.map, argEnv, Nat.reduceAdd]
  refine nK ?_
  refine s_reg rfl ?_
  refine Run.pure (dd := some 4) rfl rfl (op_assign rfl (Opd.const _)) ?_
  refine Run.nil (FinR.mk ?_)
  refine nK ?_
  refine s_reg rfl ?_
  refine Run.pure (dd := some 5) rfl rfl (op_move rfl (Opd.tmp _ _ rfl)) ?_
  refine Run.pure (dd := some 6) rfl rfl (op_move rfl (Opd.tmp _ _ rfl)) ?_
  refine Run.pure (dd := some 7) rfl rfl (op_call_pure (fun _ => indexi_c _ _ (by omega)) rfl (Opd.func _) (Opds.cons _ _ _ _ (Opd.tmp _ _ rfl) (Opds.cons _ _ _ _ (Opd.tmp _ _ rfl) Opds.nil))) ?_
  refine Run.pure (dd := some 8) rfl rfl (op_geq rfl (Opd.tmp _ _ rfl) (Opd.const _)) ?_
  refine Run.pure (dd := some 4) rfl rfl (op_assign rfl (Opd.tmp _ _ rfl)) ?_
  refine Run.nil (FinR.mk ?_)
  refine nK ?_
  (first | exact s_o1 hC rfl tV | exact s_o2 hC rfl tV tV | exact s_o3 hC rfl tV tV tV | exact s_out0 hC rfl | exact s_outO hC rfl rfl rfl)
end Go.Proofs.Ytgbfkpcigipniaa
namespace Go.Pl
open Go Go.RT
set_option linter.all false
/- the path, as the program finds it -/
def aboveL (par : List (List Int)) (v : Int) : List Int := if v < 0 ∨ (par.length : Int) ≤ v then [] else rowAt' par v.toNat
def push (l : List Int) (u : Int) : List Int := if u ∈ l then l else l ++ [u]
def bfsGo (ab : Int → List Int) : Nat → Nat → List Int → List Int
  | 0, _, l => l
  | f + 1, i, l => match l[i]? with
    | some x => bfsGo ab f (i + 1) ((ab x).foldl push l)
    | none => l
def needL (par : List (List Int)) (n : Nat) (to : Int) : List Int := bfsGo (aboveL par) (n + 1) 0 [to]
def nextAt (par : List (List Int)) (nd : List Int) (at_ : Int) (v : Nat) : Bool := decide ((v : Int) ∈ nd) && decide (at_ ∈ aboveL par v)
def nextG (par : List (List Int)) (nd : List Int) (at_ : Int) (n : Nat) : Nat → Nat → Int
  | 0, _ => -1
  | f + 1, v => if v < n then (if nextAt par nd at_ v = true then (v : Int) else nextG par nd at_ n f (v + 1)) else -1
def pathG (par : List (List Int)) (nd : List Int) (n : Nat) (to : Int) : Nat → Int → List Int → List Int
  | 0, _, out => out
  | f + 1, at_, out => if at_ = to then out else
    if nextG par nd at_ n n 0 < 0 ∨ (n : Int) < (out.length : Int) then [] else pathG par nd n to f (nextG par nd at_ n n 0) (out ++ [nextG par nd at_ n n 0])
def pathL (t : Tr) (to : Int) : List Int :=
  if to < 0 ∨ (t.dist.length : Int) ≤ to ∨ gt0 t.dist to.toNat < 0 then [] else
  pathG t.par (needL t.par t.dist.length to) t.dist.length to (t.dist.length + 2) t.root [t.root]
abbrev prs (l : List Int) : List (Int × Bool) := l.map fun u => (u, true)
theorem mget_prs (l : List Int) (u : Int) : (mget (prs l) u).getD false = decide (u ∈ l) := by
  induction l with
  | nil => rfl
  | cons x l ih =>
    simp only [prs, List.map_cons, mget, List.mem_cons]
    by_cases e : x = u
    · simp [e]
    · rw [if_neg e, ih]; simp; exact fun h => absurd h.symm e
theorem mput_prs {l : List Int} {u : Int} (h : u ∉ l) : mput (prs l) u true = prs (l ++ [u]) := by
  rw [mput_new (fun p hp => by obtain ⟨x, hx, rfl⟩ := List.mem_map.1 hp; exact fun e => h (by dsimp only at e; rwa [e] at hx))]
  simp [prs]
theorem prs_nodup {l : List Int} (h : l.Nodup) : ((prs l).map (·.1)).Nodup := by simpa [prs, Function.comp_def] using h
/-- a list of nodes, each once -/
def NdL (n : Nat) (l : List Int) : Prop := l.Nodup ∧ ∀ x ∈ l, 0 ≤ x ∧ x < n
theorem NdL.len {n : Nat} {l : List Int} (h : NdL n l) : l.length ≤ n := by
  have := nodup_len n (l.map Int.toNat) (by
    rw [List.Nodup, List.pairwise_map]
    refine h.1.imp_of_mem fun ha hb hab e => hab ?_
    have := h.2 _ ha; have := h.2 _ hb; omega) (fun x hx => by
      obtain ⟨y, hy, rfl⟩ := List.mem_map.1 hx
      have := h.2 y hy; omega)
  simpa using this
theorem NdL.push {n : Nat} {l : List Int} (h : NdL n l) {u : Int} (hu : 0 ≤ u ∧ u < n) : NdL n (push l u) := by
  unfold Pl.push
  split
  · exact h
  · next hm =>
    refine ⟨List.nodup_append.2 ⟨h.1, by simp, fun a ha b hb e => hm ?_⟩, fun x hx => ?_⟩
    · have : b = u := by simpa using hb
      rw [← this, ← e]; exact ha
    · rcases List.mem_append.1 hx with h1 | h1
      · exact h.2 x h1
      · have : x = u := by simpa using h1
        rw [this]; exact hu
theorem NdL.pushs {n : Nat} : ∀ (k : List Int) {l : List Int}, NdL n l → (∀ u ∈ k, 0 ≤ u ∧ u < n) → NdL n (k.foldl Pl.push l)
  | [], _, h, _ => h
  | x :: k, _, h, hk => NdL.pushs k (h.push (hk x (by simp))) fun u hu => hk u (by simp [hu])
theorem aboveL_ok {n : Nat} {par : List (List Int)} (hup : UpOk n par) (v : Int) : (aboveL par v).length ≤ 2000 ∧ ∀ u ∈ aboveL par v, 0 ≤ u ∧ u < n := by
  unfold aboveL
  split
  · simp
  · next h =>
    have := hup.row v.toNat (by rw [← hup.len]; omega)
    exact ⟨this.1, fun u hu => by have := this.2 u hu; omega⟩
end Go.Pl
namespace Go.Pl
theorem push_le1 (l : List Int) (u : Int) : l.length ≤ (push l u).length := by unfold push; split <;> simp
theorem push_le : ∀ (k l : List Int), l.length ≤ (k.foldl push l).length
  | [], _ => Nat.le_refl _
  | x :: k, l => Nat.le_trans (push_le1 l x) (push_le k _)
end Go.Pl
namespace Go.Proofs.Ytgbfkpcigipniaa
open Go Go.RT Go.Proofs Go.Pl
set_option linter.all false
set_option maxRecDepth 20000
set_option maxHeartbeats 4000000
theorem above_c (t : Tr) (v : Int) (hl : t.par.length ≤ 1999999) : Pure Try.prog 37 [.agg (encTr t), If .i64 v] (VI (aboveL t.par v)) := by
  unfold aboveL
  refine Meets.intro Try.func37 rfl (Nat.le_of_ble_eq_true rfl) fun C hC => ?_
  simp only [List.map, argEnv, Nat.reduceAdd]
  refine nK ?_
  refine s_reg rfl ?_
  refine Run.eff (dd := some 2) rfl rfl (op_box_flat rfl (Opd.tmp _ _ rfl) tC rfl) ?_
  refine Run.pure (dd := some 4) rfl rfl (op_assign rfl (Opd.const _)) ?_
  refine Run.nil (FinR.mk ?_)
  refine nK ?_
  refine s_reg rfl ?_
  refine Run.pure (dd := some 5) rfl rfl (op_move rfl (Opd.tmp _ _ rfl)) ?_
  refine Run.pure (dd := some 6) rfl rfl (op_lss rfl (Opd.tmp _ _ rfl) (Opd.const _)) ?_
  refine Run.pure (dd := some 7) rfl rfl (op_move rfl (Opd.tmp _ _ rfl)) ?_
  refine Run.pureG (dd := some 8) rfl rfl rfl tG (op_move rfl (Opd.tmp _ _ rfl)) ?_
  refine Run.pureG (dd := some 9) rfl rfl rfl tG (op_fld_ptr (by decide) rfl (Opd.tmp _ _ rfl)) ?_
  refine Run.loadG (dd := some 10) rfl rfl rfl tG (op_load1_flat rfl (Opd.topt _ _ _ rfl tO) tH rfl) ?_
  refine Run.pureG (dd := some 11) rfl rfl rfl tG (op_len_fz rfl (by first | exact Opd.topt _ _ _ rfl tO | exact Opd.nil _ _ (Opd.topt _ _ _ rfl tO)) (by first | exact List.length_map _ | rfl)) ?_
  refine Run.pureG (dd := some 12) rfl rfl rfl tG (op_geq rfl (Opd.topt _ _ _ rfl tO) (Opd.topt _ _ _ rfl tO)) ?_
  refine Run.pure (dd := some 13) rfl rfl (op_pick_or rfl (Opd.tmp _ _ rfl) (Opd.topt _ _ _ rfl tO)) ?_
  refine Run.nil (FinR.mk ?_)
  refine nK ?_
  refine n_cond _ rfl (fun hb => ?_) (fun hb => ?_)
  · rw [if_pos (by simpa using hb)]
    refine nK ?_
    refine s_reg rfl ?_
    refine Run.pure (dd := some 4) rfl rfl (op_assign rfl (Opd.const _)) ?_
    refine Run.nil (FinR.mk ?_)
    refine nK ?_
    refine Next.weakS [] [] (by rfl) (keeps0 hC _) (G' := [(4, .fz (VI []))]) (H' := []) (by repeat (first | exact trivial | refine ⟨⟨_, rfl, .inl ⟨rfl, rfl⟩⟩, ?_⟩ | refine ⟨⟨_, rfl, .inl ⟨slEq rfl tN, rfl⟩⟩, ?_⟩ | refine ⟨⟨_, rfl, .inl ⟨ivEq tX, rfl⟩⟩, ?_⟩ | refine ⟨⟨_, rfl, .inr ⟨_, rfl, tW⟩⟩, ?_⟩)) trivial rfl ?_
    (first | exact s_o1 hC rfl tV | exact s_o2 hC rfl tV tV | exact s_o3 hC rfl tV tV tV | exact s_out0 hC rfl | exact s_outO hC rfl rfl rfl)
  · have hv : ¬ (v < 0 ∨ (t.par.length : Int) ≤ v) := by simpa using hb
    have hr := row_of encL t.par v.toNat [] (by omega)
    rw [if_neg hv]
    refine nK ?_
    refine s_reg rfl ?_
    refine Run.pure (dd := some 14) rfl rfl (op_fld_ptr (by decide) rfl (Opd.tmp _ _ rfl)) ?_
    refine Run.load (dd := some 15) rfl rfl (op_load1_flat rfl (Opd.tmp _ _ rfl) tH rfl) ?_
    refine Run.pure (dd := some 16) rfl rfl (op_move rfl (Opd.tmp _ _ rfl)) ?_
    refine Run.pure (dd := some 17) rfl rfl (op_idx_fz v.toNat rfl (Opd.tmp _ _ rfl) (Opd.tmp _ _ rfl) (by intro _; exact ⟨by omega, hr⟩)) ?_
    refine Run.pure (dd := some 18) rfl rfl (op_load1_fz rfl (Opd.tmp _ _ rfl) rfl) ?_
    refine Run.pure (dd := some 4) rfl rfl (op_assign rfl (Opd.tmp _ _ rfl)) ?_
    refine Run.nil (FinR.mk ?_)
    refine nK ?_
    (first | exact s_o1 hC rfl tV | exact s_o2 hC rfl tV tV | exact s_o3 hC rfl tV tV tV | exact s_out0 hC rfl | exact s_outO hC rfl rfl rfl)
end Go.Proofs.Ytgbfkpcigipniaa
namespace Go.Proofs.Ytgbfkpcigipniaa
open Go Go.RT Go.Proofs Go.Pl
set_option linter.all false
set_option maxRecDepth 20000
set_option maxHeartbeats 4000000
theorem i64_of {n : Nat} {x : Int} (hn : n ≤ 128) (h : 0 ≤ x ∧ x < n) : inr .i64 x := by simp only [inr]; omega
theorem prs_ok {n : Nat} {l : List Int} (hn : n ≤ 128) (h : NdL n l) : ∀ p ∈ prs l, inr .i64 p.1 := fun p hp => by
  obtain ⟨x, hx, rfl⟩ := List.mem_map.1 hp
  exact i64_of hn (h.2 x hx)
theorem path_c (t : Tr) (to : Int) (n : Nat) (hto : inr .i64 to) (hn0 : t.dist.length = n) (hn : n ≤ 128) (hup : UpOk n t.par) : Pure Try.prog 18 [.agg (encTr t), If .i64 to] (VI (pathL t to)) := by
  haveI : KEnc Try.prog 3 Int (fun n => If .i64 n) (inr .i64) := kenc_int (by kernel_rfl)
  have hpl := hup.len
  have hab := fun v => above_c t v (by omega)
  unfold pathL
  rw [hn0]
  refine Meets.intro Try.func18 rfl (Nat.le_of_ble_eq_true rfl) fun C hC => ?_
  simp only [List.map, argEnv, Nat.reduceAdd]
  refine nK ?_
  refine s_reg rfl ?_
  refine Run.eff (dd := some 2) rfl rfl (op_box_flat rfl (Opd.tmp _ _ rfl) tC rfl) ?_
  refine Run.pure (dd := some 4) rfl rfl (op_assign rfl (Opd.const _)) ?_
  refine Run.nil (FinR.mk ?_)
  refine nK ?_
  refine Next.weakS [] [2] (by rfl) (keeps0 hC _) (G' := [(1, IV .i64 to), (2, .fz (.cellp (encTr t)))]) (H' := []) (by repeat (first | exact trivial | refine ⟨⟨_, rfl, .inl ⟨rfl, rfl⟩⟩, ?_⟩ | refine ⟨⟨_, rfl, .inl ⟨slEq rfl tN, rfl⟩⟩, ?_⟩ | refine ⟨⟨_, rfl, .inl ⟨ivEq tX, rfl⟩⟩, ?_⟩ | refine ⟨⟨_, rfl, .inr ⟨_, rfl, tW⟩⟩, ?_⟩)) trivial rfl ?_
  have hrd : ¬ (to < 0 ∨ (n : Int) ≤ to) → (t.dist.map encN)[to.toNat]? = some (encN (gt0 t.dist to.toNat)) := fun h => row_of encN t.dist to.toNat 0 (by omega)
  generalize hdt : gt0 t.dist to.toNat = dt at *
  refine nK ?_
  refine s_reg rfl ?_
  refine Run.pure (dd := some 14) rfl rfl (op_move rfl (Opd.tmp _ _ rfl)) ?_
  refine Run.pure (dd := some 15) rfl rfl (op_lss rfl (Opd.tmp _ _ rfl) (Opd.const _)) ?_
  refine Run.pure (dd := some 16) rfl rfl (op_move rfl (Opd.tmp _ _ rfl)) ?_
  refine Run.pureG (dd := some 17) rfl rfl rfl tG (op_move rfl (Opd.tmp _ _ rfl)) ?_
  refine Run.pureG (dd := some 18) rfl rfl rfl tG (op_fld_fz (by decide) rfl (Opd.tmp _ _ rfl) tR) ?_
  refine Run.pureG (dd := some 19) rfl rfl rfl tG (op_load1_fz rfl (Opd.topt _ _ _ rfl tO) rfl) ?_
  refine Run.pureG (dd := some 20) rfl rfl rfl tG (op_len_fz rfl (by first | exact Opd.topt _ _ _ rfl tO | exact Opd.nil _ _ (Opd.topt _ _ _ rfl tO)) (by first | exact List.length_map _ | rfl)) ?_
  refine Run.pureG (dd := some 21) rfl rfl rfl tG (op_geq rfl (Opd.topt _ _ _ rfl tO) (Opd.topt _ _ _ rfl tO)) ?_
  refine Run.pure (dd := some 22) rfl rfl (op_pick_or rfl (Opd.tmp _ _ rfl) (Opd.topt _ _ _ rfl tO)) ?_
  refine Run.pure (dd := some 23) rfl rfl (op_move rfl (Opd.tmp _ _ rfl)) ?_
  refine Run.pureG (dd := some 24) rfl rfl rfl tG (op_fld_fz (by decide) rfl (Opd.tmp _ _ rfl) tR) ?_
  refine Run.pureG (dd := some 25) rfl rfl rfl tG (op_load1_fz rfl (Opd.topt _ _ _ rfl tO) rfl) ?_
  refine Run.pureG (dd := some 26) rfl rfl rfl tG (op_move rfl (Opd.tmp _ _ rfl)) ?_
  refine Run.pureG (dd := some 27) rfl rfl rfl tG (op_idx_fz to.toNat rfl (Opd.topt _ _ _ rfl tO) (Opd.topt _ _ _ rfl tO) (by intro hg; have hg2 : ¬ (to < 0 ∨ (n : Int) ≤ to) := (by simp [hn0] at hg; omega); exact ⟨by omega, hrd hg2⟩)) ?_
  refine Run.pureG (dd := some 28) rfl rfl rfl tG (op_load1_fz rfl (Opd.topt _ _ _ rfl tO) rfl) ?_
  refine Run.pureG (dd := some 29) rfl rfl rfl tG (op_lss rfl (Opd.topt _ _ _ rfl tO) (Opd.const _)) ?_
  refine Run.pure (dd := some 30) rfl rfl (op_pick_or rfl (Opd.tmp _ _ rfl) (Opd.topt _ _ _ rfl tO)) ?_
  refine Run.nil (FinR.mk ?_)
  refine nK ?_
  refine n_cond _ rfl (fun hb => ?_) (fun hb => ?_)
  · have hc : to < 0 ∨ (n : Int) ≤ to ∨ dt < 0 := by simp [hn0] at hb; omega
    rw [if_pos hc]
    refine nK ?_
    refine s_reg rfl ?_
    refine Run.pure (dd := some 4) rfl rfl (op_assign rfl (Opd.const _)) ?_
    refine Run.nil (FinR.mk ?_)
    refine nK ?_
    refine Next.weakS [] [] (by rfl) (keeps0 hC _) (G' := [(4, .fz (VI []))]) (H' := []) (by repeat (first | exact trivial | refine ⟨⟨_, rfl, .inl ⟨rfl, rfl⟩⟩, ?_⟩ | refine ⟨⟨_, rfl, .inl ⟨slEq rfl tN, rfl⟩⟩, ?_⟩ | refine ⟨⟨_, rfl, .inl ⟨ivEq tX, rfl⟩⟩, ?_⟩ | refine ⟨⟨_, rfl, .inr ⟨_, rfl, tW⟩⟩, ?_⟩)) trivial rfl ?_
    (first | exact s_o1 hC rfl tV | exact s_o2 hC rfl tV tV | exact s_o3 hC rfl tV tV tV | exact s_out0 hC rfl | exact s_outO hC rfl rfl rfl)
  · have hc : ¬ (to < 0 ∨ (n : Int) ≤ to ∨ dt < 0) := by simp [hn0] at hb; omega
    rw [if_neg hc]
    clear hb
    refine nK ?_
    refine s_reg rfl ?_
    refine Run.eff (dd := some 31) rfl rfl (op_makeMap rfl) ?_
    refine Run.pure (dd := some 32) rfl rfl (op_move rfl (Opd.tmp _ _ rfl)) ?_
    refine Run.eff (dd := none) rfl rfl (op_mapPut (κ := Int) (ν := Bool) (ek := fun n => If .i64 n) (ev := Bf) (l := []) (.inr rfl) (Opd.tmp _ _ rfl) (Opd.tmp _ _ rfl) (Opd.const _) rfl (by simp) (by simp) hto) ?_
    refine Run.pure (dd := some 33) rfl rfl (op_move rfl (Opd.tmp _ _ rfl)) ?_
    refine Run.pure (dd := some 5) rfl rfl (op_assign rfl (Opd.tmp _ _ rfl)) ?_
    refine Run.nil (FinR.mk ?_)
    refine nK ?_
    refine s_reg rfl ?_
    refine Run.pure (dd := some 34) rfl rfl (op_move rfl (Opd.tmp _ _ rfl)) ?_
    refine Run.eff (dd := some 35) rfl rfl (op_buildSlice_own rfl (RowsF.cons _ _ _ _ _ _ (Opd.tmp _ _ rfl) tC (by rfl) (RowsF.nil _)) rfl rfl rfl) ?_
    refine Run.pure (dd := some 6) rfl rfl (op_assign rfl (Opd.tmp _ _ rfl)) ?_
    refine Run.nil (FinR.mk ?_)
    refine nK ?_
    refine s_reg rfl ?_
    refine Run.pure (dd := some 7) rfl rfl (op_assign rfl (Opd.const _)) ?_
    refine Run.nil (FinR.mk ?_)
    refine nK ?_
    refine n_loop (ι := Nat × List Int) (fun s => ([(1, IV .i64 to), (2, .fz (.cellp (encTr t))), (5, .mp 0), (6, .sl 1 1 0 s.2.length), (7, IV .i64 s.1)], [(0, OMap (fun n => If .i64 n) Bf (prs s.2)), (1, OI s.2)], 2)) (fun s => s.1 ≤ s.2.length ∧ NdL n s.2 ∧ bfsGo (aboveL t.par) (n + 1 - s.1) s.1 s.2 = needL t.par n to) (fun s => n - s.1) (0, [to]) ⟨by simp, ⟨by simp, by simp; omega⟩, rfl⟩ ?_ ?_
    · refine Next.weak [0, 1] [] (by rfl) (keepsN hC _ rfl) (by repeat (first | exact trivial | refine ⟨⟨_, rfl, .inl ⟨rfl, rfl⟩⟩, ?_⟩ | refine ⟨⟨_, rfl, .inl ⟨slEq rfl tN, rfl⟩⟩, ?_⟩ | refine ⟨⟨_, rfl, .inl ⟨ivEq tX, rfl⟩⟩, ?_⟩)) (by exact ⟨ent_same rfl rfl rfl tL, ⟨ent_same rfl rfl rfl tL, trivial⟩⟩) (fun _ h => by simp at h) rel_intro
    · intro ⟨i, l⟩ ⟨hi, hnd, ho⟩ K hK
      try dsimp only at hi hnd ho hK ⊢
      have hll := hnd.len
      refine nK ?_
      refine s_reg rfl ?_
      refine Run.pure (dd := some 36) rfl rfl (op_move rfl (Opd.tmp _ _ rfl)) ?_
      refine Run.pure (dd := some 37) rfl rfl (op_move rfl (Opd.tmp _ _ rfl)) ?_
      refine Run.pure (dd := some 38) rfl rfl (op_len_sl rfl (Opd.tmp _ _ rfl)) ?_
      refine Run.pure (dd := some 39) rfl rfl (op_lss rfl (Opd.tmp _ _ rfl) (Opd.tmp _ _ rfl)) ?_
      refine Run.nil (FinR.mk ?_)
      refine nK ?_
      refine n_cond _ rfl (fun hb => ?_) (fun hb => ?_)
      · have hlt : i < l.length := by simp at hb; omega
        have hri := row_at' encN l i hlt
        rw [show n + 1 - i = (n - i) + 1 by omega] at ho
        simp only [bfsGo, List.getElem?_eq_getElem hlt] at ho
        have hK1 := fun l' h => hK (i + 1, l') h (by dsimp only; omega)
        dsimp only at hK1
        generalize l[i] = x at *
        obtain ⟨ha1, ha2⟩ := aboveL_ok hup x
        have hax := hab x
        generalize aboveL t.par x = row at *
        refine nK ?_
        refine s_draw mixed ?_
        refine Run.pure (dd := some 42) rfl rfl (op_loadw_fz rfl (Opd.tmp _ _ rfl) rfl) ?_
        refine Run.pure (dd := some 43) rfl rfl (op_move rfl (Opd.tmp _ _ rfl)) ?_
        refine Run.pure (dd := some 44) rfl rfl (op_move rfl (Opd.tmp _ _ rfl)) ?_
        refine Run.pure (dd := some 45) rfl rfl (op_idx_sl0 i rfl (Opd.tmp _ _ rfl) (Opd.tmp _ _ rfl) (by intro _; exact ⟨rfl, hlt⟩)) ?_
        refine Run.load (dd := some 46) rfl rfl (op_load1_flat rfl (Opd.tmp _ _ rfl) (by intro _; exact ⟨rfl, hri⟩) rfl) ?_
        refine Run.pure (dd := some 47) rfl rfl (op_call_pure (fun _ => hax) rfl (Opd.func _) (Opds.cons _ _ _ _ (Opd.tmp _ _ rfl) (Opds.cons _ _ _ _ (Opd.tmp _ _ rfl) Opds.nil))) ?_
        refine Run.pure (dd := some 48) rfl rfl (op_len_fz rfl (by first | exact Opd.tmp _ _ rfl | exact Opd.nil _ _ (Opd.tmp _ _ rfl)) (by first | exact List.length_map _ | rfl)) ?_
        refine Run.pure (dd := some 49) rfl rfl (op_move rfl (Opd.const _)) ?_
        refine Run.nil (FinD.mk (by kernel_rfl) ?_)
        refine nK ?_
        refine n_loop (ι := Nat) (fun k => ([(1, IV .i64 to), (2, .fz (.cellp (encTr t))), (5, .mp 0), (7, IV .i64 i), (6, .sl 1 1 0 ((row.take k).foldl push l).length), (47, .fz (VI row)), (48, IV .i64 row.length), (49, IV .i64 k)], [(0, OMap (fun n => If .i64 n) Bf (prs ((row.take k).foldl push l))), (1, OI ((row.take k).foldl push l))], 2)) (fun k => k ≤ row.length) (fun k => row.length - k) 0 (Nat.zero_le _) ?_ ?_
        · refine Next.weak [0, 1] [] (by rfl) (keepsN hC _ rfl) (by repeat (first | exact trivial | refine ⟨⟨_, rfl, .inl ⟨rfl, rfl⟩⟩, ?_⟩ | refine ⟨⟨_, rfl, .inl ⟨slEq rfl tN, rfl⟩⟩, ?_⟩ | refine ⟨⟨_, rfl, .inl ⟨ivEq tX, rfl⟩⟩, ?_⟩)) (by exact ⟨ent_same rfl rfl rfl tL, ⟨ent_same rfl rfl rfl tL, trivial⟩⟩) (fun _ h => by simp at h) rel_intro
        · intro k hk K2 hK2
          try dsimp only at hk hK2 ⊢
          have hnd2 : NdL n ((row.take k).foldl push l) := NdL.pushs _ hnd fun u hu => ha2 u (List.mem_of_mem_take hu)
          refine nK ?_
          refine s_reg rfl ?_
          refine Run.pure (dd := some 50) rfl rfl (op_lss rfl (Opd.tmp _ _ rfl) (Opd.tmp _ _ rfl)) ?_
          refine Run.nil (FinR.mk ?_)
          refine nK ?_
          refine n_cond _ rfl (fun hb => ?_) (fun hb => ?_)
          · have hltk : k < row.length := by simp at hb; omega
            have hrk := row_at' encN row k hltk
            have hu := ha2 _ (List.getElem_mem hltk)
            have hK3 := hK2 (k + 1) (by omega) (by omega)
            rw [foldl_take_succ _ _ _ _ hltk] at hK3
            generalize (row.take k).foldl push l = l1 at *
            generalize row[k] = u at *
            have hl1 := hnd2.len
            refine nK ?_
            refine s_reg rfl ?_
            refine Run.pure (dd := some 51) rfl rfl (op_idx_fz _ rfl (Opd.tmp _ _ rfl) (Opd.tmp _ _ rfl) tF) ?_
            refine Run.pure (dd := some 52) rfl rfl (op_load1_fz rfl (Opd.tmp _ _ rfl) rfl) ?_
            refine Run.pure (dd := some 9) rfl rfl (op_assign rfl (Opd.tmp _ _ rfl)) ?_
            refine Run.nil (FinR.mk ?_)
            refine nK ?_
            refine s_reg rfl ?_
            refine Run.pure (dd := some 53) rfl rfl (op_move rfl (Opd.tmp _ _ rfl)) ?_
            refine Run.pure (dd := some 54) rfl rfl (op_move rfl (Opd.tmp _ _ rfl)) ?_
            refine Run.load (dd := some 55) rfl rfl (op_lookup (κ := Int) (ν := Bool) (ek := fun n => If .i64 n) (ev := Bf) (l := prs l1) (k := u) false rfl (Opd.tmp _ _ rfl) (Opd.tmp _ _ rfl) rfl (by intro _; exact ⟨prs_nodup hnd2.1, prs_ok hn hnd2, i64_of hn hu⟩) (fun w S => .lit _)) ?_
            refine Run.pure (dd := some 56) rfl rfl (op_not rfl (Opd.tmp _ _ rfl)) ?_
            refine Run.nil (FinR.mk ?_)
            refine nK ?_
            refine n_cond _ rfl (fun hb => ?_) (fun hb => ?_)
            · have hm : u ∉ l1 := by rw [mget_prs] at hb; simpa using hb
              have hp : push l1 u = l1 ++ [u] := by unfold push; rw [if_neg hm]
              rw [hp] at hK3
              refine nK ?_
              refine s_reg rfl ?_
              refine Run.pure (dd := some 57) rfl rfl (op_move rfl (Opd.tmp _ _ rfl)) ?_
              refine Run.pure (dd := some 58) rfl rfl (op_move rfl (Opd.tmp _ _ rfl)) ?_
              refine Run.eff (dd := none) rfl rfl (op_mapPut (κ := Int) (ν := Bool) (ek := fun n => If .i64 n) (ev := Bf) (l := prs l1) (k := u) (v := true) (.inl rfl) (Opd.tmp _ _ rfl) (Opd.tmp _ _ rfl) (Opd.const _) rfl (prs_nodup hnd2.1) (prs_ok hn hnd2) (i64_of hn hu)) ?_
              refine Run.nil (FinR.mk ?_)
              refine nK ?_
              refine s_reg rfl ?_
              refine Run.pure (dd := some 59) rfl rfl (op_move rfl (Opd.tmp _ _ rfl)) ?_
              refine Run.pure (dd := some 60) rfl rfl (op_move rfl (Opd.tmp _ _ rfl)) ?_
              refine Run.pure (dd := some 61) rfl rfl (op_buildSlice_fz rfl (RowsF.cons _ _ _ _ _ _ (Opd.tmp _ _ rfl) tC (by rfl) (RowsF.nil _)) rfl rfl) ?_
              refine Run.eff (dd := some 62) rfl rfl (op_append rfl (Opd.tmp _ _ rfl) (by first | exact Opd.tmp _ _ rfl | exact Opd.nil _ _ (Opd.tmp _ _ rfl)) rfl (by first | rfl | simp) rfl rfl tB tB) ?_
              refine Run.pure (dd := some 6) rfl rfl (op_assign rfl (Opd.tmp _ _ rfl)) ?_
              refine Run.nil (FinR.mk ?_)
              refine nK ?_
              refine s_reg rfl ?_
              refine Run.pure (dd := some 63) rfl rfl (op_add rfl (Opd.tmp _ _ rfl) (Opd.const _) tI) ?_
              refine Run.pure (dd := some 49) rfl rfl (op_move rfl (Opd.tmp _ _ rfl)) ?_
              refine Run.nil (FinR.mk ?_)
              refine nK ?_
              refine Next.weak [0, 2] [] (by rfl) (keepsN hC _ rfl) (by repeat (first | exact trivial | refine ⟨⟨_, rfl, .inl ⟨rfl, rfl⟩⟩, ?_⟩ | refine ⟨⟨_, rfl, .inl ⟨slEq rfl tN, rfl⟩⟩, ?_⟩ | refine ⟨⟨_, rfl, .inl ⟨ivEq tX, rfl⟩⟩, ?_⟩)) (by exact ⟨ent_same rfl rfl (by rw [← mput_prs hm]; rfl) trivial, ⟨ent_same rfl rfl (flEq rfl (by rw [List.map_append]; rfl)) trivial, trivial⟩⟩) (fun _ h => by simp at h) hK3
            · have hm : u ∈ l1 := by rw [mget_prs] at hb; simpa using hb
              have hp : push l1 u = l1 := by unfold push; rw [if_pos hm]
              rw [hp] at hK3
              refine nK ?_
              refine s_reg rfl ?_
              refine Run.pure (dd := some 63) rfl rfl (op_add rfl (Opd.tmp _ _ rfl) (Opd.const _) tI) ?_
              refine Run.pure (dd := some 49) rfl rfl (op_move rfl (Opd.tmp _ _ rfl)) ?_
              refine Run.nil (FinR.mk ?_)
              refine nK ?_
              refine Next.weak [0, 1] [] (by rfl) (keepsN hC _ rfl) (by repeat (first | exact trivial | refine ⟨⟨_, rfl, .inl ⟨rfl, rfl⟩⟩, ?_⟩ | refine ⟨⟨_, rfl, .inl ⟨slEq rfl tN, rfl⟩⟩, ?_⟩ | refine ⟨⟨_, rfl, .inl ⟨ivEq tX, rfl⟩⟩, ?_⟩)) (by exact ⟨ent_same rfl rfl rfl tL, ⟨ent_same rfl rfl rfl tL, trivial⟩⟩) (fun _ h => by simp at h) hK3
          · have hke : k = row.length := by simp at hb; omega
            subst hke
            rw [List.take_length] at *
            have hle := push_le row l
            refine nK ?_
            refine s_reg rfl ?_
            refine Run.pure (dd := some 40) rfl rfl (op_move rfl (Opd.tmp _ _ rfl)) ?_
            refine Run.pure (dd := some 41) rfl rfl (op_add rfl (Opd.tmp _ _ rfl) (Opd.const _) tI) ?_
            refine Run.pure (dd := some 7) rfl rfl (op_assign rfl (Opd.tmp _ _ rfl)) ?_
            refine Run.nil (FinR.mk ?_)
            refine nK ?_
            refine Next.weak [0, 1] [] (by rfl) (keepsN hC _ rfl) (by repeat (first | exact trivial | refine ⟨⟨_, rfl, .inl ⟨rfl, rfl⟩⟩, ?_⟩ | refine ⟨⟨_, rfl, .inl ⟨slEq rfl tN, rfl⟩⟩, ?_⟩ | refine ⟨⟨_, rfl, .inl ⟨ivEq tX, rfl⟩⟩, ?_⟩)) (by exact ⟨ent_same rfl rfl rfl tL, ⟨ent_same rfl rfl rfl tL, trivial⟩⟩) (fun _ h => by simp at h) (hK1 _ ⟨by omega, hnd2, by rw [← ho]; congr 1; omega⟩)
      · have hie : i = l.length := by simp at hb; omega
        have hne : needL t.par n to = l := by
          rw [← ho]
          rcases Nat.eq_zero_or_pos (n + 1 - i) with e | e
          · rw [e]; rfl
          · rw [show n + 1 - i = (n - i) + 1 by omega]; simp only [bfsGo]; rw [List.getElem?_eq_none (by omega)]
        rw [hne]
        clear ho hne hK hb
        obtain ⟨nd, rfl⟩ : ∃ nd, nd = l := ⟨l, rfl⟩
        generalize hres : pathG t.par nd n to (n + 2) t.root [t.root] = res at *
        refine nK ?_
        refine s_reg rfl ?_
        refine Run.pure (dd := some 64) rfl rfl (op_fld_fz (by decide) rfl (Opd.tmp _ _ rfl) tR) ?_
        refine Run.pure (dd := some 65) rfl rfl (op_load1_fz rfl (Opd.tmp _ _ rfl) rfl) ?_
        refine Run.eff (dd := some 66) rfl rfl (op_buildSlice_own rfl (RowsF.cons _ _ _ _ _ _ (Opd.tmp _ _ rfl) tC (by rfl) (RowsF.nil _)) rfl rfl rfl) ?_
        refine Run.pure (dd := some 10) rfl rfl (op_assign rfl (Opd.tmp _ _ rfl)) ?_
        refine Run.nil (FinR.mk ?_)
        refine nK ?_
        refine s_reg rfl ?_
        refine Run.pure (dd := some 67) rfl rfl (op_fld_fz (by decide) rfl (Opd.tmp _ _ rfl) tR) ?_
        refine Run.pure (dd := some 68) rfl rfl (op_load1_fz rfl (Opd.tmp _ _ rfl) rfl) ?_
        refine Run.pure (dd := some 11) rfl rfl (op_assign rfl (Opd.tmp _ _ rfl)) ?_
        refine Run.nil (FinR.mk ?_)
        refine nK ?_
        refine n_loop (ι := Int × List Int) (fun s => ([(1, IV .i64 to), (2, .fz (.cellp (encTr t))), (5, .mp 0), (10, .sl 1 1 0 s.2.length), (11, IV .i64 s.1)], [(0, OMap (fun n => If .i64 n) Bf (prs nd)), (1, OI s.2)], 2)) (fun s => 1 ≤ s.2.length ∧ s.2.length ≤ n + 1 ∧ pathG t.par nd n to (n + 2 - s.2.length + 1) s.1 s.2 = res) (fun s => n + 2 - s.2.length) (t.root, [t.root]) ⟨by simp, by simp, hres⟩ ?_ ?_
        · refine Next.weak [0, 2] [] (by rfl) (keepsN hC _ rfl) (by repeat (first | exact trivial | refine ⟨⟨_, rfl, .inl ⟨rfl, rfl⟩⟩, ?_⟩ | refine ⟨⟨_, rfl, .inl ⟨slEq rfl tN, rfl⟩⟩, ?_⟩ | refine ⟨⟨_, rfl, .inl ⟨ivEq tX, rfl⟩⟩, ?_⟩)) (by exact ⟨ent_same rfl rfl rfl tL, ⟨ent_same rfl rfl rfl tL, trivial⟩⟩) (fun _ h => by simp at h) rel_intro
        · intro ⟨at_, out⟩ ⟨ho0, ho1, ho2⟩ K4 hK4
          try dsimp only at ho0 ho1 ho2 hK4 ⊢
          simp only [pathG] at ho2
          refine nK ?_
          refine s_reg rfl ?_
          refine Run.pure (dd := some 69) rfl rfl (op_move rfl (Opd.tmp _ _ rfl)) ?_
          refine Run.pure (dd := some 70) rfl rfl (op_move rfl (Opd.tmp _ _ rfl)) ?_
          refine Run.pure (dd := some 71) rfl rfl (op_neq rfl (Opd.tmp _ _ rfl) (Opd.tmp _ _ rfl)) ?_
          refine Run.nil (FinR.mk ?_)
          refine nK ?_
          refine n_cond _ rfl (fun hb => ?_) (fun hb => ?_)
          · have hne : ¬ at_ = to := by simpa using hb
            rw [if_neg hne] at ho2
            clear hb
            refine nK ?_
            refine s_reg rfl ?_
            refine Run.pure (dd := some 12) rfl rfl (op_assign rfl (Opd.const _)) ?_
            refine Run.nil (FinR.mk ?_)
            refine nK ?_
            refine s_reg rfl ?_
            refine Run.pure (dd := some 72) rfl rfl (op_fld_fz (by decide) rfl (Opd.tmp _ _ rfl) tR) ?_
            refine Run.pure (dd := some 73) rfl rfl (op_load1_fz rfl (Opd.tmp _ _ rfl) rfl) ?_
            refine Run.pure (dd := some 74) rfl rfl (op_len_fz rfl (by first | exact Opd.tmp _ _ rfl | exact Opd.nil _ _ (Opd.tmp _ _ rfl)) (by first | exact List.length_map _ | rfl)) ?_
            refine Run.pure (dd := some 75) rfl rfl (op_move rfl (Opd.const _)) ?_
            refine Run.nil (FinR.mk ?_)
            refine nK ?_
            refine n_loop (ι := Nat) (fun v => ([(1, IV .i64 to), (2, .fz (.cellp (encTr t))), (5, .mp 0), (10, .sl 1 1 0 out.length), (11, IV .i64 at_), (12, IV .i64 (-1)), (74, IV .i64 n), (75, IV .i64 v)], [(0, OMap (fun n => If .i64 n) Bf (prs nd)), (1, OI out)], 2)) (fun v => v ≤ n ∧ nextG t.par nd at_ n (n - v) v = nextG t.par nd at_ n n 0) (fun v => n - v) 0 ⟨Nat.zero_le _, rfl⟩ ?_ ?_
            · refine Next.weak [0, 1] [] (by rfl) (keepsN hC _ rfl) (by repeat (first | exact trivial | refine ⟨⟨_, rfl, .inl ⟨rfl, rfl⟩⟩, ?_⟩ | refine ⟨⟨_, rfl, .inl ⟨ivEq (by simp [hn0]), rfl⟩⟩, ?_⟩)) (by exact ⟨ent_same rfl rfl rfl tL, ⟨ent_same rfl rfl rfl tL, trivial⟩⟩) (fun _ h => by simp at h) rel_intro
            · intro v ⟨hv, hnx⟩ K5 hK5
              try dsimp only at hv hnx hK5 ⊢
              refine nK ?_
              refine s_reg rfl ?_
              refine Run.pure (dd := some 76) rfl rfl (op_lss rfl (Opd.tmp _ _ rfl) (Opd.tmp _ _ rfl)) ?_
              refine Run.nil (FinR.mk ?_)
              refine nK ?_
              refine n_cond _ rfl (fun hb => ?_) (fun hb => ?_)
              · have hltv : v < n := by simpa using hb
                rw [show n - v = (n - (v + 1)) + 1 by omega] at hnx
                simp only [nextG, if_pos hltv] at hnx
                have hav := hab v
                have hcv := containsi_c (aboveL t.par v) at_ (by have := (aboveL_ok hup v).1; omega)
                have hiv : inr .i64 (v : Int) := by simp only [inr]; omega
                refine nK ?_
                refine s_reg rfl ?_
                refine Run.pure (dd := some 77) rfl rfl (op_move rfl (Opd.tmp _ _ rfl)) ?_
                refine Run.pure (dd := some 13) rfl rfl (op_assign rfl (Opd.tmp _ _ rfl)) ?_
                refine Run.nil (FinR.mk ?_)
                refine nK ?_
                refine s_reg rfl ?_
                refine Run.pure (dd := some 78) rfl rfl (op_move rfl (Opd.tmp _ _ rfl)) ?_
                refine Run.pure (dd := some 79) rfl rfl (op_move rfl (Opd.tmp _ _ rfl)) ?_
                refine Run.load (dd := some 80) rfl rfl (op_lookup (κ := Int) (ν := Bool) (ek := fun n => If .i64 n) (ev := Bf) (l := prs nd) (k := (v : Int)) false rfl (Opd.tmp _ _ rfl) (Opd.tmp _ _ rfl) rfl (by intro _; exact ⟨prs_nodup hnd.1, prs_ok hn hnd, hiv⟩) (fun w S => .lit _)) ?_
                refine Run.pure (dd := some 81) rfl rfl (op_move rfl (Opd.tmp _ _ rfl)) ?_
                refine Run.pureG (dd := some 82) rfl rfl rfl tG (op_loadw_fz rfl (Opd.tmp _ _ rfl) rfl) ?_
                refine Run.pureG (dd := some 83) rfl rfl rfl tG (op_move rfl (Opd.tmp _ _ rfl)) ?_
                refine Run.pureG (dd := some 84) rfl rfl rfl tG (op_call_pure (fun _ => hav) rfl (Opd.func _) (Opds.cons _ _ _ _ (Opd.topt _ _ _ rfl tO) (Opds.cons _ _ _ _ (Opd.topt _ _ _ rfl tO) Opds.nil))) ?_
                refine Run.pureG (dd := some 85) rfl rfl rfl tG (op_move rfl (Opd.tmp _ _ rfl)) ?_
                refine Run.pureG (dd := some 86) rfl rfl rfl tG (op_call_pure (fun _ => hcv) rfl (Opd.func _) (Opds.cons _ _ _ _ (Opd.topt _ _ _ rfl tO) (Opds.cons _ _ _ _ (Opd.topt _ _ _ rfl tO) Opds.nil))) ?_
                refine Run.pure (dd := some 87) rfl rfl (op_pick_and rfl (Opd.tmp _ _ rfl) (Opd.topt _ _ _ rfl tO)) ?_
                refine Run.nil (FinR.mk ?_)
                refine nK ?_
                refine n_cond _ rfl (fun hb => ?_) (fun hb => ?_)
                · have hna : nextAt t.par nd at_ v = true := by rw [mget_prs] at hb; simpa [nextAt] using hb
                  rw [if_pos hna] at hnx
                  clear hK5 hb
                  rw [← hnx] at ho2
                  refine nK ?_
                  refine s_reg rfl ?_
                  refine Run.pure (dd := some 88) rfl rfl (op_move rfl (Opd.tmp _ _ rfl)) ?_
                  refine Run.pure (dd := some 12) rfl rfl (op_assign rfl (Opd.tmp _ _ rfl)) ?_
                  refine Run.nil (FinR.mk ?_)
                  refine nK ?_
                  refine Next.weak [0, 1] [] (by rfl) (keepsN hC _ rfl) (G' := [(1, IV .i64 to), (2, .fz (.cellp (encTr t))), (5, .mp 0), (10, .sl 1 1 0 out.length), (11, IV .i64 at_), (12, IV .i64 (v : Int))]) (H' := [(0, OMap (fun n => If .i64 n) Bf (prs nd)), (1, OI out)]) (by repeat (first | exact trivial | refine ⟨⟨_, rfl, .inl ⟨rfl, rfl⟩⟩, ?_⟩ | refine ⟨⟨_, rfl, .inl ⟨slEq rfl tN, rfl⟩⟩, ?_⟩ | refine ⟨⟨_, rfl, .inl ⟨ivEq tX, rfl⟩⟩, ?_⟩)) (by exact ⟨ent_same rfl rfl rfl tL, ⟨ent_same rfl rfl rfl tL, trivial⟩⟩) (fun _ h => by simp at h) ?_
                  refine nK ?_
                  refine s_reg rfl ?_
                  refine Run.pure (dd := some 90) rfl rfl (op_move rfl (Opd.tmp _ _ rfl)) ?_
                  refine Run.pure (dd := some 91) rfl rfl (op_lss rfl (Opd.tmp _ _ rfl) (Opd.const _)) ?_
                  refine Run.pure (dd := some 92) rfl rfl (op_move rfl (Opd.tmp _ _ rfl)) ?_
                  refine Run.pureG (dd := some 93) rfl rfl rfl tG (op_move rfl (Opd.tmp _ _ rfl)) ?_
                  refine Run.pureG (dd := some 94) rfl rfl rfl tG (op_len_sl rfl (Opd.topt _ _ _ rfl tO)) ?_
                  refine Run.pureG (dd := some 95) rfl rfl rfl tG (op_fld_fz (by decide) rfl (Opd.tmp _ _ rfl) tR) ?_
                  refine Run.pureG (dd := some 96) rfl rfl rfl tG (op_load1_fz rfl (Opd.topt _ _ _ rfl tO) rfl) ?_
                  refine Run.pureG (dd := some 97) rfl rfl rfl tG (op_len_fz rfl (by first | exact Opd.topt _ _ _ rfl tO | exact Opd.nil _ _ (Opd.topt _ _ _ rfl tO)) (by first | exact List.length_map _ | rfl)) ?_
                  refine Run.pureG (dd := some 98) rfl rfl rfl tG (op_gtr rfl (Opd.topt _ _ _ rfl tO) (Opd.topt _ _ _ rfl tO)) ?_
                  refine Run.pure (dd := some 99) rfl rfl (op_pick_or rfl (Opd.tmp _ _ rfl) (Opd.topt _ _ _ rfl tO)) ?_
                  refine Run.nil (FinR.mk ?_)
                  refine nK ?_
                  refine n_cond _ rfl (fun hb => ?_) (fun hb => ?_)
                  · have hc : (v : Int) < 0 ∨ (n : Int) < (out.length : Int) := by simpa [hn0] using hb
                    rw [if_pos hc] at ho2
                    rw [← ho2]
                    refine nK ?_
                    refine s_reg rfl ?_
                    refine Run.pure (dd := some 4) rfl rfl (op_assign rfl (Opd.const _)) ?_
                    refine Run.nil (FinR.mk ?_)
                    refine nK ?_
                    refine Next.weakS [] [] (by rfl) (keeps0 hC _) (G' := [(4, .fz (VI []))]) (H' := []) (by repeat (first | exact trivial | refine ⟨⟨_, rfl, .inl ⟨rfl, rfl⟩⟩, ?_⟩ | refine ⟨⟨_, rfl, .inl ⟨slEq rfl tN, rfl⟩⟩, ?_⟩ | refine ⟨⟨_, rfl, .inl ⟨ivEq tX, rfl⟩⟩, ?_⟩ | refine ⟨⟨_, rfl, .inr ⟨_, rfl, tW⟩⟩, ?_⟩)) trivial rfl ?_
                    (first | exact s_o1 hC rfl tV | exact s_o2 hC rfl tV tV | exact s_o3 hC rfl tV tV tV | exact s_out0 hC rfl | exact s_outO hC rfl rfl rfl)
                  · have hc : ¬ ((v : Int) < 0 ∨ (n : Int) < (out.length : Int)) := by simpa [hn0] using hb
                    rw [if_neg hc] at ho2
                    refine nK ?_
                    refine s_reg rfl ?_
                    refine Run.pure (dd := some 100) rfl rfl (op_move rfl (Opd.tmp _ _ rfl)) ?_
                    refine Run.pure (dd := some 101) rfl rfl (op_move rfl (Opd.tmp _ _ rfl)) ?_
                    refine Run.pure (dd := some 102) rfl rfl (op_buildSlice_fz rfl (RowsF.cons _ _ _ _ _ _ (Opd.tmp _ _ rfl) tC (by rfl) (RowsF.nil _)) rfl rfl) ?_
                    refine Run.eff (dd := some 103) rfl rfl (op_append rfl (Opd.tmp _ _ rfl) (by first | exact Opd.tmp _ _ rfl | exact Opd.nil _ _ (Opd.tmp _ _ rfl)) rfl (by first | rfl | simp) rfl rfl tB tB) ?_
                    refine Run.pure (dd := some 104) rfl rfl (op_move rfl (Opd.tmp _ _ rfl)) ?_
                    refine Run.pure (dd := some 10) rfl rfl (op_assign rfl (Opd.tmp _ _ rfl)) ?_
                    refine Run.pure (dd := some 11) rfl rfl (op_assign rfl (Opd.tmp _ _ rfl)) ?_
                    refine Run.nil (FinR.mk ?_)
                    refine nK ?_
                    refine Next.weak [0, 2] [] (by rfl) (keepsN hC _ rfl) (by repeat (first | exact trivial | refine ⟨⟨_, rfl, .inl ⟨rfl, rfl⟩⟩, ?_⟩ | refine ⟨⟨_, rfl, .inl ⟨slEq rfl tN, rfl⟩⟩, ?_⟩ | refine ⟨⟨_, rfl, .inl ⟨ivEq tX, rfl⟩⟩, ?_⟩)) (by exact ⟨ent_same rfl rfl rfl tL, ⟨ent_same rfl rfl (flEq rfl (by rw [List.map_append]; rfl)) trivial, trivial⟩⟩) (fun _ h => by simp at h) (hK4 ((v : Int), out ++ [(v : Int)]) ⟨by simp, by simp; omega, by dsimp only; rw [← ho2]; congr 1; simp; omega⟩ (by simp; omega))
                · have hna : ¬ nextAt t.par nd at_ v = true := by rw [mget_prs] at hb; simpa [nextAt] using hb
                  rw [if_neg hna] at hnx
                  refine nK ?_
                  refine s_reg rfl ?_
                  refine Run.pure (dd := some 89) rfl rfl (op_add rfl (Opd.tmp _ _ rfl) (Opd.const _) tI) ?_
                  refine Run.pure (dd := some 75) rfl rfl (op_move rfl (Opd.tmp _ _ rfl)) ?_
                  refine Run.nil (FinR.mk ?_)
                  refine nK ?_
                  refine Next.weak [0, 1] [] (by rfl) (keepsN hC _ rfl) (by repeat (first | exact trivial | refine ⟨⟨_, rfl, .inl ⟨rfl, rfl⟩⟩, ?_⟩ | refine ⟨⟨_, rfl, .inl ⟨slEq rfl tN, rfl⟩⟩, ?_⟩ | refine ⟨⟨_, rfl, .inl ⟨ivEq tX, rfl⟩⟩, ?_⟩)) (by exact ⟨ent_same rfl rfl rfl tL, ⟨ent_same rfl rfl rfl tL, trivial⟩⟩) (fun _ h => by simp at h) (hK5 (v + 1) ⟨hltv, hnx⟩ (by omega))
              · have hve : v = n := by simp at hb; omega
                rw [hve, Nat.sub_self] at hnx
                simp only [nextG] at hnx
                clear hK5 hb
                rw [← hnx] at ho2
                refine nK ?_
                refine Next.weak [0, 1] [] (by rfl) (keepsN hC _ rfl) (G' := [(1, IV .i64 to), (2, .fz (.cellp (encTr t))), (5, .mp 0), (10, .sl 1 1 0 out.length), (11, IV .i64 at_), (12, IV .i64 (-1))]) (H' := [(0, OMap (fun n => If .i64 n) Bf (prs nd)), (1, OI out)]) (by repeat (first | exact trivial | refine ⟨⟨_, rfl, .inl ⟨rfl, rfl⟩⟩, ?_⟩ | refine ⟨⟨_, rfl, .inl ⟨slEq rfl tN, rfl⟩⟩, ?_⟩ | refine ⟨⟨_, rfl, .inl ⟨ivEq tX, rfl⟩⟩, ?_⟩)) (by exact ⟨ent_same rfl rfl rfl tL, ⟨ent_same rfl rfl rfl tL, trivial⟩⟩) (fun _ h => by simp at h) ?_
                refine nK ?_
                refine s_reg rfl ?_
                refine Run.pure (dd := some 90) rfl rfl (op_move rfl (Opd.tmp _ _ rfl)) ?_
                refine Run.pure (dd := some 91) rfl rfl (op_lss rfl (Opd.tmp _ _ rfl) (Opd.const _)) ?_
                refine Run.pure (dd := some 92) rfl rfl (op_move rfl (Opd.tmp _ _ rfl)) ?_
                refine Run.pureG (dd := some 93) rfl rfl rfl tG (op_move rfl (Opd.tmp _ _ rfl)) ?_
                refine Run.pureG (dd := some 94) rfl rfl rfl tG (op_len_sl rfl (Opd.topt _ _ _ rfl tO)) ?_
                refine Run.pureG (dd := some 95) rfl rfl rfl tG (op_fld_fz (by decide) rfl (Opd.tmp _ _ rfl) tR) ?_
                refine Run.pureG (dd := some 96) rfl rfl rfl tG (op_load1_fz rfl (Opd.topt _ _ _ rfl tO) rfl) ?_
                refine Run.pureG (dd := some 97) rfl rfl rfl tG (op_len_fz rfl (by first | exact Opd.topt _ _ _ rfl tO | exact Opd.nil _ _ (Opd.topt _ _ _ rfl tO)) (by first | exact List.length_map _ | rfl)) ?_
                refine Run.pureG (dd := some 98) rfl rfl rfl tG (op_gtr rfl (Opd.topt _ _ _ rfl tO) (Opd.topt _ _ _ rfl tO)) ?_
                refine Run.pure (dd := some 99) rfl rfl (op_pick_or rfl (Opd.tmp _ _ rfl) (Opd.topt _ _ _ rfl tO)) ?_
                refine Run.nil (FinR.mk ?_)
                refine nK ?_
                refine n_cond _ rfl (fun hb => ?_) (fun hb => ?_)
                · have hc : (-1 : Int) < 0 ∨ (n : Int) < (out.length : Int) := by simpa [hn0] using hb
                  rw [if_pos hc] at ho2
                  rw [← ho2]
                  refine nK ?_
                  refine s_reg rfl ?_
                  refine Run.pure (dd := some 4) rfl rfl (op_assign rfl (Opd.const _)) ?_
                  refine Run.nil (FinR.mk ?_)
                  refine nK ?_
                  refine Next.weakS [] [] (by rfl) (keeps0 hC _) (G' := [(4, .fz (VI []))]) (H' := []) (by repeat (first | exact trivial | refine ⟨⟨_, rfl, .inl ⟨rfl, rfl⟩⟩, ?_⟩ | refine ⟨⟨_, rfl, .inl ⟨slEq rfl tN, rfl⟩⟩, ?_⟩ | refine ⟨⟨_, rfl, .inl ⟨ivEq tX, rfl⟩⟩, ?_⟩ | refine ⟨⟨_, rfl, .inr ⟨_, rfl, tW⟩⟩, ?_⟩)) trivial rfl ?_
                  (first | exact s_o1 hC rfl tV | exact s_o2 hC rfl tV tV | exact s_o3 hC rfl tV tV tV | exact s_out0 hC rfl | exact s_outO hC rfl rfl rfl)
                · have hc : ¬ ((-1 : Int) < 0 ∨ (n : Int) < (out.length : Int)) := by simpa [hn0] using hb
                  rw [if_neg hc] at ho2
                  refine nK ?_
                  refine s_reg rfl ?_
                  refine Run.pure (dd := some 100) rfl rfl (op_move rfl (Opd.tmp _ _ rfl)) ?_
                  refine Run.pure (dd := some 101) rfl rfl (op_move rfl (Opd.tmp _ _ rfl)) ?_
                  refine Run.pure (dd := some 102) rfl rfl (op_buildSlice_fz rfl (RowsF.cons _ _ _ _ _ _ (Opd.tmp _ _ rfl) tC (by rfl) (RowsF.nil _)) rfl rfl) ?_
                  refine Run.eff (dd := some 103) rfl rfl (op_append rfl (Opd.tmp _ _ rfl) (by first | exact Opd.tmp _ _ rfl | exact Opd.nil _ _ (Opd.tmp _ _ rfl)) rfl (by first | rfl | simp) rfl rfl tB tB) ?_
                  refine Run.pure (dd := some 104) rfl rfl (op_move rfl (Opd.tmp _ _ rfl)) ?_
                  refine Run.pure (dd := some 10) rfl rfl (op_assign rfl (Opd.tmp _ _ rfl)) ?_
                  refine Run.pure (dd := some 11) rfl rfl (op_assign rfl (Opd.tmp _ _ rfl)) ?_
                  refine Run.nil (FinR.mk ?_)
                  refine nK ?_
                  refine Next.weak [0, 2] [] (by rfl) (keepsN hC _ rfl) (by repeat (first | exact trivial | refine ⟨⟨_, rfl, .inl ⟨rfl, rfl⟩⟩, ?_⟩ | refine ⟨⟨_, rfl, .inl ⟨slEq rfl tN, rfl⟩⟩, ?_⟩ | refine ⟨⟨_, rfl, .inl ⟨ivEq tX, rfl⟩⟩, ?_⟩)) (by exact ⟨ent_same rfl rfl rfl tL, ⟨ent_same rfl rfl (flEq rfl (by rw [List.map_append]; rfl)) trivial, trivial⟩⟩) (fun _ h => by simp at h) (hK4 ((-1 : Int), out ++ [(-1 : Int)]) ⟨by simp, by simp; omega, by dsimp only; rw [← ho2]; congr 1; simp; omega⟩ (by simp; omega))
          · have hte : at_ = to := by simpa using hb
            rw [if_pos hte] at ho2
            rw [← ho2]
            refine nK ?_
            refine s_reg rfl ?_
            refine Run.pure (dd := some 105) rfl rfl (op_move rfl (Opd.tmp _ _ rfl)) ?_
            refine Run.pure (dd := some 4) rfl rfl (op_assign rfl (Opd.tmp _ _ rfl)) ?_
            refine Run.nil (FinR.mk ?_)
            refine nK ?_
            refine Next.weakS [] [4] (by rfl) (keeps0 hC _) (G' := [(4, .fz (VI out))]) (H' := []) ⟨⟨_, rfl, .inr ⟨_, rfl, .sl _ _ _ _ _ _ rfl rfl (take_all0 (by rw [List.length_map])) (by rw [List.length_map])⟩⟩, trivial⟩ trivial rfl ?_
            (first | exact s_o1 hC rfl tV | exact s_o2 hC rfl tV tV | exact s_o3 hC rfl tV tV tV | exact s_out0 hC rfl | exact s_outO hC rfl rfl rfl)
end Go.Proofs.Ytgbfkpcigipniaa
namespace Go.Pl
open Go Go.RT
set_option linter.all false
theorem isD_low {es : List Edg} {a : Nat} {D : List Int} (h0 : gt0 D a = 0) (he : ∀ e ∈ es, 0 ≤ gt0 D e.f.toNat → 0 ≤ gt0 D e.t.toNat ∧ gt0 D e.t.toNat ≤ gt0 D e.f.toNat + e.c) {v : Nat} {c : Int} (w : Wk es a v c) : 0 ≤ gt0 D v ∧ gt0 D v ≤ c := by
  induction w with
  | nil => omega
  | snoc w h ih => have := he _ h ih.1; omega
theorem isD_cert {es : List Edg} {a n : Nat} {D : List Int} (h0 : gt0 D a = 0) (he : ∀ e ∈ es, 0 ≤ gt0 D e.f.toNat → 0 ≤ gt0 D e.t.toNat ∧ gt0 D e.t.toNat ≤ gt0 D e.f.toNat + e.c) (hw : ∀ v, v < n → gt0 D v = -1 ∨ Wk es a v (gt0 D v)) : ∀ v, v < n → IsD es a v (gt0 D v) := fun v hv => by
  rcases hw v hv with h | h
  · exact .inl ⟨h, fun c w => by have := isD_low h0 he w; omega⟩
  · exact .inr ⟨h, fun c w => (isD_low h0 he w).2⟩
def gr1 : Gr := ⟨4, 0, [⟨0, 1, 1⟩, ⟨0, 3, 1⟩, ⟨1, 0, 1⟩, ⟨1, 2, 1⟩, ⟨2, 1, 1⟩, ⟨2, 3, 1⟩, ⟨3, 0, 1⟩, ⟨3, 2, 1⟩]⟩
def gr2 : Gr := ⟨2, 1, [⟨0, 2, 3⟩, ⟨1, 2, 3⟩, ⟨2, 0, 0⟩, ⟨2, 1, 0⟩]⟩
def tr1 : Tr := ⟨0, [0, 1, 2, 1], [[], [1], [1, 3], [3]], [[], [0], [1, 3], [0]]⟩
def tr2 : Tr := ⟨0, [0, 3, 3], [[], [1], [2]], [[], [2], [0]]⟩
theorem Wk.one {es : List Edg} {a u v : Nat} {c k : Int} (w : Wk es a u c) (f t : Int) (hf : f.toNat = u) (ht : t.toNat = v) (h : ⟨f, t, k⟩ ∈ es) : Wk es a v (c + k) := by
  subst hf; subst ht; exact .snoc w h
theorem run1 : RunOk gr1 0 tr1 := by
  refine ⟨by decide, by decide, rfl, rfl, isD_cert (by decide) (by decide) fun v hv => ?_, by decide, [3, 1, 2], by decide, ?_, by decide +kernel⟩
  · have hv4 : v < 4 := hv
    have w1 : Wk gr1.es 0 1 1 := Wk.one .nil 0 1 rfl rfl (k := 1) (by decide)
    match v, hv4 with
    | 0, _ => exact .inr .nil
    | 1, _ => exact .inr w1
    | 2, _ => exact .inr (Wk.one w1 1 2 rfl rfl (k := 1) (by decide))
    | 3, _ => exact .inr (Wk.one .nil 0 3 rfl rfl (k := 1) (by decide))
  · simp [ltHd, tr1, gt0]
theorem run2 : RunOk gr2 0 tr2 := by
  refine ⟨by decide, by decide, rfl, rfl, isD_cert (by decide) (by decide) fun v hv => ?_, by decide, [2, 1], by decide, ?_, by decide +kernel⟩
  · have hv4 : v < 3 := hv
    have w1 : Wk gr2.es 0 2 3 := Wk.one .nil 0 2 rfl rfl (k := 3) (by decide)
    match v, hv4 with
    | 0, _ => exact .inr .nil
    | 1, _ => exact .inr (Wk.one w1 2 1 rfl rfl (k := 0) (by decide))
    | 2, _ => exact .inr w1
  · simp [ltHd, tr2, gt0]
theorem path1 : pathL tr1 2 = [0, 1, 2] := by decide +kernel
theorem gr1_ok : okG gr1 := ⟨by decide, by decide, by unfold okEs okE gr1; decide⟩
theorem gr2_ok : okG gr2 := ⟨by decide, by decide, by unfold okEs okE gr2; decide⟩
end Go.Pl
namespace Go.Proofs.Ytgbfkpcigipniaa
open Go Go.RT Go.Proofs Go.Pl
set_option linter.all false
set_option maxRecDepth 20000
set_option maxHeartbeats 4000000
theorem ring_c : Pure Try.prog 33 [] (.agg (encG gr1)) := by
  refine Meets.intro Try.func33 rfl (Nat.le_of_ble_eq_true rfl) fun C hC => ?_
  simp only [List.map, argEnv, Nat.reduceAdd]
  refine nK ?_
  refine s_reg rfl ?_
  refine Run.eff (dd := some 0) rfl rfl (op_alloc rfl rfl rfl rfl) ?_
  refine Run.nil (FinR.mk ?_)
  refine nK ?_
  refine s_reg rfl ?_
  refine Run.pure (dd := some 1) rfl rfl (op_build rfl rfl rfl (FillF.cons _ _ _ _ _ _ _ _ _ _ (by rfl) (Opd.const _) tC (by rfl) tR (FillF.cons _ _ _ _ _ _ _ _ _ _ (by rfl) (Opd.const _) tC (by rfl) tR (FillF.cons _ _ _ _ _ _ _ _ _ _ (by rfl) (Opd.const _) tC (by rfl) tR (FillF.nil _))))) ?_
  refine Run.pure (dd := some 2) rfl rfl (op_build rfl rfl rfl (FillF.cons _ _ _ _ _ _ _ _ _ _ (by rfl) (Opd.const _) tC (by rfl) tR (FillF.cons _ _ _ _ _ _ _ _ _ _ (by rfl) (Opd.const _) tC (by rfl) tR (FillF.cons _ _ _ _ _ _ _ _ _ _ (by rfl) (Opd.const _) tC (by rfl) tR (FillF.nil _))))) ?_
  refine Run.pure (dd := some 3) rfl rfl (op_build rfl rfl rfl (FillF.cons _ _ _ _ _ _ _ _ _ _ (by rfl) (Opd.const _) tC (by rfl) tR (FillF.cons _ _ _ _ _ _ _ _ _ _ (by rfl) (Opd.const _) tC (by rfl) tR (FillF.cons _ _ _ _ _ _ _ _ _ _ (by rfl) (Opd.const _) tC (by rfl) tR (FillF.nil _))))) ?_
  refine Run.pure (dd := some 4) rfl rfl (op_build rfl rfl rfl (FillF.cons _ _ _ _ _ _ _ _ _ _ (by rfl) (Opd.const _) tC (by rfl) tR (FillF.cons _ _ _ _ _ _ _ _ _ _ (by rfl) (Opd.const _) tC (by rfl) tR (FillF.cons _ _ _ _ _ _ _ _ _ _ (by rfl) (Opd.const _) tC (by rfl) tR (FillF.nil _))))) ?_
  refine Run.pure (dd := some 5) rfl rfl (op_build rfl rfl rfl (FillF.cons _ _ _ _ _ _ _ _ _ _ (by rfl) (Opd.const _) tC (by rfl) tR (FillF.cons _ _ _ _ _ _ _ _ _ _ (by rfl) (Opd.const _) tC (by rfl) tR (FillF.cons _ _ _ _ _ _ _ _ _ _ (by rfl) (Opd.const _) tC (by rfl) tR (FillF.nil _))))) ?_
  refine Run.pure (dd := some 6) rfl rfl (op_build rfl rfl rfl (FillF.cons _ _ _ _ _ _ _ _ _ _ (by rfl) (Opd.const _) tC (by rfl) tR (FillF.cons _ _ _ _ _ _ _ _ _ _ (by rfl) (Opd.const _) tC (by rfl) tR (FillF.cons _ _ _ _ _ _ _ _ _ _ (by rfl) (Opd.const _) tC (by rfl) tR (FillF.nil _))))) ?_
  refine Run.pure (dd := some 7) rfl rfl (op_build rfl rfl rfl (FillF.cons _ _ _ _ _ _ _ _ _ _ (by rfl) (Opd.const _) tC (by rfl) tR (FillF.cons _ _ _ _ _ _ _ _ _ _ (by rfl) (Opd.const _) tC (by rfl) tR (FillF.cons _ _ _ _ _ _ _ _ _ _ (by rfl) (Opd.const _) tC (by rfl) tR (FillF.nil _))))) ?_
  refine Run.pure (dd := some 8) rfl rfl (op_build rfl rfl rfl (FillF.cons _ _ _ _ _ _ _ _ _ _ (by rfl) (Opd.const _) tC (by rfl) tR (FillF.cons _ _ _ _ _ _ _ _ _ _ (by rfl) (Opd.const _) tC (by rfl) tR (FillF.cons _ _ _ _ _ _ _ _ _ _ (by rfl) (Opd.const _) tC (by rfl) tR (FillF.nil _))))) ?_
  refine Run.pure (dd := some 9) rfl rfl (op_buildSlice_fz rfl (RowsF.cons _ _ _ _ _ _ (Opd.tmp _ _ rfl) tC (by rfl) (RowsF.cons _ _ _ _ _ _ (Opd.tmp _ _ rfl) tC (by rfl) (RowsF.cons _ _ _ _ _ _ (Opd.tmp _ _ rfl) tC (by rfl) (RowsF.cons _ _ _ _ _ _ (Opd.tmp _ _ rfl) tC (by rfl) (RowsF.cons _ _ _ _ _ _ (Opd.tmp _ _ rfl) tC (by rfl) (RowsF.cons _ _ _ _ _ _ (Opd.tmp _ _ rfl) tC (by rfl) (RowsF.cons _ _ _ _ _ _ (Opd.tmp _ _ rfl) tC (by rfl) (RowsF.cons _ _ _ _ _ _ (Opd.tmp _ _ rfl) tC (by rfl) (RowsF.nil _))))))))) rfl rfl) ?_
  refine Run.pure (dd := some 10) rfl rfl (op_build rfl rfl rfl (FillF.cons _ _ _ _ _ _ _ _ _ _ (by rfl) (Opd.const _) tC (by rfl) tR (FillF.cons _ _ _ _ _ _ _ _ _ _ (by rfl) (Opd.tmp _ _ rfl) tC (by rfl) tR (FillF.nil _)))) ?_
  refine Run.eff (dd := none) rfl rfl (op_store_flat rfl (Opd.tmp _ _ rfl) (Opd.tmp _ _ rfl) tC rfl rfl (by first | rfl | assumption) tS) ?_
  refine Run.nil (FinR.mk ?_)
  refine nK ?_
  (first | exact s_o1 hC rfl tV | exact s_o2 hC rfl tV tV | exact s_o3 hC rfl tV tV tV | exact s_out0 hC rfl | exact s_outO hC rfl rfl rfl)
theorem lives_c : Pure Try.prog 15 [] (Bf true) := by
  have k1 := run_c gr1 0 tr1 gr1_ok run1
  have k2 := run_c gr2 0 tr2 gr2_ok run2
  have k3 := path_c tr1 2 4 (by decide) rfl (by decide) (by have := parL_ok (checkI_vg run1.ok).1 0 tr1.dist; rw [run1.par]; exact this)
  rw [path1] at k3
  have s := fun a b ha hb => sameints_c a b ha hb
  refine Meets.intro Try.func15 rfl (Nat.le_of_ble_eq_true rfl) fun C hC => ?_
  simp only [List.map, argEnv, Nat.reduceAdd]
  refine nK ?_
  refine s_reg rfl ?_
  refine Run.pure (dd := some 0) rfl rfl (op_assign rfl (Opd.const _)) ?_
  refine Run.nil (FinR.mk ?_)
  refine nK ?_
  refine s_reg rfl ?_
  refine Run.pure (dd := some 6) rfl rfl (op_call_pure (fun _ => ring_c) rfl (Opd.func _) Opds.nil) ?_
  refine Run.pure (dd := some 7) rfl rfl (op_call_pure (fun _ => k1) rfl (Opd.func _) (Opds.cons _ _ _ _ (Opd.tmp _ _ rfl) (Opds.cons _ _ _ _ (Opd.const _) Opds.nil))) ?_
  refine Run.pure (dd := some 5) rfl rfl (op_move rfl (Opd.tmp _ _ rfl)) ?_
  refine Run.pure (dd := some 8) rfl rfl (op_extract_fz rfl (Opd.tmp _ _ rfl) rfl) ?_
  refine Run.pure (dd := some 9) rfl rfl (op_extract_fz rfl (Opd.tmp _ _ rfl) rfl) ?_
  refine Run.eff (dd := some 1) rfl rfl (op_alloc rfl rfl rfl rfl) ?_
  refine Run.eff (dd := none) rfl rfl (op_store_flat rfl (Opd.tmp _ _ rfl) (Opd.tmp _ _ rfl) tC rfl rfl (by first | rfl | assumption) tS) ?_
  refine Run.pure (dd := some 2) rfl rfl (op_assign rfl (Opd.tmp _ _ rfl)) ?_
  refine Run.nil (FinR.mk ?_)
  refine nK ?_
  refine s_reg rfl ?_
  refine Run.pure (dd := some 11) rfl rfl (op_build rfl rfl rfl (FillF.cons _ _ _ _ _ _ _ _ _ _ (by rfl) (Opd.const _) tC (by rfl) tR (FillF.cons _ _ _ _ _ _ _ _ _ _ (by rfl) (Opd.const _) tC (by rfl) tR (FillF.cons _ _ _ _ _ _ _ _ _ _ (by rfl) (Opd.const _) tC (by rfl) tR (FillF.nil _))))) ?_
  refine Run.pure (dd := some 12) rfl rfl (op_build rfl rfl rfl (FillF.cons _ _ _ _ _ _ _ _ _ _ (by rfl) (Opd.const _) tC (by rfl) tR (FillF.cons _ _ _ _ _ _ _ _ _ _ (by rfl) (Opd.const _) tC (by rfl) tR (FillF.cons _ _ _ _ _ _ _ _ _ _ (by rfl) (Opd.const _) tC (by rfl) tR (FillF.nil _))))) ?_
  refine Run.pure (dd := some 13) rfl rfl (op_build rfl rfl rfl (FillF.cons _ _ _ _ _ _ _ _ _ _ (by rfl) (Opd.const _) tC (by rfl) tR (FillF.cons _ _ _ _ _ _ _ _ _ _ (by rfl) (Opd.const _) tC (by rfl) tR (FillF.nil _)))) ?_
  refine Run.pure (dd := some 14) rfl rfl (op_build rfl rfl rfl (FillF.cons _ _ _ _ _ _ _ _ _ _ (by rfl) (Opd.const _) tC (by rfl) tR (FillF.cons _ _ _ _ _ _ _ _ _ _ (by rfl) (Opd.const _) tC (by rfl) tR (FillF.nil _)))) ?_
  refine Run.pure (dd := some 15) rfl rfl (op_buildSlice_fz rfl (RowsF.cons _ _ _ _ _ _ (Opd.tmp _ _ rfl) tC (by rfl) (RowsF.cons _ _ _ _ _ _ (Opd.tmp _ _ rfl) tC (by rfl) (RowsF.cons _ _ _ _ _ _ (Opd.tmp _ _ rfl) tC (by rfl) (RowsF.cons _ _ _ _ _ _ (Opd.tmp _ _ rfl) tC (by rfl) (RowsF.nil _))))) rfl rfl) ?_
  refine Run.pure (dd := some 16) rfl rfl (op_build rfl rfl rfl (FillF.cons _ _ _ _ _ _ _ _ _ _ (by rfl) (Opd.const _) tC (by rfl) tR (FillF.cons _ _ _ _ _ _ _ _ _ _ (by rfl) (Opd.const _) tC (by rfl) tR (FillF.cons _ _ _ _ _ _ _ _ _ _ (by rfl) (Opd.tmp _ _ rfl) tC (by rfl) tR (FillF.nil _))))) ?_
  refine Run.pure (dd := some 17) rfl rfl (op_call_pure (fun _ => k2) rfl (Opd.func _) (Opds.cons _ _ _ _ (Opd.tmp _ _ rfl) (Opds.cons _ _ _ _ (Opd.const _) Opds.nil))) ?_
  refine Run.pure (dd := some 10) rfl rfl (op_move rfl (Opd.tmp _ _ rfl)) ?_
  refine Run.pure (dd := some 18) rfl rfl (op_extract_fz rfl (Opd.tmp _ _ rfl) rfl) ?_
  refine Run.pure (dd := some 19) rfl rfl (op_extract_fz rfl (Opd.tmp _ _ rfl) rfl) ?_
  refine Run.eff (dd := some 3) rfl rfl (op_alloc rfl rfl rfl rfl) ?_
  refine Run.eff (dd := none) rfl rfl (op_store_flat rfl (Opd.tmp _ _ rfl) (Opd.tmp _ _ rfl) tC rfl rfl (by first | rfl | assumption) tS) ?_
  refine Run.pure (dd := some 4) rfl rfl (op_assign rfl (Opd.tmp _ _ rfl)) ?_
  refine Run.nil (FinR.mk ?_)
  refine nK ?_
  refine s_reg rfl ?_
  refine Run.pure (dd := some 20) rfl rfl (op_move rfl (Opd.tmp _ _ rfl)) ?_
  refine Run.pure (dd := some 21) rfl rfl (op_neq rfl (Opd.tmp _ _ rfl) (Opd.const _)) ?_
  refine Run.pure (dd := some 22) rfl rfl (op_move rfl (Opd.tmp _ _ rfl)) ?_
  refine Run.pureG (dd := some 23) rfl rfl rfl tG (op_move rfl (Opd.tmp _ _ rfl)) ?_
  refine Run.pureG (dd := some 24) rfl rfl rfl tG (op_neq rfl (Opd.topt _ _ _ rfl tO) (Opd.const _)) ?_
  refine Run.pure (dd := some 25) rfl rfl (op_pick_or rfl (Opd.tmp _ _ rfl) (Opd.topt _ _ _ rfl tO)) ?_
  refine Run.pure (dd := some 26) rfl rfl (op_move rfl (Opd.tmp _ _ rfl)) ?_
  refine Run.pureG (dd := some 27) rfl rfl rfl tG (op_fld_ptr (by decide) rfl (Opd.tmp _ _ rfl)) ?_
  refine Run.loadG (dd := some 28) rfl rfl rfl tG (op_load1_flat rfl (Opd.topt _ _ _ rfl tO) tH rfl) ?_
  refine Run.pureG (dd := some 29) rfl rfl rfl tG (op_len_fz rfl (by first | exact Opd.topt _ _ _ rfl tO | exact Opd.nil _ _ (Opd.topt _ _ _ rfl tO)) (by first | exact List.length_map _ | rfl)) ?_
  refine Run.pureG (dd := some 30) rfl rfl rfl tG (op_neq rfl (Opd.topt _ _ _ rfl tO) (Opd.const _)) ?_
  refine Run.pure (dd := some 31) rfl rfl (op_pick_or rfl (Opd.tmp _ _ rfl) (Opd.topt _ _ _ rfl tO)) ?_
  refine Run.pure (dd := some 32) rfl rfl (op_move rfl (Opd.tmp _ _ rfl)) ?_
  refine Run.pureG (dd := some 33) rfl rfl rfl tG (op_fld_ptr (by decide) rfl (Opd.tmp _ _ rfl)) ?_
  refine Run.loadG (dd := some 34) rfl rfl rfl tG (op_load1_flat rfl (Opd.topt _ _ _ rfl tO) tH rfl) ?_
  refine Run.pureG (dd := some 35) rfl rfl rfl tG (op_len_fz rfl (by first | exact Opd.topt _ _ _ rfl tO | exact Opd.nil _ _ (Opd.topt _ _ _ rfl tO)) (by first | exact List.length_map _ | rfl)) ?_
  refine Run.pureG (dd := some 36) rfl rfl rfl tG (op_neq rfl (Opd.topt _ _ _ rfl tO) (Opd.const _)) ?_
  refine Run.pure (dd := some 37) rfl rfl (op_pick_or rfl (Opd.tmp _ _ rfl) (Opd.topt _ _ _ rfl tO)) ?_
  refine Run.pure (dd := some 38) rfl rfl (op_move rfl (Opd.tmp _ _ rfl)) ?_
  refine Run.pureG (dd := some 39) rfl rfl rfl tG (op_fld_ptr (by decide) rfl (Opd.tmp _ _ rfl)) ?_
  refine Run.loadG (dd := some 40) rfl rfl rfl tG (op_load1_flat rfl (Opd.topt _ _ _ rfl tO) tH rfl) ?_
  refine Run.pureG (dd := some 41) rfl rfl rfl tG (op_len_fz rfl (by first | exact Opd.topt _ _ _ rfl tO | exact Opd.nil _ _ (Opd.topt _ _ _ rfl tO)) (by first | exact List.length_map _ | rfl)) ?_
  refine Run.pureG (dd := some 42) rfl rfl rfl tG (op_neq rfl (Opd.topt _ _ _ rfl tO) (Opd.const _)) ?_
  refine Run.pure (dd := some 43) rfl rfl (op_pick_or rfl (Opd.tmp _ _ rfl) (Opd.topt _ _ _ rfl tO)) ?_
  refine Run.pure (dd := some 44) rfl rfl (op_move rfl (Opd.tmp _ _ rfl)) ?_
  refine Run.pureG (dd := some 45) rfl rfl rfl tG (op_fld_ptr (by decide) rfl (Opd.tmp _ _ rfl)) ?_
  refine Run.loadG (dd := some 46) rfl rfl rfl tG (op_load1_flat rfl (Opd.topt _ _ _ rfl tO) tH rfl) ?_
  refine Run.pureG (dd := some 47) rfl rfl rfl tG (op_len_fz rfl (by first | exact Opd.topt _ _ _ rfl tO | exact Opd.nil _ _ (Opd.topt _ _ _ rfl tO)) (by first | exact List.length_map _ | rfl)) ?_
  refine Run.pureG (dd := some 48) rfl rfl rfl tG (op_neq rfl (Opd.topt _ _ _ rfl tO) (Opd.const _)) ?_
  refine Run.pure (dd := some 49) rfl rfl (op_pick_or rfl (Opd.tmp _ _ rfl) (Opd.topt _ _ _ rfl tO)) ?_
  refine Run.pure (dd := some 50) rfl rfl (op_move rfl (Opd.tmp _ _ rfl)) ?_
  refine Run.pureG (dd := some 51) rfl rfl rfl tG (op_fld_ptr (by decide) rfl (Opd.tmp _ _ rfl)) ?_
  refine Run.loadG (dd := some 52) rfl rfl rfl tG (op_load1_flat rfl (Opd.topt _ _ _ rfl tO) tH rfl) ?_
  refine Run.pureG (dd := some 53) rfl rfl rfl tG (op_len_fz rfl (by first | exact Opd.topt _ _ _ rfl tO | exact Opd.nil _ _ (Opd.topt _ _ _ rfl tO)) (by first | exact List.length_map _ | rfl)) ?_
  refine Run.pureG (dd := some 54) rfl rfl rfl tG (op_neq rfl (Opd.topt _ _ _ rfl tO) (Opd.const _)) ?_
  refine Run.pure (dd := some 55) rfl rfl (op_pick_or rfl (Opd.tmp _ _ rfl) (Opd.topt _ _ _ rfl tO)) ?_
  refine Run.nil (FinR.mk ?_)
  refine nK ?_
  refine nK ?_
  refine n_cond _ rfl (fun hb => ?_) (fun hb => ?_)
  · exact absurd hb (by decide)
  · refine nK ?_
    refine s_reg rfl ?_
    refine Run.pure (dd := some 56) rfl rfl (op_fld_ptr (by decide) rfl (Opd.tmp _ _ rfl)) ?_
    refine Run.load (dd := some 57) rfl rfl (op_load1_flat rfl (Opd.tmp _ _ rfl) tH rfl) ?_
    refine Run.pure (dd := some 58) rfl rfl (op_buildSlice_fz rfl (RowsF.cons _ _ _ _ _ _ (Opd.const _) tC (by rfl) (RowsF.cons _ _ _ _ _ _ (Opd.const _) tC (by rfl) (RowsF.cons _ _ _ _ _ _ (Opd.const _) tC (by rfl) (RowsF.cons _ _ _ _ _ _ (Opd.const _) tC (by rfl) (RowsF.nil _))))) rfl rfl) ?_
    refine Run.pure (dd := some 59) rfl rfl (op_call_pure (fun _ => s [0, 1, 2, 1] [0, 1, 2, 1] (by decide) (by decide)) rfl (Opd.func _) (Opds.cons _ _ _ _ (Opd.tmp _ _ rfl) (Opds.cons _ _ _ _ (Opd.tmp _ _ rfl) Opds.nil))) ?_
    refine Run.pure (dd := some 60) rfl rfl (op_move rfl (Opd.tmp _ _ rfl)) ?_
    refine Run.pureG (dd := some 61) rfl rfl rfl tG (op_fld_ptr (by decide) rfl (Opd.tmp _ _ rfl)) ?_
    refine Run.loadG (dd := some 62) rfl rfl rfl tG (op_load1_flat rfl (Opd.topt _ _ _ rfl tO) tH rfl) ?_
    refine Run.pureG (dd := some 63) rfl rfl rfl tG (op_idx_fz 2 rfl (Opd.topt _ _ _ rfl tO) (Opd.const _) (by intro _; exact ⟨rfl, rfl⟩)) ?_
    refine Run.pureG (dd := some 64) rfl rfl rfl tG (op_load1_fz rfl (Opd.topt _ _ _ rfl tO) rfl) ?_
    refine Run.pureG (dd := some 65) rfl rfl rfl tG (op_buildSlice_fz rfl (RowsF.cons _ _ _ _ _ _ (Opd.const _) tC (by rfl) (RowsF.cons _ _ _ _ _ _ (Opd.const _) tC (by rfl) (RowsF.nil _))) rfl rfl) ?_
    refine Run.pureG (dd := some 66) rfl rfl rfl tG (op_call_pure (fun _ => s [1, 3] [1, 3] (by decide) (by decide)) rfl (Opd.func _) (Opds.cons _ _ _ _ (Opd.topt _ _ _ rfl tO) (Opds.cons _ _ _ _ (Opd.topt _ _ _ rfl tO) Opds.nil))) ?_
    refine Run.pure (dd := some 67) rfl rfl (op_pick_and rfl (Opd.tmp _ _ rfl) (Opd.topt _ _ _ rfl tO)) ?_
    refine Run.pure (dd := some 68) rfl rfl (op_move rfl (Opd.tmp _ _ rfl)) ?_
    refine Run.pureG (dd := some 69) rfl rfl rfl tG (op_fld_ptr (by decide) rfl (Opd.tmp _ _ rfl)) ?_
    refine Run.loadG (dd := some 70) rfl rfl rfl tG (op_load1_flat rfl (Opd.topt _ _ _ rfl tO) tH rfl) ?_
    refine Run.pureG (dd := some 71) rfl rfl rfl tG (op_idx_fz 2 rfl (Opd.topt _ _ _ rfl tO) (Opd.const _) (by intro _; exact ⟨rfl, rfl⟩)) ?_
    refine Run.pureG (dd := some 72) rfl rfl rfl tG (op_load1_fz rfl (Opd.topt _ _ _ rfl tO) rfl) ?_
    refine Run.pureG (dd := some 73) rfl rfl rfl tG (op_buildSlice_fz rfl (RowsF.cons _ _ _ _ _ _ (Opd.const _) tC (by rfl) (RowsF.cons _ _ _ _ _ _ (Opd.const _) tC (by rfl) (RowsF.nil _))) rfl rfl) ?_
    refine Run.pureG (dd := some 74) rfl rfl rfl tG (op_call_pure (fun _ => s [1, 3] [1, 3] (by decide) (by decide)) rfl (Opd.func _) (Opds.cons _ _ _ _ (Opd.topt _ _ _ rfl tO) (Opds.cons _ _ _ _ (Opd.topt _ _ _ rfl tO) Opds.nil))) ?_
    refine Run.pure (dd := some 75) rfl rfl (op_pick_and rfl (Opd.tmp _ _ rfl) (Opd.topt _ _ _ rfl tO)) ?_
    refine Run.pure (dd := some 76) rfl rfl (op_move rfl (Opd.tmp _ _ rfl)) ?_
    refine Run.loadG (dd := some 77) rfl rfl rfl tG (op_loadw_flat rfl (Opd.tmp _ _ rfl) tH rfl) ?_
    refine Run.pureG (dd := some 78) rfl rfl rfl tG (op_call_pure (fun _ => k3) rfl (Opd.func _) (Opds.cons _ _ _ _ (Opd.topt _ _ _ rfl tO) (Opds.cons _ _ _ _ (Opd.const _) Opds.nil))) ?_
    refine Run.pureG (dd := some 79) rfl rfl rfl tG (op_buildSlice_fz rfl (RowsF.cons _ _ _ _ _ _ (Opd.const _) tC (by rfl) (RowsF.cons _ _ _ _ _ _ (Opd.const _) tC (by rfl) (RowsF.cons _ _ _ _ _ _ (Opd.const _) tC (by rfl) (RowsF.nil _)))) rfl rfl) ?_
    refine Run.pureG (dd := some 80) rfl rfl rfl tG (op_call_pure (fun _ => s [0, 1, 2] [0, 1, 2] (by decide) (by decide)) rfl (Opd.func _) (Opds.cons _ _ _ _ (Opd.topt _ _ _ rfl tO) (Opds.cons _ _ _ _ (Opd.topt _ _ _ rfl tO) Opds.nil))) ?_
    refine Run.pure (dd := some 81) rfl rfl (op_pick_and rfl (Opd.tmp _ _ rfl) (Opd.topt _ _ _ rfl tO)) ?_
    refine Run.pure (dd := some 82) rfl rfl (op_move rfl (Opd.tmp _ _ rfl)) ?_
    refine Run.pureG (dd := some 83) rfl rfl rfl tG (op_fld_ptr (by decide) rfl (Opd.tmp _ _ rfl)) ?_
    refine Run.loadG (dd := some 84) rfl rfl rfl tG (op_load1_flat rfl (Opd.topt _ _ _ rfl tO) tH rfl) ?_
    refine Run.pureG (dd := some 85) rfl rfl rfl tG (op_buildSlice_fz rfl (RowsF.cons _ _ _ _ _ _ (Opd.const _) tC (by rfl) (RowsF.cons _ _ _ _ _ _ (Opd.const _) tC (by rfl) (RowsF.cons _ _ _ _ _ _ (Opd.const _) tC (by rfl) (RowsF.nil _)))) rfl rfl) ?_
    refine Run.pureG (dd := some 86) rfl rfl rfl tG (op_call_pure (fun _ => s [0, 3, 3] [0, 3, 3] (by decide) (by decide)) rfl (Opd.func _) (Opds.cons _ _ _ _ (Opd.topt _ _ _ rfl tO) (Opds.cons _ _ _ _ (Opd.topt _ _ _ rfl tO) Opds.nil))) ?_
    refine Run.pure (dd := some 87) rfl rfl (op_pick_and rfl (Opd.tmp _ _ rfl) (Opd.topt _ _ _ rfl tO)) ?_
    refine Run.pure (dd := some 88) rfl rfl (op_move rfl (Opd.tmp _ _ rfl)) ?_
    refine Run.pureG (dd := some 89) rfl rfl rfl tG (op_fld_ptr (by decide) rfl (Opd.tmp _ _ rfl)) ?_
    refine Run.loadG (dd := some 90) rfl rfl rfl tG (op_load1_flat rfl (Opd.topt _ _ _ rfl tO) tH rfl) ?_
    refine Run.pureG (dd := some 91) rfl rfl rfl tG (op_idx_fz 1 rfl (Opd.topt _ _ _ rfl tO) (Opd.const _) (by intro _; exact ⟨rfl, rfl⟩)) ?_
    refine Run.pureG (dd := some 92) rfl rfl rfl tG (op_load1_fz rfl (Opd.topt _ _ _ rfl tO) rfl) ?_
    refine Run.pureG (dd := some 93) rfl rfl rfl tG (op_buildSlice_fz rfl (RowsF.cons _ _ _ _ _ _ (Opd.const _) tC (by rfl) (RowsF.nil _)) rfl rfl) ?_
    refine Run.pureG (dd := some 94) rfl rfl rfl tG (op_call_pure (fun _ => s [1] [1] (by decide) (by decide)) rfl (Opd.func _) (Opds.cons _ _ _ _ (Opd.topt _ _ _ rfl tO) (Opds.cons _ _ _ _ (Opd.topt _ _ _ rfl tO) Opds.nil))) ?_
    refine Run.pure (dd := some 95) rfl rfl (op_pick_and rfl (Opd.tmp _ _ rfl) (Opd.topt _ _ _ rfl tO)) ?_
    refine Run.pure (dd := some 96) rfl rfl (op_move rfl (Opd.tmp _ _ rfl)) ?_
    refine Run.pureG (dd := some 97) rfl rfl rfl tG (op_fld_ptr (by decide) rfl (Opd.tmp _ _ rfl)) ?_
    refine Run.loadG (dd := some 98) rfl rfl rfl tG (op_load1_flat rfl (Opd.topt _ _ _ rfl tO) tH rfl) ?_
    refine Run.pureG (dd := some 99) rfl rfl rfl tG (op_idx_fz 2 rfl (Opd.topt _ _ _ rfl tO) (Opd.const _) (by intro _; exact ⟨rfl, rfl⟩)) ?_
    refine Run.pureG (dd := some 100) rfl rfl rfl tG (op_load1_fz rfl (Opd.topt _ _ _ rfl tO) rfl) ?_
    refine Run.pureG (dd := some 101) rfl rfl rfl tG (op_buildSlice_fz rfl (RowsF.cons _ _ _ _ _ _ (Opd.const _) tC (by rfl) (RowsF.nil _)) rfl rfl) ?_
    refine Run.pureG (dd := some 102) rfl rfl rfl tG (op_call_pure (fun _ => s [2] [2] (by decide) (by decide)) rfl (Opd.func _) (Opds.cons _ _ _ _ (Opd.topt _ _ _ rfl tO) (Opds.cons _ _ _ _ (Opd.topt _ _ _ rfl tO) Opds.nil))) ?_
    refine Run.pure (dd := some 103) rfl rfl (op_pick_and rfl (Opd.tmp _ _ rfl) (Opd.topt _ _ _ rfl tO)) ?_
    refine Run.pure (dd := some 0) rfl rfl (op_assign rfl (Opd.tmp _ _ rfl)) ?_
    refine Run.nil (FinR.mk ?_)
    refine nK ?_
    refine s_oB hC rfl rfl ?_
    decide
end Go.Proofs.Ytgbfkpcigipniaa
namespace Go.Proofs.Ytgbfkpcigipniaa
open Go Go.RT Go.Proofs Go.Pl
set_option linter.all false
set_option maxRecDepth 20000
set_option maxHeartbeats 4000000
end Go.Proofs.Ytgbfkpcigipniaa
namespace Go.Pl
open Go Go.RT
set_option linter.all false
theorem merge_mem {n : Nat} {ll : List (List Int)} (h : LLok n ll) (r : Int) {v : Nat} (hv : v < n) (y x : Int) : x ∈ rowAt' (mergeL r v ll y) v ↔ x = capV r v y ∨ x ∈ rowAt' ll v := by
  have e : rowAt' (mergeL r v ll y) v = insU (rowAt' ll v) (capV r v y) := by
    unfold mergeL
    show (ll.set v _).getD v [] = _
    rw [getD_set _ _ _ _ _ (by rw [h.len]; exact hv), if_pos rfl]
  rw [e]; exact (insU_spec (h.row v hv).1 _).2 x
theorem fold_mem {n : Nat} {r : Int} {v : Nat} (hv : v < n) : ∀ (l : List Int) {ll : List (List Int)}, LLok n ll → (∀ x ∈ l, 0 ≤ x ∧ x < n) → ∀ x, x ∈ rowAt' (l.foldl (mergeL r v) ll) v ↔ (∃ h ∈ l, x = capV r v h) ∨ x ∈ rowAt' ll v
  | [], _, _, _, x => by simp
  | y :: l, ll, h, hl, x => by
    have := fold_mem (r := r) hv l (h.merge r hv (hl y (by simp))) (fun z hz => hl z (by simp [hz])) x
    rw [List.foldl_cons, this, merge_mem h r hv]
    constructor
    · rintro (⟨z, hz, e⟩ | e | e)
      · exact .inl ⟨z, by simp [hz], e⟩
      · exact .inl ⟨y, by simp, e⟩
      · exact .inr e
    · rintro (⟨z, hz, e⟩ | e)
      · rcases List.mem_cons.1 hz with rfl | hz
        · exact .inr (.inl e)
        · exact .inl ⟨z, hz, e⟩
      · exact .inr (.inr e)
def Src (r : Int) (a v : Nat) (ll : List (List Int)) (u x : Int) : Prop := (u = (a : Int) ∧ x = capV r v (v : Int)) ∨ ∃ h ∈ rowAt' ll u.toNat, x = capV r v h
theorem step_mem {n : Nat} {r : Int} {a v : Nat} (hv : v < n) {ll : List (List Int)} (h : LLok n ll) {u : Int} (hu : 0 ≤ u ∧ u < n) (x : Int) : x ∈ rowAt' (stepU r a v ll u) v ↔ Src r a v ll u x ∨ x ∈ rowAt' ll v := by
  unfold stepU Src
  by_cases e : u = (a : Int)
  · rw [if_pos e, fold_mem hv _ (h.merge r hv (by omega)) (h.row u.toNat (by omega)).2, merge_mem h r hv]
    constructor
    · rintro (h1 | h1 | h1)
      · exact .inl (.inr h1)
      · exact .inl (.inl ⟨e, h1⟩)
      · exact .inr h1
    · rintro ((⟨_, h1⟩ | h1) | h1)
      · exact .inr (.inl h1)
      · exact .inl h1
      · exact .inr (.inr h1)
  · rw [if_neg e, fold_mem hv _ h (h.row u.toNat (by omega)).2]
    constructor
    · rintro (h1 | h1)
      · exact .inl (.inr h1)
      · exact .inr h1
    · rintro ((⟨h1, _⟩ | h1) | h1)
      · exact absurd h1 e
      · exact .inl h1
      · exact .inr h1
theorem step_other {r : Int} {a v : Nat} {ll : List (List Int)} {u : Int} {w : Nat} (hw : w ≠ v) : rowAt' (stepU r a v ll u) w = rowAt' ll w := by
  unfold stepU
  rw [fold_other hw]
  split
  · exact merge_other _ _ _ _ hw
  · rfl
theorem steps_mem {n : Nat} {r : Int} {a v : Nat} (hv : v < n) : ∀ (l : List Int) {ll : List (List Int)}, LLok n ll → (∀ u ∈ l, 0 ≤ u ∧ u < n ∧ u ≠ (v : Int)) → (∀ x, x ∈ rowAt' (l.foldl (stepU r a v) ll) v ↔ (∃ u ∈ l, Src r a v ll u x) ∨ x ∈ rowAt' ll v) ∧ ∀ w, w ≠ v → rowAt' (l.foldl (stepU r a v) ll) w = rowAt' ll w
  | [], _, _, _ => ⟨fun x => by simp, fun w _ => rfl⟩
  | y :: l, ll, h, hl => by
    have hy := hl y (by simp)
    obtain ⟨i1, i2⟩ := steps_mem (r := r) (a := a) hv l (h.step r hv (u := y) (a := a) (by omega)) (fun z hz => hl z (by simp [hz]))
    refine ⟨fun x => ?_, fun w hw => (i2 w hw).trans (step_other hw)⟩
    have hs : ∀ u ∈ l, ∀ x, Src r a v (stepU r a v ll y) u x ↔ Src r a v ll u x := fun u hu x => by
      unfold Src
      rw [step_other (by have := hl u (by simp [hu]); omega)]
    rw [List.foldl_cons, i1, step_mem hv h (by omega)]
    constructor
    · rintro (⟨z, hz, e⟩ | e | e)
      · exact .inl ⟨z, by simp [hz], (hs z hz x).1 e⟩
      · exact .inl ⟨y, by simp, e⟩
      · exact .inr e
    · rintro (⟨z, hz, e⟩ | e)
      · rcases List.mem_cons.1 hz with rfl | hz
        · exact .inr (.inl e)
        · exact .inl ⟨z, hz, (hs z hz x).2 e⟩
      · exact .inr (.inr e)
structure HopInv (r : Int) (a n : Nat) (up : List (List Int)) (done : List Nat) (ll : List (List Int)) : Prop where
  ok : LLok n ll
  off : ∀ v, v < n → v ∉ done → rowAt' ll v = []
  on : ∀ v ∈ done, ∀ x, x ∈ rowAt' ll v ↔ ∃ u ∈ rowAt' up v, Src r a v ll u x
theorem hops_inv {r : Int} {a n : Nat} {up : List (List Int)} (hup : UpOk n up) : ∀ (l done : List Nat) {ll : List (List Int)}, HopInv r a n up done ll → (∀ v ∈ done, ∀ u ∈ rowAt' up v, u = (a : Int) ∨ u.toNat ∈ done) → a ∉ done → a ∉ l → (∀ v ∈ l, v < n) → (done ++ l).Nodup →
    (∀ p v q, l = p ++ v :: q → ∀ u ∈ rowAt' up v, u = (a : Int) ∨ u.toNat ∈ done ++ p) → HopInv r a n up (done ++ l) (l.foldl (hopsV r a up) ll)
  | [], done, ll, h, _, _, _, _, _, _ => by simpa using h
  | v :: l, done, ll, h, hcl, had, hal, hlt, hnd, htop => by
    have hv := hlt v (by simp)
    have hvd : v ∉ done := fun e => (List.nodup_append.1 hnd).2.2 v e v (by simp) rfl
    have hva : a ≠ v := fun e => hal (by rw [e]; simp)
    obtain ⟨q1, q2⟩ := steps_mem (r := r) (a := a) hv (rowAt' up v) h.ok (fun u hu => (hup.row v hv).2 u hu)
    have hok : LLok n (hopsV r a up ll v) := LLok.steps hv _ h.ok fun x hx => by have := (hup.row v hv).2 x hx; omega
    have hnew : HopInv r a n up (done ++ [v]) (hopsV r a up ll v) := by
      refine ⟨hok, fun w hw hwd => ?_, fun w hw x => ?_⟩
      · have hne : w ≠ v := fun e => hwd (by simp [e])
        exact (q2 w hne).trans (h.off w hw fun e => hwd (by simp [e]))
      · rcases List.mem_append.1 hw with hw | hw
        · have hne : w ≠ v := fun e => hvd (by rw [← e]; exact hw)
          show x ∈ rowAt' (hopsV r a up ll v) w ↔ _
          rw [show rowAt' (hopsV r a up ll v) w = rowAt' ll w from q2 w hne, h.on w hw x]
          refine exists_congr fun u => and_congr_right fun hu => ?_
          unfold Src
          have hut : u.toNat ≠ v := by
            rcases hcl w hw u hu with e | e
            · omega
            · exact fun e2 => hvd (by rw [← e2]; exact e)
          rw [show rowAt' (hopsV r a up ll v) u.toNat = rowAt' ll u.toNat from q2 _ hut]
        · have : w = v := by simpa using hw
          subst this
          show x ∈ rowAt' ((rowAt' up w).foldl (stepU r a w) ll) w ↔ _
          rw [q1 x, h.off w hv hvd]
          simp only [List.not_mem_nil, or_false]
          refine exists_congr fun u => and_congr_right fun hu => ?_
          unfold Src
          have hut : u.toNat ≠ w := by have := (hup.row w hv).2 u hu; omega
          rw [show rowAt' (hopsV r a up ll w) u.toNat = rowAt' ll u.toNat from q2 _ hut]
    have := hops_inv hup l (done ++ [v]) hnew (fun w hw u hu => by
      rcases List.mem_append.1 hw with hw | hw
      · rcases hcl w hw u hu with e | e
        · exact .inl e
        · exact .inr (by simp [e])
      · have : w = v := by simpa using hw
        subst this
        rcases htop [] w l rfl u hu with e | e
        · exact .inl e
        · exact .inr (by simp at e; simp [e])) (by simp [had, hva]) (fun e => hal (by simp [e])) (fun w hw => hlt w (by simp [hw])) (by simpa using hnd) (fun p w q e u hu => by
        rcases htop (v :: p) w q (by rw [e]; rfl) u hu with e2 | e2
        · exact .inl e2
        · exact .inr (by simpa using e2))
    simpa using this
end Go.Pl
namespace Go.Pl
open Go Go.RT
set_option linter.all false
abbrev Gr.m (g : Gr) : Nat := (g.r + g.n).toNat
theorem IsD.cases {es : List Edg} {r n a v : Nat} {d : Int} (vg : VG es r n) (h : IsD es a v d) : (d = -1 ∧ ∀ c, ¬ Wk es a v c) ∨ (0 ≤ d ∧ Wk es a v d ∧ ∀ c, Wk es a v c → d ≤ c) := by
  rcases h with h | h
  · exact .inl h
  · exact .inr ⟨h.1.nn vg, h⟩
end Go.Pl
namespace Go.Pl
open Go Go.RT
set_option linter.all false
theorem RunOk.vg {g : Gr} {a : Nat} {t : Tr} (h : RunOk g a t) : VG g.es g.r.toNat g.m := (checkI_vg h.ok).1
theorem RunOk.am {g : Gr} {a : Nat} {t : Tr} (h : RunOk g a t) : a < g.m := by have := (checkI_vg h.ok).2; have := h.lt; unfold Gr.m; omega
theorem RunOk.parl {g : Gr} {a : Nat} {t : Tr} (h : RunOk g a t) : t.par.length = g.m := by rw [h.par, parL_len]
theorem RunOk.up {g : Gr} {a : Nat} {t : Tr} (h : RunOk g a t) : UpOk g.m t.par := by rw [h.par]; exact parL_ok h.vg _ _
theorem RunOk.edge {g : Gr} {a : Nat} {t : Tr} (h : RunOk g a t) {e : Edg} (he : e ∈ g.es) (h0 : 0 ≤ gt0 t.dist e.f.toNat) : 0 ≤ gt0 t.dist e.t.toNat ∧ gt0 t.dist e.t.toNat ≤ gt0 t.dist e.f.toNat + e.c := by
  have vg := h.vg
  have hf := vg.f e he; have ht := vg.t e he
  rcases (h.dist e.f.toNat (by show _ < g.m; omega)).cases vg with ⟨h1, _⟩ | ⟨_, h2, _⟩
  · omega
  · have w := Wk.snoc h2 he
    rcases (h.dist e.t.toNat (by show _ < g.m; omega)).cases vg with ⟨_, h4⟩ | ⟨h3, _, h5⟩
    · exact absurd w (h4 _)
    · exact ⟨h3, h5 _ w⟩
theorem RunOk.root0 {g : Gr} {a : Nat} {t : Tr} (h : RunOk g a t) : gt0 t.dist a = 0 := by
  have vg := h.vg
  rcases (h.dist a h.am).cases vg with ⟨_, h2⟩ | ⟨h1, _, h3⟩
  · exact absurd .nil (h2 0)
  · have := h3 0 .nil; omega
theorem RunOk.par_mem {g : Gr} {a : Nat} {t : Tr} (h : RunOk g a t) {v : Nat} (hv : v < g.m) (u : Int) : u ∈ rowAt' t.par v ↔ v ≠ a ∧ ∃ e ∈ g.es, e.f = u ∧ e.t = (v : Int) ∧ gt0 t.dist e.f.toNat ≠ -1 ∧ gt0 t.dist e.f.toNat + e.c = gt0 t.dist v := by
  have e0 : rowAt' t.par v = parE g.es a t.dist v := by rw [h.par]; exact parL_get _ _ _ hv
  rw [e0]
  unfold parE
  simp only [List.mem_map, List.mem_filter, Bool.and_eq_true, decide_eq_true_eq, parC]
  constructor
  · rintro ⟨e, ⟨he, ⟨⟨h1, h2⟩, h3⟩, h4⟩, h5⟩
    refine ⟨by omega, e, he, h5, h4, h2, ?_⟩
    rw [h4, Int.toNat_natCast] at h3; exact h3
  · rintro ⟨hne, e, he, h5, h4, h2, h3⟩
    refine ⟨e, ⟨he, ⟨⟨by omega, h2⟩, ?_⟩, h4⟩, h5⟩
    rw [h4, Int.toNat_natCast]; exact h3
theorem RunOk.dge {g : Gr} {a : Nat} {t : Tr} (h : RunOk g a t) {v : Nat} (hv : v < g.m) : -1 ≤ gt0 t.dist v := (h.dist v hv).ge h.vg
theorem RunOk.par_ex {g : Gr} {a : Nat} {t : Tr} (h : RunOk g a t) {v : Nat} (hv : v < g.m) (hne : v ≠ a) (h0 : 0 ≤ gt0 t.dist v) : ∃ u, u ∈ rowAt' t.par v := by
  have vg := h.vg
  rcases (h.dist v hv).cases vg with ⟨h1, _⟩ | ⟨_, w, hm⟩
  · omega
  · generalize hd : gt0 t.dist v = d at w hm
    have key : ∀ {v' : Nat} {d' : Int}, Wk g.es a v' d' → v' = v → d' = d → ∃ u, u ∈ rowAt' t.par v := fun {v' d'} w' hv' hd' => by
      cases w' with
      | nil => exact absurd hv'.symm hne
      | @snoc e c w2 he =>
        have hf := vg.f e he; have ht := vg.t e he
        rcases (h.dist e.f.toNat (by show _ < g.m; omega)).cases vg with ⟨_, h4⟩ | ⟨h3, _, h5⟩
        · exact absurd w2 (h4 _)
        · have h6 := h5 _ w2
          have h7 := (h.edge he h3).2
          rw [hv'] at h7
          exact ⟨e.f, (h.par_mem hv _).2 ⟨hne, e, he, rfl, by omega, by omega, by omega⟩⟩
    exact key w rfl rfl
theorem split_before {d : List Int} {l p q : List Nat} {v u : Nat} (hs : l.Pairwise (ltHd d)) (e : l = p ++ v :: q) (hu : u ∈ l) (hlt : ltHd d u v) : u ∈ p := by
  subst e
  rcases List.mem_append.1 hu with h | h
  · exact h
  · exfalso
    have h2 := (List.pairwise_append.1 hs).2.1
    rcases List.mem_cons.1 h with rfl | h
    · unfold ltHd at hlt; omega
    · have := (List.pairwise_cons.1 h2).1 u h
      unfold ltHd at *; omega
theorem ordA_mem {d : List Int} {a i v : Nat} : v ∈ ordA d a i ↔ v < i ∧ gt0 d v ≠ -1 ∧ v ≠ a := by
  unfold ordA ordP
  simp only [List.mem_filter, List.mem_range, Bool.and_eq_true, decide_eq_true_eq]
  omega
theorem RunOk.hopInv {g : Gr} {a : Nat} {t : Tr} (h : RunOk g a t) : HopInv g.r a g.m t.par (ordA t.dist a g.m) t.hops := by
  have vg := h.vg
  obtain ⟨l2, p, q, hh⟩ := h.hops
  have hmem : ∀ v, v ∈ l2 ↔ v < g.m ∧ gt0 t.dist v ≠ -1 ∧ v ≠ a := fun v => p.mem_iff.trans ordA_mem
  have hnd : l2.Nodup := p.nodup_iff.2 (List.nodup_range.filter _)
  have hbase : HopInv g.r a g.m t.par [] (List.replicate g.m []) := ⟨LLok.nil _, fun v hv _ => getD_rep _ _ _ _ hv, fun v hv => by cases hv⟩
  have := hops_inv (r := g.r) h.up l2 [] hbase (fun v hv => by cases hv) (by simp) (fun e => ((hmem a).1 e).2.2 rfl) (fun v hv => ((hmem v).1 hv).1) (by simpa using hnd) (fun pre v suf e u hu => by
    have hv : v ∈ l2 := by rw [e]; simp
    obtain ⟨hv1, hv2, hv3⟩ := (hmem v).1 hv
    obtain ⟨_, ed, he, hf, ht, h1, h2⟩ := (h.par_mem hv1 u).1 hu
    have hfn := vg.f ed he
    have hc := vg.c ed he
    by_cases hua : u = (a : Int)
    · exact .inl hua
    · refine .inr ?_
      rw [hf] at h1 h2 hfn
      simp only [List.nil_append]
      refine split_before q e ((hmem u.toNat).2 ⟨by omega, h1, by omega⟩) ?_
      unfold ltHd
      by_cases hc0 : ed.c = 0
      · refine .inr ⟨by omega, ?_⟩
        have hr : (g.r.toNat : Int) ≤ ed.f := by
          by_cases hlt : ed.f < (g.r.toNat : Int)
          · have := vg.rt ed he hlt; omega
          · omega
        have := (vg.net ed he hr).1
        omega
      · left; omega)
  rw [hh]
  refine ⟨this.ok, fun v hv hn => this.off v hv (fun e => hn (p.mem_iff.1 (by simpa using e))), fun v hv => this.on v (by simpa using p.mem_iff.2 hv)⟩
end Go.Pl
namespace Go.Pl
open Go Go.RT
set_option linter.all false
/- the nodes that lead to an end -/
theorem push_mem (l : List Int) (u x : Int) : x ∈ push l u ↔ x ∈ l ∨ x = u := by
  unfold push
  split
  · next h => constructor
              · exact .inl
              · rintro (h1 | rfl)
                · exact h1
                · exact h
  · simp
theorem pushs_mem : ∀ (k l : List Int) (x : Int), x ∈ k.foldl push l ↔ x ∈ l ∨ x ∈ k
  | [], l, x => by simp
  | u :: k, l, x => by rw [List.foldl_cons, pushs_mem k, push_mem, List.mem_cons, or_assoc]
theorem pushs_pre : ∀ (k l : List Int), ∃ r, k.foldl push l = l ++ r
  | [], l => ⟨[], by simp⟩
  | u :: k, l => by
    obtain ⟨r, hr⟩ := pushs_pre k (push l u)
    rw [List.foldl_cons, hr]
    unfold push
    split
    · exact ⟨r, rfl⟩
    · exact ⟨[u] ++ r, by rw [List.append_assoc]⟩
inductive Anc2 (par : List (List Int)) (to : Int) : Int → Prop where
  | here : Anc2 par to to
  | up {x u : Int} : Anc2 par to x → u ∈ aboveL par x → Anc2 par to u
theorem bfs_spec {n : Nat} {par : List (List Int)} (hup : UpOk n par) {to : Int} : ∀ (f i : Nat) (l : List Int), NdL n l → n + 1 ≤ f + i → i ≤ l.length → (∀ x ∈ l, Anc2 par to x) → (∀ k (h : k < l.length), k < i → ∀ u ∈ aboveL par l[k], u ∈ l) →
    (∀ x ∈ l, x ∈ bfsGo (aboveL par) f i l) ∧ (∀ x ∈ bfsGo (aboveL par) f i l, Anc2 par to x ∧ ∀ u ∈ aboveL par x, u ∈ bfsGo (aboveL par) f i l) ∧ NdL n (bfsGo (aboveL par) f i l)
  | 0, i, l, h, hf, hi, ha, hc => by have := h.len; omega
  | f + 1, i, l, h, hf, hi, ha, hc => by
    simp only [bfsGo]
    by_cases hlt : i < l.length
    · rw [List.getElem?_eq_getElem hlt]
      obtain ⟨r, hr⟩ := pushs_pre (aboveL par l[i]) l
      have hm := pushs_mem (aboveL par l[i]) l
      have hnd : NdL n ((aboveL par l[i]).foldl push l) := NdL.pushs _ h (aboveL_ok hup _).2
      obtain ⟨q1, q2, q3⟩ := bfs_spec hup f (i + 1) ((aboveL par l[i]).foldl push l) hnd (by omega) (by have := push_le (aboveL par l[i]) l; omega) (fun x hx => by
        rcases (hm x).1 hx with h1 | h1
        · exact ha x h1
        · exact .up (ha _ (List.getElem_mem hlt)) h1) (fun k hk hki u hu => by
        have hkl : k < l.length := by omega
        have e : ((aboveL par l[i]).foldl push l)[k] = l[k] := by
          simp only [hr]; rw [List.getElem_append_left hkl]
        rw [e] at hu
        by_cases hki2 : k = i
        · subst hki2; exact (hm u).2 (.inr hu)
        · exact (hm u).2 (.inl (hc k hkl (by omega) u hu)))
      exact ⟨fun x hx => q1 x ((hm x).2 (.inl hx)), q2, q3⟩
    · rw [List.getElem?_eq_none (by omega)]
      dsimp only
      refine ⟨fun x hx => hx, fun x hx => ⟨ha x hx, fun u hu => ?_⟩, h⟩
      obtain ⟨k, hk, rfl⟩ := List.mem_iff_getElem.1 hx
      exact hc k hk (by omega) u hu
theorem need_spec {n : Nat} {par : List (List Int)} (hup : UpOk n par) {to : Int} (ht : 0 ≤ to ∧ to < n) : (∀ x, x ∈ needL par n to ↔ Anc2 par to x) ∧ NdL n (needL par n to) := by
  obtain ⟨q1, q2, q3⟩ := bfs_spec hup (to := to) (n + 1) 0 [to] ⟨by simp, by simp; exact ht⟩ (by omega) (by simp) (fun x hx => by
    have : x = to := by simpa using hx
    rw [this]; exact .here) (fun k _ hk => by omega)
  refine ⟨fun x => ⟨fun h => (q2 x h).1, fun h => ?_⟩, q3⟩
  induction h with
  | here => exact q1 to (by simp)
  | up h hu ih => exact (q2 _ ih).2 _ hu
theorem next_spec (par : List (List Int)) (nd : List Int) (at_ : Int) (n : Nat) : ∀ (f v : Nat), n ≤ f + v → v ≤ n →
    (nextG par nd at_ n f v = -1 ∧ ∀ w, v ≤ w → w < n → nextAt par nd at_ w = false) ∨ ∃ w, v ≤ w ∧ w < n ∧ nextG par nd at_ n f v = (w : Int) ∧ nextAt par nd at_ w = true ∧ ∀ w', v ≤ w' → w' < w → nextAt par nd at_ w' = false
  | 0, v, h, hv => .inl ⟨rfl, fun w h1 h2 => by omega⟩
  | f + 1, v, h, hv => by
    simp only [nextG]
    by_cases hvn : v < n
    · rw [if_pos hvn]
      by_cases hx : nextAt par nd at_ v = true
      · rw [if_pos hx]; exact .inr ⟨v, Nat.le_refl _, hvn, rfl, hx, fun w' h1 h2 => by omega⟩
      · rw [if_neg hx]
        have hx' : nextAt par nd at_ v = false := by simpa using hx
        rcases next_spec par nd at_ n f (v + 1) (by omega) hvn with ⟨h1, h2⟩ | ⟨w, h1, h2, h3, h4, h5⟩
        · refine .inl ⟨h1, fun w h3 h4 => ?_⟩
          by_cases e : w = v
          · rw [e]; exact hx'
          · exact h2 w (by omega) h4
        · refine .inr ⟨w, by omega, h2, h3, h4, fun w' h6 h7 => ?_⟩
          by_cases e : w' = v
          · rw [e]; exact hx'
          · exact h5 w' (by omega) h7
    · rw [if_neg hvn]; exact .inl ⟨rfl, fun w h1 h2 => by omega⟩
theorem anc_next {par : List (List Int)} {to x : Int} (h : Anc2 par to x) (hne : x ≠ to) : ∃ v, Anc2 par to v ∧ x ∈ aboveL par v := by
  cases h with
  | here => exact absurd rfl hne
  | up h hu => exact ⟨_, h, hu⟩
end Go.Pl
namespace Go.Pl
open Go Go.RT
set_option linter.all false
theorem cost_of {es : List Edg} (ha : AscK es) {e : Edg} (he : e ∈ es) : costL e.f e.t es = (e.c, true) := by
  induction es with
  | nil => cases he
  | cons x l ih =>
    obtain ⟨a1, a2⟩ := List.pairwise_cons.1 ha
    simp only [costL]
    rcases List.mem_cons.1 he with rfl | he
    · rw [if_pos (by simp [isB])]
    · rw [if_neg ?_]
      · exact ih a2 he
      · have := a1 e he
        simp only [isB, Bool.and_eq_true, decide_eq_true_eq]
        unfold ltK at this; omega
theorem RunOk.above {g : Gr} {a : Nat} {t : Tr} (h : RunOk g a t) {v : Nat} (hv : v < g.m) : aboveL t.par v = rowAt' t.par v := by
  unfold aboveL
  rw [if_neg (by rw [h.parl]; omega), Int.toNat_natCast]
/-- a step of a path -/
theorem RunOk.stp {g : Gr} {a : Nat} {t : Tr} (h : RunOk g a t) {v : Nat} (hv : v < g.m) {u : Int} (hu : u ∈ rowAt' t.par v) :
    v ≠ a ∧ 0 ≤ u ∧ u < g.m ∧ 0 ≤ gt0 t.dist u.toNat ∧ (∃ c, costL u v g.es = (c, true) ∧ gt0 t.dist u.toNat + c = gt0 t.dist v ∧ 0 ≤ c ∧ c ≤ 65535) ∧ ltHd t.dist u.toNat v ∧ (g.r ≤ u → (v : Int) < g.r) := by
  have vg := h.vg
  obtain ⟨h1, e, he, hf, ht, h2, h3⟩ := (h.par_mem hv u).1 hu
  have hfn := vg.f e he
  have hc := vg.c e he
  have hg0 := (checkI_vg h.ok).2.1
  rw [hf] at hfn h2 h3
  have hd := h.dge (v := u.toNat) (by omega)
  refine ⟨h1, hfn.1, hfn.2, by omega, ⟨e.c, by rw [← hf, ← ht]; exact cost_of vg.asc he, h3, hc.1, hc.2⟩, ?_, fun hr => by have := (vg.net e he (by omega)).1; omega⟩
  unfold ltHd
  by_cases hc0 : e.c = 0
  · refine .inr ⟨by omega, ?_⟩
    have hr : (g.r.toNat : Int) ≤ e.f := by
      by_cases hlt : e.f < (g.r.toNat : Int)
      · have := vg.rt e he hlt; omega
      · omega
    have := (vg.net e he hr).1
    omega
  · left; omega
/-- the first router on the way -/
def Fst (g : Gr) (a : Nat) (t : Tr) (v : Nat) (first : Int) : Prop :=
  (first = -1 ∧ (v = a ∨ (g.r ≤ (v : Int) ∧ (v : Int) ∈ rowAt' t.hops v))) ∨ (0 ≤ first ∧ first < g.r ∧ first ∈ rowAt' t.hops v)
theorem RunOk.fst {g : Gr} {a : Nat} {t : Tr} (h : RunOk g a t) {v : Nat} (hv : v < g.m) {u : Int} (hu : u ∈ rowAt' t.par v) {first : Int} (hF : Fst g a t u.toNat first) :
    Fst g a t v (if first < 0 ∧ (v : Int) < g.r then (v : Int) else first) := by
  obtain ⟨hva, hu0, hum, hdu, ⟨c, hc1, hc2, hc3, hc4⟩, hlt, hnet⟩ := h.stp hv hu
  have hon := h.hopInv.on v (ordA_mem.2 ⟨hv, by omega, hva⟩)
  have hlr := h.lt
  rcases hF with ⟨h1, h2⟩ | ⟨h1, h2, h3⟩
  · subst h1
    have hin : capV g.r v (v : Int) ∈ rowAt' t.hops v ∨ True := .inr trivial
    have hv2 : (v : Int) ∈ rowAt' t.hops v := by
      rcases h2 with h2 | ⟨h2, h3⟩
      · refine (hon _).2 ⟨u, hu, .inl ⟨by omega, ?_⟩⟩
        unfold capV; split <;> rfl
      · refine (hon _).2 ⟨u, hu, .inr ⟨u, ?_, ?_⟩⟩
        · have e : ((u.toNat : Nat) : Int) = u := by omega
          rw [e] at h3; exact h3
        · unfold capV; rw [if_pos (by omega)]
    by_cases hr : (v : Int) < g.r
    · rw [if_pos ⟨by omega, hr⟩]; exact .inr ⟨by omega, hr, hv2⟩
    · rw [if_neg (fun e => hr e.2)]; exact .inl ⟨rfl, .inr ⟨by omega, hv2⟩⟩
  · rw [if_neg (fun e => by omega)]
    refine .inr ⟨h1, h2, (hon _).2 ⟨u, hu, .inr ⟨first, h3, ?_⟩⟩⟩
    unfold capV; rw [if_neg (by omega)]
end Go.Pl
namespace Go.Pl
open Go Go.RT
set_option linter.all false
structure GoodP (g : Gr) (a to : Nat) (t : Tr) (nd : List Int) (p : List Int) : Prop where
  pos : 0 < p.length
  head : p[0]? = some (a : Int)
  last : p[p.length - 1]? = some (to : Int)
  stp : ∀ i x y, p[i]? = some x → p[i + 1]? = some y → ∃ v : Nat, y = (v : Int) ∧ v < g.m ∧ x ∈ rowAt' t.par v ∧ ∀ w : Nat, w < v → ¬ ((w : Int) ∈ nd ∧ x ∈ aboveL t.par w)
  no : NdL g.m p
structure PInv (g : Gr) (a : Nat) (t : Tr) (nd : List Int) (at_ : Nat) (pre : List Int) : Prop where
  head : (pre ++ [(at_ : Int)])[0]? = some (a : Int)
  stp : ∀ i x y, (pre ++ [(at_ : Int)])[i]? = some x → (pre ++ [(at_ : Int)])[i + 1]? = some y → ∃ v : Nat, y = (v : Int) ∧ v < g.m ∧ x ∈ rowAt' t.par v ∧ ∀ w : Nat, w < v → ¬ ((w : Int) ∈ nd ∧ x ∈ aboveL t.par w)
  no : NdL g.m (pre ++ [(at_ : Int)])
  lt : ∀ x ∈ pre, ltHd t.dist x.toNat at_
  mem : (at_ : Int) ∈ nd
theorem path_go {g : Gr} {a to : Nat} {t : Tr} (h : RunOk g a t) (hto : to < g.m) : ∀ (f : Nat) (at_ : Nat) (pre : List Int), g.m + 2 ≤ f + (pre.length + 1) → PInv g a t (needL t.par g.m to) at_ pre → GoodP g a to t (needL t.par g.m to) (pathG t.par (needL t.par g.m to) g.m to f at_ (pre ++ [(at_ : Int)]))
  | 0, at_, pre, hf, hi => by have := hi.no.len; simp at this; omega
  | f + 1, at_, pre, hf, hi => by
    have hlen := hi.no.len
    simp only [pathG]
    by_cases he : (at_ : Int) = (to : Int)
    · rw [if_pos he]
      refine ⟨by simp, hi.head, ?_, hi.stp, hi.no⟩
      rw [← he]; simp
    · rw [if_neg he]
      obtain ⟨ns1, ns2⟩ := need_spec h.up (to := (to : Int)) (by omega)
      obtain ⟨v0, hv0, hx0⟩ := anc_next ((ns1 _).1 hi.mem) he
      have hv0n := ns2.2 _ ((ns1 _).2 hv0)
      rcases next_spec t.par (needL t.par g.m to) at_ g.m g.m 0 (by omega) (Nat.zero_le _) with ⟨_, h2⟩ | ⟨w, _, hw, h3, h4, h5⟩
      · exfalso
        have := h2 v0.toNat (Nat.zero_le _) (by omega)
        have e : ((v0.toNat : Nat) : Int) = v0 := by omega
        unfold nextAt at this
        rw [e] at this
        simp [(ns1 v0).2 hv0, hx0] at this
      · rw [h3, if_neg (by omega)]
        have h4' : (w : Int) ∈ needL t.par g.m to ∧ (at_ : Int) ∈ aboveL t.par w := by simpa [nextAt] using h4
        have hat : (at_ : Int) ∈ rowAt' t.par w := by rw [← h.above hw]; exact h4'.2
        have hs := h.stp hw hat
        have hlt : ltHd t.dist at_ w := by have := hs.2.2.2.2.2.1; rwa [Int.toNat_natCast] at this
        have hlts : ∀ x ∈ pre ++ [(at_ : Int)], ltHd t.dist x.toNat w := fun x hx => by
          rcases List.mem_append.1 hx with h6 | h6
          · have := hi.lt x h6; unfold ltHd at *; omega
          · have : x = (at_ : Int) := by simpa using h6
            rw [this, Int.toNat_natCast]; exact hlt
        refine path_go h hto f w (pre ++ [(at_ : Int)]) (by simp; omega) ⟨?_, fun i x y hx hy => ?_, ⟨?_, fun x hx => ?_⟩, hlts, h4'.1⟩
        · rw [List.getElem?_append_left (by simp)]; exact hi.head
        · by_cases hil : i + 1 < (pre ++ [(at_ : Int)]).length
          · rw [List.getElem?_append_left (by omega)] at hx
            rw [List.getElem?_append_left hil] at hy
            exact hi.stp i x y hx hy
          · have hle := (List.getElem?_eq_some_iff.1 hy).1
            have hie : i = pre.length := by simp at hil hle; omega
            subst hie
            have ey : y = (w : Int) := by simpa [List.getElem?_append] using hy.symm
            have ex : x = (at_ : Int) := by
              rw [List.getElem?_append_left (by simp)] at hx
              simpa using hx.symm
            subst ey; subst ex
            refine ⟨w, rfl, hw, hat, fun w' hw' hc => ?_⟩
            have := h5 w' (Nat.zero_le _) hw'
            simp [nextAt, hc.1, hc.2] at this
        · refine List.nodup_append.2 ⟨hi.no.1, by simp, fun x hx y hy e => ?_⟩
          have : y = (w : Int) := by simpa using hy
          have h7 := hlts x hx
          rw [e, this, Int.toNat_natCast] at h7
          unfold ltHd at h7; omega
        · rcases List.mem_append.1 hx with h6 | h6
          · exact hi.no.2 x h6
          · have : x = (w : Int) := by simpa using h6
            rw [this]; omega
/-- every node that is reached leads back to the root -/
theorem RunOk.anc {g : Gr} {a to : Nat} {t : Tr} (h : RunOk g a t) (hto : to < g.m) (h0 : 0 ≤ gt0 t.dist to) : Anc2 t.par to (a : Int) := by
  have key : ∀ (k : Nat) (v : Nat), v < g.m → 0 ≤ gt0 t.dist v → (gt0 t.dist v).toNat * 129 + (g.m - v) ≤ k → Anc2 t.par to (v : Int) → Anc2 t.par to (a : Int) := by
    intro k
    induction k with
    | zero => intro v hv _ hk _; omega
    | succ k ih =>
      intro v hv h0 hk han
      by_cases hva : v = a
      · rw [← hva]; exact han
      · obtain ⟨u, hu⟩ := h.par_ex hv hva h0
        obtain ⟨_, hu0, hum, hdu, _, hlt, _⟩ := h.stp hv hu
        have hm := h.vg.n128
        change g.m ≤ 128 at hm
        have e : ((u.toNat : Nat) : Int) = u := by omega
        refine ih u.toNat (by omega) hdu ?_ (by rw [e]; exact .up han (by rw [h.above hv]; exact hu))
        unfold ltHd at hlt
        rcases hlt with h1 | ⟨h1, h2⟩
        · have e1 : (gt0 t.dist u.toNat).toNat + 1 ≤ (gt0 t.dist v).toNat := by omega
          have e2 := Nat.mul_le_mul_right 129 e1
          omega
        · rw [h1]; omega
  exact key _ to hto h0 (Nat.le_refl _) .here
theorem RunOk.path {g : Gr} {a to : Nat} {t : Tr} (h : RunOk g a t) (hto : to < g.m) (h0 : 0 ≤ gt0 t.dist to) : GoodP g a to t (needL t.par g.m to) (pathL t to) := by
  have hdl : t.dist.length = g.m := h.dl
  unfold pathL
  have hc : ¬ ((to : Int) < 0 ∨ (g.m : Int) ≤ (to : Int) ∨ gt0 t.dist (to : Int).toNat < 0) := by
    rw [Int.toNat_natCast]
    rintro (h1 | h1 | h1)
    · omega
    · exact absurd hto (Nat.not_lt.2 (Int.ofNat_le.1 h1))
    · exact absurd h0 (Int.not_le.2 h1)
  rw [hdl, if_neg hc, h.root]
  have hmem := (need_spec h.up (to := (to : Int)) (by omega)).1 (a : Int) |>.2 (h.anc hto h0)
  have ham := h.am
  exact path_go h hto (g.m + 2) a [] (by simp) ⟨rfl, fun i x y hx hy => by simp at hy, ⟨by simp, fun x hx => by
    have e : x = (a : Int) := by simpa using hx
    rw [e]; exact ⟨Int.natCast_nonneg _, Int.ofNat_lt.2 ham⟩⟩, by simp, hmem⟩
end Go.Pl
namespace Go.Proofs.Ytgbfkpcigipniaa
open Go Go.RT Go.Proofs Go.Pl
set_option linter.all false
set_option maxRecDepth 20000
set_option maxHeartbeats 4000000
theorem has_c2 (l : List Int) (n : Int) (hl : l.length ≤ 1999999) : Pure Try.prog 21 [VI l, If .i64 n] (Bf (decide (n ∈ l))) := by
  refine Meets.intro Try.func21 rfl (Nat.le_of_ble_eq_true rfl) fun C hC => ?_
  simp only [List.map, argEnv, Nat.reduceAdd]
  refine nK ?_
  refine s_reg rfl ?_
  refine Run.pure (dd := some 4) rfl rfl (op_assign rfl (Opd.const _)) ?_
  refine Run.nil (FinR.mk ?_)
  refine nK ?_
  refine s_reg rfl ?_
  refine Run.pure (dd := some 6) rfl rfl (op_move rfl (Opd.tmp _ _ rfl)) ?_
  refine Run.pure (dd := some 7) rfl rfl (op_len_fz rfl (by first | exact Opd.tmp _ _ rfl | exact Opd.nil _ _ (Opd.tmp _ _ rfl)) (by first | exact List.length_map _ | rfl)) ?_
  refine Run.pure (dd := some 8) rfl rfl (op_move rfl (Opd.const _)) ?_
  refine Run.nil (FinR.mk ?_)
  refine nK ?_
  refine n_loop (ι := Nat) (fun i => ([(0, .fz (VI l)), (1, IV .i64 n), (7, IV .i64 l.length), (8, IV .i64 i)], [], 0)) (fun i => i ≤ l.length ∧ (n ∈ l ↔ n ∈ l.drop i)) (fun i => l.length - i) 0 ⟨Nat.zero_le _, Iff.rfl⟩ ?_ ?_
  · refine Next.weak [] [] (by rfl) (keeps0 hC _) (by repeat (first | exact trivial | refine ⟨⟨_, rfl, .inl ⟨rfl, rfl⟩⟩, ?_⟩)) (by repeat (first | exact trivial | refine ⟨ent_same rfl rfl rfl tL, ?_⟩ | refine ⟨ent_same rfl rfl (rfEq rfl tU) tL, ?_⟩ | refine ⟨ent_same rfl rfl (flEq rfl (by first | (simp; done) | (simp; omega) | (simp [encE, encN, encB, encT, encL, encTr]; done) | simp [maxC, minC])) trivial, ?_⟩)) (fun _ h => by simp at h) rel_intro
  · intro i ⟨hi, ho⟩ K hK
    refine nK ?_
    refine s_reg rfl ?_
    refine Run.pure (dd := some 9) rfl rfl (op_lss rfl (Opd.tmp _ _ rfl) (Opd.tmp _ _ rfl)) ?_
    refine Run.nil (FinR.mk ?_)
    refine nK ?_
    refine n_cond _ rfl (fun hb => ?_) (fun hb => ?_)
    · have hlt : i < l.length := by simp at hb; omega
      rw [List.drop_eq_getElem_cons hlt, List.mem_cons] at ho
      have hr1 := row_at' encN l i hlt
      have hK1 := fun h => hK (i + 1) ⟨by omega, h⟩ (by omega)
      generalize l[i] = y at *
      refine nK ?_
      refine s_reg rfl ?_
      refine Run.pure (dd := some 10) rfl rfl (op_move rfl (Opd.tmp _ _ rfl)) ?_
      refine Run.pure (dd := some 5) rfl rfl (op_assign rfl (Opd.tmp _ _ rfl)) ?_
      refine Run.nil (FinR.mk ?_)
      refine nK ?_
      refine s_reg rfl ?_
      refine Run.pure (dd := some 11) rfl rfl (op_move rfl (Opd.tmp _ _ rfl)) ?_
      refine Run.pure (dd := some 12) rfl rfl (op_move rfl (Opd.tmp _ _ rfl)) ?_
      refine Run.pure (dd := some 13) rfl rfl (op_idx_fz _ rfl (Opd.tmp _ _ rfl) (Opd.tmp _ _ rfl) tF) ?_
      refine Run.pure (dd := some 14) rfl rfl (op_load1_fz rfl (Opd.tmp _ _ rfl) rfl) ?_
      refine Run.pure (dd := some 15) rfl rfl (op_move rfl (Opd.tmp _ _ rfl)) ?_
      refine Run.pure (dd := some 16) rfl rfl (op_eql rfl (Opd.tmp _ _ rfl) (Opd.tmp _ _ rfl)) ?_
      refine Run.nil (FinR.mk ?_)
      refine nK ?_
      refine n_cond _ rfl (fun hb => ?_) (fun hb => ?_)
      · have e : y = n := by simpa using hb
        rw [show decide (n ∈ l) = true by rw [decide_eq_true_iff, ho]; exact .inl e.symm]
        refine nK ?_
        refine s_reg rfl ?_
        refine Run.pure (dd := some 4) rfl rfl (op_assign rfl (Opd.const _)) ?_
        refine Run.nil (FinR.mk ?_)
        refine nK ?_
        (first | exact s_o1 hC rfl tV | exact s_o2 hC rfl tV tV | exact s_o3 hC rfl tV tV tV | exact s_out0 hC rfl | exact s_outO hC rfl rfl rfl)
      · have e : ¬ y = n := by simpa using hb
        refine nK ?_
        refine s_reg rfl ?_
        refine Run.pure (dd := some 17) rfl rfl (op_add rfl (Opd.tmp _ _ rfl) (Opd.const _) tI) ?_
        refine Run.pure (dd := some 8) rfl rfl (op_move rfl (Opd.tmp _ _ rfl)) ?_
        refine Run.nil (FinR.mk ?_)
        refine nK ?_
        refine Next.weak [] [] (by rfl) (keeps0 hC _) (by repeat (first | exact trivial | refine ⟨⟨_, rfl, .inl ⟨rfl, rfl⟩⟩, ?_⟩)) (by repeat (first | exact trivial | refine ⟨ent_same rfl rfl rfl tL, ?_⟩ | refine ⟨ent_same rfl rfl (rfEq rfl tU) tL, ?_⟩ | refine ⟨ent_same rfl rfl (flEq rfl (by first | (simp; done) | (simp; omega) | (simp [encE, encN, encB, encT, encL, encTr]; done) | simp [maxC, minC])) trivial, ?_⟩)) (fun _ h => by simp at h) (hK1 (ho.trans ⟨fun h => h.resolve_left (fun h2 => e h2.symm), .inr⟩))
    · have hie : i = l.length := by simp at hb; omega
      rw [hie, List.drop_length] at ho
      rw [show decide (n ∈ l) = false by rw [decide_eq_false_iff_not, ho]; simp]
      refine nK ?_
      refine s_reg rfl ?_
      refine Run.pure (dd := some 4) rfl rfl (op_assign rfl (Opd.const _)) ?_
      refine Run.nil (FinR.mk ?_)
      refine nK ?_
      (first | exact s_o1 hC rfl tV | exact s_o2 hC rfl tV tV | exact s_o3 hC rfl tV tV tV | exact s_out0 hC rfl | exact s_outO hC rfl rfl rfl)
theorem walks_law (g : Gr) (a to : Int) (hok : okG g) (hto : inr .i64 to) : Pure Try.prog 6 [.agg (encG g), If .i64 a, If .i64 to] (Bf true) := by
  by_cases hg : checkI g = 0
  · by_cases ha : a < 0 ∨ g.r ≤ a
    · have hr := run_out g a hok hg ha
      refine Meets.intro Try.func6 rfl (Nat.le_of_ble_eq_true rfl) fun C hC => ?_
      simp only [List.map, argEnv, Nat.reduceAdd]
      refine nK ?_
      refine s_reg rfl ?_
      refine Run.eff (dd := some 3) rfl rfl (op_box_flat rfl (Opd.tmp _ _ rfl) tC rfl) ?_
      refine Run.pure (dd := some 6) rfl rfl (op_assign rfl (Opd.const _)) ?_
      refine Run.nil (FinR.mk ?_)
      refine nK ?_
      refine s_reg rfl ?_
      refine Run.load (dd := some 16) rfl rfl (op_loadw_flat rfl (Opd.tmp _ _ rfl) tH rfl) ?_
      refine Run.pure (dd := some 17) rfl rfl (op_move rfl (Opd.tmp _ _ rfl)) ?_
      refine Run.pure (dd := some 18) rfl rfl (op_call_pure (fun _ => hr) rfl (Opd.func _) (Opds.cons _ _ _ _ (Opd.tmp _ _ rfl) (Opds.cons _ _ _ _ (Opd.tmp _ _ rfl) Opds.nil))) ?_
      refine Run.pure (dd := some 15) rfl rfl (op_move rfl (Opd.tmp _ _ rfl)) ?_
      refine Run.pure (dd := some 19) rfl rfl (op_extract_fz rfl (Opd.tmp _ _ rfl) rfl) ?_
      refine Run.pure (dd := some 20) rfl rfl (op_extract_fz rfl (Opd.tmp _ _ rfl) rfl) ?_
      refine Run.eff (dd := some 7) rfl rfl (op_alloc rfl rfl rfl rfl) ?_
      refine Run.eff (dd := none) rfl rfl (op_store_flat rfl (Opd.tmp _ _ rfl) (Opd.tmp _ _ rfl) tC rfl rfl (by first | rfl | assumption) tS) ?_
      refine Run.pure (dd := some 8) rfl rfl (op_assign rfl (Opd.tmp _ _ rfl)) ?_
      refine Run.nil (FinR.mk ?_)
      refine nK ?_
      refine s_reg rfl ?_
      refine Run.pure (dd := some 21) rfl rfl (op_move rfl (Opd.tmp _ _ rfl)) ?_
      refine Run.pure (dd := some 22) rfl rfl (op_neq rfl (Opd.tmp _ _ rfl) (Opd.const _)) ?_
      refine Run.nil (FinR.mk ?_)
      refine nK ?_
      refine n_cond _ rfl (fun hb => ?_) (fun hb => ?_)
      · refine nK ?_
        refine s_reg rfl ?_
        refine Run.pure (dd := some 23) rfl rfl (op_call_pure (fun _ => lives_c) rfl (Opd.func _) Opds.nil) ?_
        refine Run.pure (dd := some 6) rfl rfl (op_assign rfl (Opd.tmp _ _ rfl)) ?_
        refine Run.nil (FinR.mk ?_)
        refine nK ?_
        (first | exact s_o1 hC rfl tV | exact s_o2 hC rfl tV tV | exact s_o3 hC rfl tV tV tV | exact s_out0 hC rfl | exact s_outO hC rfl rfl rfl)
      · exact absurd hb (by decide)
    · obtain ⟨n, rfl⟩ : ∃ n : Nat, a = n := ⟨a.toNat, by omega⟩
      obtain ⟨t, ht⟩ := run_exists hg (a := n) (by omega)
      have hr := run_c g n t hok ht
      have h128 := ht.vg.n128
      change g.m ≤ 128 at h128
      have h1024 := ht.vg.e1024
      have hdl : t.dist.length = g.m := ht.dl
      have hhl := ht.hopInv.ok.len
      have hpl := ht.parl
      have hp := path_c t to g.m hto hdl h128 ht.up
      obtain ⟨_, hg1, hg2⟩ := checkI_vg hg
      have hm : g.r + g.n = (g.m : Int) := by unfold Gr.m; omega
      have hrd : ¬ (to < 0 ∨ (g.m : Int) ≤ to) → (t.dist.map encN)[to.toNat]? = some (encN (gt0 t.dist to.toNat)) := fun h => row_of encN t.dist to.toNat 0 (by omega)
      have hbad : to < 0 ∨ (g.m : Int) ≤ to ∨ gt0 t.dist to.toNat < 0 → pathL t to = [] := fun h => by unfold pathL; rw [hdl, if_pos h]
      refine Meets.intro Try.func6 rfl (Nat.le_of_ble_eq_true rfl) fun C hC => ?_
      simp only [List.map, argEnv, Nat.reduceAdd]
      refine nK ?_
      refine s_reg rfl ?_
      refine Run.eff (dd := some 3) rfl rfl (op_box_flat rfl (Opd.tmp _ _ rfl) tC rfl) ?_
      refine Run.pure (dd := some 6) rfl rfl (op_assign rfl (Opd.const _)) ?_
      refine Run.nil (FinR.mk ?_)
      refine nK ?_
      refine s_reg rfl ?_
      refine Run.load (dd := some 16) rfl rfl (op_loadw_flat rfl (Opd.tmp _ _ rfl) tH rfl) ?_
      refine Run.pure (dd := some 17) rfl rfl (op_move rfl (Opd.tmp _ _ rfl)) ?_
      refine Run.pure (dd := some 18) rfl rfl (op_call_pure (fun _ => hr) rfl (Opd.func _) (Opds.cons _ _ _ _ (Opd.tmp _ _ rfl) (Opds.cons _ _ _ _ (Opd.tmp _ _ rfl) Opds.nil))) ?_
      refine Run.pure (dd := some 15) rfl rfl (op_move rfl (Opd.tmp _ _ rfl)) ?_
      refine Run.pure (dd := some 19) rfl rfl (op_extract_fz rfl (Opd.tmp _ _ rfl) rfl) ?_
      refine Run.pure (dd := some 20) rfl rfl (op_extract_fz rfl (Opd.tmp _ _ rfl) rfl) ?_
      refine Run.eff (dd := some 7) rfl rfl (op_alloc rfl rfl rfl rfl) ?_
      refine Run.eff (dd := none) rfl rfl (op_store_flat rfl (Opd.tmp _ _ rfl) (Opd.tmp _ _ rfl) tC rfl rfl (by first | rfl | assumption) tS) ?_
      refine Run.pure (dd := some 8) rfl rfl (op_assign rfl (Opd.tmp _ _ rfl)) ?_
      refine Run.nil (FinR.mk ?_)
      refine nK ?_
      refine s_reg rfl ?_
      refine Run.pure (dd := some 21) rfl rfl (op_move rfl (Opd.tmp _ _ rfl)) ?_
      refine Run.pure (dd := some 22) rfl rfl (op_neq rfl (Opd.tmp _ _ rfl) (Opd.const _)) ?_
      refine Run.nil (FinR.mk ?_)
      refine nK ?_
      refine n_cond _ rfl (fun hb => ?_) (fun hb => ?_)
      · exact absurd hb (by decide)
      · refine nK ?_
        refine s_reg rfl ?_
        refine Run.load (dd := some 24) rfl rfl (op_loadw_flat rfl (Opd.tmp _ _ rfl) tH rfl) ?_
        refine Run.pure (dd := some 25) rfl rfl (op_move rfl (Opd.tmp _ _ rfl)) ?_
        refine Run.pure (dd := some 26) rfl rfl (op_call_pure (fun _ => hp) rfl (Opd.func _) (Opds.cons _ _ _ _ (Opd.tmp _ _ rfl) (Opds.cons _ _ _ _ (Opd.tmp _ _ rfl) Opds.nil))) ?_
        refine Run.pure (dd := some 9) rfl rfl (op_assign rfl (Opd.tmp _ _ rfl)) ?_
        refine Run.nil (FinR.mk ?_)
        refine nK ?_
        refine s_reg rfl ?_
        refine Run.pure (dd := some 27) rfl rfl (op_fld_ptr (by decide) rfl (Opd.tmp _ _ rfl)) ?_
        refine Run.load (dd := some 28) rfl rfl (op_load1_flat rfl (Opd.tmp _ _ rfl) tH rfl) ?_
        refine Run.pure (dd := some 29) rfl rfl (op_len_fz rfl (by first | exact Opd.tmp _ _ rfl | exact Opd.nil _ _ (Opd.tmp _ _ rfl)) (by first | exact List.length_map _ | rfl)) ?_
        refine Run.pure (dd := some 30) rfl rfl (op_fld_ptr (by decide) rfl (Opd.tmp _ _ rfl)) ?_
        refine Run.load (dd := some 31) rfl rfl (op_load1_flat rfl (Opd.tmp _ _ rfl) tH rfl) ?_
        refine Run.pure (dd := some 32) rfl rfl (op_fld_ptr (by decide) rfl (Opd.tmp _ _ rfl)) ?_
        refine Run.load (dd := some 33) rfl rfl (op_load1_flat rfl (Opd.tmp _ _ rfl) tH rfl) ?_
        refine Run.pure (dd := some 34) rfl rfl (op_add rfl (Opd.tmp _ _ rfl) (Opd.tmp _ _ rfl) tI) ?_
        refine Run.pure (dd := some 35) rfl rfl (op_neq rfl (Opd.tmp _ _ rfl) (Opd.tmp _ _ rfl)) ?_
        refine Run.pure (dd := some 36) rfl rfl (op_move rfl (Opd.tmp _ _ rfl)) ?_
        refine Run.pureG (dd := some 37) rfl rfl rfl tG (op_fld_ptr (by decide) rfl (Opd.tmp _ _ rfl)) ?_
        refine Run.loadG (dd := some 38) rfl rfl rfl tG (op_load1_flat rfl (Opd.topt _ _ _ rfl tO) tH rfl) ?_
        refine Run.pureG (dd := some 39) rfl rfl rfl tG (op_len_fz rfl (by first | exact Opd.topt _ _ _ rfl tO | exact Opd.nil _ _ (Opd.topt _ _ _ rfl tO)) (by first | exact List.length_map _ | rfl)) ?_
        refine Run.pureG (dd := some 40) rfl rfl rfl tG (op_fld_ptr (by decide) rfl (Opd.tmp _ _ rfl)) ?_
        refine Run.loadG (dd := some 41) rfl rfl rfl tG (op_load1_flat rfl (Opd.topt _ _ _ rfl tO) tH rfl) ?_
        refine Run.pureG (dd := some 42) rfl rfl rfl tG (op_len_fz rfl (by first | exact Opd.topt _ _ _ rfl tO | exact Opd.nil _ _ (Opd.topt _ _ _ rfl tO)) (by first | exact List.length_map _ | rfl)) ?_
        refine Run.pureG (dd := some 43) rfl rfl rfl tG (op_neq rfl (Opd.topt _ _ _ rfl tO) (Opd.topt _ _ _ rfl tO)) ?_
        refine Run.pure (dd := some 44) rfl rfl (op_pick_or rfl (Opd.tmp _ _ rfl) (Opd.topt _ _ _ rfl tO)) ?_
        refine Run.pure (dd := some 45) rfl rfl (op_move rfl (Opd.tmp _ _ rfl)) ?_
        refine Run.pureG (dd := some 46) rfl rfl rfl tG (op_fld_ptr (by decide) rfl (Opd.tmp _ _ rfl)) ?_
        refine Run.loadG (dd := some 47) rfl rfl rfl tG (op_load1_flat rfl (Opd.topt _ _ _ rfl tO) tH rfl) ?_
        refine Run.pureG (dd := some 48) rfl rfl rfl tG (op_len_fz rfl (by first | exact Opd.topt _ _ _ rfl tO | exact Opd.nil _ _ (Opd.topt _ _ _ rfl tO)) (by first | exact List.length_map _ | rfl)) ?_
        refine Run.pureG (dd := some 49) rfl rfl rfl tG (op_fld_ptr (by decide) rfl (Opd.tmp _ _ rfl)) ?_
        refine Run.loadG (dd := some 50) rfl rfl rfl tG (op_load1_flat rfl (Opd.topt _ _ _ rfl tO) tH rfl) ?_
        refine Run.pureG (dd := some 51) rfl rfl rfl tG (op_len_fz rfl (by first | exact Opd.topt _ _ _ rfl tO | exact Opd.nil _ _ (Opd.topt _ _ _ rfl tO)) (by first | exact List.length_map _ | rfl)) ?_
        refine Run.pureG (dd := some 52) rfl rfl rfl tG (op_neq rfl (Opd.topt _ _ _ rfl tO) (Opd.topt _ _ _ rfl tO)) ?_
        refine Run.pure (dd := some 53) rfl rfl (op_pick_or rfl (Opd.tmp _ _ rfl) (Opd.topt _ _ _ rfl tO)) ?_
        refine Run.nil (FinR.mk ?_)
        refine nK ?_
        refine n_cond _ rfl (fun hb => ?_) (fun hb => ?_)
        · exfalso; rw [hdl, hpl, hhl, hm] at hb; simp at hb
        · clear hb
          refine nK ?_
          refine s_reg rfl ?_
          refine Run.pure (dd := some 54) rfl rfl (op_move rfl (Opd.tmp _ _ rfl)) ?_
          refine Run.pure (dd := some 55) rfl rfl (op_lss rfl (Opd.tmp _ _ rfl) (Opd.const _)) ?_
          refine Run.pure (dd := some 56) rfl rfl (op_move rfl (Opd.tmp _ _ rfl)) ?_
          refine Run.pureG (dd := some 57) rfl rfl rfl tG (op_move rfl (Opd.tmp _ _ rfl)) ?_
          refine Run.pureG (dd := some 58) rfl rfl rfl tG (op_fld_ptr (by decide) rfl (Opd.tmp _ _ rfl)) ?_
          refine Run.loadG (dd := some 59) rfl rfl rfl tG (op_load1_flat rfl (Opd.topt _ _ _ rfl tO) tH rfl) ?_
          refine Run.pureG (dd := some 60) rfl rfl rfl tG (op_len_fz rfl (by first | exact Opd.topt _ _ _ rfl tO | exact Opd.nil _ _ (Opd.topt _ _ _ rfl tO)) (by first | exact List.length_map _ | rfl)) ?_
          refine Run.pureG (dd := some 61) rfl rfl rfl tG (op_geq rfl (Opd.topt _ _ _ rfl tO) (Opd.topt _ _ _ rfl tO)) ?_
          refine Run.pure (dd := some 62) rfl rfl (op_pick_or rfl (Opd.tmp _ _ rfl) (Opd.topt _ _ _ rfl tO)) ?_
          refine Run.pure (dd := some 63) rfl rfl (op_move rfl (Opd.tmp _ _ rfl)) ?_
          refine Run.pureG (dd := some 64) rfl rfl rfl tG (op_fld_ptr (by decide) rfl (Opd.tmp _ _ rfl)) ?_
          refine Run.loadG (dd := some 65) rfl rfl rfl tG (op_load1_flat rfl (Opd.topt _ _ _ rfl tO) tH rfl) ?_
          refine Run.pureG (dd := some 66) rfl rfl rfl tG (op_move rfl (Opd.tmp _ _ rfl)) ?_
          refine Run.pureG (dd := some 67) rfl rfl rfl tG (op_idx_fz to.toNat rfl (Opd.topt _ _ _ rfl tO) (Opd.topt _ _ _ rfl tO) (by intro hgd; have hg2 : ¬ (to < 0 ∨ (g.m : Int) ≤ to) := (by rw [hdl] at hgd; simp at hgd; omega); exact ⟨by omega, hrd hg2⟩)) ?_
          refine Run.pureG (dd := some 68) rfl rfl rfl tG (op_load1_fz rfl (Opd.topt _ _ _ rfl tO) rfl) ?_
          refine Run.pureG (dd := some 69) rfl rfl rfl tG (op_lss rfl (Opd.topt _ _ _ rfl tO) (Opd.const _)) ?_
          refine Run.pure (dd := some 70) rfl rfl (op_pick_or rfl (Opd.tmp _ _ rfl) (Opd.topt _ _ _ rfl tO)) ?_
          refine Run.nil (FinR.mk ?_)
          refine nK ?_
          refine n_cond _ rfl (fun hb => ?_) (fun hb => ?_)
          · have hc : to < 0 ∨ (g.m : Int) ≤ to ∨ gt0 t.dist to.toNat < 0 := by rw [hdl] at hb; simp only [Bool.or_eq_true, decide_eq_true_eq] at hb; omega
            rw [hbad hc]
            refine nK ?_
            refine s_reg rfl ?_
            refine Run.pure (dd := some 71) rfl rfl (op_move rfl (Opd.tmp _ _ rfl)) ?_
            refine Run.pure (dd := some 72) rfl rfl (op_len_fz rfl (by first | exact Opd.tmp _ _ rfl | exact Opd.nil _ _ (Opd.tmp _ _ rfl)) (by first | exact List.length_map _ | rfl)) ?_
            refine Run.pure (dd := some 73) rfl rfl (op_eql rfl (Opd.tmp _ _ rfl) (Opd.const _)) ?_
            refine Run.pure (dd := some 74) rfl rfl (op_move rfl (Opd.tmp _ _ rfl)) ?_
            refine Run.pureG (dd := some 75) rfl rfl rfl tG (op_call_pure (fun _ => lives_c) rfl (Opd.func _) Opds.nil) ?_
            refine Run.pure (dd := some 76) rfl rfl (op_pick_and rfl (Opd.tmp _ _ rfl) (Opd.topt _ _ _ rfl tO)) ?_
            refine Run.pure (dd := some 6) rfl rfl (op_assign rfl (Opd.tmp _ _ rfl)) ?_
            refine Run.nil (FinR.mk ?_)
            refine nK ?_
            (first | exact s_o1 hC rfl tV | exact s_o2 hC rfl tV tV | exact s_o3 hC rfl tV tV tV | exact s_out0 hC rfl | exact s_outO hC rfl rfl rfl)
          · have hc : ¬ (to < 0 ∨ (g.m : Int) ≤ to ∨ gt0 t.dist to.toNat < 0) := by
              rw [hdl] at hb
              intro hc
              rw [Bool.eq_false_iff] at hb
              apply hb
              simp only [Bool.or_eq_true, decide_eq_true_eq]; omega
            clear hb hrd hbad
            obtain ⟨k, rfl⟩ : ∃ k : Nat, to = k := ⟨to.toNat, by omega⟩
            rw [Int.toNat_natCast] at hc
            have hk : k < g.m := by omega
            have hG := ht.path hk (by omega)
            generalize needL t.par g.m k = nd at *
            generalize pathL t k = p at *
            have hpn := hG.no.len
            have hp0 := hG.pos
            have r0 : (p.map encN)[0]? = some [If .i64 (n : Int)] := by rw [List.getElem?_map, hG.head]; rfl
            have rl : (p.map encN)[p.length - 1]? = some [If .i64 (k : Int)] := by rw [List.getElem?_map, hG.last]; rfl
            refine nK ?_
            refine s_reg rfl ?_
            refine Run.pure (dd := some 77) rfl rfl (op_move rfl (Opd.tmp _ _ rfl)) ?_
            refine Run.pure (dd := some 78) rfl rfl (op_len_fz rfl (by first | exact Opd.tmp _ _ rfl | exact Opd.nil _ _ (Opd.tmp _ _ rfl)) (by first | exact List.length_map _ | rfl)) ?_
            refine Run.pure (dd := some 79) rfl rfl (op_eql rfl (Opd.tmp _ _ rfl) (Opd.const _)) ?_
            refine Run.pure (dd := some 80) rfl rfl (op_move rfl (Opd.tmp _ _ rfl)) ?_
            refine Run.pureG (dd := some 81) rfl rfl rfl tG (op_move rfl (Opd.tmp _ _ rfl)) ?_
            refine Run.pureG (dd := some 82) rfl rfl rfl tG (op_idx_fz 0 rfl (Opd.topt _ _ _ rfl tO) (Opd.const _) (by intro _; exact ⟨rfl, r0⟩)) ?_
            refine Run.pureG (dd := some 83) rfl rfl rfl tG (op_load1_fz rfl (Opd.topt _ _ _ rfl tO) rfl) ?_
            refine Run.pureG (dd := some 84) rfl rfl rfl tG (op_move rfl (Opd.tmp _ _ rfl)) ?_
            refine Run.pureG (dd := some 85) rfl rfl rfl tG (op_neq rfl (Opd.topt _ _ _ rfl tO) (Opd.topt _ _ _ rfl tO)) ?_
            refine Run.pure (dd := some 86) rfl rfl (op_pick_or rfl (Opd.tmp _ _ rfl) (Opd.topt _ _ _ rfl tO)) ?_
            refine Run.pure (dd := some 87) rfl rfl (op_move rfl (Opd.tmp _ _ rfl)) ?_
            refine Run.pureG (dd := some 88) rfl rfl rfl tG (op_move rfl (Opd.tmp _ _ rfl)) ?_
            refine Run.pureG (dd := some 89) rfl rfl rfl tG (op_move rfl (Opd.tmp _ _ rfl)) ?_
            refine Run.pureG (dd := some 90) rfl rfl rfl tG (op_len_fz rfl (by first | exact Opd.topt _ _ _ rfl tO | exact Opd.nil _ _ (Opd.topt _ _ _ rfl tO)) (by first | exact List.length_map _ | rfl)) ?_
            refine Run.pureG (dd := some 91) rfl rfl rfl tG (op_sub rfl (Opd.topt _ _ _ rfl tO) (Opd.const _) tI) ?_
            refine Run.pureG (dd := some 92) rfl rfl rfl tG (op_idx_fz (p.length - 1) rfl (Opd.topt _ _ _ rfl tO) (Opd.topt _ _ _ rfl tO) (by intro _; exact ⟨by omega, rl⟩)) ?_
            refine Run.pureG (dd := some 93) rfl rfl rfl tG (op_load1_fz rfl (Opd.topt _ _ _ rfl tO) rfl) ?_
            refine Run.pureG (dd := some 94) rfl rfl rfl tG (op_move rfl (Opd.tmp _ _ rfl)) ?_
            refine Run.pureG (dd := some 95) rfl rfl rfl tG (op_neq rfl (Opd.topt _ _ _ rfl tO) (Opd.topt _ _ _ rfl tO)) ?_
            refine Run.pure (dd := some 96) rfl rfl (op_pick_or rfl (Opd.tmp _ _ rfl) (Opd.topt _ _ _ rfl tO)) ?_
            refine Run.nil (FinR.mk ?_)
            refine nK ?_
            refine n_cond _ rfl (fun hb => ?_) (fun hb => ?_)
            · exfalso; simp at hb; rw [hb] at hp0; simp at hp0
            · clear hb
              have hd0 := ht.root0
              have hgn : ∀ i, i < p.length → ∃ x : Nat, p[i]? = some (x : Int) ∧ x < g.m := fun i hi => by
                have h1 := hG.no.2 p[i] (List.getElem_mem hi)
                exact ⟨p[i].toNat, by rw [List.getElem?_eq_getElem hi]; congr 1; omega, by omega⟩
              refine nK ?_
              refine s_reg rfl ?_
              refine Run.pure (dd := some 10) rfl rfl (op_assign rfl (Opd.const _)) ?_
              refine Run.nil (FinR.mk ?_)
              refine nK ?_
              refine s_reg rfl ?_
              refine Run.pure (dd := some 11) rfl rfl (op_assign rfl (Opd.const _)) ?_
              refine Run.nil (FinR.mk ?_)
              refine nK ?_
              refine s_reg rfl ?_
              refine Run.pure (dd := some 12) rfl rfl (op_assign rfl (Opd.const _)) ?_
              refine Run.nil (FinR.mk ?_)
              refine nK ?_
              refine n_loop (ι := Nat × Nat × Int) (fun s => ([(2, IV .i64 k), (3, .ptr 0 3 0 0), (7, .ptr 1 4 0 0), (9, .fz (VI p)), (10, IV .i64 (gt0 t.dist s.2.1)), (11, IV .i64 s.2.2), (12, IV .i64 s.1)], [(0, OG g), (1, OTr t)], 2)) (fun s => 1 ≤ s.1 ∧ s.1 ≤ p.length ∧ p[s.1 - 1]? = some (s.2.1 : Int) ∧ s.2.1 < g.m ∧ 0 ≤ gt0 t.dist s.2.1 ∧ Fst g n t s.2.1 s.2.2) (fun s => p.length - s.1) (1, n, -1) ⟨Nat.le_refl _, hp0, hG.head, ht.am, by dsimp only; omega, .inl ⟨rfl, .inl rfl⟩⟩ ?_ ?_
              · refine Next.weak [0, 1] [] (by rfl) (keepsN hC _ rfl) (by repeat (first | exact trivial | refine ⟨⟨_, rfl, .inl ⟨rfl, rfl⟩⟩, ?_⟩ | refine ⟨⟨_, rfl, .inl ⟨ivEq hd0.symm, rfl⟩⟩, ?_⟩)) (by exact ⟨ent_same rfl rfl rfl tL, ⟨ent_same rfl rfl rfl tL, trivial⟩⟩) (fun _ h => by simp at h) rel_intro
              · intro ⟨i, u, first⟩ ⟨hi1, hi2, hu, hum, hu0, hF⟩ K hK
                try dsimp only at hi1 hi2 hu hum hu0 hF hK ⊢
                refine nK ?_
                refine s_reg rfl ?_
                refine Run.pure (dd := some 97) rfl rfl (op_move rfl (Opd.tmp _ _ rfl)) ?_
                refine Run.pure (dd := some 98) rfl rfl (op_move rfl (Opd.tmp _ _ rfl)) ?_
                refine Run.pure (dd := some 99) rfl rfl (op_len_fz rfl (by first | exact Opd.tmp _ _ rfl | exact Opd.nil _ _ (Opd.tmp _ _ rfl)) (by first | exact List.length_map _ | rfl)) ?_
                refine Run.pure (dd := some 100) rfl rfl (op_lss rfl (Opd.tmp _ _ rfl) (Opd.tmp _ _ rfl)) ?_
                refine Run.nil (FinR.mk ?_)
                refine nK ?_
                refine n_cond _ rfl (fun hb => ?_) (fun hb => ?_)
                · have hlt : i < p.length := by simp at hb; omega
                  obtain ⟨v, hv, hvm⟩ := hgn i hlt
                  obtain ⟨v', e1, _, hst, _⟩ := hG.stp (i - 1) u v hu (by rw [show i - 1 + 1 = i by omega]; exact hv)
                  have e2 : v' = v := by omega
                  subst e2
                  obtain ⟨_, _, _, _, ⟨c, hc1, hc2, hc3, hc4⟩, _, _⟩ := ht.stp hvm hst
                  rw [Int.toNat_natCast] at hc2
                  have hfs := ht.fst hvm hst (first := first) (by rw [Int.toNat_natCast]; exact hF)
                  have ru : (p.map encN)[i - 1]? = some [If .i64 (u : Int)] := by rw [List.getElem?_map, hu]; rfl
                  have rv : (p.map encN)[i]? = some [If .i64 (v' : Int)] := by rw [List.getElem?_map, hv]; rfl
                  have rp : (t.par.map encL)[v']? = some [VI (rowAt' t.par v')] := row_of encL t.par v' [] (by omega)
                  have hcost := rcost_c g u v' (by omega)
                  rw [hc1] at hcost
                  have hhas := has_c2 (rowAt' t.par v') u (by have := (ht.up.row v' hvm).1; omega)
                  have hsm := (ht.dist u hum).small ht.vg ht.am hum
                  refine nK ?_
                  refine s_draw mixed ?_
                  refine Run.load (dd := some 104) rfl rfl (op_loadw_flat rfl (Opd.tmp _ _ rfl) tH rfl) ?_
                  refine Run.pure (dd := some 105) rfl rfl (op_move rfl (Opd.tmp _ _ rfl)) ?_
                  refine Run.pure (dd := some 106) rfl rfl (op_move rfl (Opd.tmp _ _ rfl)) ?_
                  refine Run.pure (dd := some 107) rfl rfl (op_sub rfl (Opd.tmp _ _ rfl) (Opd.const _) tI) ?_
                  refine Run.pure (dd := some 108) rfl rfl (op_idx_fz (i - 1) rfl (Opd.tmp _ _ rfl) (Opd.tmp _ _ rfl) (by intro _; exact ⟨by omega, ru⟩)) ?_
                  refine Run.pure (dd := some 109) rfl rfl (op_load1_fz rfl (Opd.tmp _ _ rfl) rfl) ?_
                  refine Run.pure (dd := some 110) rfl rfl (op_move rfl (Opd.tmp _ _ rfl)) ?_
                  refine Run.pure (dd := some 111) rfl rfl (op_move rfl (Opd.tmp _ _ rfl)) ?_
                  refine Run.pure (dd := some 112) rfl rfl (op_idx_fz i rfl (Opd.tmp _ _ rfl) (Opd.tmp _ _ rfl) (by intro _; exact ⟨by omega, rv⟩)) ?_
                  refine Run.pure (dd := some 113) rfl rfl (op_load1_fz rfl (Opd.tmp _ _ rfl) rfl) ?_
                  refine Run.pure (dd := some 114) rfl rfl (op_call_pure (fun _ => hcost) rfl (Opd.func _) (Opds.cons _ _ _ _ (Opd.tmp _ _ rfl) (Opds.cons _ _ _ _ (Opd.tmp _ _ rfl) (Opds.cons _ _ _ _ (Opd.tmp _ _ rfl) Opds.nil)))) ?_
                  refine Run.pure (dd := some 103) rfl rfl (op_move rfl (Opd.tmp _ _ rfl)) ?_
                  refine Run.pure (dd := some 115) rfl rfl (op_extract_fz rfl (Opd.tmp _ _ rfl) rfl) ?_
                  refine Run.pure (dd := some 116) rfl rfl (op_extract_fz rfl (Opd.tmp _ _ rfl) rfl) ?_
                  refine Run.pure (dd := some 13) rfl rfl (op_assign rfl (Opd.tmp _ _ rfl)) ?_
                  refine Run.pure (dd := some 14) rfl rfl (op_assign rfl (Opd.tmp _ _ rfl)) ?_
                  refine Run.nil (FinD.mk (by kernel_rfl) ?_)
                  refine nK ?_
                  refine s_draw mixed ?_
                  refine Run.pure (dd := some 117) rfl rfl (op_move rfl (Opd.tmp _ _ rfl)) ?_
                  refine Run.pure (dd := some 118) rfl rfl (op_not rfl (Opd.tmp _ _ rfl)) ?_
                  refine Run.pure (dd := some 119) rfl rfl (op_move rfl (Opd.tmp _ _ rfl)) ?_
                  refine Run.pureG (dd := some 120) rfl rfl rfl tG (op_fld_ptr (by decide) rfl (Opd.tmp _ _ rfl)) ?_
                  refine Run.loadG (dd := some 121) rfl rfl rfl tG (op_load1_flat rfl (Opd.topt _ _ _ rfl tO) tH rfl) ?_
                  refine Run.pureG (dd := some 122) rfl rfl rfl tG (op_move rfl (Opd.tmp _ _ rfl)) ?_
                  refine Run.pureG (dd := some 123) rfl rfl rfl tG (op_move rfl (Opd.tmp _ _ rfl)) ?_
                  refine Run.pureG (dd := some 124) rfl rfl rfl tG (op_idx_fz i rfl (Opd.topt _ _ _ rfl tO) (Opd.topt _ _ _ rfl tO) (by intro _; exact ⟨by omega, rv⟩)) ?_
                  refine Run.pureG (dd := some 125) rfl rfl rfl tG (op_load1_fz rfl (Opd.topt _ _ _ rfl tO) rfl) ?_
                  refine Run.pureG (dd := some 126) rfl rfl rfl tG (op_idx_fz v' rfl (Opd.topt _ _ _ rfl tO) (Opd.topt _ _ _ rfl tO) (by intro _; exact ⟨rfl, rp⟩)) ?_
                  refine Run.pureG (dd := some 127) rfl rfl rfl tG (op_load1_fz rfl (Opd.topt _ _ _ rfl tO) rfl) ?_
                  refine Run.pureG (dd := some 128) rfl rfl rfl tG (op_move rfl (Opd.tmp _ _ rfl)) ?_
                  refine Run.pureG (dd := some 129) rfl rfl rfl tG (op_move rfl (Opd.tmp _ _ rfl)) ?_
                  refine Run.pureG (dd := some 130) rfl rfl rfl tG (op_sub rfl (Opd.topt _ _ _ rfl tO) (Opd.const _) tI) ?_
                  refine Run.pureG (dd := some 131) rfl rfl rfl tG (op_idx_fz (i - 1) rfl (Opd.topt _ _ _ rfl tO) (Opd.topt _ _ _ rfl tO) (by intro _; exact ⟨by omega, ru⟩)) ?_
                  refine Run.pureG (dd := some 132) rfl rfl rfl tG (op_load1_fz rfl (Opd.topt _ _ _ rfl tO) rfl) ?_
                  refine Run.pureG (dd := some 133) rfl rfl rfl tG (op_call_pure (fun _ => hhas) rfl (Opd.func _) (Opds.cons _ _ _ _ (Opd.topt _ _ _ rfl tO) (Opds.cons _ _ _ _ (Opd.topt _ _ _ rfl tO) Opds.nil))) ?_
                  refine Run.pureG (dd := some 134) rfl rfl rfl tG (op_not rfl (Opd.topt _ _ _ rfl tO)) ?_
                  refine Run.pure (dd := some 135) rfl rfl (op_pick_or rfl (Opd.tmp _ _ rfl) (Opd.topt _ _ _ rfl tO)) ?_
                  refine Run.nil (FinD.mk (by kernel_rfl) ?_)
                  refine nK ?_
                  refine n_cond _ rfl (fun hb => ?_) (fun hb => ?_)
                  · exfalso; rw [decide_eq_true hst] at hb; simp at hb
                  · clear hb
                    have hK1 := fun f h => hK (i + 1, v', f) ⟨by dsimp only; omega, by dsimp only; omega, by dsimp only; rw [show i + 1 - 1 = i by omega]; exact hv, hvm, by dsimp only; omega, h⟩ (by dsimp only; omega)
                    dsimp only at hK1
                    refine nK ?_
                    refine s_reg rfl ?_
                    refine Run.pure (dd := some 136) rfl rfl (op_move rfl (Opd.tmp _ _ rfl)) ?_
                    refine Run.pure (dd := some 137) rfl rfl (op_move rfl (Opd.tmp _ _ rfl)) ?_
                    refine Run.pure (dd := some 138) rfl rfl (op_add rfl (Opd.tmp _ _ rfl) (Opd.tmp _ _ rfl) tI) ?_
                    refine Run.pure (dd := some 10) rfl rfl (op_assign rfl (Opd.tmp _ _ rfl)) ?_
                    refine Run.nil (FinR.mk ?_)
                    refine nK ?_
                    refine s_draw mixed ?_
                    refine Run.pure (dd := some 139) rfl rfl (op_move rfl (Opd.tmp _ _ rfl)) ?_
                    refine Run.pure (dd := some 140) rfl rfl (op_lss rfl (Opd.tmp _ _ rfl) (Opd.const _)) ?_
                    refine Run.pure (dd := some 141) rfl rfl (op_move rfl (Opd.tmp _ _ rfl)) ?_
                    refine Run.pureG (dd := some 142) rfl rfl rfl tG (op_move rfl (Opd.tmp _ _ rfl)) ?_
                    refine Run.pureG (dd := some 143) rfl rfl rfl tG (op_move rfl (Opd.tmp _ _ rfl)) ?_
                    refine Run.pureG (dd := some 144) rfl rfl rfl tG (op_idx_fz i rfl (Opd.topt _ _ _ rfl tO) (Opd.topt _ _ _ rfl tO) (by intro _; exact ⟨by omega, rv⟩)) ?_
                    refine Run.pureG (dd := some 145) rfl rfl rfl tG (op_load1_fz rfl (Opd.topt _ _ _ rfl tO) rfl) ?_
                    refine Run.pureG (dd := some 146) rfl rfl rfl tG (op_fld_ptr (by decide) rfl (Opd.tmp _ _ rfl)) ?_
                    refine Run.loadG (dd := some 147) rfl rfl rfl tG (op_load1_flat rfl (Opd.topt _ _ _ rfl tO) tH rfl) ?_
                    refine Run.pureG (dd := some 148) rfl rfl rfl tG (op_lss rfl (Opd.topt _ _ _ rfl tO) (Opd.topt _ _ _ rfl tO)) ?_
                    refine Run.pure (dd := some 149) rfl rfl (op_pick_and rfl (Opd.tmp _ _ rfl) (Opd.topt _ _ _ rfl tO)) ?_
                    refine Run.nil (FinD.mk (by kernel_rfl) ?_)
                    refine nK ?_
                    refine n_cond _ rfl (fun hb => ?_) (fun hb => ?_)
                    · have hc2' : first < 0 ∧ (v' : Int) < g.r := by simpa using hb
                      rw [if_pos hc2'] at hfs
                      refine nK ?_
                      refine s_reg rfl ?_
                      refine Run.pure (dd := some 150) rfl rfl (op_move rfl (Opd.tmp _ _ rfl)) ?_
                      refine Run.pure (dd := some 151) rfl rfl (op_move rfl (Opd.tmp _ _ rfl)) ?_
                      refine Run.pure (dd := some 152) rfl rfl (op_idx_fz i rfl (Opd.tmp _ _ rfl) (Opd.tmp _ _ rfl) (by intro _; exact ⟨by omega, rv⟩)) ?_
                      refine Run.pure (dd := some 153) rfl rfl (op_load1_fz rfl (Opd.tmp _ _ rfl) rfl) ?_
                      refine Run.pure (dd := some 11) rfl rfl (op_assign rfl (Opd.tmp _ _ rfl)) ?_
                      refine Run.nil (FinR.mk ?_)
                      refine nK ?_
                      refine s_reg rfl ?_
                      refine Run.pure (dd := some 101) rfl rfl (op_move rfl (Opd.tmp _ _ rfl)) ?_
                      refine Run.pure (dd := some 102) rfl rfl (op_add rfl (Opd.tmp _ _ rfl) (Opd.const _) tI) ?_
                      refine Run.pure (dd := some 12) rfl rfl (op_assign rfl (Opd.tmp _ _ rfl)) ?_
                      refine Run.nil (FinR.mk ?_)
                      refine nK ?_
                      refine Next.weak [0, 1] [] (by rfl) (keepsN hC _ rfl) (by repeat (first | exact trivial | refine ⟨⟨_, rfl, .inl ⟨rfl, rfl⟩⟩, ?_⟩ | refine ⟨⟨_, rfl, .inl ⟨ivEq hc2, rfl⟩⟩, ?_⟩)) (by exact ⟨ent_same rfl rfl rfl tL, ⟨ent_same rfl rfl rfl tL, trivial⟩⟩) (fun _ h => by simp at h) (hK1 _ hfs)
                    · have hc2' : ¬ (first < 0 ∧ (v' : Int) < g.r) := by simpa using hb
                      rw [if_neg hc2'] at hfs
                      refine nK ?_
                      refine s_reg rfl ?_
                      refine Run.pure (dd := some 101) rfl rfl (op_move rfl (Opd.tmp _ _ rfl)) ?_
                      refine Run.pure (dd := some 102) rfl rfl (op_add rfl (Opd.tmp _ _ rfl) (Opd.const _) tI) ?_
                      refine Run.pure (dd := some 12) rfl rfl (op_assign rfl (Opd.tmp _ _ rfl)) ?_
                      refine Run.nil (FinR.mk ?_)
                      refine nK ?_
                      refine Next.weak [0, 1] [] (by rfl) (keepsN hC _ rfl) (by repeat (first | exact trivial | refine ⟨⟨_, rfl, .inl ⟨rfl, rfl⟩⟩, ?_⟩ | refine ⟨⟨_, rfl, .inl ⟨ivEq hc2, rfl⟩⟩, ?_⟩)) (by exact ⟨ent_same rfl rfl rfl tL, ⟨ent_same rfl rfl rfl tL, trivial⟩⟩) (fun _ h => by simp at h) (hK1 _ hfs)
                · have hie : i = p.length := by simp at hb; omega
                  subst hie
                  clear hb hK
                  have huk : u = k := by
                    rw [hG.last] at hu; injection hu with e; omega
                  subst huk
                  have rd : (t.dist.map encN)[u]? = some [If .i64 (gt0 t.dist u)] := row_of encN t.dist u 0 (by omega)
                  have rh : (t.hops.map encL)[u]? = some [VI (rowAt' t.hops u)] := row_of encL t.hops u [] (by omega)
                  have hhas := has_c2 (rowAt' t.hops u) first (by have := (ht.hopInv.ok.row u hum).len; omega)
                  have hfin : first < 0 ∨ first ∈ rowAt' t.hops u := by
                    rcases hF with ⟨h1, _⟩ | ⟨_, _, h3⟩
                    · left; omega
                    · exact .inr h3
                  refine nK ?_
                  refine s_reg rfl ?_
                  refine Run.pure (dd := some 154) rfl rfl (op_move rfl (Opd.tmp _ _ rfl)) ?_
                  refine Run.pure (dd := some 155) rfl rfl (op_fld_ptr (by decide) rfl (Opd.tmp _ _ rfl)) ?_
                  refine Run.load (dd := some 156) rfl rfl (op_load1_flat rfl (Opd.tmp _ _ rfl) tH rfl) ?_
                  refine Run.pure (dd := some 157) rfl rfl (op_move rfl (Opd.tmp _ _ rfl)) ?_
                  refine Run.pure (dd := some 158) rfl rfl (op_idx_fz u rfl (Opd.tmp _ _ rfl) (Opd.tmp _ _ rfl) (by intro _; exact ⟨rfl, rd⟩)) ?_
                  refine Run.pure (dd := some 159) rfl rfl (op_load1_fz rfl (Opd.tmp _ _ rfl) rfl) ?_
                  refine Run.pure (dd := some 160) rfl rfl (op_eql rfl (Opd.tmp _ _ rfl) (Opd.tmp _ _ rfl)) ?_
                  refine Run.pure (dd := some 161) rfl rfl (op_move rfl (Opd.tmp _ _ rfl)) ?_
                  refine Run.pureG (dd := some 162) rfl rfl rfl tG (op_move rfl (Opd.tmp _ _ rfl)) ?_
                  refine Run.pureG (dd := some 163) rfl rfl rfl tG (op_lss rfl (Opd.topt _ _ _ rfl tO) (Opd.const _)) ?_
                  refine Run.pureG (dd := some 164) rfl rfl rfl tG (op_move rfl (Opd.topt _ _ _ rfl tO)) ?_
                  refine Run.pureG (dd := some 165) rfl rfl rfl tG (op_fld_ptr (by decide) rfl (Opd.tmp _ _ rfl)) ?_
                  refine Run.loadG (dd := some 166) rfl rfl rfl tG (op_load1_flat rfl (Opd.topt _ _ _ rfl tO) tH rfl) ?_
                  refine Run.pureG (dd := some 167) rfl rfl rfl tG (op_move rfl (Opd.tmp _ _ rfl)) ?_
                  refine Run.pureG (dd := some 168) rfl rfl rfl tG (op_idx_fz u rfl (Opd.topt _ _ _ rfl tO) (Opd.topt _ _ _ rfl tO) (by intro _; exact ⟨rfl, rh⟩)) ?_
                  refine Run.pureG (dd := some 169) rfl rfl rfl tG (op_load1_fz rfl (Opd.topt _ _ _ rfl tO) rfl) ?_
                  refine Run.pureG (dd := some 170) rfl rfl rfl tG (op_move rfl (Opd.tmp _ _ rfl)) ?_
                  refine Run.pureG (dd := some 171) rfl rfl rfl tG (op_call_pure (fun _ => hhas) rfl (Opd.func _) (Opds.cons _ _ _ _ (Opd.topt _ _ _ rfl tO) (Opds.cons _ _ _ _ (Opd.topt _ _ _ rfl tO) Opds.nil))) ?_
                  refine Run.pureG (dd := some 172) rfl rfl rfl tG (op_pick_or rfl (Opd.topt _ _ _ rfl tO) (Opd.topt _ _ _ rfl tO)) ?_
                  refine Run.pure (dd := some 173) rfl rfl (op_pick_and rfl (Opd.tmp _ _ rfl) (Opd.topt _ _ _ rfl tO)) ?_
                  refine Run.pure (dd := some 174) rfl rfl (op_move rfl (Opd.tmp _ _ rfl)) ?_
                  refine Run.pureG (dd := some 175) rfl rfl rfl tG (op_call_pure (fun _ => lives_c) rfl (Opd.func _) Opds.nil) ?_
                  refine Run.pure (dd := some 176) rfl rfl (op_pick_and rfl (Opd.tmp _ _ rfl) (Opd.topt _ _ _ rfl tO)) ?_
                  refine Run.pure (dd := some 6) rfl rfl (op_assign rfl (Opd.tmp _ _ rfl)) ?_
                  refine Run.nil (FinR.mk ?_)
                  refine nK ?_
                  refine s_oB hC rfl rfl ?_
                  simp
                  exact hfin
  · have hr := run_bad g a hok hg
    refine Meets.intro Try.func6 rfl (Nat.le_of_ble_eq_true rfl) fun C hC => ?_
    simp only [List.map, argEnv, Nat.reduceAdd]
    refine nK ?_
    refine s_reg rfl ?_
    refine Run.eff (dd := some 3) rfl rfl (op_box_flat rfl (Opd.tmp _ _ rfl) tC rfl) ?_
    refine Run.pure (dd := some 6) rfl rfl (op_assign rfl (Opd.const _)) ?_
    refine Run.nil (FinR.mk ?_)
    refine nK ?_
    refine s_reg rfl ?_
    refine Run.load (dd := some 16) rfl rfl (op_loadw_flat rfl (Opd.tmp _ _ rfl) tH rfl) ?_
    refine Run.pure (dd := some 17) rfl rfl (op_move rfl (Opd.tmp _ _ rfl)) ?_
    refine Run.pure (dd := some 18) rfl rfl (op_call_pure (fun _ => hr) rfl (Opd.func _) (Opds.cons _ _ _ _ (Opd.tmp _ _ rfl) (Opds.cons _ _ _ _ (Opd.tmp _ _ rfl) Opds.nil))) ?_
    refine Run.pure (dd := some 15) rfl rfl (op_move rfl (Opd.tmp _ _ rfl)) ?_
    refine Run.pure (dd := some 19) rfl rfl (op_extract_fz rfl (Opd.tmp _ _ rfl) rfl) ?_
    refine Run.pure (dd := some 20) rfl rfl (op_extract_fz rfl (Opd.tmp _ _ rfl) rfl) ?_
    refine Run.eff (dd := some 7) rfl rfl (op_alloc rfl rfl rfl rfl) ?_
    refine Run.eff (dd := none) rfl rfl (op_store_flat rfl (Opd.tmp _ _ rfl) (Opd.tmp _ _ rfl) tC rfl rfl (by first | rfl | assumption) tS) ?_
    refine Run.pure (dd := some 8) rfl rfl (op_assign rfl (Opd.tmp _ _ rfl)) ?_
    refine Run.nil (FinR.mk ?_)
    refine nK ?_
    refine s_reg rfl ?_
    refine Run.pure (dd := some 21) rfl rfl (op_move rfl (Opd.tmp _ _ rfl)) ?_
    refine Run.pure (dd := some 22) rfl rfl (op_neq rfl (Opd.tmp _ _ rfl) (Opd.const _)) ?_
    refine Run.nil (FinR.mk ?_)
    refine nK ?_
    refine n_cond _ rfl (fun hb => ?_) (fun hb => ?_)
    · refine nK ?_
      refine s_reg rfl ?_
      refine Run.pure (dd := some 23) rfl rfl (op_call_pure (fun _ => lives_c) rfl (Opd.func _) Opds.nil) ?_
      refine Run.pure (dd := some 6) rfl rfl (op_assign rfl (Opd.tmp _ _ rfl)) ?_
      refine Run.nil (FinR.mk ?_)
      refine nK ?_
      (first | exact s_o1 hC rfl tV | exact s_o2 hC rfl tV tV | exact s_o3 hC rfl tV tV tV | exact s_out0 hC rfl | exact s_outO hC rfl rfl rfl)
    · simp at hb; omega
end Go.Proofs.Ytgbfkpcigipniaa
/- How the arguments of the rows read. -/
namespace Go.Proofs.Ytgbfkpcigipniaa
open Go Go.RT Go.Proofs Go.Pl
set_option linter.all false
variable {H : Type} {enc : TypeId × Value → H} {W : World} {ok : DataW H → Prop} {B : Nat}
theorem rdc_n : RdC ok enc Try.prog W 3 (fun fs => ∃ n, inr .i64 n ∧ fs = [If .i64 n]) := rdc_int (P := Try.prog) (t := 3) inferInstance
theorem rdc_edge (dn : DnOk H ok B) : RdC ok enc Try.prog W 41 (fun fs => ∃ e : Edg, okE e ∧ fs = encE e) :=
  (rdc_struct (P := Try.prog) (t := 41) dn Try.underlying41 (by kernel_rfl) (.cons _ _ _ _ rdc_n (.cons _ _ _ _ rdc_n (.cons _ _ _ _ rdc_n .nil)))).imp fun fs h => by
    obtain ⟨_, _, rfl, ⟨a, ha, rfl⟩, _, _, rfl, ⟨b, hb, rfl⟩, _, _, rfl, ⟨c, hc, rfl⟩, rfl⟩ := h
    exact ⟨⟨a, b, c⟩, ⟨ha, hb, hc⟩, rfl⟩
theorem rdc_edges (dn : DnOk H ok B) : RdC ok enc Try.prog W 22 (fun fs => ∃ l : List Edg, okEs l ∧ l.length ≤ B ∧ fs = [VE l]) :=
  (rdc_slice (P := Try.prog) (t := 22) (e := 41) dn inferInstance inferInstance (by decide) (rdc_edge dn)).imp fun fs h => by
    obtain ⟨rows, hr, hl, rfl⟩ := h
    obtain ⟨l, rfl, ho⟩ := rows_of (fun fs h => h) hr
    exact ⟨l, ho, by simpa using hl, rfl⟩
theorem rdc_graph (dn : DnOk H ok B) : RdC ok enc Try.prog W 24 (fun fs => ∃ g : Gr, okG g ∧ g.es.length ≤ B ∧ fs = encG g) :=
  (rdc_struct (P := Try.prog) (t := 24) dn Try.underlying24 (by kernel_rfl) (.cons _ _ _ _ rdc_n (.cons _ _ _ _ rdc_n (.cons _ _ _ _ (rdc_edges dn) .nil)))).imp fun fs h => by
    obtain ⟨_, _, rfl, ⟨a, ha, rfl⟩, _, _, rfl, ⟨b, hb, rfl⟩, _, _, rfl, ⟨l, hl, hB, rfl⟩, rfl⟩ := h
    exact ⟨⟨a, b, l⟩, ⟨ha, hb, hl⟩, hB, rfl⟩
end Go.Proofs.Ytgbfkpcigipniaa
