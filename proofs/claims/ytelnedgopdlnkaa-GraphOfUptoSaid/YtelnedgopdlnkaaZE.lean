/- A part of the proof: GP7, G12, LG. -/
import Derived.Test.YtelnedgopdlnkaaZD
set_option linter.all false
/- The valid graph of edges, as the reference puts it together. -/
namespace Go.Pl
open Go.RT
set_option linter.all false
def ofStep (s : List Edg) (e : Edg) : List Edg :=
  match s[(fndI s e.f e.t).toNat]? with
  | some x => if fndI s e.f e.t < 0 then putR e false s else if e.c < x.c then s.set (fndI s e.f e.t).toNat ⟨x.f, x.t, e.c⟩ else s
  | none => putR e false s
theorem fnd_none (f t : Int) : ∀ (l : List Edg) (k : Nat), fndAt f t k l = -1 → ∀ x ∈ l, ¬ (x.f = f ∧ x.t = t)
  | [], _, _, x, hx => by cases hx
  | e :: l, k, h, x, hx => by
    simp only [fndAt] at h
    split at h
    · omega
    · rename_i hb
      rcases List.mem_cons.1 hx with rfl | hx
      · intro hc; apply hb; simp [isB, hc.1, hc.2]
      · exact fnd_none f t l (k + 1) h x hx
theorem fnd_some (f t : Int) : ∀ (l : List Edg) (k j : Nat) (h : j < l.length), fndAt f t k l = ((k + j : Nat) : Int) → l[j].f = f ∧ l[j].t = t
  | e :: l, k, j, hj, h => by
    simp only [fndAt] at h
    split at h
    · rename_i hb
      have : j = 0 := by omega
      subst this
      simpa [isB] using hb
    · cases j with
      | zero => rcases fndAt_rng f t l (k + 1) with h1 | ⟨j, _, h2⟩ <;> omega
      | succ j =>
        have := fnd_some f t l (k + 1) j (by simpa using hj) (by rw [h]; omega)
        simpa using this
theorem putR_true (e : Edg) : ∀ l, putR e true l = l
  | [] => rfl
  | x :: l => by simp [putR, putR_true e l]
theorem putR_spec (e : Edg) : ∀ (l : List Edg), AscK l → (∀ x ∈ l, ¬ (x.f = e.f ∧ x.t = e.t)) → AscK (putR e false l) ∧ ∀ x, x ∈ putR e false l ↔ x = e ∨ x ∈ l
  | [], _, _ => by simp [putR, AscK]
  | y :: l, h, hn => by
    obtain ⟨h1, h2⟩ := List.pairwise_cons.1 h
    have hy := hn y (List.mem_cons_self ..)
    by_cases hb : befB e y = true
    · have e1 : putR e false (y :: l) = e :: y :: l := by simp [putR, hb, putR_true]
      rw [e1]
      have hlt := (ltK_bef e y).1 hb
      refine ⟨List.pairwise_cons.2 ⟨fun x hx => ?_, h⟩, fun x => by simp⟩
      rcases List.mem_cons.1 hx with rfl | hx
      · exact hlt
      · have := h1 x hx; unfold ltK at *; omega
    · have hb2 : befB e y = false := by simpa using hb
      have e1 : putR e false (y :: l) = y :: putR e false l := by simp [putR, hb2]
      obtain ⟨i1, i2⟩ := putR_spec e l h2 (fun x hx => hn x (List.mem_cons_of_mem _ hx))
      rw [e1]
      have hlt : ltK y e := by
        have : ¬ ltK e y := fun hh => hb ((ltK_bef e y).2 hh)
        unfold ltK at *; omega
      refine ⟨List.pairwise_cons.2 ⟨fun x hx => ?_, i1⟩, fun x => by rw [List.mem_cons, i2, List.mem_cons]; constructor <;> (intro h; rcases h with h | h | h <;> simp [h])⟩
      rcases (i2 x).1 hx with rfl | hx
      · exact hlt
      · exact h1 x hx
theorem ofStep_least {l s : List Edg} {e : Edg} (h : Least l s) : Least (l ++ [e]) (ofStep s e) := by
  rcases fndAt_rng e.f e.t s 0 with h0 | ⟨j, hj, h0⟩
  · have hnone := fnd_none e.f e.t s 0 h0
    have hs : ofStep s e = putR e false s := by
      unfold ofStep
      have hlt : fndI s e.f e.t < 0 := by show fndAt e.f e.t 0 s < 0; omega
      split
      · rw [if_pos hlt]
      · rfl
    rw [hs]
    obtain ⟨p1, p2⟩ := putR_spec e s h.asc hnone
    refine ⟨p1, fun x hx => ?_, fun x hx y hy g1 g2 => ?_, fun y hy => ?_⟩
    · rcases (p2 x).1 hx with rfl | hx
      · simp
      · exact List.mem_append.2 (.inl (h.sub x hx))
    · rcases (p2 x).1 hx with rfl | hx2
      · rcases List.mem_append.1 hy with hy | hy
        · obtain ⟨z, hz, z1, z2⟩ := h.all y hy
          exact absurd ⟨by omega, by omega⟩ (hnone z hz)
        · have : y = x := by simpa using hy
          rw [this]; exact Int.le_refl _
      · rcases List.mem_append.1 hy with hy | hy
        · exact h.min x hx2 y hy g1 g2
        · have : y = e := by simpa using hy
          subst this
          exact absurd ⟨g1.symm, g2.symm⟩ (hnone x hx2)
    · rcases List.mem_append.1 hy with hy | hy
      · obtain ⟨z, hz, z1, z2⟩ := h.all y hy
        exact ⟨z, (p2 z).2 (.inr hz), z1, z2⟩
      · have : y = e := by simpa using hy
        subst this
        exact ⟨y, (p2 y).2 (.inl rfl), rfl, rfl⟩
  · have h0' : fndI s e.f e.t = (j : Int) := by show fndAt e.f e.t 0 s = _; omega
    obtain ⟨k1, k2⟩ := fnd_some e.f e.t s 0 j hj (by omega)
    have hpos : ¬ ((j : Int) < 0) := by omega
    have hs : ofStep s e = if e.c < s[j].c then s.set j ⟨s[j].f, s[j].t, e.c⟩ else s := by
      unfold ofStep
      rw [h0']
      simp only [Int.toNat_natCast, List.getElem?_eq_getElem hj, hpos, if_false]
    rw [hs]
    have hmj := List.getElem_mem hj
    by_cases hc : e.c < s[j].c
    · rw [if_pos hc]
      have hmem : ∀ x, x ∈ s.set j ⟨s[j].f, s[j].t, e.c⟩ → x = ⟨s[j].f, s[j].t, e.c⟩ ∨ (x ∈ s ∧ ¬ (x.f = e.f ∧ x.t = e.t)) := fun x hx => by
        obtain ⟨i, hi, rfl⟩ := List.mem_iff_getElem.1 hx
        rw [List.getElem_set]
        split
        · exact .inl rfl
        · rename_i hne
          rw [List.length_set] at hi
          refine .inr ⟨List.getElem_mem hi, fun hk => ?_⟩
          have hp := List.pairwise_iff_getElem.1 h.asc
          rcases Nat.lt_trichotomy i j with hij | hij | hij
          · have := hp i j hi hj hij; unfold ltK at this; omega
          · exact hne hij.symm
          · have := hp j i hj hi hij; unfold ltK at this; omega
      have hin : (⟨s[j].f, s[j].t, e.c⟩ : Edg) = e := by cases e; simp only at *; simp [k1, k2]
      refine ⟨?_, fun x hx => ?_, fun x hx y hy g1 g2 => ?_, fun y hy => ?_⟩
      · show (s.set j _).Pairwise ltK
        rw [List.pairwise_iff_getElem]
        intro a b ha hb hab
        rw [List.length_set] at ha hb
        have hp := List.pairwise_iff_getElem.1 h.asc a b ha hb hab
        rw [List.getElem_set, List.getElem_set]
        unfold ltK at *
        split <;> split <;> (try subst_vars) <;> (try simp only at *) <;> omega
      · rcases hmem x hx with rfl | ⟨hx, _⟩
        · rw [hin]; simp
        · exact List.mem_append.2 (.inl (h.sub x hx))
      · rcases hmem x hx with rfl | ⟨hx, hne⟩
        · rcases List.mem_append.1 hy with hy | hy
          · have := h.min _ hmj y hy g1 g2; simp only at *; omega
          · have : y = e := by simpa using hy
            rw [this]; exact Int.le_refl _
        · rcases List.mem_append.1 hy with hy | hy
          · exact h.min x hx y hy g1 g2
          · have : y = e := by simpa using hy
            subst this
            exact absurd ⟨g1.symm, g2.symm⟩ hne
      · have hnew : (⟨s[j].f, s[j].t, e.c⟩ : Edg) ∈ s.set j ⟨s[j].f, s[j].t, e.c⟩ := List.mem_iff_getElem.2 ⟨j, by simpa using hj, by simp⟩
        rcases List.mem_append.1 hy with hy | hy
        · obtain ⟨z, hz, z1, z2⟩ := h.all y hy
          by_cases hzk : z.f = e.f ∧ z.t = e.t
          · exact ⟨_, hnew, by simp only; omega, by simp only; omega⟩
          · refine ⟨z, ?_, z1, z2⟩
            obtain ⟨i, hi, rfl⟩ := List.mem_iff_getElem.1 hz
            refine List.mem_iff_getElem.2 ⟨i, by simpa using hi, ?_⟩
            rw [List.getElem_set, if_neg (fun e2 => by subst e2; exact hzk ⟨k1, k2⟩)]
        · have : y = e := by simpa using hy
          exact ⟨_, hnew, by rw [this]; exact k1, by rw [this]; exact k2⟩
    · rw [if_neg hc]
      refine ⟨h.asc, fun x hx => List.mem_append.2 (.inl (h.sub x hx)), fun x hx y hy g1 g2 => ?_, fun y hy => ?_⟩
      · rcases List.mem_append.1 hy with hy | hy
        · exact h.min x hx y hy g1 g2
        · have hye : y = e := by simpa using hy
          subst hye
          have hxj : x = s[j] := by
            obtain ⟨i, hi, rfl⟩ := List.mem_iff_getElem.1 hx
            have hp := List.pairwise_iff_getElem.1 h.asc
            rcases Nat.lt_trichotomy i j with hij | hij | hij
            · have := hp i j hi hj hij; unfold ltK at this; omega
            · subst hij; rfl
            · have := hp j i hj hi hij; unfold ltK at this; omega
          rw [hxj]; omega
      · rcases List.mem_append.1 hy with hy | hy
        · exact h.all y hy
        · have : y = e := by simpa using hy
          exact ⟨s[j], hmj, by rw [this]; exact k1, by rw [this]; exact k2⟩
def ofR (l : List Edg) : List Edg := l.foldl ofStep []
theorem ofR_least (l : List Edg) : Least l (ofR l) := by
  have key : ∀ (l pre s : List Edg), Least pre s → Least (pre ++ l) (l.foldl ofStep s) := by
    intro l
    induction l with
    | nil => intro pre s h; simpa using h
    | cons e l ih => intro pre s h; have := ih (pre ++ [e]) (ofStep s e) (ofStep_least h); simpa using this
  exact key l [] [] ⟨by simp [AscK], by simp, by simp, by simp⟩
theorem ofR_eq (l : List Edg) : ofR l = ofL l := (ofR_least l).uniq (ofL_least l)
theorem ofR_succ (l : List Edg) (i : Nat) (h : i < l.length) : ofR (l.take (i + 1)) = ofStep (ofR (l.take i)) l[i] := by
  unfold ofR; rw [List.take_succ_eq_append_getElem h, List.foldl_append]; rfl
theorem ofR_len (l : List Edg) : (ofR l).length ≤ l.length := by rw [ofR_eq]; exact ofL_len l
end Go.Pl
namespace Go.Proofs.Ytelnedgopdlnkaa
open Go Go.RT Go.Proofs Go.Pl
set_option linter.all false
set_option maxRecDepth 20000
theorem put_f (l : List Edg) (e : Edg) (hn : l.length ≤ 2000000) : Meets Try.prog 50 ([VE l, .agg (encE e)].map PV.fz) 0 [] (.sl 0 3 0 (putR e false l).length) [(0, OE (putR e false l))] 1 := by
  have hlen := putR_len e l false
  refine Meets.intro Try.func50 rfl (Nat.le_of_ble_eq_true rfl) fun C hC => ?_
  simp only [List.map, argEnv, Nat.reduceAdd]
  refine nK ?_
  refine s_reg rfl ?_
  first | refine Run.eff (dd := some 3) rfl rfl (op_box_flat rfl (Opd.tmp _ _ rfl) tC rfl) ?_ | refine Run.eff (dd := some 3) rfl rfl (op_box_refs rfl (Opd.tmp _ _ rfl) tP rfl) ?_
  first | refine Run.pure (dd := some 4) rfl rfl (op_assign rfl (Opd.const _)) ?_ | refine Run.pure (dd := some 4) rfl rfl (op_junk (.inr rfl)) ?_
  refine Run.nil (FinR.mk ?_)
  refine nK ?_
  refine s_reg rfl ?_
  refine Run.eff (dd := some 8) rfl rfl (op_buildSlice_own rfl (RowsF.nil _) rfl rfl rfl) ?_
  first | refine Run.pure (dd := some 5) rfl rfl (op_assign rfl (Opd.tmp _ _ rfl)) ?_ | refine Run.pure (dd := some 5) rfl rfl (op_junk (.inr rfl)) ?_
  refine Run.nil (FinR.mk ?_)
  refine nK ?_
  refine s_reg rfl ?_
  first | refine Run.pure (dd := some 6) rfl rfl (op_assign rfl (Opd.const _)) ?_ | refine Run.pure (dd := some 6) rfl rfl (op_junk (.inr rfl)) ?_
  refine Run.nil (FinR.mk ?_)
  refine nK ?_
  refine s_reg rfl ?_
  first | refine Run.pure (dd := some 7) rfl rfl (op_assign rfl (Opd.const _)) ?_ | refine Run.pure (dd := some 7) rfl rfl (op_junk (.inr rfl)) ?_
  refine Run.nil (FinR.mk ?_)
  refine nK ?_
  refine n_loop (ι := Nat × Bool × List Edg) (fun g => ([(0, .fz (VE l)), (3, .ptr 0 3 0 0), (5, .sl 1 3 0 g.2.2.length), (6, BV g.2.1), (7, IV .i64 g.1)], [(0, some (.flat 3 [encE e])), (1, OE g.2.2)], 2)) (fun g => g.1 ≤ l.length ∧ g.2.2 ++ putR e g.2.1 (l.drop g.1) = putR e false l) (fun g => l.length - g.1) (0, false, []) ⟨Nat.zero_le _, rfl⟩ ?_ ?_
  · refine Next.weakS [3, 5] [] (by rfl) (by first | exact keeps0 hC _ | exact keepsN hC _ rfl) (by repeat (first | exact trivial | refine ⟨⟨_, rfl, .inl ⟨rfl, rfl⟩⟩, ?_⟩ | refine ⟨⟨_, rfl, .inl ⟨slEq rfl tN, rfl⟩⟩, ?_⟩ | refine ⟨⟨_, rfl, .inl ⟨ivEq tX, rfl⟩⟩, ?_⟩)) (by repeat (first | exact trivial | refine ⟨ent_same rfl rfl rfl tL, ?_⟩ | refine ⟨ent_same rfl rfl (rfEq rfl tU) tL, ?_⟩ | refine ⟨ent_same rfl rfl (flEq rfl (by first | (simp; done) | (simp; omega) | (simp [encE, encN, encB]; done) | simp [maxC, minC])) trivial, ?_⟩)) rfl (rel_intro)
  · intro ⟨i, d, out⟩ ⟨hi, ho⟩ K hK
    dsimp only at hi ho ⊢
    have hol : out.length ≤ l.length + 1 := by rw [← ho] at hlen; simp at hlen; omega
    refine nK ?_
    refine s_reg rfl ?_
    first | refine Run.pure (dd := some 9) rfl rfl (op_move rfl (Opd.tmp _ _ rfl)) ?_ | refine Run.pure (dd := some 9) rfl rfl (op_junk (.inl rfl)) ?_
    first | refine Run.pure (dd := some 10) rfl rfl (op_move rfl (Opd.tmp _ _ rfl)) ?_ | refine Run.pure (dd := some 10) rfl rfl (op_junk (.inl rfl)) ?_
    first | refine Run.pure (dd := some 11) rfl rfl (op_len_fz rfl (by first | exact Opd.tmp _ _ rfl | exact Opd.nil _ _ (Opd.tmp _ _ rfl)) (by first | exact List.length_map _ | rfl)) ?_ | refine Run.pure (dd := some 11) rfl rfl (op_len_sl rfl (Opd.tmp _ _ rfl)) ?_
    refine Run.pure (dd := some 12) rfl rfl (op_lss rfl (Opd.tmp _ _ rfl) (Opd.tmp _ _ rfl)) ?_
    refine Run.nil (FinR.mk ?_)
    refine nK ?_
    refine n_cond _ rfl (fun hb => ?_) (fun hb => ?_)
    · have hlt : i < l.length := by simp at hb; omega
      have hr1 := row_at' encE l i hlt
      rw [List.drop_eq_getElem_cons hlt] at ho
      simp only [putR] at ho
      have hK1 := fun d' o' h => hK (i + 1, d', o') ⟨by dsimp only; omega, h⟩ (by dsimp only; omega)
      generalize l[i] = x at *
      refine nK ?_
      refine s_draw mixed ?_
      first | refine Run.pure (dd := some 15) rfl rfl (op_move rfl (Opd.tmp _ _ rfl)) ?_ | refine Run.pure (dd := some 15) rfl rfl (op_junk (.inl rfl)) ?_
      refine Run.pure (dd := some 16) rfl rfl (op_not rfl (Opd.tmp _ _ rfl)) ?_
      first | refine Run.pure (dd := some 17) rfl rfl (op_move rfl (Opd.tmp _ _ rfl)) ?_ | refine Run.pure (dd := some 17) rfl rfl (op_junk (.inl rfl)) ?_
      first | refine Run.loadG (dd := some 18) rfl rfl rfl tG (op_loadw_flat rfl (Opd.tmp _ _ rfl) tH rfl) ?_ | refine Run.pureG (dd := some 18) rfl rfl rfl tG (op_loadw_fz rfl (Opd.tmp _ _ rfl) rfl) ?_ | refine Run.loadG (dd := some 18) rfl rfl rfl tG (op_loadn_flat rfl (Opd.tmp _ _ rfl) tH tR tR) ?_ | refine Run.pureG (dd := some 18) rfl rfl rfl tG (op_loadn_fz rfl (Opd.tmp _ _ rfl) tR) ?_ | refine Run.loadG (dd := some 18) rfl rfl rfl tG (op_loadn_refs rfl (Opd.tmp _ _ rfl) tH tR tR) ?_
      first | refine Run.pureG (dd := some 19) rfl rfl rfl tG (op_move rfl (Opd.tmp _ _ rfl)) ?_ | refine Run.pureG (dd := some 19) rfl rfl rfl tG (op_junk (.inl rfl)) ?_
      first | refine Run.pureG (dd := some 20) rfl rfl rfl tG (op_move rfl (Opd.tmp _ _ rfl)) ?_ | refine Run.pureG (dd := some 20) rfl rfl rfl tG (op_junk (.inl rfl)) ?_
      first | refine Run.pureG (dd := some 21) rfl rfl rfl tG (op_idx_sl0 _ rfl (Opd.topt _ _ _ rfl tO) (Opd.topt _ _ _ rfl tO) tD) ?_ | refine Run.pureG (dd := some 21) rfl rfl rfl tG (op_idx_fz _ rfl (Opd.topt _ _ _ rfl tO) (Opd.topt _ _ _ rfl tO) tF) ?_
      first | refine Run.loadG (dd := some 22) rfl rfl rfl tG (op_loadw_flat rfl (Opd.topt _ _ _ rfl tO) tH rfl) ?_ | refine Run.pureG (dd := some 22) rfl rfl rfl tG (op_loadw_fz rfl (Opd.topt _ _ _ rfl tO) rfl) ?_ | refine Run.loadG (dd := some 22) rfl rfl rfl tG (op_loadn_flat rfl (Opd.topt _ _ _ rfl tO) tH tR tR) ?_ | refine Run.pureG (dd := some 22) rfl rfl rfl tG (op_loadn_fz rfl (Opd.topt _ _ _ rfl tO) tR) ?_ | refine Run.loadG (dd := some 22) rfl rfl rfl tG (op_loadn_refs rfl (Opd.topt _ _ _ rfl tO) tH tR tR) ?_
      refine Run.pureG (dd := some 23) rfl rfl rfl tG (op_call_pure (fun _ => before_c _ _) rfl (Opd.func _) (Opds.cons _ _ _ _ (Opd.topt _ _ _ rfl tO) (Opds.cons _ _ _ _ (Opd.topt _ _ _ rfl tO) Opds.nil))) ?_
      refine Run.pure (dd := some 24) rfl rfl (op_pick_and rfl (Opd.tmp _ _ rfl) (Opd.topt _ _ _ rfl tO)) ?_
      refine Run.nil (FinD.mk (by kernel_rfl) ?_)
      refine nK ?_
      refine n_cond _ rfl (fun hb => ?_) (fun hb => ?_)
      · have hd : d = false ∧ befB e x = true := by simpa using hb
        obtain ⟨rfl, hx⟩ := hd
        simp only [hx, Bool.not_false, Bool.and_self, if_true, Bool.or_true] at ho
        refine nK ?_
        refine s_reg rfl ?_
        first | refine Run.pure (dd := some 25) rfl rfl (op_move rfl (Opd.tmp _ _ rfl)) ?_ | refine Run.pure (dd := some 25) rfl rfl (op_junk (.inl rfl)) ?_
        first | refine Run.load (dd := some 26) rfl rfl (op_loadw_flat rfl (Opd.tmp _ _ rfl) tH rfl) ?_ | refine Run.pure (dd := some 26) rfl rfl (op_loadw_fz rfl (Opd.tmp _ _ rfl) rfl) ?_ | refine Run.load (dd := some 26) rfl rfl (op_loadn_flat rfl (Opd.tmp _ _ rfl) tH tR tR) ?_ | refine Run.pure (dd := some 26) rfl rfl (op_loadn_fz rfl (Opd.tmp _ _ rfl) tR) ?_ | refine Run.load (dd := some 26) rfl rfl (op_loadn_refs rfl (Opd.tmp _ _ rfl) tH tR tR) ?_
        refine Run.pure (dd := some 27) rfl rfl (op_buildSlice_fz rfl (RowsF.cons _ _ _ _ _ _ (Opd.tmp _ _ rfl) tC (by rfl) (RowsF.nil _)) rfl rfl) ?_
        first | refine Run.eff (dd := some 28) rfl rfl (op_append_own0 rfl (Opd.tmp _ _ rfl) (Opd.tmp _ _ rfl) rfl (by first | rfl | simp) rfl (by first | rfl | simp) rfl rfl tB tB) ?_ | refine Run.eff (dd := some 28) rfl rfl (op_append rfl (Opd.tmp _ _ rfl) (by first | exact Opd.tmp _ _ rfl | exact Opd.nil _ _ (Opd.tmp _ _ rfl)) rfl (by first | rfl | simp) rfl rfl tB tB) ?_
        first | refine Run.pure (dd := some 5) rfl rfl (op_assign rfl (Opd.tmp _ _ rfl)) ?_ | refine Run.pure (dd := some 5) rfl rfl (op_junk (.inr rfl)) ?_
        refine Run.nil (FinR.mk ?_)
        refine nK ?_
        refine s_reg rfl ?_
        first | refine Run.pure (dd := some 6) rfl rfl (op_assign rfl (Opd.const _)) ?_ | refine Run.pure (dd := some 6) rfl rfl (op_junk (.inr rfl)) ?_
        refine Run.nil (FinR.mk ?_)
        refine nK ?_
        refine s_reg rfl ?_
        first | refine Run.pure (dd := some 29) rfl rfl (op_move rfl (Opd.tmp _ _ rfl)) ?_ | refine Run.pure (dd := some 29) rfl rfl (op_junk (.inl rfl)) ?_
        first | refine Run.pure (dd := some 30) rfl rfl (op_move rfl (Opd.tmp _ _ rfl)) ?_ | refine Run.pure (dd := some 30) rfl rfl (op_junk (.inl rfl)) ?_
        first | refine Run.pure (dd := some 31) rfl rfl (op_move rfl (Opd.tmp _ _ rfl)) ?_ | refine Run.pure (dd := some 31) rfl rfl (op_junk (.inl rfl)) ?_
        first | refine Run.pure (dd := some 32) rfl rfl (op_idx_sl0 _ rfl (Opd.tmp _ _ rfl) (Opd.tmp _ _ rfl) tD) ?_ | refine Run.pure (dd := some 32) rfl rfl (op_idx_fz _ rfl (Opd.tmp _ _ rfl) (Opd.tmp _ _ rfl) tF) ?_
        first | refine Run.load (dd := some 33) rfl rfl (op_loadw_flat rfl (Opd.tmp _ _ rfl) tH rfl) ?_ | refine Run.pure (dd := some 33) rfl rfl (op_loadw_fz rfl (Opd.tmp _ _ rfl) rfl) ?_ | refine Run.load (dd := some 33) rfl rfl (op_loadn_flat rfl (Opd.tmp _ _ rfl) tH tR tR) ?_ | refine Run.pure (dd := some 33) rfl rfl (op_loadn_fz rfl (Opd.tmp _ _ rfl) tR) ?_ | refine Run.load (dd := some 33) rfl rfl (op_loadn_refs rfl (Opd.tmp _ _ rfl) tH tR tR) ?_
        refine Run.pure (dd := some 34) rfl rfl (op_buildSlice_fz rfl (RowsF.cons _ _ _ _ _ _ (Opd.tmp _ _ rfl) tC (by rfl) (RowsF.nil _)) rfl rfl) ?_
        first | refine Run.eff (dd := some 35) rfl rfl (op_append_own0 rfl (Opd.tmp _ _ rfl) (Opd.tmp _ _ rfl) rfl (by first | rfl | simp) rfl (by first | rfl | simp) rfl rfl tB tB) ?_ | refine Run.eff (dd := some 35) rfl rfl (op_append rfl (Opd.tmp _ _ rfl) (by first | exact Opd.tmp _ _ rfl | exact Opd.nil _ _ (Opd.tmp _ _ rfl)) rfl (by first | rfl | simp) rfl rfl tB tB) ?_
        first | refine Run.pure (dd := some 5) rfl rfl (op_assign rfl (Opd.tmp _ _ rfl)) ?_ | refine Run.pure (dd := some 5) rfl rfl (op_junk (.inr rfl)) ?_
        refine Run.nil (FinR.mk ?_)
        refine nK ?_
        refine s_reg rfl ?_
        first | refine Run.pure (dd := some 13) rfl rfl (op_move rfl (Opd.tmp _ _ rfl)) ?_ | refine Run.pure (dd := some 13) rfl rfl (op_junk (.inl rfl)) ?_
        refine Run.pure (dd := some 14) rfl rfl (op_add rfl (Opd.tmp _ _ rfl) (Opd.const _) tI) ?_
        first | refine Run.pure (dd := some 7) rfl rfl (op_assign rfl (Opd.tmp _ _ rfl)) ?_ | refine Run.pure (dd := some 7) rfl rfl (op_junk (.inr rfl)) ?_
        refine Run.nil (FinR.mk ?_)
        refine nK ?_
        refine Next.weakS [3, 5] [] (by rfl) (by first | exact keeps0 hC _ | exact keepsN hC _ rfl) (by repeat (first | exact trivial | refine ⟨⟨_, rfl, .inl ⟨rfl, rfl⟩⟩, ?_⟩ | refine ⟨⟨_, rfl, .inl ⟨slEq rfl tN, rfl⟩⟩, ?_⟩ | refine ⟨⟨_, rfl, .inl ⟨ivEq tX, rfl⟩⟩, ?_⟩)) (by repeat (first | exact trivial | refine ⟨ent_same rfl rfl rfl tL, ?_⟩ | refine ⟨ent_same rfl rfl (rfEq rfl tU) tL, ?_⟩ | refine ⟨ent_same rfl rfl (flEq rfl (by first | (simp; done) | (simp; omega) | (simp [encE, encN, encB]; done) | simp [maxC, minC])) trivial, ?_⟩)) rfl ((hK1 true (out ++ [e] ++ [x]) (by rw [← ho]; simp)))
      · have hd : (!d && befB e x) = false := hb
        rw [hd] at ho
        simp only [Bool.false_eq_true, if_false, List.nil_append, Bool.or_false] at ho
        refine nK ?_
        refine s_reg rfl ?_
        first | refine Run.pure (dd := some 29) rfl rfl (op_move rfl (Opd.tmp _ _ rfl)) ?_ | refine Run.pure (dd := some 29) rfl rfl (op_junk (.inl rfl)) ?_
        first | refine Run.pure (dd := some 30) rfl rfl (op_move rfl (Opd.tmp _ _ rfl)) ?_ | refine Run.pure (dd := some 30) rfl rfl (op_junk (.inl rfl)) ?_
        first | refine Run.pure (dd := some 31) rfl rfl (op_move rfl (Opd.tmp _ _ rfl)) ?_ | refine Run.pure (dd := some 31) rfl rfl (op_junk (.inl rfl)) ?_
        first | refine Run.pure (dd := some 32) rfl rfl (op_idx_sl0 _ rfl (Opd.tmp _ _ rfl) (Opd.tmp _ _ rfl) tD) ?_ | refine Run.pure (dd := some 32) rfl rfl (op_idx_fz _ rfl (Opd.tmp _ _ rfl) (Opd.tmp _ _ rfl) tF) ?_
        first | refine Run.load (dd := some 33) rfl rfl (op_loadw_flat rfl (Opd.tmp _ _ rfl) tH rfl) ?_ | refine Run.pure (dd := some 33) rfl rfl (op_loadw_fz rfl (Opd.tmp _ _ rfl) rfl) ?_ | refine Run.load (dd := some 33) rfl rfl (op_loadn_flat rfl (Opd.tmp _ _ rfl) tH tR tR) ?_ | refine Run.pure (dd := some 33) rfl rfl (op_loadn_fz rfl (Opd.tmp _ _ rfl) tR) ?_ | refine Run.load (dd := some 33) rfl rfl (op_loadn_refs rfl (Opd.tmp _ _ rfl) tH tR tR) ?_
        refine Run.pure (dd := some 34) rfl rfl (op_buildSlice_fz rfl (RowsF.cons _ _ _ _ _ _ (Opd.tmp _ _ rfl) tC (by rfl) (RowsF.nil _)) rfl rfl) ?_
        first | refine Run.eff (dd := some 35) rfl rfl (op_append_own0 rfl (Opd.tmp _ _ rfl) (Opd.tmp _ _ rfl) rfl (by first | rfl | simp) rfl (by first | rfl | simp) rfl rfl tB tB) ?_ | refine Run.eff (dd := some 35) rfl rfl (op_append rfl (Opd.tmp _ _ rfl) (by first | exact Opd.tmp _ _ rfl | exact Opd.nil _ _ (Opd.tmp _ _ rfl)) rfl (by first | rfl | simp) rfl rfl tB tB) ?_
        first | refine Run.pure (dd := some 5) rfl rfl (op_assign rfl (Opd.tmp _ _ rfl)) ?_ | refine Run.pure (dd := some 5) rfl rfl (op_junk (.inr rfl)) ?_
        refine Run.nil (FinR.mk ?_)
        refine nK ?_
        refine s_reg rfl ?_
        first | refine Run.pure (dd := some 13) rfl rfl (op_move rfl (Opd.tmp _ _ rfl)) ?_ | refine Run.pure (dd := some 13) rfl rfl (op_junk (.inl rfl)) ?_
        refine Run.pure (dd := some 14) rfl rfl (op_add rfl (Opd.tmp _ _ rfl) (Opd.const _) tI) ?_
        first | refine Run.pure (dd := some 7) rfl rfl (op_assign rfl (Opd.tmp _ _ rfl)) ?_ | refine Run.pure (dd := some 7) rfl rfl (op_junk (.inr rfl)) ?_
        refine Run.nil (FinR.mk ?_)
        refine nK ?_
        refine Next.weakS [3, 5] [] (by rfl) (by first | exact keeps0 hC _ | exact keepsN hC _ rfl) (by repeat (first | exact trivial | refine ⟨⟨_, rfl, .inl ⟨rfl, rfl⟩⟩, ?_⟩ | refine ⟨⟨_, rfl, .inl ⟨slEq rfl tN, rfl⟩⟩, ?_⟩ | refine ⟨⟨_, rfl, .inl ⟨ivEq tX, rfl⟩⟩, ?_⟩)) (by repeat (first | exact trivial | refine ⟨ent_same rfl rfl rfl tL, ?_⟩ | refine ⟨ent_same rfl rfl (rfEq rfl tU) tL, ?_⟩ | refine ⟨ent_same rfl rfl (flEq rfl (by first | (simp; done) | (simp; omega) | (simp [encE, encN, encB]; done) | simp [maxC, minC])) trivial, ?_⟩)) rfl ((hK1 d (out ++ [x]) (by rw [← ho]; simp)))
    · have hie : i = l.length := by simp at hb; omega
      rw [hie, List.drop_length] at ho
      simp only [putR] at ho
      refine nK ?_
      refine s_reg rfl ?_
      first | refine Run.pure (dd := some 36) rfl rfl (op_move rfl (Opd.tmp _ _ rfl)) ?_ | refine Run.pure (dd := some 36) rfl rfl (op_junk (.inl rfl)) ?_
      refine Run.pure (dd := some 37) rfl rfl (op_not rfl (Opd.tmp _ _ rfl)) ?_
      refine Run.nil (FinR.mk ?_)
      refine nK ?_
      refine n_cond _ rfl (fun hb => ?_) (fun hb => ?_)
      · have hd : d = false := by simpa using hb
        subst hd
        simp only [Bool.false_eq_true, if_false] at ho
        rw [← ho]
        refine nK ?_
        refine s_reg rfl ?_
        first | refine Run.pure (dd := some 38) rfl rfl (op_move rfl (Opd.tmp _ _ rfl)) ?_ | refine Run.pure (dd := some 38) rfl rfl (op_junk (.inl rfl)) ?_
        first | refine Run.load (dd := some 39) rfl rfl (op_loadw_flat rfl (Opd.tmp _ _ rfl) tH rfl) ?_ | refine Run.pure (dd := some 39) rfl rfl (op_loadw_fz rfl (Opd.tmp _ _ rfl) rfl) ?_ | refine Run.load (dd := some 39) rfl rfl (op_loadn_flat rfl (Opd.tmp _ _ rfl) tH tR tR) ?_ | refine Run.pure (dd := some 39) rfl rfl (op_loadn_fz rfl (Opd.tmp _ _ rfl) tR) ?_ | refine Run.load (dd := some 39) rfl rfl (op_loadn_refs rfl (Opd.tmp _ _ rfl) tH tR tR) ?_
        refine Run.pure (dd := some 40) rfl rfl (op_buildSlice_fz rfl (RowsF.cons _ _ _ _ _ _ (Opd.tmp _ _ rfl) tC (by rfl) (RowsF.nil _)) rfl rfl) ?_
        first | refine Run.eff (dd := some 41) rfl rfl (op_append_own0 rfl (Opd.tmp _ _ rfl) (Opd.tmp _ _ rfl) rfl (by first | rfl | simp) rfl (by first | rfl | simp) rfl rfl tB tB) ?_ | refine Run.eff (dd := some 41) rfl rfl (op_append rfl (Opd.tmp _ _ rfl) (by first | exact Opd.tmp _ _ rfl | exact Opd.nil _ _ (Opd.tmp _ _ rfl)) rfl (by first | rfl | simp) rfl rfl tB tB) ?_
        first | refine Run.pure (dd := some 5) rfl rfl (op_assign rfl (Opd.tmp _ _ rfl)) ?_ | refine Run.pure (dd := some 5) rfl rfl (op_junk (.inr rfl)) ?_
        refine Run.nil (FinR.mk ?_)
        refine nK ?_
        refine s_reg rfl ?_
        first | refine Run.pure (dd := some 42) rfl rfl (op_move rfl (Opd.tmp _ _ rfl)) ?_ | refine Run.pure (dd := some 42) rfl rfl (op_junk (.inl rfl)) ?_
        first | refine Run.pure (dd := some 4) rfl rfl (op_assign rfl (Opd.tmp _ _ rfl)) ?_ | refine Run.pure (dd := some 4) rfl rfl (op_junk (.inr rfl)) ?_
        refine Run.nil (FinR.mk ?_)
        refine nK ?_
        refine Next.weakS [5] [] (by rfl) (keeps0 hC _) (G' := [(4, .sl 0 3 0 (out ++ [e]).length)]) (H' := [(0, OE (out ++ [e]))]) (by repeat (first | exact trivial | refine ⟨⟨_, rfl, .inl ⟨rfl, rfl⟩⟩, ?_⟩ | refine ⟨⟨_, rfl, .inl ⟨slEq rfl tN, rfl⟩⟩, ?_⟩ | refine ⟨⟨_, rfl, .inl ⟨ivEq tX, rfl⟩⟩, ?_⟩)) (by repeat (first | exact trivial | refine ⟨ent_same rfl rfl rfl tL, ?_⟩ | refine ⟨ent_same rfl rfl (rfEq rfl tU) tL, ?_⟩ | refine ⟨ent_same rfl rfl (flEq rfl (by first | (simp; done) | (simp; omega) | (simp [encE, encN, encB]; done) | simp [maxC, minC])) trivial, ?_⟩)) rfl ?_
        (first | exact s_o1 hC rfl tV | exact s_o2 hC rfl tV tV | exact s_o3 hC rfl tV tV tV | exact s_out0 hC rfl | exact s_outO hC rfl rfl rfl)
      · have hd : d = true := by simpa using hb
        subst hd
        simp only [if_true, List.append_nil] at ho
        rw [← ho]
        refine nK ?_
        refine s_reg rfl ?_
        first | refine Run.pure (dd := some 42) rfl rfl (op_move rfl (Opd.tmp _ _ rfl)) ?_ | refine Run.pure (dd := some 42) rfl rfl (op_junk (.inl rfl)) ?_
        first | refine Run.pure (dd := some 4) rfl rfl (op_assign rfl (Opd.tmp _ _ rfl)) ?_ | refine Run.pure (dd := some 4) rfl rfl (op_junk (.inr rfl)) ?_
        refine Run.nil (FinR.mk ?_)
        refine nK ?_
        (first | exact s_o1 hC rfl tV | exact s_o2 hC rfl tV tV | exact s_o3 hC rfl tV tV tV | exact s_out0 hC rfl | exact s_outO hC rfl rfl rfl)
theorem memE (e : Edg) : memlesss (encE e) = true := rfl
theorem memEs (l : List Edg) : ∀ r ∈ l.map encE, memlesss r = true := fun r hr => by
  obtain ⟨e, _, rfl⟩ := List.mem_map.1 hr; rfl
theorem rof_c (r n : Int) (l : List Edg) (hr : inr .i64 r) (hn : inr .i64 n) (hl : okEs l) (hle : l.length ≤ 1999999) : Pure Try.prog 19 [If .i64 r, If .i64 n, VE l] (.tup [.agg (encG (ofF r n l).1), If .i64 (ofF r n l).2]) := by
  have hok : okG ⟨r, n, ofR l⟩ := by rw [ofR_eq]; exact ofL_ok hr hn hl
  have hlen0 := ofR_len l
  have hofF : ofF r n l = if checkI ⟨r, n, ofR l⟩ ≠ 0 then (zeroG, checkI ⟨r, n, ofR l⟩) else (⟨r, n, ofR l⟩, 0) := by unfold ofF; rw [ofR_eq]
  rw [hofF]
  refine Meets.intro Try.func19 rfl (Nat.le_of_ble_eq_true rfl) fun C hC => ?_
  simp only [List.map, argEnv, Nat.reduceAdd]
  refine nK ?_
  refine s_reg rfl ?_
  refine Run.eff (dd := some 6) rfl rfl (op_alloc rfl rfl rfl rfl) ?_
  first | refine Run.pure (dd := some 7) rfl rfl (op_assign rfl (Opd.const _)) ?_ | refine Run.pure (dd := some 7) rfl rfl (op_junk (.inr rfl)) ?_
  refine Run.nil (FinR.mk ?_)
  refine nK ?_
  refine s_reg rfl ?_
  first | refine Run.pure (dd := some 12) rfl rfl (op_move rfl (Opd.tmp _ _ rfl)) ?_ | refine Run.pure (dd := some 12) rfl rfl (op_junk (.inl rfl)) ?_
  first | refine Run.pure (dd := some 13) rfl rfl (op_move rfl (Opd.tmp _ _ rfl)) ?_ | refine Run.pure (dd := some 13) rfl rfl (op_junk (.inl rfl)) ?_
  first | refine Run.pure (dd := some 14) rfl rfl (op_build rfl rfl rfl (FillF.cons _ _ _ _ _ _ _ _ _ _ (by rfl) (Opd.tmp _ _ rfl) tC (by rfl) tR (FillF.cons _ _ _ _ _ _ _ _ _ _ (by rfl) (Opd.tmp _ _ rfl) tC (by rfl) tR (FillF.nil _)))) ?_ | refine Run.pure (dd := some 14) rfl rfl (op_buildP rfl rfl rfl rfl (FillP.cons _ _ _ _ _ _ _ _ _ _ (by rfl) (Opd.tmp _ _ rfl) tP (by rfl) tR (FillP.cons _ _ _ _ _ _ _ _ _ _ (by rfl) (Opd.tmp _ _ rfl) tP (by rfl) tR (FillP.nil _)))) ?_
  refine Run.eff (dd := some 8) rfl rfl (op_alloc rfl rfl rfl rfl) ?_
  first | refine Run.eff (dd := none) rfl rfl (op_store_flat rfl (Opd.tmp _ _ rfl) (Opd.tmp _ _ rfl) tC rfl rfl (by first | rfl | assumption) tS) ?_ | refine Run.eff (dd := none) rfl rfl (op_store_refs rfl (Opd.tmp _ _ rfl) (Opd.tmp _ _ rfl) tP rfl rfl rfl tS) ?_
  refine Run.nil (FinR.mk ?_)
  refine nK ?_
  refine s_reg rfl ?_
  first | refine Run.pure (dd := some 9) rfl rfl (op_assign rfl (Opd.const _)) ?_ | refine Run.pure (dd := some 9) rfl rfl (op_junk (.inr rfl)) ?_
  refine Run.nil (FinR.mk ?_)
  refine nK ?_
  refine Next.toRefs 1 rfl rfl ?_
  refine Next.adoptCell 1 0 2 3 rfl rfl rfl rfl ?_
  refine n_loop (ι := Nat) (fun i => ([(2, .fz (VE l)), (6, .ptr 0 3 0 0), (8, .ptr 1 3 0 0), (9, IV .i64 i)], [(0, OG zeroG), (1, some (.refs 3 [[IV .i64 r, IV .i64 n, .sl 2 3 0 (ofR (l.take i)).length]])), (2, OE (ofR (l.take i)))], 3)) (fun i => i ≤ l.length) (fun i => l.length - i) 0 (Nat.zero_le _) ?_ ?_
  · refine Next.weak [0, 1, 2] [] (by rfl) (keeps0 hC _) (by repeat (first | exact trivial | refine ⟨⟨_, rfl, .inl ⟨rfl, rfl⟩⟩, ?_⟩ | refine ⟨⟨_, rfl, .inl ⟨slEq rfl tN, rfl⟩⟩, ?_⟩ | refine ⟨⟨_, rfl, .inl ⟨ivEq tX, rfl⟩⟩, ?_⟩)) (by exact ⟨⟨rfl, rfl, .fflat _ _ _ rfl tW⟩, ⟨ent_same rfl rfl rfl tL, ⟨ent_same rfl rfl rfl tL, trivial⟩⟩⟩) (fun _ h => by simp at h) rel_intro
  · intro i hi K hK
    have hla := ofR_len (l.take i)
    have htl : (l.take i).length ≤ l.length := List.length_take_le' _ _
    refine nK ?_
    refine s_reg rfl ?_
    first | refine Run.pure (dd := some 15) rfl rfl (op_move rfl (Opd.tmp _ _ rfl)) ?_ | refine Run.pure (dd := some 15) rfl rfl (op_junk (.inl rfl)) ?_
    first | refine Run.pure (dd := some 16) rfl rfl (op_move rfl (Opd.tmp _ _ rfl)) ?_ | refine Run.pure (dd := some 16) rfl rfl (op_junk (.inl rfl)) ?_
    first | refine Run.pure (dd := some 17) rfl rfl (op_len_fz rfl (by first | exact Opd.tmp _ _ rfl | exact Opd.nil _ _ (Opd.tmp _ _ rfl)) (by first | exact List.length_map _ | rfl)) ?_ | refine Run.pure (dd := some 17) rfl rfl (op_len_sl rfl (Opd.tmp _ _ rfl)) ?_
    refine Run.pure (dd := some 18) rfl rfl (op_lss rfl (Opd.tmp _ _ rfl) (Opd.tmp _ _ rfl)) ?_
    refine Run.nil (FinR.mk ?_)
    refine nK ?_
    refine n_cond _ rfl (fun hb => ?_) (fun hb => ?_)
    · have hlt : i < l.length := by simp at hb; omega
      have hr1 := row_at' encE l i hlt
      have hst := ofR_succ l i hlt
      have hla2 := ofR_len (l.take (i + 1))
      have htl2 : (l.take (i + 1)).length ≤ l.length := List.length_take_le' _ _
      have hK1 := hK (i + 1) (by omega) (by omega)
      rw [hst] at hK1 hla2
      generalize ofR (l.take i) = acc at *
      generalize l[i] = e at *
      have hf := find_c ⟨r, n, acc⟩ e.f e.t (by dsimp only; omega)
      refine nK ?_
      refine s_draw mixed ?_
      first | refine Run.load (dd := some 21) rfl rfl (op_loadw_flat rfl (Opd.tmp _ _ rfl) tH rfl) ?_ | refine Run.pure (dd := some 21) rfl rfl (op_loadw_fz rfl (Opd.tmp _ _ rfl) rfl) ?_ | refine Run.load (dd := some 21) rfl rfl (op_loadn_flat rfl (Opd.tmp _ _ rfl) tH tR tR) ?_ | refine Run.pure (dd := some 21) rfl rfl (op_loadn_fz rfl (Opd.tmp _ _ rfl) tR) ?_ | refine Run.load (dd := some 21) rfl rfl (op_loadn_refs rfl (Opd.tmp _ _ rfl) tH tR tR) ?_
      first | refine Run.pure (dd := some 22) rfl rfl (op_move rfl (Opd.tmp _ _ rfl)) ?_ | refine Run.pure (dd := some 22) rfl rfl (op_junk (.inl rfl)) ?_
      first | refine Run.pure (dd := some 23) rfl rfl (op_move rfl (Opd.tmp _ _ rfl)) ?_ | refine Run.pure (dd := some 23) rfl rfl (op_junk (.inl rfl)) ?_
      first | refine Run.pure (dd := some 24) rfl rfl (op_idx_sl0 _ rfl (Opd.tmp _ _ rfl) (Opd.tmp _ _ rfl) tD) ?_ | refine Run.pure (dd := some 24) rfl rfl (op_idx_fz _ rfl (Opd.tmp _ _ rfl) (Opd.tmp _ _ rfl) tF) ?_
      first | refine Run.pure (dd := some 25) rfl rfl (op_fld_ptr (by decide) rfl (Opd.tmp _ _ rfl)) ?_ | refine Run.pure (dd := some 25) rfl rfl (op_fld_fz (by decide) rfl (Opd.tmp _ _ rfl) tR) ?_
      first | refine Run.load (dd := some 26) rfl rfl (op_load1_flat rfl (Opd.tmp _ _ rfl) tH rfl) ?_ | refine Run.pure (dd := some 26) rfl rfl (op_load1_fz rfl (Opd.tmp _ _ rfl) rfl) ?_ | refine Run.load (dd := some 26) rfl rfl (op_load1_refs rfl (Opd.tmp _ _ rfl) tH rfl) ?_
      first | refine Run.pure (dd := some 27) rfl rfl (op_move rfl (Opd.tmp _ _ rfl)) ?_ | refine Run.pure (dd := some 27) rfl rfl (op_junk (.inl rfl)) ?_
      first | refine Run.pure (dd := some 28) rfl rfl (op_move rfl (Opd.tmp _ _ rfl)) ?_ | refine Run.pure (dd := some 28) rfl rfl (op_junk (.inl rfl)) ?_
      first | refine Run.pure (dd := some 29) rfl rfl (op_idx_sl0 _ rfl (Opd.tmp _ _ rfl) (Opd.tmp _ _ rfl) tD) ?_ | refine Run.pure (dd := some 29) rfl rfl (op_idx_fz _ rfl (Opd.tmp _ _ rfl) (Opd.tmp _ _ rfl) tF) ?_
      first | refine Run.pure (dd := some 30) rfl rfl (op_fld_ptr (by decide) rfl (Opd.tmp _ _ rfl)) ?_ | refine Run.pure (dd := some 30) rfl rfl (op_fld_fz (by decide) rfl (Opd.tmp _ _ rfl) tR) ?_
      first | refine Run.load (dd := some 31) rfl rfl (op_load1_flat rfl (Opd.tmp _ _ rfl) tH rfl) ?_ | refine Run.pure (dd := some 31) rfl rfl (op_load1_fz rfl (Opd.tmp _ _ rfl) rfl) ?_ | refine Run.load (dd := some 31) rfl rfl (op_load1_refs rfl (Opd.tmp _ _ rfl) tH rfl) ?_
      refine Run.load (dd := some 32) rfl rfl (op_call_lend [2] (fun _ => hf) rfl (Opd.func _) (Opds.cons _ _ _ _ (Opd.tmp _ _ rfl) (Opds.cons _ _ _ _ (Opd.tmp _ _ rfl) (Opds.cons _ _ _ _ (Opd.tmp _ _ rfl) Opds.nil))) (by exact .cons _ _ _ _ tW (.cons _ _ _ _ tW (.cons _ _ _ _ tW .nil))) rfl rfl) ?_
      first | refine Run.pure (dd := some 10) rfl rfl (op_assign rfl (Opd.tmp _ _ rfl)) ?_ | refine Run.pure (dd := some 10) rfl rfl (op_junk (.inr rfl)) ?_
      refine Run.nil (FinD.mk (by kernel_rfl) ?_)
      refine nK ?_
      refine s_reg rfl ?_
      first | refine Run.pure (dd := some 33) rfl rfl (op_move rfl (Opd.tmp _ _ rfl)) ?_ | refine Run.pure (dd := some 33) rfl rfl (op_junk (.inl rfl)) ?_
      refine Run.pure (dd := some 34) rfl rfl (op_lss rfl (Opd.tmp _ _ rfl) (Opd.const _)) ?_
      refine Run.nil (FinR.mk ?_)
      refine nK ?_
      rcases fndAt_rng e.f e.t acc 0 with h0 | ⟨j, hj, h0⟩
      · have h0' : fndI acc e.f e.t = -1 := h0
        have hs : ofStep acc e = putR e false acc := by
          unfold ofStep
          split
          · rw [if_pos (by omega)]
          · rfl
        rw [hs] at hK1 hla2
        have hpf := put_f acc e (by omega)
        have h0'' : fndI (Gr.mk r n acc).es e.f e.t = -1 := h0
        rw [h0'']
        refine nK ?_
        refine n_cond _ rfl (fun hb => ?_) (fun hb => ?_)
        · refine nK ?_
          refine s_draw mixed ?_
          first | refine Run.pure (dd := some 35) rfl rfl (op_fld_ptr (by decide) rfl (Opd.tmp _ _ rfl)) ?_ | refine Run.pure (dd := some 35) rfl rfl (op_fld_fz (by decide) rfl (Opd.tmp _ _ rfl) tR) ?_
          first | refine Run.load (dd := some 36) rfl rfl (op_load1_flat rfl (Opd.tmp _ _ rfl) tH rfl) ?_ | refine Run.pure (dd := some 36) rfl rfl (op_load1_fz rfl (Opd.tmp _ _ rfl) rfl) ?_ | refine Run.load (dd := some 36) rfl rfl (op_load1_refs rfl (Opd.tmp _ _ rfl) tH rfl) ?_
          first | refine Run.pure (dd := some 37) rfl rfl (op_move rfl (Opd.tmp _ _ rfl)) ?_ | refine Run.pure (dd := some 37) rfl rfl (op_junk (.inl rfl)) ?_
          first | refine Run.pure (dd := some 38) rfl rfl (op_move rfl (Opd.tmp _ _ rfl)) ?_ | refine Run.pure (dd := some 38) rfl rfl (op_junk (.inl rfl)) ?_
          first | refine Run.pure (dd := some 39) rfl rfl (op_idx_sl0 _ rfl (Opd.tmp _ _ rfl) (Opd.tmp _ _ rfl) tD) ?_ | refine Run.pure (dd := some 39) rfl rfl (op_idx_fz _ rfl (Opd.tmp _ _ rfl) (Opd.tmp _ _ rfl) tF) ?_
          first | refine Run.load (dd := some 40) rfl rfl (op_loadw_flat rfl (Opd.tmp _ _ rfl) tH rfl) ?_ | refine Run.pure (dd := some 40) rfl rfl (op_loadw_fz rfl (Opd.tmp _ _ rfl) rfl) ?_ | refine Run.load (dd := some 40) rfl rfl (op_loadn_flat rfl (Opd.tmp _ _ rfl) tH tR tR) ?_ | refine Run.pure (dd := some 40) rfl rfl (op_loadn_fz rfl (Opd.tmp _ _ rfl) tR) ?_ | refine Run.load (dd := some 40) rfl rfl (op_loadn_refs rfl (Opd.tmp _ _ rfl) tH tR tR) ?_
          refine Run.effW (dd := some 41) rfl rfl (op_call_lendF [2] (fun _ => hpf) rfl (Opd.func _) (Opds.cons _ _ _ _ (Opd.tmp _ _ rfl) (Opds.cons _ _ _ _ (Opd.tmp _ _ rfl) Opds.nil)) (by exact .cons _ _ _ _ tW (.cons _ _ _ _ tW .nil)) rfl (memEs _)) tE ?_
          first | refine Run.pure (dd := some 42) rfl rfl (op_fld_ptr (by decide) rfl (Opd.tmp _ _ rfl)) ?_ | refine Run.pure (dd := some 42) rfl rfl (op_fld_fz (by decide) rfl (Opd.tmp _ _ rfl) tR) ?_
          first | refine Run.effW (dd := none) rfl rfl (op_store_flat rfl (Opd.tmp _ _ rfl) (Opd.tmp _ _ rfl) tC rfl rfl (by first | rfl | assumption) tS) tE ?_ | refine Run.effW (dd := none) rfl rfl (op_store_refs rfl (Opd.tmp _ _ rfl) (Opd.tmp _ _ rfl) tP rfl rfl rfl tS) tE ?_
          refine Run.nil (FinD.mk (by kernel_rfl) ?_)
          refine nK ?_
          refine s_reg rfl ?_
          first | refine Run.pure (dd := some 19) rfl rfl (op_move rfl (Opd.tmp _ _ rfl)) ?_ | refine Run.pure (dd := some 19) rfl rfl (op_junk (.inl rfl)) ?_
          refine Run.pure (dd := some 20) rfl rfl (op_add rfl (Opd.tmp _ _ rfl) (Opd.const _) tI) ?_
          first | refine Run.pure (dd := some 9) rfl rfl (op_assign rfl (Opd.tmp _ _ rfl)) ?_ | refine Run.pure (dd := some 9) rfl rfl (op_junk (.inr rfl)) ?_
          refine Run.nil (FinR.mk ?_)
          refine nK ?_
          refine Next.weak [0, 1, 3] [] (by rfl) (keeps0 hC _) (by repeat (first | exact trivial | refine ⟨⟨_, rfl, .inl ⟨rfl, rfl⟩⟩, ?_⟩ | refine ⟨⟨_, rfl, .inl ⟨slEq rfl tN, rfl⟩⟩, ?_⟩ | refine ⟨⟨_, rfl, .inl ⟨ivEq tX, rfl⟩⟩, ?_⟩)) (by exact ⟨ent_same rfl rfl rfl tL, ⟨ent_same rfl rfl rfl tL, ⟨ent_same rfl rfl rfl tL, trivial⟩⟩⟩) (fun _ h => by simp at h) hK1
        · simp at hb
      · have h0' : fndI acc e.f e.t = (j : Int) := by show fndAt e.f e.t 0 acc = _; omega
        have h0'' : fndI (Gr.mk r n acc).es e.f e.t = (j : Int) := h0'
        have hs : ofStep acc e = if e.c < acc[j].c then acc.set j ⟨acc[j].f, acc[j].t, e.c⟩ else acc := by
          unfold ofStep
          have hpos : ¬ ((j : Int) < 0) := by omega
          rw [h0']
          simp only [Int.toNat_natCast, List.getElem?_eq_getElem hj, hpos, if_false]
        rw [hs] at hK1 hla2
        have hrj := row_at' encE acc j hj
        rw [h0'']
        refine nK ?_
        refine n_cond _ rfl (fun hb => ?_) (fun hb => ?_)
        · simp at hb; omega
        · refine nK ?_
          refine s_draw mixed ?_
          first | refine Run.pure (dd := some 43) rfl rfl (op_move rfl (Opd.tmp _ _ rfl)) ?_ | refine Run.pure (dd := some 43) rfl rfl (op_junk (.inl rfl)) ?_
          first | refine Run.pure (dd := some 44) rfl rfl (op_move rfl (Opd.tmp _ _ rfl)) ?_ | refine Run.pure (dd := some 44) rfl rfl (op_junk (.inl rfl)) ?_
          first | refine Run.pure (dd := some 45) rfl rfl (op_idx_sl0 _ rfl (Opd.tmp _ _ rfl) (Opd.tmp _ _ rfl) tD) ?_ | refine Run.pure (dd := some 45) rfl rfl (op_idx_fz _ rfl (Opd.tmp _ _ rfl) (Opd.tmp _ _ rfl) tF) ?_
          first | refine Run.pure (dd := some 46) rfl rfl (op_fld_ptr (by decide) rfl (Opd.tmp _ _ rfl)) ?_ | refine Run.pure (dd := some 46) rfl rfl (op_fld_fz (by decide) rfl (Opd.tmp _ _ rfl) tR) ?_
          first | refine Run.load (dd := some 47) rfl rfl (op_load1_flat rfl (Opd.tmp _ _ rfl) tH rfl) ?_ | refine Run.pure (dd := some 47) rfl rfl (op_load1_fz rfl (Opd.tmp _ _ rfl) rfl) ?_ | refine Run.load (dd := some 47) rfl rfl (op_load1_refs rfl (Opd.tmp _ _ rfl) tH rfl) ?_
          first | refine Run.pure (dd := some 48) rfl rfl (op_fld_ptr (by decide) rfl (Opd.tmp _ _ rfl)) ?_ | refine Run.pure (dd := some 48) rfl rfl (op_fld_fz (by decide) rfl (Opd.tmp _ _ rfl) tR) ?_
          first | refine Run.load (dd := some 49) rfl rfl (op_load1_flat rfl (Opd.tmp _ _ rfl) tH rfl) ?_ | refine Run.pure (dd := some 49) rfl rfl (op_load1_fz rfl (Opd.tmp _ _ rfl) rfl) ?_ | refine Run.load (dd := some 49) rfl rfl (op_load1_refs rfl (Opd.tmp _ _ rfl) tH rfl) ?_
          first | refine Run.pure (dd := some 50) rfl rfl (op_move rfl (Opd.tmp _ _ rfl)) ?_ | refine Run.pure (dd := some 50) rfl rfl (op_junk (.inl rfl)) ?_
          refine Run.pure (dd := some 51) rfl rfl (op_idx_sl0 j rfl (Opd.tmp _ _ rfl) (Opd.tmp _ _ rfl) (by intro _; refine ⟨rfl, ?_⟩; omega)) ?_
          first | refine Run.pure (dd := some 52) rfl rfl (op_fld_ptr (by decide) rfl (Opd.tmp _ _ rfl)) ?_ | refine Run.pure (dd := some 52) rfl rfl (op_fld_fz (by decide) rfl (Opd.tmp _ _ rfl) tR) ?_
          first | refine Run.load (dd := some 53) rfl rfl (op_load1_flat rfl (Opd.tmp _ _ rfl) tH rfl) ?_ | refine Run.pure (dd := some 53) rfl rfl (op_load1_fz rfl (Opd.tmp _ _ rfl) rfl) ?_ | refine Run.load (dd := some 53) rfl rfl (op_load1_refs rfl (Opd.tmp _ _ rfl) tH rfl) ?_
          refine Run.pure (dd := some 54) rfl rfl (op_lss rfl (Opd.tmp _ _ rfl) (Opd.tmp _ _ rfl)) ?_
          refine Run.nil (FinD.mk (by kernel_rfl) ?_)
          refine nK ?_
          refine n_cond _ rfl (fun hb => ?_) (fun hb => ?_)
          · rw [if_pos (by simpa using hb)] at hK1
            have hset : (acc.map encE).set j [If .i64 acc[j].f, If .i64 acc[j].t, If .i64 e.c] = (acc.set j ⟨acc[j].f, acc[j].t, e.c⟩).map encE := by rw [List.map_set]; rfl
            rw [show OE (acc.set j ⟨acc[j].f, acc[j].t, e.c⟩) = some (.flat 3 ((acc.map encE).set j [If .i64 acc[j].f, If .i64 acc[j].t, If .i64 e.c])) by rw [hset], List.length_set] at hK1
            refine nK ?_
            refine s_draw mixed ?_
            first | refine Run.pure (dd := some 55) rfl rfl (op_fld_ptr (by decide) rfl (Opd.tmp _ _ rfl)) ?_ | refine Run.pure (dd := some 55) rfl rfl (op_fld_fz (by decide) rfl (Opd.tmp _ _ rfl) tR) ?_
            first | refine Run.load (dd := some 56) rfl rfl (op_load1_flat rfl (Opd.tmp _ _ rfl) tH rfl) ?_ | refine Run.pure (dd := some 56) rfl rfl (op_load1_fz rfl (Opd.tmp _ _ rfl) rfl) ?_ | refine Run.load (dd := some 56) rfl rfl (op_load1_refs rfl (Opd.tmp _ _ rfl) tH rfl) ?_
            first | refine Run.pure (dd := some 57) rfl rfl (op_move rfl (Opd.tmp _ _ rfl)) ?_ | refine Run.pure (dd := some 57) rfl rfl (op_junk (.inl rfl)) ?_
            first | refine Run.pure (dd := some 58) rfl rfl (op_move rfl (Opd.tmp _ _ rfl)) ?_ | refine Run.pure (dd := some 58) rfl rfl (op_junk (.inl rfl)) ?_
            first | refine Run.pure (dd := some 59) rfl rfl (op_move rfl (Opd.tmp _ _ rfl)) ?_ | refine Run.pure (dd := some 59) rfl rfl (op_junk (.inl rfl)) ?_
            first | refine Run.pure (dd := some 60) rfl rfl (op_idx_sl0 _ rfl (Opd.tmp _ _ rfl) (Opd.tmp _ _ rfl) tD) ?_ | refine Run.pure (dd := some 60) rfl rfl (op_idx_fz _ rfl (Opd.tmp _ _ rfl) (Opd.tmp _ _ rfl) tF) ?_
            first | refine Run.pure (dd := some 61) rfl rfl (op_fld_ptr (by decide) rfl (Opd.tmp _ _ rfl)) ?_ | refine Run.pure (dd := some 61) rfl rfl (op_fld_fz (by decide) rfl (Opd.tmp _ _ rfl) tR) ?_
            first | refine Run.load (dd := some 62) rfl rfl (op_load1_flat rfl (Opd.tmp _ _ rfl) tH rfl) ?_ | refine Run.pure (dd := some 62) rfl rfl (op_load1_fz rfl (Opd.tmp _ _ rfl) rfl) ?_ | refine Run.load (dd := some 62) rfl rfl (op_load1_refs rfl (Opd.tmp _ _ rfl) tH rfl) ?_
            refine Run.pure (dd := some 63) rfl rfl (op_idx_sl0 j rfl (Opd.tmp _ _ rfl) (Opd.tmp _ _ rfl) (by intro _; refine ⟨rfl, ?_⟩; omega)) ?_
            first | refine Run.pure (dd := some 64) rfl rfl (op_fld_ptr (by decide) rfl (Opd.tmp _ _ rfl)) ?_ | refine Run.pure (dd := some 64) rfl rfl (op_fld_fz (by decide) rfl (Opd.tmp _ _ rfl) tR) ?_
            first | refine Run.effW (dd := none) rfl rfl (op_store_flat rfl (Opd.tmp _ _ rfl) (Opd.tmp _ _ rfl) tC rfl rfl (by first | rfl | assumption) tS) tE ?_ | refine Run.effW (dd := none) rfl rfl (op_store_refs rfl (Opd.tmp _ _ rfl) (Opd.tmp _ _ rfl) tP rfl rfl rfl tS) tE ?_
            refine Run.nil (FinD.mk (by kernel_rfl) ?_)
            refine nK ?_
            refine s_reg rfl ?_
            first | refine Run.pure (dd := some 19) rfl rfl (op_move rfl (Opd.tmp _ _ rfl)) ?_ | refine Run.pure (dd := some 19) rfl rfl (op_junk (.inl rfl)) ?_
            refine Run.pure (dd := some 20) rfl rfl (op_add rfl (Opd.tmp _ _ rfl) (Opd.const _) tI) ?_
            first | refine Run.pure (dd := some 9) rfl rfl (op_assign rfl (Opd.tmp _ _ rfl)) ?_ | refine Run.pure (dd := some 9) rfl rfl (op_junk (.inr rfl)) ?_
            refine Run.nil (FinR.mk ?_)
            refine nK ?_
            refine Next.weak [0, 1, 2] [] (by rfl) (keeps0 hC _) (by repeat (first | exact trivial | refine ⟨⟨_, rfl, .inl ⟨rfl, rfl⟩⟩, ?_⟩ | refine ⟨⟨_, rfl, .inl ⟨slEq rfl tN, rfl⟩⟩, ?_⟩ | refine ⟨⟨_, rfl, .inl ⟨ivEq tX, rfl⟩⟩, ?_⟩)) (by exact ⟨ent_same rfl rfl rfl tL, ⟨ent_same rfl rfl rfl tL, ⟨ent_same rfl rfl rfl tL, trivial⟩⟩⟩) (fun _ h => by simp at h) hK1
          · rw [if_neg (by simpa using hb)] at hK1
            refine nK ?_
            refine s_reg rfl ?_
            first | refine Run.pure (dd := some 19) rfl rfl (op_move rfl (Opd.tmp _ _ rfl)) ?_ | refine Run.pure (dd := some 19) rfl rfl (op_junk (.inl rfl)) ?_
            refine Run.pure (dd := some 20) rfl rfl (op_add rfl (Opd.tmp _ _ rfl) (Opd.const _) tI) ?_
            first | refine Run.pure (dd := some 9) rfl rfl (op_assign rfl (Opd.tmp _ _ rfl)) ?_ | refine Run.pure (dd := some 9) rfl rfl (op_junk (.inr rfl)) ?_
            refine Run.nil (FinR.mk ?_)
            refine nK ?_
            refine Next.weak [0, 1, 2] [] (by rfl) (keeps0 hC _) (by repeat (first | exact trivial | refine ⟨⟨_, rfl, .inl ⟨rfl, rfl⟩⟩, ?_⟩ | refine ⟨⟨_, rfl, .inl ⟨slEq rfl tN, rfl⟩⟩, ?_⟩ | refine ⟨⟨_, rfl, .inl ⟨ivEq tX, rfl⟩⟩, ?_⟩)) (by exact ⟨ent_same rfl rfl rfl tL, ⟨ent_same rfl rfl rfl tL, ⟨ent_same rfl rfl rfl tL, trivial⟩⟩⟩) (fun _ h => by simp at h) hK1
    · have hie : i = l.length := by simp at hb; omega
      rw [take_len_eq' hie]
      refine Next.weak [0, 1] [2] (by rfl) (keeps0 hC _) (G' := [(6, .ptr 0 3 0 0), (8, .ptr 1 3 0 0)]) (H' := [(0, OG zeroG), (1, OG ⟨r, n, ofR l⟩)]) (by repeat (first | exact trivial | refine ⟨⟨_, rfl, .inl ⟨rfl, rfl⟩⟩, ?_⟩ | refine ⟨⟨_, rfl, .inl ⟨slEq rfl tN, rfl⟩⟩, ?_⟩ | refine ⟨⟨_, rfl, .inl ⟨ivEq tX, rfl⟩⟩, ?_⟩)) (by exact ⟨ent_same rfl rfl rfl tL, ⟨⟨rfl, rfl, .flat _ _ _ rfl tW⟩, trivial⟩⟩) (fun id h => by obtain rfl : id = 2 := (by simpa using h); exact ⟨_, rfl⟩) ?_
      refine nK ?_
      refine s_reg rfl ?_
      first | refine Run.load (dd := some 65) rfl rfl (op_loadw_flat rfl (Opd.tmp _ _ rfl) tH rfl) ?_ | refine Run.pure (dd := some 65) rfl rfl (op_loadw_fz rfl (Opd.tmp _ _ rfl) rfl) ?_ | refine Run.load (dd := some 65) rfl rfl (op_loadn_flat rfl (Opd.tmp _ _ rfl) tH tR tR) ?_ | refine Run.pure (dd := some 65) rfl rfl (op_loadn_fz rfl (Opd.tmp _ _ rfl) tR) ?_ | refine Run.load (dd := some 65) rfl rfl (op_loadn_refs rfl (Opd.tmp _ _ rfl) tH tR tR) ?_
      refine Run.pure (dd := some 66) rfl rfl (op_call_pure (fun _ => rcheck_c _ (by assumption)) rfl (Opd.func _) (Opds.cons _ _ _ _ (Opd.tmp _ _ rfl) Opds.nil)) ?_
      first | refine Run.pure (dd := some 11) rfl rfl (op_assign rfl (Opd.tmp _ _ rfl)) ?_ | refine Run.pure (dd := some 11) rfl rfl (op_junk (.inr rfl)) ?_
      refine Run.nil (FinR.mk ?_)
      refine nK ?_
      refine s_reg rfl ?_
      first | refine Run.pure (dd := some 67) rfl rfl (op_move rfl (Opd.tmp _ _ rfl)) ?_ | refine Run.pure (dd := some 67) rfl rfl (op_junk (.inl rfl)) ?_
      refine Run.pure (dd := some 68) rfl rfl (op_neq rfl (Opd.tmp _ _ rfl) (Opd.const _)) ?_
      refine Run.nil (FinR.mk ?_)
      refine nK ?_
      refine n_cond _ rfl (fun hb => ?_) (fun hb => ?_)
      · rw [if_pos (by simpa using hb)]
        refine nK ?_
        refine s_reg rfl ?_
        first | refine Run.pure (dd := some 69) rfl rfl (op_build rfl rfl rfl (FillF.nil _)) ?_ | refine Run.pure (dd := some 69) rfl rfl (op_buildP rfl rfl rfl rfl (FillP.nil _)) ?_
        first | refine Run.pure (dd := some 70) rfl rfl (op_move rfl (Opd.tmp _ _ rfl)) ?_ | refine Run.pure (dd := some 70) rfl rfl (op_junk (.inl rfl)) ?_
        first | refine Run.eff (dd := none) rfl rfl (op_store_flat rfl (Opd.tmp _ _ rfl) (Opd.tmp _ _ rfl) tC rfl rfl (by first | rfl | assumption) tS) ?_ | refine Run.eff (dd := none) rfl rfl (op_store_refs rfl (Opd.tmp _ _ rfl) (Opd.tmp _ _ rfl) tP rfl rfl rfl tS) ?_
        first | refine Run.pure (dd := some 7) rfl rfl (op_assign rfl (Opd.tmp _ _ rfl)) ?_ | refine Run.pure (dd := some 7) rfl rfl (op_junk (.inr rfl)) ?_
        refine Run.nil (FinR.mk ?_)
        refine nK ?_
        refine Next.weakS [6] [] (by rfl) (keeps0 hC _) (G' := [(6, .ptr 0 3 0 0), (7, IV .i64 (checkI ⟨r, n, ofR l⟩))]) (H' := [(0, OG zeroG)]) (by repeat (first | exact trivial | refine ⟨⟨_, rfl, .inl ⟨rfl, rfl⟩⟩, ?_⟩ | refine ⟨⟨_, rfl, .inl ⟨slEq rfl tN, rfl⟩⟩, ?_⟩ | refine ⟨⟨_, rfl, .inl ⟨ivEq tX, rfl⟩⟩, ?_⟩)) (by exact ⟨⟨rfl, rfl, .fflat _ _ _ rfl tW⟩, trivial⟩) rfl ?_
        (first | exact s_o1 hC rfl tV | exact s_o2 hC rfl tV tV | exact s_o3 hC rfl tV tV tV | exact s_out0 hC rfl | exact s_outO hC rfl rfl rfl)
      · rw [if_neg (by simpa using hb)]
        refine nK ?_
        refine s_reg rfl ?_
        first | refine Run.load (dd := some 71) rfl rfl (op_loadw_flat rfl (Opd.tmp _ _ rfl) tH rfl) ?_ | refine Run.pure (dd := some 71) rfl rfl (op_loadw_fz rfl (Opd.tmp _ _ rfl) rfl) ?_ | refine Run.load (dd := some 71) rfl rfl (op_loadn_flat rfl (Opd.tmp _ _ rfl) tH tR tR) ?_ | refine Run.pure (dd := some 71) rfl rfl (op_loadn_fz rfl (Opd.tmp _ _ rfl) tR) ?_ | refine Run.load (dd := some 71) rfl rfl (op_loadn_refs rfl (Opd.tmp _ _ rfl) tH tR tR) ?_
        first | refine Run.eff (dd := none) rfl rfl (op_store_flat rfl (Opd.tmp _ _ rfl) (Opd.tmp _ _ rfl) tC rfl rfl (by first | rfl | assumption) tS) ?_ | refine Run.eff (dd := none) rfl rfl (op_store_refs rfl (Opd.tmp _ _ rfl) (Opd.tmp _ _ rfl) tP rfl rfl rfl tS) ?_
        first | refine Run.pure (dd := some 7) rfl rfl (op_assign rfl (Opd.const _)) ?_ | refine Run.pure (dd := some 7) rfl rfl (op_junk (.inr rfl)) ?_
        refine Run.nil (FinR.mk ?_)
        refine nK ?_
        (first | exact s_o1 hC rfl tV | exact s_o2 hC rfl tV tV | exact s_o3 hC rfl tV tV tV | exact s_out0 hC rfl | exact s_outO hC rfl rfl rfl)
theorem of_law (r n : Int) (l : List Edg) (hr : inr .i64 r) (hn : inr .i64 n) (hl : okEs l) (hle : l.length ≤ 1999999) : Pure Try.prog 5 [If .i64 r, If .i64 n, VE l] (Bf true) := by
  have hlen : (ofF r n l).1.es.length ≤ 1999999 := by
    have := ofL_len l
    unfold ofF; split
    · simp [zeroG]
    · show (ofL l).length ≤ _; omega
  refine Meets.intro Try.func5 rfl (Nat.le_of_ble_eq_true rfl) fun C hC => ?_
  simp only [List.map, argEnv, Nat.reduceAdd]
  refine nK ?_
  refine s_reg rfl ?_
  first | refine Run.pure (dd := some 6) rfl rfl (op_assign rfl (Opd.const _)) ?_ | refine Run.pure (dd := some 6) rfl rfl (op_junk (.inr rfl)) ?_
  refine Run.nil (FinR.mk ?_)
  refine nK ?_
  refine s_reg rfl ?_
  first | refine Run.pure (dd := some 12) rfl rfl (op_move rfl (Opd.tmp _ _ rfl)) ?_ | refine Run.pure (dd := some 12) rfl rfl (op_junk (.inl rfl)) ?_
  first | refine Run.pure (dd := some 13) rfl rfl (op_move rfl (Opd.tmp _ _ rfl)) ?_ | refine Run.pure (dd := some 13) rfl rfl (op_junk (.inl rfl)) ?_
  first | refine Run.pure (dd := some 14) rfl rfl (op_move rfl (Opd.tmp _ _ rfl)) ?_ | refine Run.pure (dd := some 14) rfl rfl (op_junk (.inl rfl)) ?_
  refine Run.pure (dd := some 15) rfl rfl (op_call_pure (fun _ => of_c _ _ _ (by assumption) (by assumption) (by assumption) (by omega)) rfl (Opd.func _) (Opds.cons _ _ _ _ (Opd.tmp _ _ rfl) (Opds.cons _ _ _ _ (Opd.tmp _ _ rfl) (Opds.cons _ _ _ _ (Opd.tmp _ _ rfl) Opds.nil)))) ?_
  first | refine Run.pure (dd := some 11) rfl rfl (op_move rfl (Opd.tmp _ _ rfl)) ?_ | refine Run.pure (dd := some 11) rfl rfl (op_junk (.inl rfl)) ?_
  first | refine Run.pure (dd := some 16) rfl rfl (op_extract_fz rfl (Opd.tmp _ _ rfl) rfl) ?_ | refine Run.pure (dd := some 16) rfl rfl (op_extract rfl (Opd.tmp _ _ rfl) rfl) ?_
  first | refine Run.pure (dd := some 17) rfl rfl (op_extract_fz rfl (Opd.tmp _ _ rfl) rfl) ?_ | refine Run.pure (dd := some 17) rfl rfl (op_extract rfl (Opd.tmp _ _ rfl) rfl) ?_
  refine Run.eff (dd := some 7) rfl rfl (op_alloc rfl rfl rfl rfl) ?_
  first | refine Run.eff (dd := none) rfl rfl (op_store_flat rfl (Opd.tmp _ _ rfl) (Opd.tmp _ _ rfl) tC rfl rfl (by first | rfl | assumption) tS) ?_ | refine Run.eff (dd := none) rfl rfl (op_store_refs rfl (Opd.tmp _ _ rfl) (Opd.tmp _ _ rfl) tP rfl rfl rfl tS) ?_
  first | refine Run.pure (dd := some 8) rfl rfl (op_assign rfl (Opd.tmp _ _ rfl)) ?_ | refine Run.pure (dd := some 8) rfl rfl (op_junk (.inr rfl)) ?_
  refine Run.nil (FinR.mk ?_)
  refine nK ?_
  refine s_reg rfl ?_
  first | refine Run.pure (dd := some 19) rfl rfl (op_move rfl (Opd.tmp _ _ rfl)) ?_ | refine Run.pure (dd := some 19) rfl rfl (op_junk (.inl rfl)) ?_
  first | refine Run.pure (dd := some 20) rfl rfl (op_move rfl (Opd.tmp _ _ rfl)) ?_ | refine Run.pure (dd := some 20) rfl rfl (op_junk (.inl rfl)) ?_
  first | refine Run.pure (dd := some 21) rfl rfl (op_move rfl (Opd.tmp _ _ rfl)) ?_ | refine Run.pure (dd := some 21) rfl rfl (op_junk (.inl rfl)) ?_
  refine Run.pure (dd := some 22) rfl rfl (op_call_pure (fun _ => rof_c _ _ _ (by assumption) (by assumption) (by assumption) (by omega)) rfl (Opd.func _) (Opds.cons _ _ _ _ (Opd.tmp _ _ rfl) (Opds.cons _ _ _ _ (Opd.tmp _ _ rfl) (Opds.cons _ _ _ _ (Opd.tmp _ _ rfl) Opds.nil)))) ?_
  first | refine Run.pure (dd := some 18) rfl rfl (op_move rfl (Opd.tmp _ _ rfl)) ?_ | refine Run.pure (dd := some 18) rfl rfl (op_junk (.inl rfl)) ?_
  first | refine Run.pure (dd := some 23) rfl rfl (op_extract_fz rfl (Opd.tmp _ _ rfl) rfl) ?_ | refine Run.pure (dd := some 23) rfl rfl (op_extract rfl (Opd.tmp _ _ rfl) rfl) ?_
  first | refine Run.pure (dd := some 24) rfl rfl (op_extract_fz rfl (Opd.tmp _ _ rfl) rfl) ?_ | refine Run.pure (dd := some 24) rfl rfl (op_extract rfl (Opd.tmp _ _ rfl) rfl) ?_
  refine Run.eff (dd := some 9) rfl rfl (op_alloc rfl rfl rfl rfl) ?_
  first | refine Run.eff (dd := none) rfl rfl (op_store_flat rfl (Opd.tmp _ _ rfl) (Opd.tmp _ _ rfl) tC rfl rfl (by first | rfl | assumption) tS) ?_ | refine Run.eff (dd := none) rfl rfl (op_store_refs rfl (Opd.tmp _ _ rfl) (Opd.tmp _ _ rfl) tP rfl rfl rfl tS) ?_
  first | refine Run.pure (dd := some 10) rfl rfl (op_assign rfl (Opd.tmp _ _ rfl)) ?_ | refine Run.pure (dd := some 10) rfl rfl (op_junk (.inr rfl)) ?_
  refine Run.nil (FinR.mk ?_)
  refine nK ?_
  refine s_reg rfl ?_
  first | refine Run.pure (dd := some 25) rfl rfl (op_move rfl (Opd.tmp _ _ rfl)) ?_ | refine Run.pure (dd := some 25) rfl rfl (op_junk (.inl rfl)) ?_
  first | refine Run.pure (dd := some 26) rfl rfl (op_move rfl (Opd.tmp _ _ rfl)) ?_ | refine Run.pure (dd := some 26) rfl rfl (op_junk (.inl rfl)) ?_
  refine Run.pure (dd := some 27) rfl rfl (op_eql rfl (Opd.tmp _ _ rfl) (Opd.tmp _ _ rfl)) ?_
  first | refine Run.pure (dd := some 28) rfl rfl (op_move rfl (Opd.tmp _ _ rfl)) ?_ | refine Run.pure (dd := some 28) rfl rfl (op_junk (.inl rfl)) ?_
  first | refine Run.loadG (dd := some 29) rfl rfl rfl tG (op_loadw_flat rfl (Opd.tmp _ _ rfl) tH rfl) ?_ | refine Run.pureG (dd := some 29) rfl rfl rfl tG (op_loadw_fz rfl (Opd.tmp _ _ rfl) rfl) ?_ | refine Run.loadG (dd := some 29) rfl rfl rfl tG (op_loadn_flat rfl (Opd.tmp _ _ rfl) tH tR tR) ?_ | refine Run.pureG (dd := some 29) rfl rfl rfl tG (op_loadn_fz rfl (Opd.tmp _ _ rfl) tR) ?_ | refine Run.loadG (dd := some 29) rfl rfl rfl tG (op_loadn_refs rfl (Opd.tmp _ _ rfl) tH tR tR) ?_
  first | refine Run.loadG (dd := some 30) rfl rfl rfl tG (op_loadw_flat rfl (Opd.tmp _ _ rfl) tH rfl) ?_ | refine Run.pureG (dd := some 30) rfl rfl rfl tG (op_loadw_fz rfl (Opd.tmp _ _ rfl) rfl) ?_ | refine Run.loadG (dd := some 30) rfl rfl rfl tG (op_loadn_flat rfl (Opd.tmp _ _ rfl) tH tR tR) ?_ | refine Run.pureG (dd := some 30) rfl rfl rfl tG (op_loadn_fz rfl (Opd.tmp _ _ rfl) tR) ?_ | refine Run.loadG (dd := some 30) rfl rfl rfl tG (op_loadn_refs rfl (Opd.tmp _ _ rfl) tH tR tR) ?_
  refine Run.pureG (dd := some 31) rfl rfl rfl tG (op_call_pure (fun _ => same_c _ _ (by omega) (by omega)) rfl (Opd.func _) (Opds.cons _ _ _ _ (Opd.topt _ _ _ rfl tO) (Opds.cons _ _ _ _ (Opd.topt _ _ _ rfl tO) Opds.nil))) ?_
  refine Run.pure (dd := some 32) rfl rfl (op_pick_and rfl (Opd.tmp _ _ rfl) (Opd.topt _ _ _ rfl tO)) ?_
  first | refine Run.pure (dd := some 33) rfl rfl (op_move rfl (Opd.tmp _ _ rfl)) ?_ | refine Run.pure (dd := some 33) rfl rfl (op_junk (.inl rfl)) ?_
  refine Run.pureG (dd := some 34) rfl rfl rfl tG (op_call_pure (fun _ => lives_c) rfl (Opd.func _) Opds.nil) ?_
  refine Run.pure (dd := some 35) rfl rfl (op_pick_and rfl (Opd.tmp _ _ rfl) (Opd.topt _ _ _ rfl tO)) ?_
  first | refine Run.pure (dd := some 6) rfl rfl (op_assign rfl (Opd.tmp _ _ rfl)) ?_ | refine Run.pure (dd := some 6) rfl rfl (op_junk (.inr rfl)) ?_
  refine Run.nil (FinR.mk ?_)
  refine nK ?_
  refine s_oB hC rfl rfl ?_
  simp
end Go.Proofs.Ytelnedgopdlnkaa
/- How the arguments of the rows read. -/
namespace Go.Proofs.Ytelnedgopdlnkaa
open Go Go.RT Go.Proofs Go.Pl
set_option linter.all false
variable {H : Type} {enc : TypeId × Value → H} {W : World} {ok : DataW H → Prop} {B : Nat}
theorem rdc_n : RdC ok enc Try.prog W 3 (fun fs => ∃ n, inr .i64 n ∧ fs = [If .i64 n]) := rdc_int (P := Try.prog) (t := 3) inferInstance
theorem rdc_edge (dn : DnOk H ok B) : RdC ok enc Try.prog W 39 (fun fs => ∃ e : Edg, okE e ∧ fs = encE e) :=
  (rdc_struct (P := Try.prog) (t := 39) dn Try.underlying39 (by kernel_rfl) (.cons _ _ _ _ rdc_n (.cons _ _ _ _ rdc_n (.cons _ _ _ _ rdc_n .nil)))).imp fun fs h => by
    obtain ⟨_, _, rfl, ⟨a, ha, rfl⟩, _, _, rfl, ⟨b, hb, rfl⟩, _, _, rfl, ⟨c, hc, rfl⟩, rfl⟩ := h
    exact ⟨⟨a, b, c⟩, ⟨ha, hb, hc⟩, rfl⟩
theorem rdc_edges (dn : DnOk H ok B) : RdC ok enc Try.prog W 22 (fun fs => ∃ l : List Edg, okEs l ∧ l.length ≤ B ∧ fs = [VE l]) :=
  (rdc_slice (P := Try.prog) (t := 22) (e := 39) dn inferInstance inferInstance (by decide) (rdc_edge dn)).imp fun fs h => by
    obtain ⟨rows, hr, hl, rfl⟩ := h
    obtain ⟨l, rfl, ho⟩ := rows_of (fun fs h => h) hr
    exact ⟨l, ho, by simpa using hl, rfl⟩
theorem rdc_graph (dn : DnOk H ok B) : RdC ok enc Try.prog W 24 (fun fs => ∃ g : Gr, okG g ∧ g.es.length ≤ B ∧ fs = encG g) :=
  (rdc_struct (P := Try.prog) (t := 24) dn Try.underlying24 (by kernel_rfl) (.cons _ _ _ _ rdc_n (.cons _ _ _ _ rdc_n (.cons _ _ _ _ (rdc_edges dn) .nil)))).imp fun fs h => by
    obtain ⟨_, _, rfl, ⟨a, ha, rfl⟩, _, _, rfl, ⟨b, hb, rfl⟩, _, _, rfl, ⟨l, hl, hB, rfl⟩, rfl⟩ := h
    exact ⟨⟨a, b, l⟩, ⟨ha, hb, hl⟩, hB, rfl⟩
end Go.Proofs.Ytelnedgopdlnkaa
