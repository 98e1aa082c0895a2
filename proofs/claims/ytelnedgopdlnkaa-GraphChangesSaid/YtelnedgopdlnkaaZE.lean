/- A part of the proof: GP7, G12, GP8, G13, G14, GP9, G15, RT22, G16, GP10, RT23, RT24, RT25, RT26. -/
import Derived.Test.YtelnedgopdlnkaaZD
import Derived.Lib.Overlaps
set_option linter.all false
/- The valid graph of edges, as the reference puts it together. -/
namespace Go.Pl
open Go.RT
set_option linter.all false
def ofStep (s : List Edg) (e : Edg) : List Edg :=
  match s[(fndI s e.f e.t).toNat]? with
  | some x => if fndI s e.f e.t < 0 then putR e false s else if e.c < x.c then s.set (fndI s e.f e.t).toNat ⟨x.f, x.t, e.c⟩ else s
  | none => putR e false s
theorem fnd_none (f t : Int) : ∀ (l : List Edg) (k : Nat), fndAt f t k l = -1 → ∀ x ∈ l, ¬ (x.f = f ∧ x.t = t)
  | [], _, _, x, hx => by cases hx
  | e :: l, k, h, x, hx => by
    simp only [fndAt] at h
    split at h
    · omega
    · rename_i hb
      rcases List.mem_cons.1 hx with rfl | hx
      · intro hc; apply hb; simp [isB, hc.1, hc.2]
      · exact fnd_none f t l (k + 1) h x hx
theorem fnd_some (f t : Int) : ∀ (l : List Edg) (k j : Nat) (h : j < l.length), fndAt f t k l = ((k + j : Nat) : Int) → l[j].f = f ∧ l[j].t = t
  | e :: l, k, j, hj, h => by
    simp only [fndAt] at h
    split at h
    · rename_i hb
      have : j = 0 := by omega
      subst this
      simpa [isB] using hb
    · cases j with
      | zero => rcases fndAt_rng f t l (k + 1) with h1 | ⟨j, _, h2⟩ <;> omega
      | succ j =>
        have := fnd_some f t l (k + 1) j (by simpa using hj) (by rw [h]; omega)
        simpa using this
theorem putR_true (e : Edg) : ∀ l, putR e true l = l
  | [] => rfl
  | x :: l => by simp [putR, putR_true e l]
theorem putR_spec (e : Edg) : ∀ (l : List Edg), AscK l → (∀ x ∈ l, ¬ (x.f = e.f ∧ x.t = e.t)) → AscK (putR e false l) ∧ ∀ x, x ∈ putR e false l ↔ x = e ∨ x ∈ l
  | [], _, _ => by simp [putR, AscK]
  | y :: l, h, hn => by
    obtain ⟨h1, h2⟩ := List.pairwise_cons.1 h
    have hy := hn y (List.mem_cons_self ..)
    by_cases hb : befB e y = true
    · have e1 : putR e false (y :: l) = e :: y :: l := by simp [putR, hb, putR_true]
      rw [e1]
      have hlt := (ltK_bef e y).1 hb
      refine ⟨List.pairwise_cons.2 ⟨fun x hx => ?_, h⟩, fun x => by simp⟩
      rcases List.mem_cons.1 hx with rfl | hx
      · exact hlt
      · have := h1 x hx; unfold ltK at *; omega
    · have hb2 : befB e y = false := by simpa using hb
      have e1 : putR e false (y :: l) = y :: putR e false l := by simp [putR, hb2]
      obtain ⟨i1, i2⟩ := putR_spec e l h2 (fun x hx => hn x (List.mem_cons_of_mem _ hx))
      rw [e1]
      have hlt : ltK y e := by
        have : ¬ ltK e y := fun hh => hb ((ltK_bef e y).2 hh)
        unfold ltK at *; omega
      refine ⟨List.pairwise_cons.2 ⟨fun x hx => ?_, i1⟩, fun x => by rw [List.mem_cons, i2, List.mem_cons]; constructor <;> (intro h; rcases h with h | h | h <;> simp [h])⟩
      rcases (i2 x).1 hx with rfl | hx
      · exact hlt
      · exact h1 x hx
theorem ofStep_least {l s : List Edg} {e : Edg} (h : Least l s) : Least (l ++ [e]) (ofStep s e) := by
  rcases fndAt_rng e.f e.t s 0 with h0 | ⟨j, hj, h0⟩
  · have hnone := fnd_none e.f e.t s 0 h0
    have hs : ofStep s e = putR e false s := by
      unfold ofStep
      have hlt : fndI s e.f e.t < 0 := by show fndAt e.f e.t 0 s < 0; omega
      split
      · rw [if_pos hlt]
      · rfl
    rw [hs]
    obtain ⟨p1, p2⟩ := putR_spec e s h.asc hnone
    refine ⟨p1, fun x hx => ?_, fun x hx y hy g1 g2 => ?_, fun y hy => ?_⟩
    · rcases (p2 x).1 hx with rfl | hx
      · simp
      · exact List.mem_append.2 (.inl (h.sub x hx))
    · rcases (p2 x).1 hx with rfl | hx2
      · rcases List.mem_append.1 hy with hy | hy
        · obtain ⟨z, hz, z1, z2⟩ := h.all y hy
          exact absurd ⟨by omega, by omega⟩ (hnone z hz)
        · have : y = x := by simpa using hy
          rw [this]; exact Int.le_refl _
      · rcases List.mem_append.1 hy with hy | hy
        · exact h.min x hx2 y hy g1 g2
        · have : y = e := by simpa using hy
          subst this
          exact absurd ⟨g1.symm, g2.symm⟩ (hnone x hx2)
    · rcases List.mem_append.1 hy with hy | hy
      · obtain ⟨z, hz, z1, z2⟩ := h.all y hy
        exact ⟨z, (p2 z).2 (.inr hz), z1, z2⟩
      · have : y = e := by simpa using hy
        subst this
        exact ⟨y, (p2 y).2 (.inl rfl), rfl, rfl⟩
  · have h0' : fndI s e.f e.t = (j : Int) := by show fndAt e.f e.t 0 s = _; omega
    obtain ⟨k1, k2⟩ := fnd_some e.f e.t s 0 j hj (by omega)
    have hpos : ¬ ((j : Int) < 0) := by omega
    have hs : ofStep s e = if e.c < s[j].c then s.set j ⟨s[j].f, s[j].t, e.c⟩ else s := by
      unfold ofStep
      rw [h0']
      simp only [Int.toNat_natCast, List.getElem?_eq_getElem hj, hpos, if_false]
    rw [hs]
    have hmj := List.getElem_mem hj
    by_cases hc : e.c < s[j].c
    · rw [if_pos hc]
      have hmem : ∀ x, x ∈ s.set j ⟨s[j].f, s[j].t, e.c⟩ → x = ⟨s[j].f, s[j].t, e.c⟩ ∨ (x ∈ s ∧ ¬ (x.f = e.f ∧ x.t = e.t)) := fun x hx => by
        obtain ⟨i, hi, rfl⟩ := List.mem_iff_getElem.1 hx
        rw [List.getElem_set]
        split
        · exact .inl rfl
        · rename_i hne
          rw [List.length_set] at hi
          refine .inr ⟨List.getElem_mem hi, fun hk => ?_⟩
          have hp := List.pairwise_iff_getElem.1 h.asc
          rcases Nat.lt_trichotomy i j with hij | hij | hij
          · have := hp i j hi hj hij; unfold ltK at this; omega
          · exact hne hij.symm
          · have := hp j i hj hi hij; unfold ltK at this; omega
      have hin : (⟨s[j].f, s[j].t, e.c⟩ : Edg) = e := by cases e; simp only at *; simp [k1, k2]
      refine ⟨?_, fun x hx => ?_, fun x hx y hy g1 g2 => ?_, fun y hy => ?_⟩
      · show (s.set j _).Pairwise ltK
        rw [List.pairwise_iff_getElem]
        intro a b ha hb hab
        rw [List.length_set] at ha hb
        have hp := List.pairwise_iff_getElem.1 h.asc a b ha hb hab
        rw [List.getElem_set, List.getElem_set]
        unfold ltK at *
        split <;> split <;> (try subst_vars) <;> (try simp only at *) <;> omega
      · rcases hmem x hx with rfl | ⟨hx, _⟩
        · rw [hin]; simp
        · exact List.mem_append.2 (.inl (h.sub x hx))
      · rcases hmem x hx with rfl | ⟨hx, hne⟩
        · rcases List.mem_append.1 hy with hy | hy
          · have := h.min _ hmj y hy g1 g2; simp only at *; omega
          · have : y = e := by simpa using hy
            rw [this]; exact Int.le_refl _
        · rcases List.mem_append.1 hy with hy | hy
          · exact h.min x hx y hy g1 g2
          · have : y = e := by simpa using hy
            subst this
            exact absurd ⟨g1.symm, g2.symm⟩ hne
      · have hnew : (⟨s[j].f, s[j].t, e.c⟩ : Edg) ∈ s.set j ⟨s[j].f, s[j].t, e.c⟩ := List.mem_iff_getElem.2 ⟨j, by simpa using hj, by simp⟩
        rcases List.mem_append.1 hy with hy | hy
        · obtain ⟨z, hz, z1, z2⟩ := h.all y hy
          by_cases hzk : z.f = e.f ∧ z.t = e.t
          · exact ⟨_, hnew, by simp only; omega, by simp only; omega⟩
          · refine ⟨z, ?_, z1, z2⟩
            obtain ⟨i, hi, rfl⟩ := List.mem_iff_getElem.1 hz
            refine List.mem_iff_getElem.2 ⟨i, by simpa using hi, ?_⟩
            rw [List.getElem_set, if_neg (fun e2 => by subst e2; exact hzk ⟨k1, k2⟩)]
        · have : y = e := by simpa using hy
          exact ⟨_, hnew, by rw [this]; exact k1, by rw [this]; exact k2⟩
    · rw [if_neg hc]
      refine ⟨h.asc, fun x hx => List.mem_append.2 (.inl (h.sub x hx)), fun x hx y hy g1 g2 => ?_, fun y hy => ?_⟩
      · rcases List.mem_append.1 hy with hy | hy
        · exact h.min x hx y hy g1 g2
        · have hye : y = e := by simpa using hy
          subst hye
          have hxj : x = s[j] := by
            obtain ⟨i, hi, rfl⟩ := List.mem_iff_getElem.1 hx
            have hp := List.pairwise_iff_getElem.1 h.asc
            rcases Nat.lt_trichotomy i j with hij | hij | hij
            · have := hp i j hi hj hij; unfold ltK at this; omega
            · subst hij; rfl
            · have := hp j i hj hi hij; unfold ltK at this; omega
          rw [hxj]; omega
      · rcases List.mem_append.1 hy with hy | hy
        · exact h.all y hy
        · have : y = e := by simpa using hy
          exact ⟨s[j], hmj, by rw [this]; exact k1, by rw [this]; exact k2⟩
def ofR (l : List Edg) : List Edg := l.foldl ofStep []
theorem ofR_least (l : List Edg) : Least l (ofR l) := by
  have key : ∀ (l pre s : List Edg), Least pre s → Least (pre ++ l) (l.foldl ofStep s) := by
    intro l
    induction l with
    | nil => intro pre s h; simpa using h
    | cons e l ih => intro pre s h; have := ih (pre ++ [e]) (ofStep s e) (ofStep_least h); simpa using this
  exact key l [] [] ⟨by simp [AscK], by simp, by simp, by simp⟩
theorem ofR_eq (l : List Edg) : ofR l = ofL l := (ofR_least l).uniq (ofL_least l)
theorem ofR_succ (l : List Edg) (i : Nat) (h : i < l.length) : ofR (l.take (i + 1)) = ofStep (ofR (l.take i)) l[i] := by
  unfold ofR; rw [List.take_succ_eq_append_getElem h, List.foldl_append]; rfl
theorem ofR_len (l : List Edg) : (ofR l).length ≤ l.length := by rw [ofR_eq]; exact ofL_len l
end Go.Pl
namespace Go.Proofs.Ytelnedgopdlnkaa
open Go Go.RT Go.Proofs Go.Pl
set_option linter.all false
set_option maxRecDepth 20000
theorem put_f (l : List Edg) (e : Edg) (hn : l.length ≤ 2000000) : Meets Try.prog 50 ([VE l, .agg (encE e)].map PV.fz) 0 [] (.sl 0 3 0 (putR e false l).length) [(0, OE (putR e false l))] 1 := by
  have hlen := putR_len e l false
  refine Meets.intro Try.func50 rfl (Nat.le_of_ble_eq_true rfl) fun C hC => ?_
  simp only [List.map, argEnv, Nat.reduceAdd]
  refine nK ?_
  refine s_reg rfl ?_
  first | refine Run.eff (dd := some 3) rfl rfl (op_box_flat rfl (Opd.tmp _ _ rfl) tC rfl) ?_ | refine Run.eff (dd := some 3) rfl rfl (op_box_refs rfl (Opd.tmp _ _ rfl) tP rfl) ?_
  first | refine Run.pure (dd := some 4) rfl rfl (op_assign rfl (Opd.const _)) ?_ | refine Run.pure (dd := some 4) rfl rfl (op_junk (.inr rfl)) ?_
  refine Run.nil (FinR.mk ?_)
  refine nK ?_
  refine s_reg rfl ?_
  refine Run.eff (dd := some 8) rfl rfl (op_buildSlice_own rfl (RowsF.nil _) rfl rfl rfl) ?_
  first | refine Run.pure (dd := some 5) rfl rfl (op_assign rfl (Opd.tmp _ _ rfl)) ?_ | refine Run.pure (dd := some 5) rfl rfl (op_junk (.inr rfl)) ?_
  refine Run.nil (FinR.mk ?_)
  refine nK ?_
  refine s_reg rfl ?_
  first | refine Run.pure (dd := some 6) rfl rfl (op_assign rfl (Opd.const _)) ?_ | refine Run.pure (dd := some 6) rfl rfl (op_junk (.inr rfl)) ?_
  refine Run.nil (FinR.mk ?_)
  refine nK ?_
  refine s_reg rfl ?_
  first | refine Run.pure (dd := some 7) rfl rfl (op_assign rfl (Opd.const _)) ?_ | refine Run.pure (dd := some 7) rfl rfl (op_junk (.inr rfl)) ?_
  refine Run.nil (FinR.mk ?_)
  refine nK ?_
  refine n_loop (ι := Nat × Bool × List Edg) (fun g => ([(0, .fz (VE l)), (3, .ptr 0 3 0 0), (5, .sl 1 3 0 g.2.2.length), (6, BV g.2.1), (7, IV .i64 g.1)], [(0, some (.flat 3 [encE e])), (1, OE g.2.2)], 2)) (fun g => g.1 ≤ l.length ∧ g.2.2 ++ putR e g.2.1 (l.drop g.1) = putR e false l) (fun g => l.length - g.1) (0, false, []) ⟨Nat.zero_le _, rfl⟩ ?_ ?_
  · refine Next.weakS [3, 5] [] (by rfl) (by first | exact keeps0 hC _ | exact keepsN hC _ rfl) (by repeat (first | exact trivial | refine ⟨⟨_, rfl, .inl ⟨rfl, rfl⟩⟩, ?_⟩ | refine ⟨⟨_, rfl, .inl ⟨slEq rfl tN, rfl⟩⟩, ?_⟩ | refine ⟨⟨_, rfl, .inl ⟨ivEq tX, rfl⟩⟩, ?_⟩)) (by repeat (first | exact trivial | refine ⟨ent_same rfl rfl rfl tL, ?_⟩ | refine ⟨ent_same rfl rfl (rfEq rfl tU) tL, ?_⟩ | refine ⟨ent_same rfl rfl (flEq rfl (by first | (simp; done) | (simp; omega) | (simp [encE, encN, encB]; done) | simp [maxC, minC])) trivial, ?_⟩)) rfl (rel_intro)
  · intro ⟨i, d, out⟩ ⟨hi, ho⟩ K hK
    dsimp only at hi ho ⊢
    have hol : out.length ≤ l.length + 1 := by rw [← ho] at hlen; simp at hlen; omega
    refine nK ?_
    refine s_reg rfl ?_
    first | refine Run.pure (dd := some 9) rfl rfl (op_move rfl (Opd.tmp _ _ rfl)) ?_ | refine Run.pure (dd := some 9) rfl rfl (op_junk (.inl rfl)) ?_
    first | refine Run.pure (dd := some 10) rfl rfl (op_move rfl (Opd.tmp _ _ rfl)) ?_ | refine Run.pure (dd := some 10) rfl rfl (op_junk (.inl rfl)) ?_
    first | refine Run.pure (dd := some 11) rfl rfl (op_len_fz rfl (by first | exact Opd.tmp _ _ rfl | exact Opd.nil _ _ (Opd.tmp _ _ rfl)) (by first | exact List.length_map _ | rfl)) ?_ | refine Run.pure (dd := some 11) rfl rfl (op_len_sl rfl (Opd.tmp _ _ rfl)) ?_
    refine Run.pure (dd := some 12) rfl rfl (op_lss rfl (Opd.tmp _ _ rfl) (Opd.tmp _ _ rfl)) ?_
    refine Run.nil (FinR.mk ?_)
    refine nK ?_
    refine n_cond _ rfl (fun hb => ?_) (fun hb => ?_)
    · have hlt : i < l.length := by simp at hb; omega
      have hr1 := row_at' encE l i hlt
      rw [List.drop_eq_getElem_cons hlt] at ho
      simp only [putR] at ho
      have hK1 := fun d' o' h => hK (i + 1, d', o') ⟨by dsimp only; omega, h⟩ (by dsimp only; omega)
      generalize l[i] = x at *
      refine nK ?_
      refine s_draw mixed ?_
      first | refine Run.pure (dd := some 15) rfl rfl (op_move rfl (Opd.tmp _ _ rfl)) ?_ | refine Run.pure (dd := some 15) rfl rfl (op_junk (.inl rfl)) ?_
      refine Run.pure (dd := some 16) rfl rfl (op_not rfl (Opd.tmp _ _ rfl)) ?_
      first | refine Run.pure (dd := some 17) rfl rfl (op_move rfl (Opd.tmp _ _ rfl)) ?_ | refine Run.pure (dd := some 17) rfl rfl (op_junk (.inl rfl)) ?_
      first | refine Run.loadG (dd := some 18) rfl rfl rfl tG (op_loadw_flat rfl (Opd.tmp _ _ rfl) tH rfl) ?_ | refine Run.pureG (dd := some 18) rfl rfl rfl tG (op_loadw_fz rfl (Opd.tmp _ _ rfl) rfl) ?_ | refine Run.loadG (dd := some 18) rfl rfl rfl tG (op_loadn_flat rfl (Opd.tmp _ _ rfl) tH tR tR) ?_ | refine Run.pureG (dd := some 18) rfl rfl rfl tG (op_loadn_fz rfl (Opd.tmp _ _ rfl) tR) ?_ | refine Run.loadG (dd := some 18) rfl rfl rfl tG (op_loadn_refs rfl (Opd.tmp _ _ rfl) tH tR tR) ?_
      first | refine Run.pureG (dd := some 19) rfl rfl rfl tG (op_move rfl (Opd.tmp _ _ rfl)) ?_ | refine Run.pureG (dd := some 19) rfl rfl rfl tG (op_junk (.inl rfl)) ?_
      first | refine Run.pureG (dd := some 20) rfl rfl rfl tG (op_move rfl (Opd.tmp _ _ rfl)) ?_ | refine Run.pureG (dd := some 20) rfl rfl rfl tG (op_junk (.inl rfl)) ?_
      first | refine Run.pureG (dd := some 21) rfl rfl rfl tG (op_idx_sl0 _ rfl (Opd.topt _ _ _ rfl tO) (Opd.topt _ _ _ rfl tO) tD) ?_ | refine Run.pureG (dd := some 21) rfl rfl rfl tG (op_idx_fz _ rfl (Opd.topt _ _ _ rfl tO) (Opd.topt _ _ _ rfl tO) tF) ?_
      first | refine Run.loadG (dd := some 22) rfl rfl rfl tG (op_loadw_flat rfl (Opd.topt _ _ _ rfl tO) tH rfl) ?_ | refine Run.pureG (dd := some 22) rfl rfl rfl tG (op_loadw_fz rfl (Opd.topt _ _ _ rfl tO) rfl) ?_ | refine Run.loadG (dd := some 22) rfl rfl rfl tG (op_loadn_flat rfl (Opd.topt _ _ _ rfl tO) tH tR tR) ?_ | refine Run.pureG (dd := some 22) rfl rfl rfl tG (op_loadn_fz rfl (Opd.topt _ _ _ rfl tO) tR) ?_ | refine Run.loadG (dd := some 22) rfl rfl rfl tG (op_loadn_refs rfl (Opd.topt _ _ _ rfl tO) tH tR tR) ?_
      refine Run.pureG (dd := some 23) rfl rfl rfl tG (op_call_pure (fun _ => before_c _ _) rfl (Opd.func _) (Opds.cons _ _ _ _ (Opd.topt _ _ _ rfl tO) (Opds.cons _ _ _ _ (Opd.topt _ _ _ rfl tO) Opds.nil))) ?_
      refine Run.pure (dd := some 24) rfl rfl (op_pick_and rfl (Opd.tmp _ _ rfl) (Opd.topt _ _ _ rfl tO)) ?_
      refine Run.nil (FinD.mk (by kernel_rfl) ?_)
      refine nK ?_
      refine n_cond _ rfl (fun hb => ?_) (fun hb => ?_)
      · have hd : d = false ∧ befB e x = true := by simpa using hb
        obtain ⟨rfl, hx⟩ := hd
        simp only [hx, Bool.not_false, Bool.and_self, if_true, Bool.or_true] at ho
        refine nK ?_
        refine s_reg rfl ?_
        first | refine Run.pure (dd := some 25) rfl rfl (op_move rfl (Opd.tmp _ _ rfl)) ?_ | refine Run.pure (dd := some 25) rfl rfl (op_junk (.inl rfl)) ?_
        first | refine Run.load (dd := some 26) rfl rfl (op_loadw_flat rfl (Opd.tmp _ _ rfl) tH rfl) ?_ | refine Run.pure (dd := some 26) rfl rfl (op_loadw_fz rfl (Opd.tmp _ _ rfl) rfl) ?_ | refine Run.load (dd := some 26) rfl rfl (op_loadn_flat rfl (Opd.tmp _ _ rfl) tH tR tR) ?_ | refine Run.pure (dd := some 26) rfl rfl (op_loadn_fz rfl (Opd.tmp _ _ rfl) tR) ?_ | refine Run.load (dd := some 26) rfl rfl (op_loadn_refs rfl (Opd.tmp _ _ rfl) tH tR tR) ?_
        refine Run.pure (dd := some 27) rfl rfl (op_buildSlice_fz rfl (RowsF.cons _ _ _ _ _ _ (Opd.tmp _ _ rfl) tC (by rfl) (RowsF.nil _)) rfl rfl) ?_
        first | refine Run.eff (dd := some 28) rfl rfl (op_append_own0 rfl (Opd.tmp _ _ rfl) (Opd.tmp _ _ rfl) rfl (by first | rfl | simp) rfl (by first | rfl | simp) rfl rfl tB tB) ?_ | refine Run.eff (dd := some 28) rfl rfl (op_append rfl (Opd.tmp _ _ rfl) (by first | exact Opd.tmp _ _ rfl | exact Opd.nil _ _ (Opd.tmp _ _ rfl)) rfl (by first | rfl | simp) rfl rfl tB tB) ?_
        first | refine Run.pure (dd := some 5) rfl rfl (op_assign rfl (Opd.tmp _ _ rfl)) ?_ | refine Run.pure (dd := some 5) rfl rfl (op_junk (.inr rfl)) ?_
        refine Run.nil (FinR.mk ?_)
        refine nK ?_
        refine s_reg rfl ?_
        first | refine Run.pure (dd := some 6) rfl rfl (op_assign rfl (Opd.const _)) ?_ | refine Run.pure (dd := some 6) rfl rfl (op_junk (.inr rfl)) ?_
        refine Run.nil (FinR.mk ?_)
        refine nK ?_
        refine s_reg rfl ?_
        first | refine Run.pure (dd := some 29) rfl rfl (op_move rfl (Opd.tmp _ _ rfl)) ?_ | refine Run.pure (dd := some 29) rfl rfl (op_junk (.inl rfl)) ?_
        first | refine Run.pure (dd := some 30) rfl rfl (op_move rfl (Opd.tmp _ _ rfl)) ?_ | refine Run.pure (dd := some 30) rfl rfl (op_junk (.inl rfl)) ?_
        first | refine Run.pure (dd := some 31) rfl rfl (op_move rfl (Opd.tmp _ _ rfl)) ?_ | refine Run.pure (dd := some 31) rfl rfl (op_junk (.inl rfl)) ?_
        first | refine Run.pure (dd := some 32) rfl rfl (op_idx_sl0 _ rfl (Opd.tmp _ _ rfl) (Opd.tmp _ _ rfl) tD) ?_ | refine Run.pure (dd := some 32) rfl rfl (op_idx_fz _ rfl (Opd.tmp _ _ rfl) (Opd.tmp _ _ rfl) tF) ?_
        first | refine Run.load (dd := some 33) rfl rfl (op_loadw_flat rfl (Opd.tmp _ _ rfl) tH rfl) ?_ | refine Run.pure (dd := some 33) rfl rfl (op_loadw_fz rfl (Opd.tmp _ _ rfl) rfl) ?_ | refine Run.load (dd := some 33) rfl rfl (op_loadn_flat rfl (Opd.tmp _ _ rfl) tH tR tR) ?_ | refine Run.pure (dd := some 33) rfl rfl (op_loadn_fz rfl (Opd.tmp _ _ rfl) tR) ?_ | refine Run.load (dd := some 33) rfl rfl (op_loadn_refs rfl (Opd.tmp _ _ rfl) tH tR tR) ?_
        refine Run.pure (dd := some 34) rfl rfl (op_buildSlice_fz rfl (RowsF.cons _ _ _ _ _ _ (Opd.tmp _ _ rfl) tC (by rfl) (RowsF.nil _)) rfl rfl) ?_
        first | refine Run.eff (dd := some 35) rfl rfl (op_append_own0 rfl (Opd.tmp _ _ rfl) (Opd.tmp _ _ rfl) rfl (by first | rfl | simp) rfl (by first | rfl | simp) rfl rfl tB tB) ?_ | refine Run.eff (dd := some 35) rfl rfl (op_append rfl (Opd.tmp _ _ rfl) (by first | exact Opd.tmp _ _ rfl | exact Opd.nil _ _ (Opd.tmp _ _ rfl)) rfl (by first | rfl | simp) rfl rfl tB tB) ?_
        first | refine Run.pure (dd := some 5) rfl rfl (op_assign rfl (Opd.tmp _ _ rfl)) ?_ | refine Run.pure (dd := some 5) rfl rfl (op_junk (.inr rfl)) ?_
        refine Run.nil (FinR.mk ?_)
        refine nK ?_
        refine s_reg rfl ?_
        first | refine Run.pure (dd := some 13) rfl rfl (op_move rfl (Opd.tmp _ _ rfl)) ?_ | refine Run.pure (dd := some 13) rfl rfl (op_junk (.inl rfl)) ?_
        refine Run.pure (dd := some 14) rfl rfl (op_add rfl (Opd.tmp _ _ rfl) (Opd.const _) tI) ?_
        first | refine Run.pure (dd := some 7) rfl rfl (op_assign rfl (Opd.tmp _ _ rfl)) ?_ | refine Run.pure (dd := some 7) rfl rfl (op_junk (.inr rfl)) ?_
        refine Run.nil (FinR.mk ?_)
        refine nK ?_
        refine Next.weakS [3, 5] [] (by rfl) (by first | exact keeps0 hC _ | exact keepsN hC _ rfl) (by repeat (first | exact trivial | refine ⟨⟨_, rfl, .inl ⟨rfl, rfl⟩⟩, ?_⟩ | refine ⟨⟨_, rfl, .inl ⟨slEq rfl tN, rfl⟩⟩, ?_⟩ | refine ⟨⟨_, rfl, .inl ⟨ivEq tX, rfl⟩⟩, ?_⟩)) (by repeat (first | exact trivial | refine ⟨ent_same rfl rfl rfl tL, ?_⟩ | refine ⟨ent_same rfl rfl (rfEq rfl tU) tL, ?_⟩ | refine ⟨ent_same rfl rfl (flEq rfl (by first | (simp; done) | (simp; omega) | (simp [encE, encN, encB]; done) | simp [maxC, minC])) trivial, ?_⟩)) rfl ((hK1 true (out ++ [e] ++ [x]) (by rw [← ho]; simp)))
      · have hd : (!d && befB e x) = false := hb
        rw [hd] at ho
        simp only [Bool.false_eq_true, if_false, List.nil_append, Bool.or_false] at ho
        refine nK ?_
        refine s_reg rfl ?_
        first | refine Run.pure (dd := some 29) rfl rfl (op_move rfl (Opd.tmp _ _ rfl)) ?_ | refine Run.pure (dd := some 29) rfl rfl (op_junk (.inl rfl)) ?_
        first | refine Run.pure (dd := some 30) rfl rfl (op_move rfl (Opd.tmp _ _ rfl)) ?_ | refine Run.pure (dd := some 30) rfl rfl (op_junk (.inl rfl)) ?_
        first | refine Run.pure (dd := some 31) rfl rfl (op_move rfl (Opd.tmp _ _ rfl)) ?_ | refine Run.pure (dd := some 31) rfl rfl (op_junk (.inl rfl)) ?_
        first | refine Run.pure (dd := some 32) rfl rfl (op_idx_sl0 _ rfl (Opd.tmp _ _ rfl) (Opd.tmp _ _ rfl) tD) ?_ | refine Run.pure (dd := some 32) rfl rfl (op_idx_fz _ rfl (Opd.tmp _ _ rfl) (Opd.tmp _ _ rfl) tF) ?_
        first | refine Run.load (dd := some 33) rfl rfl (op_loadw_flat rfl (Opd.tmp _ _ rfl) tH rfl) ?_ | refine Run.pure (dd := some 33) rfl rfl (op_loadw_fz rfl (Opd.tmp _ _ rfl) rfl) ?_ | refine Run.load (dd := some 33) rfl rfl (op_loadn_flat rfl (Opd.tmp _ _ rfl) tH tR tR) ?_ | refine Run.pure (dd := some 33) rfl rfl (op_loadn_fz rfl (Opd.tmp _ _ rfl) tR) ?_ | refine Run.load (dd := some 33) rfl rfl (op_loadn_refs rfl (Opd.tmp _ _ rfl) tH tR tR) ?_
        refine Run.pure (dd := some 34) rfl rfl (op_buildSlice_fz rfl (RowsF.cons _ _ _ _ _ _ (Opd.tmp _ _ rfl) tC (by rfl) (RowsF.nil _)) rfl rfl) ?_
        first | refine Run.eff (dd := some 35) rfl rfl (op_append_own0 rfl (Opd.tmp _ _ rfl) (Opd.tmp _ _ rfl) rfl (by first | rfl | simp) rfl (by first | rfl | simp) rfl rfl tB tB) ?_ | refine Run.eff (dd := some 35) rfl rfl (op_append rfl (Opd.tmp _ _ rfl) (by first | exact Opd.tmp _ _ rfl | exact Opd.nil _ _ (Opd.tmp _ _ rfl)) rfl (by first | rfl | simp) rfl rfl tB tB) ?_
        first | refine Run.pure (dd := some 5) rfl rfl (op_assign rfl (Opd.tmp _ _ rfl)) ?_ | refine Run.pure (dd := some 5) rfl rfl (op_junk (.inr rfl)) ?_
        refine Run.nil (FinR.mk ?_)
        refine nK ?_
        refine s_reg rfl ?_
        first | refine Run.pure (dd := some 13) rfl rfl (op_move rfl (Opd.tmp _ _ rfl)) ?_ | refine Run.pure (dd := some 13) rfl rfl (op_junk (.inl rfl)) ?_
        refine Run.pure (dd := some 14) rfl rfl (op_add rfl (Opd.tmp _ _ rfl) (Opd.const _) tI) ?_
        first | refine Run.pure (dd := some 7) rfl rfl (op_assign rfl (Opd.tmp _ _ rfl)) ?_ | refine Run.pure (dd := some 7) rfl rfl (op_junk (.inr rfl)) ?_
        refine Run.nil (FinR.mk ?_)
        refine nK ?_
        refine Next.weakS [3, 5] [] (by rfl) (by first | exact keeps0 hC _ | exact keepsN hC _ rfl) (by repeat (first | exact trivial | refine ⟨⟨_, rfl, .inl ⟨rfl, rfl⟩⟩, ?_⟩ | refine ⟨⟨_, rfl, .inl ⟨slEq rfl tN, rfl⟩⟩, ?_⟩ | refine ⟨⟨_, rfl, .inl ⟨ivEq tX, rfl⟩⟩, ?_⟩)) (by repeat (first | exact trivial | refine ⟨ent_same rfl rfl rfl tL, ?_⟩ | refine ⟨ent_same rfl rfl (rfEq rfl tU) tL, ?_⟩ | refine ⟨ent_same rfl rfl (flEq rfl (by first | (simp; done) | (simp; omega) | (simp [encE, encN, encB]; done) | simp [maxC, minC])) trivial, ?_⟩)) rfl ((hK1 d (out ++ [x]) (by rw [← ho]; simp)))
    · have hie : i = l.length := by simp at hb; omega
      rw [hie, List.drop_length] at ho
      simp only [putR] at ho
      refine nK ?_
      refine s_reg rfl ?_
      first | refine Run.pure (dd := some 36) rfl rfl (op_move rfl (Opd.tmp _ _ rfl)) ?_ | refine Run.pure (dd := some 36) rfl rfl (op_junk (.inl rfl)) ?_
      refine Run.pure (dd := some 37) rfl rfl (op_not rfl (Opd.tmp _ _ rfl)) ?_
      refine Run.nil (FinR.mk ?_)
      refine nK ?_
      refine n_cond _ rfl (fun hb => ?_) (fun hb => ?_)
      · have hd : d = false := by simpa using hb
        subst hd
        simp only [Bool.false_eq_true, if_false] at ho
        rw [← ho]
        refine nK ?_
        refine s_reg rfl ?_
        first | refine Run.pure (dd := some 38) rfl rfl (op_move rfl (Opd.tmp _ _ rfl)) ?_ | refine Run.pure (dd := some 38) rfl rfl (op_junk (.inl rfl)) ?_
        first | refine Run.load (dd := some 39) rfl rfl (op_loadw_flat rfl (Opd.tmp _ _ rfl) tH rfl) ?_ | refine Run.pure (dd := some 39) rfl rfl (op_loadw_fz rfl (Opd.tmp _ _ rfl) rfl) ?_ | refine Run.load (dd := some 39) rfl rfl (op_loadn_flat rfl (Opd.tmp _ _ rfl) tH tR tR) ?_ | refine Run.pure (dd := some 39) rfl rfl (op_loadn_fz rfl (Opd.tmp _ _ rfl) tR) ?_ | refine Run.load (dd := some 39) rfl rfl (op_loadn_refs rfl (Opd.tmp _ _ rfl) tH tR tR) ?_
        refine Run.pure (dd := some 40) rfl rfl (op_buildSlice_fz rfl (RowsF.cons _ _ _ _ _ _ (Opd.tmp _ _ rfl) tC (by rfl) (RowsF.nil _)) rfl rfl) ?_
        first | refine Run.eff (dd := some 41) rfl rfl (op_append_own0 rfl (Opd.tmp _ _ rfl) (Opd.tmp _ _ rfl) rfl (by first | rfl | simp) rfl (by first | rfl | simp) rfl rfl tB tB) ?_ | refine Run.eff (dd := some 41) rfl rfl (op_append rfl (Opd.tmp _ _ rfl) (by first | exact Opd.tmp _ _ rfl | exact Opd.nil _ _ (Opd.tmp _ _ rfl)) rfl (by first | rfl | simp) rfl rfl tB tB) ?_
        first | refine Run.pure (dd := some 5) rfl rfl (op_assign rfl (Opd.tmp _ _ rfl)) ?_ | refine Run.pure (dd := some 5) rfl rfl (op_junk (.inr rfl)) ?_
        refine Run.nil (FinR.mk ?_)
        refine nK ?_
        refine s_reg rfl ?_
        first | refine Run.pure (dd := some 42) rfl rfl (op_move rfl (Opd.tmp _ _ rfl)) ?_ | refine Run.pure (dd := some 42) rfl rfl (op_junk (.inl rfl)) ?_
        first | refine Run.pure (dd := some 4) rfl rfl (op_assign rfl (Opd.tmp _ _ rfl)) ?_ | refine Run.pure (dd := some 4) rfl rfl (op_junk (.inr rfl)) ?_
        refine Run.nil (FinR.mk ?_)
        refine nK ?_
        refine Next.weakS [5] [] (by rfl) (keeps0 hC _) (G' := [(4, .sl 0 3 0 (out ++ [e]).length)]) (H' := [(0, OE (out ++ [e]))]) (by repeat (first | exact trivial | refine ⟨⟨_, rfl, .inl ⟨rfl, rfl⟩⟩, ?_⟩ | refine ⟨⟨_, rfl, .inl ⟨slEq rfl tN, rfl⟩⟩, ?_⟩ | refine ⟨⟨_, rfl, .inl ⟨ivEq tX, rfl⟩⟩, ?_⟩)) (by repeat (first | exact trivial | refine ⟨ent_same rfl rfl rfl tL, ?_⟩ | refine ⟨ent_same rfl rfl (rfEq rfl tU) tL, ?_⟩ | refine ⟨ent_same rfl rfl (flEq rfl (by first | (simp; done) | (simp; omega) | (simp [encE, encN, encB]; done) | simp [maxC, minC])) trivial, ?_⟩)) rfl ?_
        (first | exact s_o1 hC rfl tV | exact s_o2 hC rfl tV tV | exact s_o3 hC rfl tV tV tV | exact s_out0 hC rfl | exact s_outO hC rfl rfl rfl)
      · have hd : d = true := by simpa using hb
        subst hd
        simp only [if_true, List.append_nil] at ho
        rw [← ho]
        refine nK ?_
        refine s_reg rfl ?_
        first | refine Run.pure (dd := some 42) rfl rfl (op_move rfl (Opd.tmp _ _ rfl)) ?_ | refine Run.pure (dd := some 42) rfl rfl (op_junk (.inl rfl)) ?_
        first | refine Run.pure (dd := some 4) rfl rfl (op_assign rfl (Opd.tmp _ _ rfl)) ?_ | refine Run.pure (dd := some 4) rfl rfl (op_junk (.inr rfl)) ?_
        refine Run.nil (FinR.mk ?_)
        refine nK ?_
        (first | exact s_o1 hC rfl tV | exact s_o2 hC rfl tV tV | exact s_o3 hC rfl tV tV tV | exact s_out0 hC rfl | exact s_outO hC rfl rfl rfl)
theorem memE (e : Edg) : memlesss (encE e) = true := rfl
theorem memEs (l : List Edg) : ∀ r ∈ l.map encE, memlesss r = true := fun r hr => by
  obtain ⟨e, _, rfl⟩ := List.mem_map.1 hr; rfl
theorem rof_c (r n : Int) (l : List Edg) (hr : inr .i64 r) (hn : inr .i64 n) (hl : okEs l) (hle : l.length ≤ 1999999) : Pure Try.prog 19 [If .i64 r, If .i64 n, VE l] (.tup [.agg (encG (ofF r n l).1), If .i64 (ofF r n l).2]) := by
  have hok : okG ⟨r, n, ofR l⟩ := by rw [ofR_eq]; exact ofL_ok hr hn hl
  have hlen0 := ofR_len l
  have hofF : ofF r n l = if checkI ⟨r, n, ofR l⟩ ≠ 0 then (zeroG, checkI ⟨r, n, ofR l⟩) else (⟨r, n, ofR l⟩, 0) := by unfold ofF; rw [ofR_eq]
  rw [hofF]
  refine Meets.intro Try.func19 rfl (Nat.le_of_ble_eq_true rfl) fun C hC => ?_
  simp only [List.map, argEnv, Nat.reduceAdd]
  refine nK ?_
  refine s_reg rfl ?_
  refine Run.eff (dd := some 6) rfl rfl (op_alloc rfl rfl rfl rfl) ?_
  first | refine Run.pure (dd := some 7) rfl rfl (op_assign rfl (Opd.const _)) ?_ | refine Run.pure (dd := some 7) rfl rfl (op_junk (.inr rfl)) ?_
  refine Run.nil (FinR.mk ?_)
  refine nK ?_
  refine s_reg rfl ?_
  first | refine Run.pure (dd := some 12) rfl rfl (op_move rfl (Opd.tmp _ _ rfl)) ?_ | refine Run.pure (dd := some 12) rfl rfl (op_junk (.inl rfl)) ?_
  first | refine Run.pure (dd := some 13) rfl rfl (op_move rfl (Opd.tmp _ _ rfl)) ?_ | refine Run.pure (dd := some 13) rfl rfl (op_junk (.inl rfl)) ?_
  first | refine Run.pure (dd := some 14) rfl rfl (op_build rfl rfl rfl (FillF.cons _ _ _ _ _ _ _ _ _ _ (by rfl) (Opd.tmp _ _ rfl) tC (by rfl) tR (FillF.cons _ _ _ _ _ _ _ _ _ _ (by rfl) (Opd.tmp _ _ rfl) tC (by rfl) tR (FillF.nil _)))) ?_ | refine Run.pure (dd := some 14) rfl rfl (op_buildP rfl rfl rfl rfl (FillP.cons _ _ _ _ _ _ _ _ _ _ (by rfl) (Opd.tmp _ _ rfl) tP (by rfl) tR (FillP.cons _ _ _ _ _ _ _ _ _ _ (by rfl) (Opd.tmp _ _ rfl) tP (by rfl) tR (FillP.nil _)))) ?_
  refine Run.eff (dd := some 8) rfl rfl (op_alloc rfl rfl rfl rfl) ?_
  first | refine Run.eff (dd := none) rfl rfl (op_store_flat rfl (Opd.tmp _ _ rfl) (Opd.tmp _ _ rfl) tC rfl rfl (by first | rfl | assumption) tS) ?_ | refine Run.eff (dd := none) rfl rfl (op_store_refs rfl (Opd.tmp _ _ rfl) (Opd.tmp _ _ rfl) tP rfl rfl rfl tS) ?_
  refine Run.nil (FinR.mk ?_)
  refine nK ?_
  refine s_reg rfl ?_
  first | refine Run.pure (dd := some 9) rfl rfl (op_assign rfl (Opd.const _)) ?_ | refine Run.pure (dd := some 9) rfl rfl (op_junk (.inr rfl)) ?_
  refine Run.nil (FinR.mk ?_)
  refine nK ?_
  refine Next.toRefs 1 rfl rfl ?_
  refine Next.adoptCell 1 0 2 3 rfl rfl rfl rfl ?_
  refine n_loop (ι := Nat) (fun i => ([(2, .fz (VE l)), (6, .ptr 0 3 0 0), (8, .ptr 1 3 0 0), (9, IV .i64 i)], [(0, OG zeroG), (1, some (.refs 3 [[IV .i64 r, IV .i64 n, .sl 2 3 0 (ofR (l.take i)).length]])), (2, OE (ofR (l.take i)))], 3)) (fun i => i ≤ l.length) (fun i => l.length - i) 0 (Nat.zero_le _) ?_ ?_
  · refine Next.weak [0, 1, 2] [] (by rfl) (keeps0 hC _) (by repeat (first | exact trivial | refine ⟨⟨_, rfl, .inl ⟨rfl, rfl⟩⟩, ?_⟩ | refine ⟨⟨_, rfl, .inl ⟨slEq rfl tN, rfl⟩⟩, ?_⟩ | refine ⟨⟨_, rfl, .inl ⟨ivEq tX, rfl⟩⟩, ?_⟩)) (by exact ⟨⟨rfl, rfl, .fflat _ _ _ rfl tW⟩, ⟨ent_same rfl rfl rfl tL, ⟨ent_same rfl rfl rfl tL, trivial⟩⟩⟩) (fun _ h => by simp at h) rel_intro
  · intro i hi K hK
    have hla := ofR_len (l.take i)
    have htl : (l.take i).length ≤ l.length := List.length_take_le' _ _
    refine nK ?_
    refine s_reg rfl ?_
    first | refine Run.pure (dd := some 15) rfl rfl (op_move rfl (Opd.tmp _ _ rfl)) ?_ | refine Run.pure (dd := some 15) rfl rfl (op_junk (.inl rfl)) ?_
    first | refine Run.pure (dd := some 16) rfl rfl (op_move rfl (Opd.tmp _ _ rfl)) ?_ | refine Run.pure (dd := some 16) rfl rfl (op_junk (.inl rfl)) ?_
    first | refine Run.pure (dd := some 17) rfl rfl (op_len_fz rfl (by first | exact Opd.tmp _ _ rfl | exact Opd.nil _ _ (Opd.tmp _ _ rfl)) (by first | exact List.length_map _ | rfl)) ?_ | refine Run.pure (dd := some 17) rfl rfl (op_len_sl rfl (Opd.tmp _ _ rfl)) ?_
    refine Run.pure (dd := some 18) rfl rfl (op_lss rfl (Opd.tmp _ _ rfl) (Opd.tmp _ _ rfl)) ?_
    refine Run.nil (FinR.mk ?_)
    refine nK ?_
    refine n_cond _ rfl (fun hb => ?_) (fun hb => ?_)
    · have hlt : i < l.length := by simp at hb; omega
      have hr1 := row_at' encE l i hlt
      have hst := ofR_succ l i hlt
      have hla2 := ofR_len (l.take (i + 1))
      have htl2 : (l.take (i + 1)).length ≤ l.length := List.length_take_le' _ _
      have hK1 := hK (i + 1) (by omega) (by omega)
      rw [hst] at hK1 hla2
      generalize ofR (l.take i) = acc at *
      generalize l[i] = e at *
      have hf := find_c ⟨r, n, acc⟩ e.f e.t (by dsimp only; omega)
      refine nK ?_
      refine s_draw mixed ?_
      first | refine Run.load (dd := some 21) rfl rfl (op_loadw_flat rfl (Opd.tmp _ _ rfl) tH rfl) ?_ | refine Run.pure (dd := some 21) rfl rfl (op_loadw_fz rfl (Opd.tmp _ _ rfl) rfl) ?_ | refine Run.load (dd := some 21) rfl rfl (op_loadn_flat rfl (Opd.tmp _ _ rfl) tH tR tR) ?_ | refine Run.pure (dd := some 21) rfl rfl (op_loadn_fz rfl (Opd.tmp _ _ rfl) tR) ?_ | refine Run.load (dd := some 21) rfl rfl (op_loadn_refs rfl (Opd.tmp _ _ rfl) tH tR tR) ?_
      first | refine Run.pure (dd := some 22) rfl rfl (op_move rfl (Opd.tmp _ _ rfl)) ?_ | refine Run.pure (dd := some 22) rfl rfl (op_junk (.inl rfl)) ?_
      first | refine Run.pure (dd := some 23) rfl rfl (op_move rfl (Opd.tmp _ _ rfl)) ?_ | refine Run.pure (dd := some 23) rfl rfl (op_junk (.inl rfl)) ?_
      first | refine Run.pure (dd := some 24) rfl rfl (op_idx_sl0 _ rfl (Opd.tmp _ _ rfl) (Opd.tmp _ _ rfl) tD) ?_ | refine Run.pure (dd := some 24) rfl rfl (op_idx_fz _ rfl (Opd.tmp _ _ rfl) (Opd.tmp _ _ rfl) tF) ?_
      first | refine Run.pure (dd := some 25) rfl rfl (op_fld_ptr (by decide) rfl (Opd.tmp _ _ rfl)) ?_ | refine Run.pure (dd := some 25) rfl rfl (op_fld_fz (by decide) rfl (Opd.tmp _ _ rfl) tR) ?_
      first | refine Run.load (dd := some 26) rfl rfl (op_load1_flat rfl (Opd.tmp _ _ rfl) tH rfl) ?_ | refine Run.pure (dd := some 26) rfl rfl (op_load1_fz rfl (Opd.tmp _ _ rfl) rfl) ?_ | refine Run.load (dd := some 26) rfl rfl (op_load1_refs rfl (Opd.tmp _ _ rfl) tH rfl) ?_
      first | refine Run.pure (dd := some 27) rfl rfl (op_move rfl (Opd.tmp _ _ rfl)) ?_ | refine Run.pure (dd := some 27) rfl rfl (op_junk (.inl rfl)) ?_
      first | refine Run.pure (dd := some 28) rfl rfl (op_move rfl (Opd.tmp _ _ rfl)) ?_ | refine Run.pure (dd := some 28) rfl rfl (op_junk (.inl rfl)) ?_
      first | refine Run.pure (dd := some 29) rfl rfl (op_idx_sl0 _ rfl (Opd.tmp _ _ rfl) (Opd.tmp _ _ rfl) tD) ?_ | refine Run.pure (dd := some 29) rfl rfl (op_idx_fz _ rfl (Opd.tmp _ _ rfl) (Opd.tmp _ _ rfl) tF) ?_
      first | refine Run.pure (dd := some 30) rfl rfl (op_fld_ptr (by decide) rfl (Opd.tmp _ _ rfl)) ?_ | refine Run.pure (dd := some 30) rfl rfl (op_fld_fz (by decide) rfl (Opd.tmp _ _ rfl) tR) ?_
      first | refine Run.load (dd := some 31) rfl rfl (op_load1_flat rfl (Opd.tmp _ _ rfl) tH rfl) ?_ | refine Run.pure (dd := some 31) rfl rfl (op_load1_fz rfl (Opd.tmp _ _ rfl) rfl) ?_ | refine Run.load (dd := some 31) rfl rfl (op_load1_refs rfl (Opd.tmp _ _ rfl) tH rfl) ?_
      refine Run.load (dd := some 32) rfl rfl (op_call_lend [2] (fun _ => hf) rfl (Opd.func _) (Opds.cons _ _ _ _ (Opd.tmp _ _ rfl) (Opds.cons _ _ _ _ (Opd.tmp _ _ rfl) (Opds.cons _ _ _ _ (Opd.tmp _ _ rfl) Opds.nil))) (by exact .cons _ _ _ _ tW (.cons _ _ _ _ tW (.cons _ _ _ _ tW .nil))) rfl rfl) ?_
      first | refine Run.pure (dd := some 10) rfl rfl (op_assign rfl (Opd.tmp _ _ rfl)) ?_ | refine Run.pure (dd := some 10) rfl rfl (op_junk (.inr rfl)) ?_
      refine Run.nil (FinD.mk (by kernel_rfl) ?_)
      refine nK ?_
      refine s_reg rfl ?_
      first | refine Run.pure (dd := some 33) rfl rfl (op_move rfl (Opd.tmp _ _ rfl)) ?_ | refine Run.pure (dd := some 33) rfl rfl (op_junk (.inl rfl)) ?_
      refine Run.pure (dd := some 34) rfl rfl (op_lss rfl (Opd.tmp _ _ rfl) (Opd.const _)) ?_
      refine Run.nil (FinR.mk ?_)
      refine nK ?_
      rcases fndAt_rng e.f e.t acc 0 with h0 | ⟨j, hj, h0⟩
      · have h0' : fndI acc e.f e.t = -1 := h0
        have hs : ofStep acc e = putR e false acc := by
          unfold ofStep
          split
          · rw [if_pos (by omega)]
          · rfl
        rw [hs] at hK1 hla2
        have hpf := put_f acc e (by omega)
        have h0'' : fndI (Gr.mk r n acc).es e.f e.t = -1 := h0
        rw [h0'']
        refine nK ?_
        refine n_cond _ rfl (fun hb => ?_) (fun hb => ?_)
        · refine nK ?_
          refine s_draw mixed ?_
          first | refine Run.pure (dd := some 35) rfl rfl (op_fld_ptr (by decide) rfl (Opd.tmp _ _ rfl)) ?_ | refine Run.pure (dd := some 35) rfl rfl (op_fld_fz (by decide) rfl (Opd.tmp _ _ rfl) tR) ?_
          first | refine Run.load (dd := some 36) rfl rfl (op_load1_flat rfl (Opd.tmp _ _ rfl) tH rfl) ?_ | refine Run.pure (dd := some 36) rfl rfl (op_load1_fz rfl (Opd.tmp _ _ rfl) rfl) ?_ | refine Run.load (dd := some 36) rfl rfl (op_load1_refs rfl (Opd.tmp _ _ rfl) tH rfl) ?_
          first | refine Run.pure (dd := some 37) rfl rfl (op_move rfl (Opd.tmp _ _ rfl)) ?_ | refine Run.pure (dd := some 37) rfl rfl (op_junk (.inl rfl)) ?_
          first | refine Run.pure (dd := some 38) rfl rfl (op_move rfl (Opd.tmp _ _ rfl)) ?_ | refine Run.pure (dd := some 38) rfl rfl (op_junk (.inl rfl)) ?_
          first | refine Run.pure (dd := some 39) rfl rfl (op_idx_sl0 _ rfl (Opd.tmp _ _ rfl) (Opd.tmp _ _ rfl) tD) ?_ | refine Run.pure (dd := some 39) rfl rfl (op_idx_fz _ rfl (Opd.tmp _ _ rfl) (Opd.tmp _ _ rfl) tF) ?_
          first | refine Run.load (dd := some 40) rfl rfl (op_loadw_flat rfl (Opd.tmp _ _ rfl) tH rfl) ?_ | refine Run.pure (dd := some 40) rfl rfl (op_loadw_fz rfl (Opd.tmp _ _ rfl) rfl) ?_ | refine Run.load (dd := some 40) rfl rfl (op_loadn_flat rfl (Opd.tmp _ _ rfl) tH tR tR) ?_ | refine Run.pure (dd := some 40) rfl rfl (op_loadn_fz rfl (Opd.tmp _ _ rfl) tR) ?_ | refine Run.load (dd := some 40) rfl rfl (op_loadn_refs rfl (Opd.tmp _ _ rfl) tH tR tR) ?_
          refine Run.effW (dd := some 41) rfl rfl (op_call_lendF [2] (fun _ => hpf) rfl (Opd.func _) (Opds.cons _ _ _ _ (Opd.tmp _ _ rfl) (Opds.cons _ _ _ _ (Opd.tmp _ _ rfl) Opds.nil)) (by exact .cons _ _ _ _ tW (.cons _ _ _ _ tW .nil)) rfl (memEs _)) tE ?_
          first | refine Run.pure (dd := some 42) rfl rfl (op_fld_ptr (by decide) rfl (Opd.tmp _ _ rfl)) ?_ | refine Run.pure (dd := some 42) rfl rfl (op_fld_fz (by decide) rfl (Opd.tmp _ _ rfl) tR) ?_
          first | refine Run.effW (dd := none) rfl rfl (op_store_flat rfl (Opd.tmp _ _ rfl) (Opd.tmp _ _ rfl) tC rfl rfl (by first | rfl | assumption) tS) tE ?_ | refine Run.effW (dd := none) rfl rfl (op_store_refs rfl (Opd.tmp _ _ rfl) (Opd.tmp _ _ rfl) tP rfl rfl rfl tS) tE ?_
          refine Run.nil (FinD.mk (by kernel_rfl) ?_)
          refine nK ?_
          refine s_reg rfl ?_
          first | refine Run.pure (dd := some 19) rfl rfl (op_move rfl (Opd.tmp _ _ rfl)) ?_ | refine Run.pure (dd := some 19) rfl rfl (op_junk (.inl rfl)) ?_
          refine Run.pure (dd := some 20) rfl rfl (op_add rfl (Opd.tmp _ _ rfl) (Opd.const _) tI) ?_
          first | refine Run.pure (dd := some 9) rfl rfl (op_assign rfl (Opd.tmp _ _ rfl)) ?_ | refine Run.pure (dd := some 9) rfl rfl (op_junk (.inr rfl)) ?_
          refine Run.nil (FinR.mk ?_)
          refine nK ?_
          refine Next.weak [0, 1, 3] [] (by rfl) (keeps0 hC _) (by repeat (first | exact trivial | refine ⟨⟨_, rfl, .inl ⟨rfl, rfl⟩⟩, ?_⟩ | refine ⟨⟨_, rfl, .inl ⟨slEq rfl tN, rfl⟩⟩, ?_⟩ | refine ⟨⟨_, rfl, .inl ⟨ivEq tX, rfl⟩⟩, ?_⟩)) (by exact ⟨ent_same rfl rfl rfl tL, ⟨ent_same rfl rfl rfl tL, ⟨ent_same rfl rfl rfl tL, trivial⟩⟩⟩) (fun _ h => by simp at h) hK1
        · simp at hb
      · have h0' : fndI acc e.f e.t = (j : Int) := by show fndAt e.f e.t 0 acc = _; omega
        have h0'' : fndI (Gr.mk r n acc).es e.f e.t = (j : Int) := h0'
        have hs : ofStep acc e = if e.c < acc[j].c then acc.set j ⟨acc[j].f, acc[j].t, e.c⟩ else acc := by
          unfold ofStep
          have hpos : ¬ ((j : Int) < 0) := by omega
          rw [h0']
          simp only [Int.toNat_natCast, List.getElem?_eq_getElem hj, hpos, if_false]
        rw [hs] at hK1 hla2
        have hrj := row_at' encE acc j hj
        rw [h0'']
        refine nK ?_
        refine n_cond _ rfl (fun hb => ?_) (fun hb => ?_)
        · simp at hb; omega
        · refine nK ?_
          refine s_draw mixed ?_
          first | refine Run.pure (dd := some 43) rfl rfl (op_move rfl (Opd.tmp _ _ rfl)) ?_ | refine Run.pure (dd := some 43) rfl rfl (op_junk (.inl rfl)) ?_
          first | refine Run.pure (dd := some 44) rfl rfl (op_move rfl (Opd.tmp _ _ rfl)) ?_ | refine Run.pure (dd := some 44) rfl rfl (op_junk (.inl rfl)) ?_
          first | refine Run.pure (dd := some 45) rfl rfl (op_idx_sl0 _ rfl (Opd.tmp _ _ rfl) (Opd.tmp _ _ rfl) tD) ?_ | refine Run.pure (dd := some 45) rfl rfl (op_idx_fz _ rfl (Opd.tmp _ _ rfl) (Opd.tmp _ _ rfl) tF) ?_
          first | refine Run.pure (dd := some 46) rfl rfl (op_fld_ptr (by decide) rfl (Opd.tmp _ _ rfl)) ?_ | refine Run.pure (dd := some 46) rfl rfl (op_fld_fz (by decide) rfl (Opd.tmp _ _ rfl) tR) ?_
          first | refine Run.load (dd := some 47) rfl rfl (op_load1_flat rfl (Opd.tmp _ _ rfl) tH rfl) ?_ | refine Run.pure (dd := some 47) rfl rfl (op_load1_fz rfl (Opd.tmp _ _ rfl) rfl) ?_ | refine Run.load (dd := some 47) rfl rfl (op_load1_refs rfl (Opd.tmp _ _ rfl) tH rfl) ?_
          first | refine Run.pure (dd := some 48) rfl rfl (op_fld_ptr (by decide) rfl (Opd.tmp _ _ rfl)) ?_ | refine Run.pure (dd := some 48) rfl rfl (op_fld_fz (by decide) rfl (Opd.tmp _ _ rfl) tR) ?_
          first | refine Run.load (dd := some 49) rfl rfl (op_load1_flat rfl (Opd.tmp _ _ rfl) tH rfl) ?_ | refine Run.pure (dd := some 49) rfl rfl (op_load1_fz rfl (Opd.tmp _ _ rfl) rfl) ?_ | refine Run.load (dd := some 49) rfl rfl (op_load1_refs rfl (Opd.tmp _ _ rfl) tH rfl) ?_
          first | refine Run.pure (dd := some 50) rfl rfl (op_move rfl (Opd.tmp _ _ rfl)) ?_ | refine Run.pure (dd := some 50) rfl rfl (op_junk (.inl rfl)) ?_
          refine Run.pure (dd := some 51) rfl rfl (op_idx_sl0 j rfl (Opd.tmp _ _ rfl) (Opd.tmp _ _ rfl) (by intro _; refine ⟨rfl, ?_⟩; omega)) ?_
          first | refine Run.pure (dd := some 52) rfl rfl (op_fld_ptr (by decide) rfl (Opd.tmp _ _ rfl)) ?_ | refine Run.pure (dd := some 52) rfl rfl (op_fld_fz (by decide) rfl (Opd.tmp _ _ rfl) tR) ?_
          first | refine Run.load (dd := some 53) rfl rfl (op_load1_flat rfl (Opd.tmp _ _ rfl) tH rfl) ?_ | refine Run.pure (dd := some 53) rfl rfl (op_load1_fz rfl (Opd.tmp _ _ rfl) rfl) ?_ | refine Run.load (dd := some 53) rfl rfl (op_load1_refs rfl (Opd.tmp _ _ rfl) tH rfl) ?_
          refine Run.pure (dd := some 54) rfl rfl (op_lss rfl (Opd.tmp _ _ rfl) (Opd.tmp _ _ rfl)) ?_
          refine Run.nil (FinD.mk (by kernel_rfl) ?_)
          refine nK ?_
          refine n_cond _ rfl (fun hb => ?_) (fun hb => ?_)
          · rw [if_pos (by simpa using hb)] at hK1
            have hset : (acc.map encE).set j [If .i64 acc[j].f, If .i64 acc[j].t, If .i64 e.c] = (acc.set j ⟨acc[j].f, acc[j].t, e.c⟩).map encE := by rw [List.map_set]; rfl
            rw [show OE (acc.set j ⟨acc[j].f, acc[j].t, e.c⟩) = some (.flat 3 ((acc.map encE).set j [If .i64 acc[j].f, If .i64 acc[j].t, If .i64 e.c])) by rw [hset], List.length_set] at hK1
            refine nK ?_
            refine s_draw mixed ?_
            first | refine Run.pure (dd := some 55) rfl rfl (op_fld_ptr (by decide) rfl (Opd.tmp _ _ rfl)) ?_ | refine Run.pure (dd := some 55) rfl rfl (op_fld_fz (by decide) rfl (Opd.tmp _ _ rfl) tR) ?_
            first | refine Run.load (dd := some 56) rfl rfl (op_load1_flat rfl (Opd.tmp _ _ rfl) tH rfl) ?_ | refine Run.pure (dd := some 56) rfl rfl (op_load1_fz rfl (Opd.tmp _ _ rfl) rfl) ?_ | refine Run.load (dd := some 56) rfl rfl (op_load1_refs rfl (Opd.tmp _ _ rfl) tH rfl) ?_
            first | refine Run.pure (dd := some 57) rfl rfl (op_move rfl (Opd.tmp _ _ rfl)) ?_ | refine Run.pure (dd := some 57) rfl rfl (op_junk (.inl rfl)) ?_
            first | refine Run.pure (dd := some 58) rfl rfl (op_move rfl (Opd.tmp _ _ rfl)) ?_ | refine Run.pure (dd := some 58) rfl rfl (op_junk (.inl rfl)) ?_
            first | refine Run.pure (dd := some 59) rfl rfl (op_move rfl (Opd.tmp _ _ rfl)) ?_ | refine Run.pure (dd := some 59) rfl rfl (op_junk (.inl rfl)) ?_
            first | refine Run.pure (dd := some 60) rfl rfl (op_idx_sl0 _ rfl (Opd.tmp _ _ rfl) (Opd.tmp _ _ rfl) tD) ?_ | refine Run.pure (dd := some 60) rfl rfl (op_idx_fz _ rfl (Opd.tmp _ _ rfl) (Opd.tmp _ _ rfl) tF) ?_
            first | refine Run.pure (dd := some 61) rfl rfl (op_fld_ptr (by decide) rfl (Opd.tmp _ _ rfl)) ?_ | refine Run.pure (dd := some 61) rfl rfl (op_fld_fz (by decide) rfl (Opd.tmp _ _ rfl) tR) ?_
            first | refine Run.load (dd := some 62) rfl rfl (op_load1_flat rfl (Opd.tmp _ _ rfl) tH rfl) ?_ | refine Run.pure (dd := some 62) rfl rfl (op_load1_fz rfl (Opd.tmp _ _ rfl) rfl) ?_ | refine Run.load (dd := some 62) rfl rfl (op_load1_refs rfl (Opd.tmp _ _ rfl) tH rfl) ?_
            refine Run.pure (dd := some 63) rfl rfl (op_idx_sl0 j rfl (Opd.tmp _ _ rfl) (Opd.tmp _ _ rfl) (by intro _; refine ⟨rfl, ?_⟩; omega)) ?_
            first | refine Run.pure (dd := some 64) rfl rfl (op_fld_ptr (by decide) rfl (Opd.tmp _ _ rfl)) ?_ | refine Run.pure (dd := some 64) rfl rfl (op_fld_fz (by decide) rfl (Opd.tmp _ _ rfl) tR) ?_
            first | refine Run.effW (dd := none) rfl rfl (op_store_flat rfl (Opd.tmp _ _ rfl) (Opd.tmp _ _ rfl) tC rfl rfl (by first | rfl | assumption) tS) tE ?_ | refine Run.effW (dd := none) rfl rfl (op_store_refs rfl (Opd.tmp _ _ rfl) (Opd.tmp _ _ rfl) tP rfl rfl rfl tS) tE ?_
            refine Run.nil (FinD.mk (by kernel_rfl) ?_)
            refine nK ?_
            refine s_reg rfl ?_
            first | refine Run.pure (dd := some 19) rfl rfl (op_move rfl (Opd.tmp _ _ rfl)) ?_ | refine Run.pure (dd := some 19) rfl rfl (op_junk (.inl rfl)) ?_
            refine Run.pure (dd := some 20) rfl rfl (op_add rfl (Opd.tmp _ _ rfl) (Opd.const _) tI) ?_
            first | refine Run.pure (dd := some 9) rfl rfl (op_assign rfl (Opd.tmp _ _ rfl)) ?_ | refine Run.pure (dd := some 9) rfl rfl (op_junk (.inr rfl)) ?_
            refine Run.nil (FinR.mk ?_)
            refine nK ?_
            refine Next.weak [0, 1, 2] [] (by rfl) (keeps0 hC _) (by repeat (first | exact trivial | refine ⟨⟨_, rfl, .inl ⟨rfl, rfl⟩⟩, ?_⟩ | refine ⟨⟨_, rfl, .inl ⟨slEq rfl tN, rfl⟩⟩, ?_⟩ | refine ⟨⟨_, rfl, .inl ⟨ivEq tX, rfl⟩⟩, ?_⟩)) (by exact ⟨ent_same rfl rfl rfl tL, ⟨ent_same rfl rfl rfl tL, ⟨ent_same rfl rfl rfl tL, trivial⟩⟩⟩) (fun _ h => by simp at h) hK1
          · rw [if_neg (by simpa using hb)] at hK1
            refine nK ?_
            refine s_reg rfl ?_
            first | refine Run.pure (dd := some 19) rfl rfl (op_move rfl (Opd.tmp _ _ rfl)) ?_ | refine Run.pure (dd := some 19) rfl rfl (op_junk (.inl rfl)) ?_
            refine Run.pure (dd := some 20) rfl rfl (op_add rfl (Opd.tmp _ _ rfl) (Opd.const _) tI) ?_
            first | refine Run.pure (dd := some 9) rfl rfl (op_assign rfl (Opd.tmp _ _ rfl)) ?_ | refine Run.pure (dd := some 9) rfl rfl (op_junk (.inr rfl)) ?_
            refine Run.nil (FinR.mk ?_)
            refine nK ?_
            refine Next.weak [0, 1, 2] [] (by rfl) (keeps0 hC _) (by repeat (first | exact trivial | refine ⟨⟨_, rfl, .inl ⟨rfl, rfl⟩⟩, ?_⟩ | refine ⟨⟨_, rfl, .inl ⟨slEq rfl tN, rfl⟩⟩, ?_⟩ | refine ⟨⟨_, rfl, .inl ⟨ivEq tX, rfl⟩⟩, ?_⟩)) (by exact ⟨ent_same rfl rfl rfl tL, ⟨ent_same rfl rfl rfl tL, ⟨ent_same rfl rfl rfl tL, trivial⟩⟩⟩) (fun _ h => by simp at h) hK1
    · have hie : i = l.length := by simp at hb; omega
      rw [take_len_eq' hie]
      refine Next.weak [0, 1] [2] (by rfl) (keeps0 hC _) (G' := [(6, .ptr 0 3 0 0), (8, .ptr 1 3 0 0)]) (H' := [(0, OG zeroG), (1, OG ⟨r, n, ofR l⟩)]) (by repeat (first | exact trivial | refine ⟨⟨_, rfl, .inl ⟨rfl, rfl⟩⟩, ?_⟩ | refine ⟨⟨_, rfl, .inl ⟨slEq rfl tN, rfl⟩⟩, ?_⟩ | refine ⟨⟨_, rfl, .inl ⟨ivEq tX, rfl⟩⟩, ?_⟩)) (by exact ⟨ent_same rfl rfl rfl tL, ⟨⟨rfl, rfl, .flat _ _ _ rfl tW⟩, trivial⟩⟩) (fun id h => by obtain rfl : id = 2 := (by simpa using h); exact ⟨_, rfl⟩) ?_
      refine nK ?_
      refine s_reg rfl ?_
      first | refine Run.load (dd := some 65) rfl rfl (op_loadw_flat rfl (Opd.tmp _ _ rfl) tH rfl) ?_ | refine Run.pure (dd := some 65) rfl rfl (op_loadw_fz rfl (Opd.tmp _ _ rfl) rfl) ?_ | refine Run.load (dd := some 65) rfl rfl (op_loadn_flat rfl (Opd.tmp _ _ rfl) tH tR tR) ?_ | refine Run.pure (dd := some 65) rfl rfl (op_loadn_fz rfl (Opd.tmp _ _ rfl) tR) ?_ | refine Run.load (dd := some 65) rfl rfl (op_loadn_refs rfl (Opd.tmp _ _ rfl) tH tR tR) ?_
      refine Run.pure (dd := some 66) rfl rfl (op_call_pure (fun _ => rcheck_c _ (by assumption)) rfl (Opd.func _) (Opds.cons _ _ _ _ (Opd.tmp _ _ rfl) Opds.nil)) ?_
      first | refine Run.pure (dd := some 11) rfl rfl (op_assign rfl (Opd.tmp _ _ rfl)) ?_ | refine Run.pure (dd := some 11) rfl rfl (op_junk (.inr rfl)) ?_
      refine Run.nil (FinR.mk ?_)
      refine nK ?_
      refine s_reg rfl ?_
      first | refine Run.pure (dd := some 67) rfl rfl (op_move rfl (Opd.tmp _ _ rfl)) ?_ | refine Run.pure (dd := some 67) rfl rfl (op_junk (.inl rfl)) ?_
      refine Run.pure (dd := some 68) rfl rfl (op_neq rfl (Opd.tmp _ _ rfl) (Opd.const _)) ?_
      refine Run.nil (FinR.mk ?_)
      refine nK ?_
      refine n_cond _ rfl (fun hb => ?_) (fun hb => ?_)
      · rw [if_pos (by simpa using hb)]
        refine nK ?_
        refine s_reg rfl ?_
        first | refine Run.pure (dd := some 69) rfl rfl (op_build rfl rfl rfl (FillF.nil _)) ?_ | refine Run.pure (dd := some 69) rfl rfl (op_buildP rfl rfl rfl rfl (FillP.nil _)) ?_
        first | refine Run.pure (dd := some 70) rfl rfl (op_move rfl (Opd.tmp _ _ rfl)) ?_ | refine Run.pure (dd := some 70) rfl rfl (op_junk (.inl rfl)) ?_
        first | refine Run.eff (dd := none) rfl rfl (op_store_flat rfl (Opd.tmp _ _ rfl) (Opd.tmp _ _ rfl) tC rfl rfl (by first | rfl | assumption) tS) ?_ | refine Run.eff (dd := none) rfl rfl (op_store_refs rfl (Opd.tmp _ _ rfl) (Opd.tmp _ _ rfl) tP rfl rfl rfl tS) ?_
        first | refine Run.pure (dd := some 7) rfl rfl (op_assign rfl (Opd.tmp _ _ rfl)) ?_ | refine Run.pure (dd := some 7) rfl rfl (op_junk (.inr rfl)) ?_
        refine Run.nil (FinR.mk ?_)
        refine nK ?_
        refine Next.weakS [6] [] (by rfl) (keeps0 hC _) (G' := [(6, .ptr 0 3 0 0), (7, IV .i64 (checkI ⟨r, n, ofR l⟩))]) (H' := [(0, OG zeroG)]) (by repeat (first | exact trivial | refine ⟨⟨_, rfl, .inl ⟨rfl, rfl⟩⟩, ?_⟩ | refine ⟨⟨_, rfl, .inl ⟨slEq rfl tN, rfl⟩⟩, ?_⟩ | refine ⟨⟨_, rfl, .inl ⟨ivEq tX, rfl⟩⟩, ?_⟩)) (by exact ⟨⟨rfl, rfl, .fflat _ _ _ rfl tW⟩, trivial⟩) rfl ?_
        (first | exact s_o1 hC rfl tV | exact s_o2 hC rfl tV tV | exact s_o3 hC rfl tV tV tV | exact s_out0 hC rfl | exact s_outO hC rfl rfl rfl)
      · rw [if_neg (by simpa using hb)]
        refine nK ?_
        refine s_reg rfl ?_
        first | refine Run.load (dd := some 71) rfl rfl (op_loadw_flat rfl (Opd.tmp _ _ rfl) tH rfl) ?_ | refine Run.pure (dd := some 71) rfl rfl (op_loadw_fz rfl (Opd.tmp _ _ rfl) rfl) ?_ | refine Run.load (dd := some 71) rfl rfl (op_loadn_flat rfl (Opd.tmp _ _ rfl) tH tR tR) ?_ | refine Run.pure (dd := some 71) rfl rfl (op_loadn_fz rfl (Opd.tmp _ _ rfl) tR) ?_ | refine Run.load (dd := some 71) rfl rfl (op_loadn_refs rfl (Opd.tmp _ _ rfl) tH tR tR) ?_
        first | refine Run.eff (dd := none) rfl rfl (op_store_flat rfl (Opd.tmp _ _ rfl) (Opd.tmp _ _ rfl) tC rfl rfl (by first | rfl | assumption) tS) ?_ | refine Run.eff (dd := none) rfl rfl (op_store_refs rfl (Opd.tmp _ _ rfl) (Opd.tmp _ _ rfl) tP rfl rfl rfl tS) ?_
        first | refine Run.pure (dd := some 7) rfl rfl (op_assign rfl (Opd.const _)) ?_ | refine Run.pure (dd := some 7) rfl rfl (op_junk (.inr rfl)) ?_
        refine Run.nil (FinR.mk ?_)
        refine nK ?_
        (first | exact s_o1 hC rfl tV | exact s_o2 hC rfl tV tV | exact s_o3 hC rfl tV tV tV | exact s_out0 hC rfl | exact s_outO hC rfl rfl rfl)
theorem of_law (r n : Int) (l : List Edg) (hr : inr .i64 r) (hn : inr .i64 n) (hl : okEs l) (hle : l.length ≤ 1999999) : Pure Try.prog 5 [If .i64 r, If .i64 n, VE l] (Bf true) := by
  have hlen : (ofF r n l).1.es.length ≤ 1999999 := by
    have := ofL_len l
    unfold ofF; split
    · simp [zeroG]
    · show (ofL l).length ≤ _; omega
  refine Meets.intro Try.func5 rfl (Nat.le_of_ble_eq_true rfl) fun C hC => ?_
  simp only [List.map, argEnv, Nat.reduceAdd]
  refine nK ?_
  refine s_reg rfl ?_
  first | refine Run.pure (dd := some 6) rfl rfl (op_assign rfl (Opd.const _)) ?_ | refine Run.pure (dd := some 6) rfl rfl (op_junk (.inr rfl)) ?_
  refine Run.nil (FinR.mk ?_)
  refine nK ?_
  refine s_reg rfl ?_
  first | refine Run.pure (dd := some 12) rfl rfl (op_move rfl (Opd.tmp _ _ rfl)) ?_ | refine Run.pure (dd := some 12) rfl rfl (op_junk (.inl rfl)) ?_
  first | refine Run.pure (dd := some 13) rfl rfl (op_move rfl (Opd.tmp _ _ rfl)) ?_ | refine Run.pure (dd := some 13) rfl rfl (op_junk (.inl rfl)) ?_
  first | refine Run.pure (dd := some 14) rfl rfl (op_move rfl (Opd.tmp _ _ rfl)) ?_ | refine Run.pure (dd := some 14) rfl rfl (op_junk (.inl rfl)) ?_
  refine Run.pure (dd := some 15) rfl rfl (op_call_pure (fun _ => of_c _ _ _ (by assumption) (by assumption) (by assumption) (by omega)) rfl (Opd.func _) (Opds.cons _ _ _ _ (Opd.tmp _ _ rfl) (Opds.cons _ _ _ _ (Opd.tmp _ _ rfl) (Opds.cons _ _ _ _ (Opd.tmp _ _ rfl) Opds.nil)))) ?_
  first | refine Run.pure (dd := some 11) rfl rfl (op_move rfl (Opd.tmp _ _ rfl)) ?_ | refine Run.pure (dd := some 11) rfl rfl (op_junk (.inl rfl)) ?_
  first | refine Run.pure (dd := some 16) rfl rfl (op_extract_fz rfl (Opd.tmp _ _ rfl) rfl) ?_ | refine Run.pure (dd := some 16) rfl rfl (op_extract rfl (Opd.tmp _ _ rfl) rfl) ?_
  first | refine Run.pure (dd := some 17) rfl rfl (op_extract_fz rfl (Opd.tmp _ _ rfl) rfl) ?_ | refine Run.pure (dd := some 17) rfl rfl (op_extract rfl (Opd.tmp _ _ rfl) rfl) ?_
  refine Run.eff (dd := some 7) rfl rfl (op_alloc rfl rfl rfl rfl) ?_
  first | refine Run.eff (dd := none) rfl rfl (op_store_flat rfl (Opd.tmp _ _ rfl) (Opd.tmp _ _ rfl) tC rfl rfl (by first | rfl | assumption) tS) ?_ | refine Run.eff (dd := none) rfl rfl (op_store_refs rfl (Opd.tmp _ _ rfl) (Opd.tmp _ _ rfl) tP rfl rfl rfl tS) ?_
  first | refine Run.pure (dd := some 8) rfl rfl (op_assign rfl (Opd.tmp _ _ rfl)) ?_ | refine Run.pure (dd := some 8) rfl rfl (op_junk (.inr rfl)) ?_
  refine Run.nil (FinR.mk ?_)
  refine nK ?_
  refine s_reg rfl ?_
  first | refine Run.pure (dd := some 19) rfl rfl (op_move rfl (Opd.tmp _ _ rfl)) ?_ | refine Run.pure (dd := some 19) rfl rfl (op_junk (.inl rfl)) ?_
  first | refine Run.pure (dd := some 20) rfl rfl (op_move rfl (Opd.tmp _ _ rfl)) ?_ | refine Run.pure (dd := some 20) rfl rfl (op_junk (.inl rfl)) ?_
  first | refine Run.pure (dd := some 21) rfl rfl (op_move rfl (Opd.tmp _ _ rfl)) ?_ | refine Run.pure (dd := some 21) rfl rfl (op_junk (.inl rfl)) ?_
  refine Run.pure (dd := some 22) rfl rfl (op_call_pure (fun _ => rof_c _ _ _ (by assumption) (by assumption) (by assumption) (by omega)) rfl (Opd.func _) (Opds.cons _ _ _ _ (Opd.tmp _ _ rfl) (Opds.cons _ _ _ _ (Opd.tmp _ _ rfl) (Opds.cons _ _ _ _ (Opd.tmp _ _ rfl) Opds.nil)))) ?_
  first | refine Run.pure (dd := some 18) rfl rfl (op_move rfl (Opd.tmp _ _ rfl)) ?_ | refine Run.pure (dd := some 18) rfl rfl (op_junk (.inl rfl)) ?_
  first | refine Run.pure (dd := some 23) rfl rfl (op_extract_fz rfl (Opd.tmp _ _ rfl) rfl) ?_ | refine Run.pure (dd := some 23) rfl rfl (op_extract rfl (Opd.tmp _ _ rfl) rfl) ?_
  first | refine Run.pure (dd := some 24) rfl rfl (op_extract_fz rfl (Opd.tmp _ _ rfl) rfl) ?_ | refine Run.pure (dd := some 24) rfl rfl (op_extract rfl (Opd.tmp _ _ rfl) rfl) ?_
  refine Run.eff (dd := some 9) rfl rfl (op_alloc rfl rfl rfl rfl) ?_
  first | refine Run.eff (dd := none) rfl rfl (op_store_flat rfl (Opd.tmp _ _ rfl) (Opd.tmp _ _ rfl) tC rfl rfl (by first | rfl | assumption) tS) ?_ | refine Run.eff (dd := none) rfl rfl (op_store_refs rfl (Opd.tmp _ _ rfl) (Opd.tmp _ _ rfl) tP rfl rfl rfl tS) ?_
  first | refine Run.pure (dd := some 10) rfl rfl (op_assign rfl (Opd.tmp _ _ rfl)) ?_ | refine Run.pure (dd := some 10) rfl rfl (op_junk (.inr rfl)) ?_
  refine Run.nil (FinR.mk ?_)
  refine nK ?_
  refine s_reg rfl ?_
  first | refine Run.pure (dd := some 25) rfl rfl (op_move rfl (Opd.tmp _ _ rfl)) ?_ | refine Run.pure (dd := some 25) rfl rfl (op_junk (.inl rfl)) ?_
  first | refine Run.pure (dd := some 26) rfl rfl (op_move rfl (Opd.tmp _ _ rfl)) ?_ | refine Run.pure (dd := some 26) rfl rfl (op_junk (.inl rfl)) ?_
  refine Run.pure (dd := some 27) rfl rfl (op_eql rfl (Opd.tmp _ _ rfl) (Opd.tmp _ _ rfl)) ?_
  first | refine Run.pure (dd := some 28) rfl rfl (op_move rfl (Opd.tmp _ _ rfl)) ?_ | refine Run.pure (dd := some 28) rfl rfl (op_junk (.inl rfl)) ?_
  first | refine Run.loadG (dd := some 29) rfl rfl rfl tG (op_loadw_flat rfl (Opd.tmp _ _ rfl) tH rfl) ?_ | refine Run.pureG (dd := some 29) rfl rfl rfl tG (op_loadw_fz rfl (Opd.tmp _ _ rfl) rfl) ?_ | refine Run.loadG (dd := some 29) rfl rfl rfl tG (op_loadn_flat rfl (Opd.tmp _ _ rfl) tH tR tR) ?_ | refine Run.pureG (dd := some 29) rfl rfl rfl tG (op_loadn_fz rfl (Opd.tmp _ _ rfl) tR) ?_ | refine Run.loadG (dd := some 29) rfl rfl rfl tG (op_loadn_refs rfl (Opd.tmp _ _ rfl) tH tR tR) ?_
  first | refine Run.loadG (dd := some 30) rfl rfl rfl tG (op_loadw_flat rfl (Opd.tmp _ _ rfl) tH rfl) ?_ | refine Run.pureG (dd := some 30) rfl rfl rfl tG (op_loadw_fz rfl (Opd.tmp _ _ rfl) rfl) ?_ | refine Run.loadG (dd := some 30) rfl rfl rfl tG (op_loadn_flat rfl (Opd.tmp _ _ rfl) tH tR tR) ?_ | refine Run.pureG (dd := some 30) rfl rfl rfl tG (op_loadn_fz rfl (Opd.tmp _ _ rfl) tR) ?_ | refine Run.loadG (dd := some 30) rfl rfl rfl tG (op_loadn_refs rfl (Opd.tmp _ _ rfl) tH tR tR) ?_
  refine Run.pureG (dd := some 31) rfl rfl rfl tG (op_call_pure (fun _ => same_c _ _ (by omega) (by omega)) rfl (Opd.func _) (Opds.cons _ _ _ _ (Opd.topt _ _ _ rfl tO) (Opds.cons _ _ _ _ (Opd.topt _ _ _ rfl tO) Opds.nil))) ?_
  refine Run.pure (dd := some 32) rfl rfl (op_pick_and rfl (Opd.tmp _ _ rfl) (Opd.topt _ _ _ rfl tO)) ?_
  first | refine Run.pure (dd := some 33) rfl rfl (op_move rfl (Opd.tmp _ _ rfl)) ?_ | refine Run.pure (dd := some 33) rfl rfl (op_junk (.inl rfl)) ?_
  refine Run.pureG (dd := some 34) rfl rfl rfl tG (op_call_pure (fun _ => lives_c) rfl (Opd.func _) Opds.nil) ?_
  refine Run.pure (dd := some 35) rfl rfl (op_pick_and rfl (Opd.tmp _ _ rfl) (Opd.topt _ _ _ rfl tO)) ?_
  first | refine Run.pure (dd := some 6) rfl rfl (op_assign rfl (Opd.tmp _ _ rfl)) ?_ | refine Run.pure (dd := some 6) rfl rfl (op_junk (.inr rfl)) ?_
  refine Run.nil (FinR.mk ?_)
  refine nK ?_
  refine s_oB hC rfl rfl ?_
  simp
end Go.Proofs.Ytelnedgopdlnkaa
/- Elements that a test holds for are dropped. -/
namespace Go.Pl
set_option linter.all false
def keepL {α : Type} (p : α → Bool) (l : List α) : List α := l.filter fun x => !p x
def idxAt {α : Type} (p : α → Bool) : Nat → List α → Int
  | _, [] => -1
  | k, x :: l => bif p x then (k : Int) else idxAt p (k + 1) l
theorem idxAt_spec {α : Type} (p : α → Bool) : ∀ (l : List α) (k : Nat), (idxAt p k l = -1 ∧ keepL p l = l) ∨ ∃ j : Nat, ∃ h : j < l.length, idxAt p k l = ((k + j : Nat) : Int) ∧ p l[j] = true ∧ keepL p (l.take j) = l.take j
  | [], k => .inl ⟨rfl, rfl⟩
  | x :: l, k => by
    cases hx : p x with
    | true => exact .inr ⟨0, by simp, by simp [idxAt, hx], by simpa using hx, by simp [keepL]⟩
    | false =>
      have e : idxAt p k (x :: l) = idxAt p (k + 1) l := by simp [idxAt, hx]
      rw [e]
      rcases idxAt_spec p l (k + 1) with ⟨h1, h2⟩ | ⟨j, hj, h1, h2, h3⟩
      · refine .inl ⟨h1, ?_⟩
        unfold keepL at *; simp [hx, h2]
      · refine .inr ⟨j + 1, by simpa using hj, by rw [h1]; omega, by simpa using h2, ?_⟩
        unfold keepL at *; simp [hx, h3]
theorem keep_len {α : Type} (p : α → Bool) (l : List α) : (keepL p l).length ≤ l.length := List.length_filter_le _ _
theorem keep_take {α : Type} (p : α → Bool) (l : List α) (n : Nat) (h : n < l.length) : keepL p (l.take (n + 1)) = keepL p (l.take n) ++ bif p l[n] then [] else [l[n]] := by
  unfold keepL
  rw [List.take_succ_eq_append_getElem h, List.filter_append]
  congr 1
  cases hp : p l[n] <;> simp [hp]
theorem keep_len_lt {α : Type} (p : α → Bool) (l : List α) (j : Nat) (h : j < l.length) (hp : p l[j] = true) (n : Nat) (hn : j < n) (hnl : n ≤ l.length) : (keepL p (l.take n)).length < n := by
  obtain ⟨d, rfl⟩ : ∃ d, n = j + 1 + d := ⟨n - (j + 1), by omega⟩
  clear hn
  induction d with
  | zero =>
    rw [Nat.add_zero, keep_take p l j h, hp, cond_true, List.append_nil]
    have := keep_len p (l.take j)
    simp at this; omega
  | succ d ih =>
    have := ih (by omega)
    rw [← Nat.add_assoc, keep_take p l (j + 1 + d) (by omega), List.length_append]
    cases p l[j + 1 + d] <;> simp <;> omega
end Go.Pl
namespace Go.Proofs.Ytelnedgopdlnkaa
open Go Go.RT Go.Proofs Go.Pl
set_option linter.all false
set_option maxRecDepth 20000
theorem indexF_c (l : List Edg) (hn : l.length ≤ 2000000) (gf : Nat) [FnB Try.prog gf] (caps : List FV) (p : Edg → Bool) (hp : ∀ x, Pure Try.prog gf ([.agg (encE x)] ++ caps) (Bf (p x))) : Pure Try.prog 89 [VE l, .clo gf caps] (If .i64 (idxAt p 0 l)) := by
  refine Meets.intro Try.func89 rfl (Nat.le_of_ble_eq_true rfl) fun C hC => ?_
  simp only [List.map, argEnv, Nat.reduceAdd]
  refine nK ?_
  refine s_reg rfl ?_
  first | refine Run.pure (dd := some 4) rfl rfl (op_assign rfl (Opd.const _)) ?_ | refine Run.pure (dd := some 4) rfl rfl (op_junk (.inr rfl)) ?_
  refine Run.nil (FinR.mk ?_)
  refine nK ?_
  refine s_reg rfl ?_
  first | refine Run.pure (dd := some 6) rfl rfl (op_move rfl (Opd.tmp _ _ rfl)) ?_ | refine Run.pure (dd := some 6) rfl rfl (op_junk (.inl rfl)) ?_
  first | refine Run.pure (dd := some 7) rfl rfl (op_len_fz rfl (by first | exact Opd.tmp _ _ rfl | exact Opd.nil _ _ (Opd.tmp _ _ rfl)) (by first | exact List.length_map _ | rfl)) ?_ | refine Run.pure (dd := some 7) rfl rfl (op_len_sl rfl (Opd.tmp _ _ rfl)) ?_
  first | refine Run.pure (dd := some 8) rfl rfl (op_move rfl (Opd.const _)) ?_ | refine Run.pure (dd := some 8) rfl rfl (op_junk (.inl rfl)) ?_
  refine Run.nil (FinR.mk ?_)
  refine nK ?_
  refine n_loop (ι := Nat) (fun i => ([(0, .fz (VE l)), (1, .fz (.clo gf caps)), (7, IV .i64 l.length), (8, IV .i64 i)], [], 0)) (fun i => i ≤ l.length ∧ idxAt p i (l.drop i) = idxAt p 0 l) (fun i => l.length - i) 0 ⟨Nat.zero_le _, rfl⟩ ?_ ?_
  · refine Next.weak [] [] (by rfl) (keeps0 hC _) (by repeat (first | exact trivial | refine ⟨⟨_, rfl, .inl ⟨rfl, rfl⟩⟩, ?_⟩)) (by repeat (first | exact trivial | refine ⟨ent_same rfl rfl rfl tL, ?_⟩ | refine ⟨ent_same rfl rfl (rfEq rfl tU) tL, ?_⟩ | refine ⟨ent_same rfl rfl (flEq rfl (by first | (simp; done) | (simp; omega) | (simp [encE, encN, encB]; done) | simp [maxC, minC])) trivial, ?_⟩)) (fun _ h => by simp at h) rel_intro
  · intro i ⟨hi, ho⟩ K hK
    refine nK ?_
    refine s_reg rfl ?_
    refine Run.pure (dd := some 9) rfl rfl (op_lss rfl (Opd.tmp _ _ rfl) (Opd.tmp _ _ rfl)) ?_
    refine Run.nil (FinR.mk ?_)
    refine nK ?_
    refine n_cond _ rfl (fun hb => ?_) (fun hb => ?_)
    · have hlt : i < l.length := by simp at hb; omega
      have hr1 := row_at' encE l i hlt
      rw [List.drop_eq_getElem_cons hlt] at ho
      simp only [idxAt] at ho
      have hK1 := fun h => hK (i + 1) ⟨by omega, h⟩ (by omega)
      generalize l[i] = e at *
      refine nK ?_
      refine s_reg rfl ?_
      first | refine Run.pure (dd := some 10) rfl rfl (op_move rfl (Opd.tmp _ _ rfl)) ?_ | refine Run.pure (dd := some 10) rfl rfl (op_junk (.inl rfl)) ?_
      first | refine Run.pure (dd := some 5) rfl rfl (op_assign rfl (Opd.tmp _ _ rfl)) ?_ | refine Run.pure (dd := some 5) rfl rfl (op_junk (.inr rfl)) ?_
      refine Run.nil (FinR.mk ?_)
      refine nK ?_
      refine s_reg rfl ?_
      first | refine Run.pure (dd := some 11) rfl rfl (op_move rfl (Opd.tmp _ _ rfl)) ?_ | refine Run.pure (dd := some 11) rfl rfl (op_junk (.inl rfl)) ?_
      first | refine Run.pure (dd := some 12) rfl rfl (op_move rfl (Opd.tmp _ _ rfl)) ?_ | refine Run.pure (dd := some 12) rfl rfl (op_junk (.inl rfl)) ?_
      first | refine Run.pure (dd := some 13) rfl rfl (op_move rfl (Opd.tmp _ _ rfl)) ?_ | refine Run.pure (dd := some 13) rfl rfl (op_junk (.inl rfl)) ?_
      first | refine Run.pure (dd := some 14) rfl rfl (op_idx_sl0 _ rfl (Opd.tmp _ _ rfl) (Opd.tmp _ _ rfl) tD) ?_ | refine Run.pure (dd := some 14) rfl rfl (op_idx_fz _ rfl (Opd.tmp _ _ rfl) (Opd.tmp _ _ rfl) tF) ?_
      first | refine Run.load (dd := some 15) rfl rfl (op_loadw_flat rfl (Opd.tmp _ _ rfl) tH rfl) ?_ | refine Run.pure (dd := some 15) rfl rfl (op_loadw_fz rfl (Opd.tmp _ _ rfl) rfl) ?_ | refine Run.load (dd := some 15) rfl rfl (op_loadn_flat rfl (Opd.tmp _ _ rfl) tH tR tR) ?_ | refine Run.pure (dd := some 15) rfl rfl (op_loadn_fz rfl (Opd.tmp _ _ rfl) tR) ?_ | refine Run.load (dd := some 15) rfl rfl (op_loadn_refs rfl (Opd.tmp _ _ rfl) tH tR tR) ?_
      refine Run.pure (dd := some 16) rfl rfl (op_call_pureC (fun _ => hp e) rfl (Opd.tmp _ _ rfl) (Opds.cons _ _ _ _ (Opd.tmp _ _ rfl) Opds.nil)) ?_
      refine Run.nil (FinR.mk ?_)
      refine nK ?_
      refine n_cond _ rfl (fun hb => ?_) (fun hb => ?_)
      · rw [hb, cond_true] at ho
        rw [← ho]
        refine nK ?_
        refine s_reg rfl ?_
        first | refine Run.pure (dd := some 17) rfl rfl (op_move rfl (Opd.tmp _ _ rfl)) ?_ | refine Run.pure (dd := some 17) rfl rfl (op_junk (.inl rfl)) ?_
        first | refine Run.pure (dd := some 4) rfl rfl (op_assign rfl (Opd.tmp _ _ rfl)) ?_ | refine Run.pure (dd := some 4) rfl rfl (op_junk (.inr rfl)) ?_
        refine Run.nil (FinR.mk ?_)
        refine nK ?_
        (first | exact s_o1 hC rfl tV | exact s_o2 hC rfl tV tV | exact s_o3 hC rfl tV tV tV | exact s_out0 hC rfl | exact s_outO hC rfl rfl rfl)
      · rw [hb, cond_false] at ho
        refine nK ?_
        refine s_reg rfl ?_
        refine Run.pure (dd := some 18) rfl rfl (op_add rfl (Opd.tmp _ _ rfl) (Opd.const _) tI) ?_
        first | refine Run.pure (dd := some 8) rfl rfl (op_move rfl (Opd.tmp _ _ rfl)) ?_ | refine Run.pure (dd := some 8) rfl rfl (op_junk (.inl rfl)) ?_
        refine Run.nil (FinR.mk ?_)
        refine nK ?_
        refine Next.weak [] [] (by rfl) (keeps0 hC _) (by repeat (first | exact trivial | refine ⟨⟨_, rfl, .inl ⟨rfl, rfl⟩⟩, ?_⟩)) (by repeat (first | exact trivial | refine ⟨ent_same rfl rfl rfl tL, ?_⟩ | refine ⟨ent_same rfl rfl (rfEq rfl tU) tL, ?_⟩ | refine ⟨ent_same rfl rfl (flEq rfl (by first | (simp; done) | (simp; omega) | (simp [encE, encN, encB]; done) | simp [maxC, minC])) trivial, ?_⟩)) (fun _ h => by simp at h) (hK1 ho)
    · have hie : i = l.length := by simp at hb; omega
      rw [hie, List.drop_length] at ho
      rw [← ho]
      refine nK ?_
      refine s_reg rfl ?_
      first | refine Run.pure (dd := some 4) rfl rfl (op_assign rfl (Opd.const _)) ?_ | refine Run.pure (dd := some 4) rfl rfl (op_junk (.inr rfl)) ?_
      refine Run.nil (FinR.mk ?_)
      refine nK ?_
      (first | exact s_o1 hC rfl tV | exact s_o2 hC rfl tV tV | exact s_o3 hC rfl tV tV tV | exact s_out0 hC rfl | exact s_outO hC rfl rfl rfl)
theorem deleteF_c (l : List Edg) (hn : l.length ≤ 2000000) (gf : Nat) [FnB Try.prog gf] (caps : List FV) (p : Edg → Bool) (hp : ∀ x, Pure Try.prog gf ([.agg (encE x)] ++ caps) (Bf (p x))) : Meets Try.prog 65 [.sl 0 3 0 l.length, .fz (.clo gf caps)] 1 [(0, OE l)] (.fz (VE (keepL p l))) [] 1 := by
  have hix := indexF_c l hn gf caps p hp
  refine Meets.intro Try.func65 rfl (Nat.le_of_ble_eq_true rfl) fun C hC => ?_
  simp only [List.map, argEnv, Nat.reduceAdd]
  refine nK ?_
  refine s_reg rfl ?_
  first | refine Run.pure (dd := some 4) rfl rfl (op_assign rfl (Opd.const _)) ?_ | refine Run.pure (dd := some 4) rfl rfl (op_junk (.inr rfl)) ?_
  refine Run.nil (FinR.mk ?_)
  refine nK ?_
  refine s_reg rfl ?_
  first | refine Run.pure (dd := some 8) rfl rfl (op_move rfl (Opd.tmp _ _ rfl)) ?_ | refine Run.pure (dd := some 8) rfl rfl (op_junk (.inl rfl)) ?_
  first | refine Run.pure (dd := some 9) rfl rfl (op_move rfl (Opd.tmp _ _ rfl)) ?_ | refine Run.pure (dd := some 9) rfl rfl (op_junk (.inl rfl)) ?_
  refine Run.load (dd := some 10) rfl rfl (op_call_lend [0] (fun _ => hix) rfl (Opd.func _) (Opds.cons _ _ _ _ (Opd.tmp _ _ rfl) (Opds.cons _ _ _ _ (Opd.tmp _ _ rfl) Opds.nil)) (by exact .cons _ _ _ _ tW (.cons _ _ _ _ tW .nil)) rfl rfl) ?_
  first | refine Run.pure (dd := some 5) rfl rfl (op_assign rfl (Opd.tmp _ _ rfl)) ?_ | refine Run.pure (dd := some 5) rfl rfl (op_junk (.inr rfl)) ?_
  refine Run.nil (FinR.mk ?_)
  refine nK ?_
  refine s_reg rfl ?_
  first | refine Run.pure (dd := some 11) rfl rfl (op_move rfl (Opd.tmp _ _ rfl)) ?_ | refine Run.pure (dd := some 11) rfl rfl (op_junk (.inl rfl)) ?_
  refine Run.pure (dd := some 12) rfl rfl (op_eql rfl (Opd.tmp _ _ rfl) (Opd.const _)) ?_
  refine Run.nil (FinR.mk ?_)
  refine nK ?_
  rcases idxAt_spec p l 0 with ⟨h1, h2⟩ | ⟨j, hj, h1, h2, h3⟩
  · rw [h1, h2]
    refine nK ?_
    refine n_cond _ rfl (fun hb => ?_) (fun hb => ?_)
    · refine nK ?_
      refine s_reg rfl ?_
      first | refine Run.pure (dd := some 13) rfl rfl (op_move rfl (Opd.tmp _ _ rfl)) ?_ | refine Run.pure (dd := some 13) rfl rfl (op_junk (.inl rfl)) ?_
      first | refine Run.pure (dd := some 4) rfl rfl (op_assign rfl (Opd.tmp _ _ rfl)) ?_ | refine Run.pure (dd := some 4) rfl rfl (op_junk (.inr rfl)) ?_
      refine Run.nil (FinR.mk ?_)
      refine nK ?_
      refine Next.weakS [4] [4] (by rfl) (keepsN hC _ rfl) (G' := [(4, .fz (VE l))]) (H' := []) (by repeat (first | exact trivial | refine ⟨⟨_, rfl, .inl ⟨rfl, rfl⟩⟩, ?_⟩ | refine ⟨⟨_, rfl, .inl ⟨slEq rfl tN, rfl⟩⟩, ?_⟩ | refine ⟨⟨_, rfl, .inl ⟨ivEq tX, rfl⟩⟩, ?_⟩ | refine ⟨⟨_, rfl, .inr ⟨_, rfl, tW⟩⟩, ?_⟩)) trivial rfl ?_
      exact n_out1 rfl (by rfl) rfl rfl
    · simp at hb
  · rw [h1, Nat.zero_add]
    refine nK ?_
    refine n_cond _ rfl (fun hb => ?_) (fun hb => ?_)
    · simp at hb
    · have hst := keep_take p l j hj
      rw [h2, cond_true, List.append_nil, h3] at hst
      refine nK ?_
      refine s_reg rfl ?_
      first | refine Run.pure (dd := some 14) rfl rfl (op_move rfl (Opd.tmp _ _ rfl)) ?_ | refine Run.pure (dd := some 14) rfl rfl (op_junk (.inl rfl)) ?_
      refine Run.pure (dd := some 15) rfl rfl (op_add rfl (Opd.tmp _ _ rfl) (Opd.const _) tI) ?_
      first | refine Run.pure (dd := some 6) rfl rfl (op_assign rfl (Opd.tmp _ _ rfl)) ?_ | refine Run.pure (dd := some 6) rfl rfl (op_junk (.inr rfl)) ?_
      refine Run.nil (FinR.mk ?_)
      refine nK ?_
      refine n_loop (ι := Nat × List Edg) (fun g => ([(0, .sl 0 3 0 l.length), (1, .fz (.clo gf caps)), (5, IV .i64 g.2.length), (6, IV .i64 g.1)], [(0, OE (g.2 ++ l.drop g.2.length))], 1)) (fun g => j < g.1 ∧ g.1 ≤ l.length ∧ g.2 = keepL p (l.take g.1)) (fun g => l.length - g.1) (j + 1, l.take j) ⟨by dsimp only; omega, by dsimp only; omega, hst.symm⟩ ?_ ?_
      · have e1 : (l.take j).length = j := by simp; omega
        simp only [e1, List.take_append_drop]
        refine Next.weakS [0] [] (by rfl) (by first | exact keeps0 hC _ | exact keepsN hC _ rfl) (by repeat (first | exact trivial | refine ⟨⟨_, rfl, .inl ⟨rfl, rfl⟩⟩, ?_⟩ | refine ⟨⟨_, rfl, .inl ⟨slEq rfl tN, rfl⟩⟩, ?_⟩ | refine ⟨⟨_, rfl, .inl ⟨ivEq tX, rfl⟩⟩, ?_⟩)) (by repeat (first | exact trivial | refine ⟨ent_same rfl rfl rfl tL, ?_⟩ | refine ⟨ent_same rfl rfl (rfEq rfl tU) tL, ?_⟩ | refine ⟨ent_same rfl rfl (flEq rfl (by first | (simp; done) | (simp; omega) | (simp [encE, encN, encB]; done) | simp [maxC, minC])) trivial, ?_⟩)) rfl (rel_intro)
      · intro ⟨i, c⟩ ⟨hi1, hi2, hcd⟩ K hK
        dsimp only at hi1 hi2 hcd ⊢
        have hcl := keep_len_lt p l j hj h2 i hi1 hi2
        rw [← hcd] at hcl
        have hkl := kept_len c l (by omega)
        refine nK ?_
        refine s_reg rfl ?_
        first | refine Run.pure (dd := some 16) rfl rfl (op_move rfl (Opd.tmp _ _ rfl)) ?_ | refine Run.pure (dd := some 16) rfl rfl (op_junk (.inl rfl)) ?_
        first | refine Run.pure (dd := some 17) rfl rfl (op_move rfl (Opd.tmp _ _ rfl)) ?_ | refine Run.pure (dd := some 17) rfl rfl (op_junk (.inl rfl)) ?_
        first | refine Run.pure (dd := some 18) rfl rfl (op_len_fz rfl (by first | exact Opd.tmp _ _ rfl | exact Opd.nil _ _ (Opd.tmp _ _ rfl)) (by first | exact List.length_map _ | rfl)) ?_ | refine Run.pure (dd := some 18) rfl rfl (op_len_sl rfl (Opd.tmp _ _ rfl)) ?_
        refine Run.pure (dd := some 19) rfl rfl (op_lss rfl (Opd.tmp _ _ rfl) (Opd.tmp _ _ rfl)) ?_
        refine Run.nil (FinR.mk ?_)
        refine nK ?_
        refine n_cond _ rfl (fun hb => ?_) (fun hb => ?_)
        · have hlt : i < l.length := by simp at hb; omega
          have hst2 := keep_take p l i hlt
          rw [← hcd] at hst2
          have hK3 := fun c' h => hK (i + 1, c') ⟨by dsimp only; omega, by dsimp only; omega, h⟩ (by dsimp only; omega)
          have g1 := kept_row encE c l i (by omega) hlt
          have g3 := kept_row encE c l c.length (Nat.le_refl _) (by omega)
          have hset := set_kept c l l[i] (by omega)
          generalize l[i] = x at *
          refine nK ?_
          refine s_reg rfl ?_
          first | refine Run.pure (dd := some 22) rfl rfl (op_move rfl (Opd.tmp _ _ rfl)) ?_ | refine Run.pure (dd := some 22) rfl rfl (op_junk (.inl rfl)) ?_
          first | refine Run.pure (dd := some 23) rfl rfl (op_move rfl (Opd.tmp _ _ rfl)) ?_ | refine Run.pure (dd := some 23) rfl rfl (op_junk (.inl rfl)) ?_
          first | refine Run.pure (dd := some 24) rfl rfl (op_idx_sl0 _ rfl (Opd.tmp _ _ rfl) (Opd.tmp _ _ rfl) tD) ?_ | refine Run.pure (dd := some 24) rfl rfl (op_idx_fz _ rfl (Opd.tmp _ _ rfl) (Opd.tmp _ _ rfl) tF) ?_
          first | refine Run.load (dd := some 25) rfl rfl (op_loadw_flat rfl (Opd.tmp _ _ rfl) tH rfl) ?_ | refine Run.pure (dd := some 25) rfl rfl (op_loadw_fz rfl (Opd.tmp _ _ rfl) rfl) ?_ | refine Run.load (dd := some 25) rfl rfl (op_loadn_flat rfl (Opd.tmp _ _ rfl) tH tR tR) ?_ | refine Run.pure (dd := some 25) rfl rfl (op_loadn_fz rfl (Opd.tmp _ _ rfl) tR) ?_ | refine Run.load (dd := some 25) rfl rfl (op_loadn_refs rfl (Opd.tmp _ _ rfl) tH tR tR) ?_
          refine Run.eff (dd := some 7) rfl rfl (op_alloc rfl rfl rfl rfl) ?_
          first | refine Run.eff (dd := none) rfl rfl (op_store_flat rfl (Opd.tmp _ _ rfl) (Opd.tmp _ _ rfl) tC rfl rfl (by first | rfl | assumption) tS) ?_ | refine Run.eff (dd := none) rfl rfl (op_store_refs rfl (Opd.tmp _ _ rfl) (Opd.tmp _ _ rfl) tP rfl rfl rfl tS) ?_
          refine Run.nil (FinR.mk ?_)
          refine nK ?_
          refine s_reg rfl ?_
          first | refine Run.pure (dd := some 26) rfl rfl (op_move rfl (Opd.tmp _ _ rfl)) ?_ | refine Run.pure (dd := some 26) rfl rfl (op_junk (.inl rfl)) ?_
          first | refine Run.load (dd := some 27) rfl rfl (op_loadw_flat rfl (Opd.tmp _ _ rfl) tH rfl) ?_ | refine Run.pure (dd := some 27) rfl rfl (op_loadw_fz rfl (Opd.tmp _ _ rfl) rfl) ?_ | refine Run.load (dd := some 27) rfl rfl (op_loadn_flat rfl (Opd.tmp _ _ rfl) tH tR tR) ?_ | refine Run.pure (dd := some 27) rfl rfl (op_loadn_fz rfl (Opd.tmp _ _ rfl) tR) ?_ | refine Run.load (dd := some 27) rfl rfl (op_loadn_refs rfl (Opd.tmp _ _ rfl) tH tR tR) ?_
          refine Run.pure (dd := some 28) rfl rfl (op_call_pureC (fun _ => hp x) rfl (Opd.tmp _ _ rfl) (Opds.cons _ _ _ _ (Opd.tmp _ _ rfl) Opds.nil)) ?_
          refine Run.pure (dd := some 29) rfl rfl (op_not rfl (Opd.tmp _ _ rfl)) ?_
          refine Run.nil (FinR.mk ?_)
          refine nK ?_
          refine n_cond _ rfl (fun hb => ?_) (fun hb => ?_)
          · have hne : p x = false := by simpa using hb
            rw [hne, cond_false] at hst2
            have hK4 := hK3 (c ++ [x]) hst2.symm
            have e4 : (c ++ [x]).length = c.length + 1 := by simp
            rw [← hset, e4] at hK4
            refine nK ?_
            refine s_reg rfl ?_
            first | refine Run.pure (dd := some 30) rfl rfl (op_move rfl (Opd.tmp _ _ rfl)) ?_ | refine Run.pure (dd := some 30) rfl rfl (op_junk (.inl rfl)) ?_
            first | refine Run.pure (dd := some 31) rfl rfl (op_move rfl (Opd.tmp _ _ rfl)) ?_ | refine Run.pure (dd := some 31) rfl rfl (op_junk (.inl rfl)) ?_
            first | refine Run.load (dd := some 32) rfl rfl (op_loadw_flat rfl (Opd.tmp _ _ rfl) tH rfl) ?_ | refine Run.pure (dd := some 32) rfl rfl (op_loadw_fz rfl (Opd.tmp _ _ rfl) rfl) ?_ | refine Run.load (dd := some 32) rfl rfl (op_loadn_flat rfl (Opd.tmp _ _ rfl) tH tR tR) ?_ | refine Run.pure (dd := some 32) rfl rfl (op_loadn_fz rfl (Opd.tmp _ _ rfl) tR) ?_ | refine Run.load (dd := some 32) rfl rfl (op_loadn_refs rfl (Opd.tmp _ _ rfl) tH tR tR) ?_
            refine Run.pure (dd := some 33) rfl rfl (op_idx_sl0 c.length rfl (Opd.tmp _ _ rfl) (Opd.tmp _ _ rfl) (by intro _; constructor <;> omega)) ?_
            refine Run.eff (dd := none) rfl rfl (op_store_flat rfl (Opd.tmp _ _ rfl) (Opd.tmp _ _ rfl) tC rfl rfl g3 tS) ?_
            refine Run.nil (FinR.mk ?_)
            refine nK ?_
            refine s_reg rfl ?_
            first | refine Run.pure (dd := some 34) rfl rfl (op_move rfl (Opd.tmp _ _ rfl)) ?_ | refine Run.pure (dd := some 34) rfl rfl (op_junk (.inl rfl)) ?_
            refine Run.pure (dd := some 35) rfl rfl (op_add rfl (Opd.tmp _ _ rfl) (Opd.const _) tI) ?_
            first | refine Run.pure (dd := some 5) rfl rfl (op_assign rfl (Opd.tmp _ _ rfl)) ?_ | refine Run.pure (dd := some 5) rfl rfl (op_junk (.inr rfl)) ?_
            refine Run.nil (FinR.mk ?_)
            refine nK ?_
            refine s_reg rfl ?_
            first | refine Run.pure (dd := some 20) rfl rfl (op_move rfl (Opd.tmp _ _ rfl)) ?_ | refine Run.pure (dd := some 20) rfl rfl (op_junk (.inl rfl)) ?_
            refine Run.pure (dd := some 21) rfl rfl (op_add rfl (Opd.tmp _ _ rfl) (Opd.const _) tI) ?_
            first | refine Run.pure (dd := some 6) rfl rfl (op_assign rfl (Opd.tmp _ _ rfl)) ?_ | refine Run.pure (dd := some 6) rfl rfl (op_junk (.inr rfl)) ?_
            refine Run.nil (FinR.mk ?_)
            refine nK ?_
            refine Next.weakS [0] [] (by rfl) (by first | exact keeps0 hC _ | exact keepsN hC _ rfl) (by repeat (first | exact trivial | refine ⟨⟨_, rfl, .inl ⟨rfl, rfl⟩⟩, ?_⟩ | refine ⟨⟨_, rfl, .inl ⟨slEq rfl tN, rfl⟩⟩, ?_⟩ | refine ⟨⟨_, rfl, .inl ⟨ivEq tX, rfl⟩⟩, ?_⟩)) (by repeat (first | exact trivial | refine ⟨ent_same rfl rfl rfl tL, ?_⟩ | refine ⟨ent_same rfl rfl (rfEq rfl tU) tL, ?_⟩ | refine ⟨ent_same rfl rfl (flEq rfl (by first | (simp; done) | (simp; omega) | (simp [encE, encN, encB]; done) | simp [maxC, minC])) trivial, ?_⟩)) rfl (hK4)
          · have hne : p x = true := by simpa using hb
            rw [hne, cond_true, List.append_nil] at hst2
            refine nK ?_
            refine s_reg rfl ?_
            first | refine Run.pure (dd := some 20) rfl rfl (op_move rfl (Opd.tmp _ _ rfl)) ?_ | refine Run.pure (dd := some 20) rfl rfl (op_junk (.inl rfl)) ?_
            refine Run.pure (dd := some 21) rfl rfl (op_add rfl (Opd.tmp _ _ rfl) (Opd.const _) tI) ?_
            first | refine Run.pure (dd := some 6) rfl rfl (op_assign rfl (Opd.tmp _ _ rfl)) ?_ | refine Run.pure (dd := some 6) rfl rfl (op_junk (.inr rfl)) ?_
            refine Run.nil (FinR.mk ?_)
            refine nK ?_
            refine Next.weakS [0] [] (by rfl) (by first | exact keeps0 hC _ | exact keepsN hC _ rfl) (by repeat (first | exact trivial | refine ⟨⟨_, rfl, .inl ⟨rfl, rfl⟩⟩, ?_⟩ | refine ⟨⟨_, rfl, .inl ⟨slEq rfl tN, rfl⟩⟩, ?_⟩ | refine ⟨⟨_, rfl, .inl ⟨ivEq tX, rfl⟩⟩, ?_⟩)) (by repeat (first | exact trivial | refine ⟨ent_same rfl rfl rfl tL, ?_⟩ | refine ⟨ent_same rfl rfl (rfEq rfl tU) tL, ?_⟩ | refine ⟨ent_same rfl rfl (flEq rfl (by first | (simp; done) | (simp; omega) | (simp [encE, encN, encB]; done) | simp [maxC, minC])) trivial, ?_⟩)) rfl ((hK3 c hst2.symm))
        · have hie : i = l.length := by simp at hb; omega
          rw [hie, List.take_length] at hcd
          rw [← hcd]
          refine nK ?_
          refine s_reg rfl ?_
          first | refine Run.pure (dd := some 36) rfl rfl (op_move rfl (Opd.tmp _ _ rfl)) ?_ | refine Run.pure (dd := some 36) rfl rfl (op_junk (.inl rfl)) ?_
          first | refine Run.pure (dd := some 37) rfl rfl (op_move rfl (Opd.tmp _ _ rfl)) ?_ | refine Run.pure (dd := some 37) rfl rfl (op_junk (.inl rfl)) ?_
          refine Run.load (dd := some 38) rfl rfl (op_slice_view rfl (Opd.tmp _ _ rfl) (Bnd.yes _ _ _ _ _ (Opd.tmp _ _ rfl) tQ) (Bnd.no _) (by intro _; refine ⟨rfl, ?_⟩; rw [List.length_map, hkl]; omega)) ?_
          refine Run.eff (dd := none) rfl rfl (op_clear rfl (Opd.tmp _ _ rfl) rfl rfl rfl rfl (by rw [List.length_map, hkl] <;> omega)) ?_
          refine Run.nil (FinR.mk ?_)
          refine nK ?_
          refine s_reg rfl ?_
          first | refine Run.pure (dd := some 39) rfl rfl (op_move rfl (Opd.tmp _ _ rfl)) ?_ | refine Run.pure (dd := some 39) rfl rfl (op_junk (.inl rfl)) ?_
          first | refine Run.pure (dd := some 40) rfl rfl (op_move rfl (Opd.tmp _ _ rfl)) ?_ | refine Run.pure (dd := some 40) rfl rfl (op_junk (.inl rfl)) ?_
          refine Run.load (dd := some 41) rfl rfl (op_slice_view rfl (Opd.tmp _ _ rfl) (Bnd.no _) (Bnd.yes _ _ _ _ _ (Opd.tmp _ _ rfl) tQ) (by intro _; refine ⟨rfl, ?_⟩; simp; try omega)) ?_
          first | refine Run.pure (dd := some 4) rfl rfl (op_assign rfl (Opd.tmp _ _ rfl)) ?_ | refine Run.pure (dd := some 4) rfl rfl (op_junk (.inr rfl)) ?_
          refine Run.nil (FinR.mk ?_)
          refine nK ?_
          refine Next.weakS [4] [4] (by rfl) (keepsN hC _ rfl) (G' := [(4, .fz (VE c))]) (H' := []) ⟨⟨_, rfl, .inr ⟨_, rfl, .sl _ _ _ _ _ _ rfl rfl (by simp) (by simp)⟩⟩, trivial⟩ trivial rfl ?_
          exact n_out1 rfl (by rfl) rfl rfl
end Go.Proofs.Ytelnedgopdlnkaa
namespace Go.Proofs.Ytelnedgopdlnkaa
open Go Go.RT Go.Proofs Go.Pl
set_option linter.all false
set_option maxRecDepth 20000
theorem without_c (g : Gr) (hn : g.es.length ≤ 2000000) (gf : Nat) [FnB Try.prog gf] (caps : List FV) (p : Edg → Bool) (hp : ∀ x, Pure Try.prog gf ([.agg (encE x)] ++ caps) (Bf (p x))) : Pure Try.prog 55 [.agg (encG g), .clo gf caps] (.agg (encG ⟨g.r, g.n, keepL p g.es⟩)) := by
  have hcl := clone_c g.es hn
  have hdl := deleteF_c g.es hn gf caps p hp
  refine Meets.intro Try.func55 rfl (Nat.le_of_ble_eq_true rfl) fun C hC => ?_
  simp only [List.map, argEnv, Nat.reduceAdd]
  refine nK ?_
  refine s_reg rfl ?_
  first | refine Run.eff (dd := some 2) rfl rfl (op_box_flat rfl (Opd.tmp _ _ rfl) tC rfl) ?_ | refine Run.eff (dd := some 2) rfl rfl (op_box_refs rfl (Opd.tmp _ _ rfl) tP rfl) ?_
  refine Run.eff (dd := some 4) rfl rfl (op_alloc rfl rfl rfl rfl) ?_
  refine Run.nil (FinR.mk ?_)
  refine nK ?_
  refine s_reg rfl ?_
  first | refine Run.pure (dd := some 5) rfl rfl (op_fld_ptr (by decide) rfl (Opd.tmp _ _ rfl)) ?_ | refine Run.pure (dd := some 5) rfl rfl (op_fld_fz (by decide) rfl (Opd.tmp _ _ rfl) tR) ?_
  first | refine Run.load (dd := some 6) rfl rfl (op_load1_flat rfl (Opd.tmp _ _ rfl) tH rfl) ?_ | refine Run.pure (dd := some 6) rfl rfl (op_load1_fz rfl (Opd.tmp _ _ rfl) rfl) ?_ | refine Run.load (dd := some 6) rfl rfl (op_load1_refs rfl (Opd.tmp _ _ rfl) tH rfl) ?_
  refine Run.eff (dd := some 7) rfl rfl (op_call_fresh (fun _ => hcl) rfl (Opd.func _) (Opds.cons _ _ _ _ (Opd.tmp _ _ rfl) Opds.nil)) ?_
  first | refine Run.pure (dd := some 8) rfl rfl (op_move rfl (Opd.tmp _ _ rfl)) ?_ | refine Run.pure (dd := some 8) rfl rfl (op_junk (.inl rfl)) ?_
  refine Run.eff (dd := some 9) rfl rfl (op_call (n := 1) (n' := 1) [2] (fun _ => hdl) rfl (Opd.func _) (Opds.cons _ _ _ _ (Opd.tmp _ _ rfl) (Opds.cons _ _ _ _ (Opd.tmp _ _ rfl) Opds.nil)) rfl rfl (Lent.of rfl rfl (by repeat (first | exact trivial | refine ⟨⟨rfl, rfl, rfl, tL⟩, ?_⟩)) rfl) rfl rfl rfl rfl rfl) ?_
  first | refine Run.pure (dd := some 10) rfl rfl (op_fld_ptr (by decide) rfl (Opd.tmp _ _ rfl)) ?_ | refine Run.pure (dd := some 10) rfl rfl (op_fld_fz (by decide) rfl (Opd.tmp _ _ rfl) tR) ?_
  first | refine Run.eff (dd := none) rfl rfl (op_store_flat rfl (Opd.tmp _ _ rfl) (Opd.tmp _ _ rfl) tC rfl rfl (by first | rfl | assumption) tS) ?_ | refine Run.eff (dd := none) rfl rfl (op_store_refs rfl (Opd.tmp _ _ rfl) (Opd.tmp _ _ rfl) tP rfl rfl rfl tS) ?_
  refine Run.nil (FinR.mk ?_)
  refine nK ?_
  refine s_reg rfl ?_
  first | refine Run.load (dd := some 11) rfl rfl (op_loadw_flat rfl (Opd.tmp _ _ rfl) tH rfl) ?_ | refine Run.pure (dd := some 11) rfl rfl (op_loadw_fz rfl (Opd.tmp _ _ rfl) rfl) ?_ | refine Run.load (dd := some 11) rfl rfl (op_loadn_flat rfl (Opd.tmp _ _ rfl) tH tR tR) ?_ | refine Run.pure (dd := some 11) rfl rfl (op_loadn_fz rfl (Opd.tmp _ _ rfl) tR) ?_ | refine Run.load (dd := some 11) rfl rfl (op_loadn_refs rfl (Opd.tmp _ _ rfl) tH tR tR) ?_
  first | refine Run.eff (dd := none) rfl rfl (op_store_flat rfl (Opd.tmp _ _ rfl) (Opd.tmp _ _ rfl) tC rfl rfl (by first | rfl | assumption) tS) ?_ | refine Run.eff (dd := none) rfl rfl (op_store_refs rfl (Opd.tmp _ _ rfl) (Opd.tmp _ _ rfl) tP rfl rfl rfl tS) ?_
  refine Run.nil (FinR.mk ?_)
  refine nK ?_
  (first | exact s_o1 hC rfl tV | exact s_o2 hC rfl tV tV | exact s_o3 hC rfl tV tV tV | exact s_out0 hC rfl | exact s_outO hC rfl rfl rfl)
abbrev pW (n : Int) (e : Edg) : Bool := decide (e.f = n) || decide (e.t = n)
abbrev pC (a b : Int) (e : Edg) : Bool := decide (e.f = a) && decide (e.t = b) || decide (e.f = b) && decide (e.t = a)
theorem withoutP_c (n : Int) (e : Edg) : Pure Try.prog 56 [.agg (encE e), .cellp [If .i64 n]] (Bf (pW n e)) := by
  refine Meets.intro Try.func56 rfl (Nat.le_of_ble_eq_true rfl) fun C hC => ?_
  simp only [List.map, argEnv, Nat.reduceAdd]
  refine nK ?_
  refine s_reg rfl ?_
  first | refine Run.eff (dd := some 2) rfl rfl (op_box_flat rfl (Opd.tmp _ _ rfl) tC rfl) ?_ | refine Run.eff (dd := some 2) rfl rfl (op_box_refs rfl (Opd.tmp _ _ rfl) tP rfl) ?_
  first | refine Run.pure (dd := some 3) rfl rfl (op_assign rfl (Opd.const _)) ?_ | refine Run.pure (dd := some 3) rfl rfl (op_junk (.inr rfl)) ?_
  refine Run.nil (FinR.mk ?_)
  refine nK ?_
  refine s_reg rfl ?_
  first | refine Run.pure (dd := some 4) rfl rfl (op_fld_ptr (by decide) rfl (Opd.tmp _ _ rfl)) ?_ | refine Run.pure (dd := some 4) rfl rfl (op_fld_fz (by decide) rfl (Opd.tmp _ _ rfl) tR) ?_
  first | refine Run.load (dd := some 5) rfl rfl (op_load1_flat rfl (Opd.tmp _ _ rfl) tH rfl) ?_ | refine Run.pure (dd := some 5) rfl rfl (op_load1_fz rfl (Opd.tmp _ _ rfl) rfl) ?_ | refine Run.load (dd := some 5) rfl rfl (op_load1_refs rfl (Opd.tmp _ _ rfl) tH rfl) ?_
  first | refine Run.load (dd := some 6) rfl rfl (op_load1_flat rfl (Opd.tmp _ _ rfl) tH rfl) ?_ | refine Run.pure (dd := some 6) rfl rfl (op_load1_fz rfl (Opd.tmp _ _ rfl) rfl) ?_ | refine Run.load (dd := some 6) rfl rfl (op_load1_refs rfl (Opd.tmp _ _ rfl) tH rfl) ?_
  refine Run.pure (dd := some 7) rfl rfl (op_eql rfl (Opd.tmp _ _ rfl) (Opd.tmp _ _ rfl)) ?_
  first | refine Run.pure (dd := some 8) rfl rfl (op_move rfl (Opd.tmp _ _ rfl)) ?_ | refine Run.pure (dd := some 8) rfl rfl (op_junk (.inl rfl)) ?_
  first | refine Run.pureG (dd := some 9) rfl rfl rfl tG (op_fld_ptr (by decide) rfl (Opd.tmp _ _ rfl)) ?_ | refine Run.pureG (dd := some 9) rfl rfl rfl tG (op_fld_fz (by decide) rfl (Opd.tmp _ _ rfl) tR) ?_
  first | refine Run.loadG (dd := some 10) rfl rfl rfl tG (op_load1_flat rfl (Opd.topt _ _ _ rfl tO) tH rfl) ?_ | refine Run.pureG (dd := some 10) rfl rfl rfl tG (op_load1_fz rfl (Opd.topt _ _ _ rfl tO) rfl) ?_ | refine Run.loadG (dd := some 10) rfl rfl rfl tG (op_load1_refs rfl (Opd.topt _ _ _ rfl tO) tH rfl) ?_
  first | refine Run.loadG (dd := some 11) rfl rfl rfl tG (op_load1_flat rfl (Opd.tmp _ _ rfl) tH rfl) ?_ | refine Run.pureG (dd := some 11) rfl rfl rfl tG (op_load1_fz rfl (Opd.tmp _ _ rfl) rfl) ?_ | refine Run.loadG (dd := some 11) rfl rfl rfl tG (op_load1_refs rfl (Opd.tmp _ _ rfl) tH rfl) ?_
  refine Run.pureG (dd := some 12) rfl rfl rfl tG (op_eql rfl (Opd.topt _ _ _ rfl tO) (Opd.topt _ _ _ rfl tO)) ?_
  refine Run.pure (dd := some 13) rfl rfl (op_pick_or rfl (Opd.tmp _ _ rfl) (Opd.topt _ _ _ rfl tO)) ?_
  first | refine Run.pure (dd := some 3) rfl rfl (op_assign rfl (Opd.tmp _ _ rfl)) ?_ | refine Run.pure (dd := some 3) rfl rfl (op_junk (.inr rfl)) ?_
  refine Run.nil (FinR.mk ?_)
  refine nK ?_
  (first | exact s_o1 hC rfl tV | exact s_o2 hC rfl tV tV | exact s_o3 hC rfl tV tV tV | exact s_out0 hC rfl | exact s_outO hC rfl rfl rfl)
theorem cutP_c (a b : Int) (e : Edg) : Pure Try.prog 57 [.agg (encE e), .cellp [If .i64 a], .cellp [If .i64 b]] (Bf (pC a b e)) := by
  refine Meets.intro Try.func57 rfl (Nat.le_of_ble_eq_true rfl) fun C hC => ?_
  simp only [List.map, argEnv, Nat.reduceAdd]
  refine nK ?_
  refine s_reg rfl ?_
  first | refine Run.eff (dd := some 3) rfl rfl (op_box_flat rfl (Opd.tmp _ _ rfl) tC rfl) ?_ | refine Run.eff (dd := some 3) rfl rfl (op_box_refs rfl (Opd.tmp _ _ rfl) tP rfl) ?_
  first | refine Run.pure (dd := some 4) rfl rfl (op_assign rfl (Opd.const _)) ?_ | refine Run.pure (dd := some 4) rfl rfl (op_junk (.inr rfl)) ?_
  refine Run.nil (FinR.mk ?_)
  refine nK ?_
  refine s_reg rfl ?_
  first | refine Run.pure (dd := some 5) rfl rfl (op_fld_ptr (by decide) rfl (Opd.tmp _ _ rfl)) ?_ | refine Run.pure (dd := some 5) rfl rfl (op_fld_fz (by decide) rfl (Opd.tmp _ _ rfl) tR) ?_
  first | refine Run.load (dd := some 6) rfl rfl (op_load1_flat rfl (Opd.tmp _ _ rfl) tH rfl) ?_ | refine Run.pure (dd := some 6) rfl rfl (op_load1_fz rfl (Opd.tmp _ _ rfl) rfl) ?_ | refine Run.load (dd := some 6) rfl rfl (op_load1_refs rfl (Opd.tmp _ _ rfl) tH rfl) ?_
  first | refine Run.load (dd := some 7) rfl rfl (op_load1_flat rfl (Opd.tmp _ _ rfl) tH rfl) ?_ | refine Run.pure (dd := some 7) rfl rfl (op_load1_fz rfl (Opd.tmp _ _ rfl) rfl) ?_ | refine Run.load (dd := some 7) rfl rfl (op_load1_refs rfl (Opd.tmp _ _ rfl) tH rfl) ?_
  refine Run.pure (dd := some 8) rfl rfl (op_eql rfl (Opd.tmp _ _ rfl) (Opd.tmp _ _ rfl)) ?_
  first | refine Run.pure (dd := some 9) rfl rfl (op_move rfl (Opd.tmp _ _ rfl)) ?_ | refine Run.pure (dd := some 9) rfl rfl (op_junk (.inl rfl)) ?_
  first | refine Run.pureG (dd := some 10) rfl rfl rfl tG (op_fld_ptr (by decide) rfl (Opd.tmp _ _ rfl)) ?_ | refine Run.pureG (dd := some 10) rfl rfl rfl tG (op_fld_fz (by decide) rfl (Opd.tmp _ _ rfl) tR) ?_
  first | refine Run.loadG (dd := some 11) rfl rfl rfl tG (op_load1_flat rfl (Opd.topt _ _ _ rfl tO) tH rfl) ?_ | refine Run.pureG (dd := some 11) rfl rfl rfl tG (op_load1_fz rfl (Opd.topt _ _ _ rfl tO) rfl) ?_ | refine Run.loadG (dd := some 11) rfl rfl rfl tG (op_load1_refs rfl (Opd.topt _ _ _ rfl tO) tH rfl) ?_
  first | refine Run.loadG (dd := some 12) rfl rfl rfl tG (op_load1_flat rfl (Opd.tmp _ _ rfl) tH rfl) ?_ | refine Run.pureG (dd := some 12) rfl rfl rfl tG (op_load1_fz rfl (Opd.tmp _ _ rfl) rfl) ?_ | refine Run.loadG (dd := some 12) rfl rfl rfl tG (op_load1_refs rfl (Opd.tmp _ _ rfl) tH rfl) ?_
  refine Run.pureG (dd := some 13) rfl rfl rfl tG (op_eql rfl (Opd.topt _ _ _ rfl tO) (Opd.topt _ _ _ rfl tO)) ?_
  refine Run.pure (dd := some 14) rfl rfl (op_pick_and rfl (Opd.tmp _ _ rfl) (Opd.topt _ _ _ rfl tO)) ?_
  first | refine Run.pure (dd := some 15) rfl rfl (op_move rfl (Opd.tmp _ _ rfl)) ?_ | refine Run.pure (dd := some 15) rfl rfl (op_junk (.inl rfl)) ?_
  first | refine Run.pureG (dd := some 16) rfl rfl rfl tG (op_fld_ptr (by decide) rfl (Opd.tmp _ _ rfl)) ?_ | refine Run.pureG (dd := some 16) rfl rfl rfl tG (op_fld_fz (by decide) rfl (Opd.tmp _ _ rfl) tR) ?_
  first | refine Run.loadG (dd := some 17) rfl rfl rfl tG (op_load1_flat rfl (Opd.topt _ _ _ rfl tO) tH rfl) ?_ | refine Run.pureG (dd := some 17) rfl rfl rfl tG (op_load1_fz rfl (Opd.topt _ _ _ rfl tO) rfl) ?_ | refine Run.loadG (dd := some 17) rfl rfl rfl tG (op_load1_refs rfl (Opd.topt _ _ _ rfl tO) tH rfl) ?_
  first | refine Run.loadG (dd := some 18) rfl rfl rfl tG (op_load1_flat rfl (Opd.tmp _ _ rfl) tH rfl) ?_ | refine Run.pureG (dd := some 18) rfl rfl rfl tG (op_load1_fz rfl (Opd.tmp _ _ rfl) rfl) ?_ | refine Run.loadG (dd := some 18) rfl rfl rfl tG (op_load1_refs rfl (Opd.tmp _ _ rfl) tH rfl) ?_
  refine Run.pureG (dd := some 19) rfl rfl rfl tG (op_eql rfl (Opd.topt _ _ _ rfl tO) (Opd.topt _ _ _ rfl tO)) ?_
  first | refine Run.pureG (dd := some 20) rfl rfl rfl tG (op_move rfl (Opd.topt _ _ _ rfl tO)) ?_ | refine Run.pureG (dd := some 20) rfl rfl rfl tG (op_junk (.inl rfl)) ?_
  first | refine Run.pureG (dd := some 21) rfl rfl rfl tG (op_fld_ptr (by decide) rfl (Opd.tmp _ _ rfl)) ?_ | refine Run.pureG (dd := some 21) rfl rfl rfl tG (op_fld_fz (by decide) rfl (Opd.tmp _ _ rfl) tR) ?_
  first | refine Run.loadG (dd := some 22) rfl rfl rfl tG (op_load1_flat rfl (Opd.topt _ _ _ rfl tO) tH rfl) ?_ | refine Run.pureG (dd := some 22) rfl rfl rfl tG (op_load1_fz rfl (Opd.topt _ _ _ rfl tO) rfl) ?_ | refine Run.loadG (dd := some 22) rfl rfl rfl tG (op_load1_refs rfl (Opd.topt _ _ _ rfl tO) tH rfl) ?_
  first | refine Run.loadG (dd := some 23) rfl rfl rfl tG (op_load1_flat rfl (Opd.tmp _ _ rfl) tH rfl) ?_ | refine Run.pureG (dd := some 23) rfl rfl rfl tG (op_load1_fz rfl (Opd.tmp _ _ rfl) rfl) ?_ | refine Run.loadG (dd := some 23) rfl rfl rfl tG (op_load1_refs rfl (Opd.tmp _ _ rfl) tH rfl) ?_
  refine Run.pureG (dd := some 24) rfl rfl rfl tG (op_eql rfl (Opd.topt _ _ _ rfl tO) (Opd.topt _ _ _ rfl tO)) ?_
  refine Run.pureG (dd := some 25) rfl rfl rfl tG (op_pick_and rfl (Opd.topt _ _ _ rfl tO) (Opd.topt _ _ _ rfl tO)) ?_
  refine Run.pure (dd := some 26) rfl rfl (op_pick_or rfl (Opd.tmp _ _ rfl) (Opd.topt _ _ _ rfl tO)) ?_
  first | refine Run.pure (dd := some 4) rfl rfl (op_assign rfl (Opd.tmp _ _ rfl)) ?_ | refine Run.pure (dd := some 4) rfl rfl (op_junk (.inr rfl)) ?_
  refine Run.nil (FinR.mk ?_)
  refine nK ?_
  (first | exact s_o1 hC rfl tV | exact s_o2 hC rfl tV tV | exact s_o3 hC rfl tV tV tV | exact s_out0 hC rfl | exact s_outO hC rfl rfl rfl)
theorem cwithout_c (g : Gr) (n : Int) (hn : g.es.length ≤ 2000000) : Pure Try.prog 28 [.agg (encG g), If .i64 n] (.agg (encG ⟨g.r, g.n, keepL (pW n) g.es⟩)) := by
  have hw := without_c g hn 56 [.cellp [If .i64 n]] (pW n) (withoutP_c n)
  refine Meets.intro Try.func28 rfl (Nat.le_of_ble_eq_true rfl) fun C hC => ?_
  simp only [List.map, argEnv, Nat.reduceAdd]
  refine nK ?_
  refine s_reg rfl ?_
  first | refine Run.eff (dd := some 2) rfl rfl (op_box_flat rfl (Opd.tmp _ _ rfl) tC rfl) ?_ | refine Run.eff (dd := some 2) rfl rfl (op_box_refs rfl (Opd.tmp _ _ rfl) tP rfl) ?_
  first | refine Run.eff (dd := some 3) rfl rfl (op_box_flat rfl (Opd.tmp _ _ rfl) tC rfl) ?_ | refine Run.eff (dd := some 3) rfl rfl (op_box_refs rfl (Opd.tmp _ _ rfl) tP rfl) ?_
  refine Run.eff (dd := some 4) rfl rfl (op_alloc rfl rfl rfl rfl) ?_
  refine Run.nil (FinR.mk ?_)
  refine nK ?_
  refine Next.weakS [2, 4] [3] (by rfl) (keeps0 hC _) (G' := [(2, .ptr 0 3 0 0), (3, .fz (.cellp [If .i64 n])), (4, .ptr 1 3 0 0)]) (H' := [(0, OG g), (1, OG zeroG)]) (by repeat (first | exact trivial | refine ⟨⟨_, rfl, .inl ⟨rfl, rfl⟩⟩, ?_⟩ | refine ⟨⟨_, rfl, .inl ⟨slEq rfl tN, rfl⟩⟩, ?_⟩ | refine ⟨⟨_, rfl, .inl ⟨ivEq tX, rfl⟩⟩, ?_⟩ | refine ⟨⟨_, rfl, .inr ⟨_, rfl, tW⟩⟩, ?_⟩)) (by exact ⟨ent_same rfl rfl rfl tL, ⟨⟨rfl, rfl, .fflat _ _ _ rfl tW⟩, trivial⟩⟩) rfl ?_
  refine nK ?_
  refine s_reg rfl ?_
  first | refine Run.load (dd := some 5) rfl rfl (op_loadw_flat rfl (Opd.tmp _ _ rfl) tH rfl) ?_ | refine Run.pure (dd := some 5) rfl rfl (op_loadw_fz rfl (Opd.tmp _ _ rfl) rfl) ?_ | refine Run.load (dd := some 5) rfl rfl (op_loadn_flat rfl (Opd.tmp _ _ rfl) tH tR tR) ?_ | refine Run.pure (dd := some 5) rfl rfl (op_loadn_fz rfl (Opd.tmp _ _ rfl) tR) ?_ | refine Run.load (dd := some 5) rfl rfl (op_loadn_refs rfl (Opd.tmp _ _ rfl) tH tR tR) ?_
  refine Run.pure (dd := some 6) rfl rfl (op_makeFuncF (fs := [.cellp [If .i64 n]]) rfl (Opds.cons _ _ _ _ (Opd.tmp _ _ rfl) Opds.nil)) ?_
  refine Run.pure (dd := some 7) rfl rfl (op_call_pure (fun _ => hw) rfl (Opd.func _) (Opds.cons _ _ _ _ (Opd.tmp _ _ rfl) (Opds.cons _ _ _ _ (Opd.tmp _ _ rfl) Opds.nil))) ?_
  first | refine Run.eff (dd := none) rfl rfl (op_store_flat rfl (Opd.tmp _ _ rfl) (Opd.tmp _ _ rfl) tC rfl rfl (by first | rfl | assumption) tS) ?_ | refine Run.eff (dd := none) rfl rfl (op_store_refs rfl (Opd.tmp _ _ rfl) (Opd.tmp _ _ rfl) tP rfl rfl rfl tS) ?_
  refine Run.nil (FinR.mk ?_)
  refine nK ?_
  (first | exact s_o1 hC rfl tV | exact s_o2 hC rfl tV tV | exact s_o3 hC rfl tV tV tV | exact s_out0 hC rfl | exact s_outO hC rfl rfl rfl)
theorem ccut_c (g : Gr) (a b : Int) (hn : g.es.length ≤ 2000000) : Pure Try.prog 30 [.agg (encG g), If .i64 a, If .i64 b] (.agg (encG ⟨g.r, g.n, keepL (pC a b) g.es⟩)) := by
  have hw := without_c g hn 57 [.cellp [If .i64 a], .cellp [If .i64 b]] (pC a b) (cutP_c a b)
  refine Meets.intro Try.func30 rfl (Nat.le_of_ble_eq_true rfl) fun C hC => ?_
  simp only [List.map, argEnv, Nat.reduceAdd]
  refine nK ?_
  refine s_reg rfl ?_
  first | refine Run.eff (dd := some 3) rfl rfl (op_box_flat rfl (Opd.tmp _ _ rfl) tC rfl) ?_ | refine Run.eff (dd := some 3) rfl rfl (op_box_refs rfl (Opd.tmp _ _ rfl) tP rfl) ?_
  first | refine Run.eff (dd := some 4) rfl rfl (op_box_flat rfl (Opd.tmp _ _ rfl) tC rfl) ?_ | refine Run.eff (dd := some 4) rfl rfl (op_box_refs rfl (Opd.tmp _ _ rfl) tP rfl) ?_
  first | refine Run.eff (dd := some 5) rfl rfl (op_box_flat rfl (Opd.tmp _ _ rfl) tC rfl) ?_ | refine Run.eff (dd := some 5) rfl rfl (op_box_refs rfl (Opd.tmp _ _ rfl) tP rfl) ?_
  refine Run.eff (dd := some 6) rfl rfl (op_alloc rfl rfl rfl rfl) ?_
  refine Run.nil (FinR.mk ?_)
  refine nK ?_
  refine Next.weakS [3, 6] [4, 5] (by rfl) (keeps0 hC _) (G' := [(3, .ptr 0 3 0 0), (4, .fz (.cellp [If .i64 a])), (5, .fz (.cellp [If .i64 b])), (6, .ptr 1 3 0 0)]) (H' := [(0, OG g), (1, OG zeroG)]) (by repeat (first | exact trivial | refine ⟨⟨_, rfl, .inl ⟨rfl, rfl⟩⟩, ?_⟩ | refine ⟨⟨_, rfl, .inl ⟨slEq rfl tN, rfl⟩⟩, ?_⟩ | refine ⟨⟨_, rfl, .inl ⟨ivEq tX, rfl⟩⟩, ?_⟩ | refine ⟨⟨_, rfl, .inr ⟨_, rfl, tW⟩⟩, ?_⟩)) (by exact ⟨ent_same rfl rfl rfl tL, ⟨⟨rfl, rfl, .fflat _ _ _ rfl tW⟩, trivial⟩⟩) rfl ?_
  refine nK ?_
  refine s_reg rfl ?_
  first | refine Run.load (dd := some 7) rfl rfl (op_loadw_flat rfl (Opd.tmp _ _ rfl) tH rfl) ?_ | refine Run.pure (dd := some 7) rfl rfl (op_loadw_fz rfl (Opd.tmp _ _ rfl) rfl) ?_ | refine Run.load (dd := some 7) rfl rfl (op_loadn_flat rfl (Opd.tmp _ _ rfl) tH tR tR) ?_ | refine Run.pure (dd := some 7) rfl rfl (op_loadn_fz rfl (Opd.tmp _ _ rfl) tR) ?_ | refine Run.load (dd := some 7) rfl rfl (op_loadn_refs rfl (Opd.tmp _ _ rfl) tH tR tR) ?_
  refine Run.pure (dd := some 8) rfl rfl (op_makeFuncF (fs := [.cellp [If .i64 a], .cellp [If .i64 b]]) rfl (Opds.cons _ _ _ _ (Opd.tmp _ _ rfl) (Opds.cons _ _ _ _ (Opd.tmp _ _ rfl) Opds.nil))) ?_
  refine Run.pure (dd := some 9) rfl rfl (op_call_pure (fun _ => hw) rfl (Opd.func _) (Opds.cons _ _ _ _ (Opd.tmp _ _ rfl) (Opds.cons _ _ _ _ (Opd.tmp _ _ rfl) Opds.nil))) ?_
  first | refine Run.eff (dd := none) rfl rfl (op_store_flat rfl (Opd.tmp _ _ rfl) (Opd.tmp _ _ rfl) tC rfl rfl (by first | rfl | assumption) tS) ?_ | refine Run.eff (dd := none) rfl rfl (op_store_refs rfl (Opd.tmp _ _ rfl) (Opd.tmp _ _ rfl) tP rfl rfl rfl tS) ?_
  refine Run.nil (FinR.mk ?_)
  refine nK ?_
  (first | exact s_o1 hC rfl tV | exact s_o2 hC rfl tV tV | exact s_o3 hC rfl tV tV tV | exact s_out0 hC rfl | exact s_outO hC rfl rfl rfl)
theorem rwithout_c (g : Gr) (n : Int) (hn : g.es.length ≤ 2000000) : Pure Try.prog 29 [.agg (encG g), If .i64 n] (.agg (encG ⟨g.r, g.n, keepL (pW n) g.es⟩)) := by
  refine Meets.intro Try.func29 rfl (Nat.le_of_ble_eq_true rfl) fun C hC => ?_
  simp only [List.map, argEnv, Nat.reduceAdd]
  refine nK ?_
  refine s_reg rfl ?_
  first | refine Run.eff (dd := some 2) rfl rfl (op_box_flat rfl (Opd.tmp _ _ rfl) tC rfl) ?_ | refine Run.eff (dd := some 2) rfl rfl (op_box_refs rfl (Opd.tmp _ _ rfl) tP rfl) ?_
  refine Run.eff (dd := some 4) rfl rfl (op_alloc rfl rfl rfl rfl) ?_
  refine Run.nil (FinR.mk ?_)
  refine nK ?_
  refine s_reg rfl ?_
  first | refine Run.pure (dd := some 7) rfl rfl (op_fld_ptr (by decide) rfl (Opd.tmp _ _ rfl)) ?_ | refine Run.pure (dd := some 7) rfl rfl (op_fld_fz (by decide) rfl (Opd.tmp _ _ rfl) tR) ?_
  first | refine Run.load (dd := some 8) rfl rfl (op_load1_flat rfl (Opd.tmp _ _ rfl) tH rfl) ?_ | refine Run.pure (dd := some 8) rfl rfl (op_load1_fz rfl (Opd.tmp _ _ rfl) rfl) ?_ | refine Run.load (dd := some 8) rfl rfl (op_load1_refs rfl (Opd.tmp _ _ rfl) tH rfl) ?_
  first | refine Run.pure (dd := some 9) rfl rfl (op_fld_ptr (by decide) rfl (Opd.tmp _ _ rfl)) ?_ | refine Run.pure (dd := some 9) rfl rfl (op_fld_fz (by decide) rfl (Opd.tmp _ _ rfl) tR) ?_
  first | refine Run.load (dd := some 10) rfl rfl (op_load1_flat rfl (Opd.tmp _ _ rfl) tH rfl) ?_ | refine Run.pure (dd := some 10) rfl rfl (op_load1_fz rfl (Opd.tmp _ _ rfl) rfl) ?_ | refine Run.load (dd := some 10) rfl rfl (op_load1_refs rfl (Opd.tmp _ _ rfl) tH rfl) ?_
  first | refine Run.pure (dd := some 11) rfl rfl (op_build rfl rfl rfl (FillF.cons _ _ _ _ _ _ _ _ _ _ (by rfl) (Opd.tmp _ _ rfl) tC (by rfl) tR (FillF.cons _ _ _ _ _ _ _ _ _ _ (by rfl) (Opd.tmp _ _ rfl) tC (by rfl) tR (FillF.nil _)))) ?_ | refine Run.pure (dd := some 11) rfl rfl (op_buildP rfl rfl rfl rfl (FillP.cons _ _ _ _ _ _ _ _ _ _ (by rfl) (Opd.tmp _ _ rfl) tP (by rfl) tR (FillP.cons _ _ _ _ _ _ _ _ _ _ (by rfl) (Opd.tmp _ _ rfl) tP (by rfl) tR (FillP.nil _)))) ?_
  refine Run.eff (dd := some 5) rfl rfl (op_alloc rfl rfl rfl rfl) ?_
  first | refine Run.eff (dd := none) rfl rfl (op_store_flat rfl (Opd.tmp _ _ rfl) (Opd.tmp _ _ rfl) tC rfl rfl (by first | rfl | assumption) tS) ?_ | refine Run.eff (dd := none) rfl rfl (op_store_refs rfl (Opd.tmp _ _ rfl) (Opd.tmp _ _ rfl) tP rfl rfl rfl tS) ?_
  refine Run.nil (FinR.mk ?_)
  refine nK ?_
  refine s_reg rfl ?_
  first | refine Run.pure (dd := some 6) rfl rfl (op_assign rfl (Opd.const _)) ?_ | refine Run.pure (dd := some 6) rfl rfl (op_junk (.inr rfl)) ?_
  refine Run.nil (FinR.mk ?_)
  refine nK ?_
  refine Next.toRefs 2 rfl rfl ?_
  refine Next.adoptCell 2 0 2 3 rfl rfl rfl rfl ?_
  refine n_loop (ι := Nat) (fun i => ([(1, IV .i64 n), (2, .ptr 0 3 0 0), (4, .ptr 1 3 0 0), (5, .ptr 2 3 0 0), (6, IV .i64 i)], [(0, OG g), (1, OG zeroG), (2, some (.refs 3 [[IV .i64 g.r, IV .i64 g.n, .sl 3 3 0 (keepL (pW n) (g.es.take i)).length]])), (3, OE (keepL (pW n) (g.es.take i)))], 4)) (fun i => i ≤ g.es.length) (fun i => g.es.length - i) 0 (Nat.zero_le _) ?_ ?_
  · refine Next.weak [0, 1, 2, 3] [] (by rfl) (keeps0 hC _) (by repeat (first | exact trivial | refine ⟨⟨_, rfl, .inl ⟨rfl, rfl⟩⟩, ?_⟩ | refine ⟨⟨_, rfl, .inl ⟨slEq rfl tN, rfl⟩⟩, ?_⟩ | refine ⟨⟨_, rfl, .inl ⟨ivEq tX, rfl⟩⟩, ?_⟩)) (by exact ⟨ent_same rfl rfl rfl tL, ⟨⟨rfl, rfl, .fflat _ _ _ rfl tW⟩, ⟨ent_same rfl rfl rfl tL, ⟨ent_same rfl rfl rfl tL, trivial⟩⟩⟩⟩) (fun _ h => by simp at h) rel_intro
  · intro i hi K hK
    have hkl := keep_len (pW n) (g.es.take i)
    have htl : (g.es.take i).length ≤ g.es.length := List.length_take_le' _ _
    refine nK ?_
    refine s_reg rfl ?_
    first | refine Run.pure (dd := some 12) rfl rfl (op_move rfl (Opd.tmp _ _ rfl)) ?_ | refine Run.pure (dd := some 12) rfl rfl (op_junk (.inl rfl)) ?_
    first | refine Run.pure (dd := some 13) rfl rfl (op_fld_ptr (by decide) rfl (Opd.tmp _ _ rfl)) ?_ | refine Run.pure (dd := some 13) rfl rfl (op_fld_fz (by decide) rfl (Opd.tmp _ _ rfl) tR) ?_
    first | refine Run.load (dd := some 14) rfl rfl (op_load1_flat rfl (Opd.tmp _ _ rfl) tH rfl) ?_ | refine Run.pure (dd := some 14) rfl rfl (op_load1_fz rfl (Opd.tmp _ _ rfl) rfl) ?_ | refine Run.load (dd := some 14) rfl rfl (op_load1_refs rfl (Opd.tmp _ _ rfl) tH rfl) ?_
    first | refine Run.pure (dd := some 15) rfl rfl (op_len_fz rfl (by first | exact Opd.tmp _ _ rfl | exact Opd.nil _ _ (Opd.tmp _ _ rfl)) (by first | exact List.length_map _ | rfl)) ?_ | refine Run.pure (dd := some 15) rfl rfl (op_len_sl rfl (Opd.tmp _ _ rfl)) ?_
    refine Run.pure (dd := some 16) rfl rfl (op_lss rfl (Opd.tmp _ _ rfl) (Opd.tmp _ _ rfl)) ?_
    refine Run.nil (FinR.mk ?_)
    refine nK ?_
    refine n_cond _ rfl (fun hb => ?_) (fun hb => ?_)
    · have hlt : i < g.es.length := by simp at hb; omega
      have hr1 := row_at' encE g.es i hlt
      have hst := keep_take (pW n) g.es i hlt
      have hK1 := hK (i + 1) (by omega) (by omega)
      rw [hst] at hK1
      generalize keepL (pW n) (g.es.take i) = acc at *
      generalize g.es[i] = e at *
      refine nK ?_
      refine s_reg rfl ?_
      first | refine Run.pure (dd := some 19) rfl rfl (op_fld_ptr (by decide) rfl (Opd.tmp _ _ rfl)) ?_ | refine Run.pure (dd := some 19) rfl rfl (op_fld_fz (by decide) rfl (Opd.tmp _ _ rfl) tR) ?_
      first | refine Run.load (dd := some 20) rfl rfl (op_load1_flat rfl (Opd.tmp _ _ rfl) tH rfl) ?_ | refine Run.pure (dd := some 20) rfl rfl (op_load1_fz rfl (Opd.tmp _ _ rfl) rfl) ?_ | refine Run.load (dd := some 20) rfl rfl (op_load1_refs rfl (Opd.tmp _ _ rfl) tH rfl) ?_
      first | refine Run.pure (dd := some 21) rfl rfl (op_move rfl (Opd.tmp _ _ rfl)) ?_ | refine Run.pure (dd := some 21) rfl rfl (op_junk (.inl rfl)) ?_
      first | refine Run.pure (dd := some 22) rfl rfl (op_idx_sl0 _ rfl (Opd.tmp _ _ rfl) (Opd.tmp _ _ rfl) tD) ?_ | refine Run.pure (dd := some 22) rfl rfl (op_idx_fz _ rfl (Opd.tmp _ _ rfl) (Opd.tmp _ _ rfl) tF) ?_
      first | refine Run.pure (dd := some 23) rfl rfl (op_fld_ptr (by decide) rfl (Opd.tmp _ _ rfl)) ?_ | refine Run.pure (dd := some 23) rfl rfl (op_fld_fz (by decide) rfl (Opd.tmp _ _ rfl) tR) ?_
      first | refine Run.load (dd := some 24) rfl rfl (op_load1_flat rfl (Opd.tmp _ _ rfl) tH rfl) ?_ | refine Run.pure (dd := some 24) rfl rfl (op_load1_fz rfl (Opd.tmp _ _ rfl) rfl) ?_ | refine Run.load (dd := some 24) rfl rfl (op_load1_refs rfl (Opd.tmp _ _ rfl) tH rfl) ?_
      first | refine Run.pure (dd := some 25) rfl rfl (op_move rfl (Opd.tmp _ _ rfl)) ?_ | refine Run.pure (dd := some 25) rfl rfl (op_junk (.inl rfl)) ?_
      refine Run.pure (dd := some 26) rfl rfl (op_neq rfl (Opd.tmp _ _ rfl) (Opd.tmp _ _ rfl)) ?_
      first | refine Run.pure (dd := some 27) rfl rfl (op_move rfl (Opd.tmp _ _ rfl)) ?_ | refine Run.pure (dd := some 27) rfl rfl (op_junk (.inl rfl)) ?_
      first | refine Run.pureG (dd := some 28) rfl rfl rfl tG (op_fld_ptr (by decide) rfl (Opd.tmp _ _ rfl)) ?_ | refine Run.pureG (dd := some 28) rfl rfl rfl tG (op_fld_fz (by decide) rfl (Opd.tmp _ _ rfl) tR) ?_
      first | refine Run.loadG (dd := some 29) rfl rfl rfl tG (op_load1_flat rfl (Opd.topt _ _ _ rfl tO) tH rfl) ?_ | refine Run.pureG (dd := some 29) rfl rfl rfl tG (op_load1_fz rfl (Opd.topt _ _ _ rfl tO) rfl) ?_ | refine Run.loadG (dd := some 29) rfl rfl rfl tG (op_load1_refs rfl (Opd.topt _ _ _ rfl tO) tH rfl) ?_
      first | refine Run.pureG (dd := some 30) rfl rfl rfl tG (op_move rfl (Opd.tmp _ _ rfl)) ?_ | refine Run.pureG (dd := some 30) rfl rfl rfl tG (op_junk (.inl rfl)) ?_
      first | refine Run.pureG (dd := some 31) rfl rfl rfl tG (op_idx_sl0 _ rfl (Opd.topt _ _ _ rfl tO) (Opd.topt _ _ _ rfl tO) tD) ?_ | refine Run.pureG (dd := some 31) rfl rfl rfl tG (op_idx_fz _ rfl (Opd.topt _ _ _ rfl tO) (Opd.topt _ _ _ rfl tO) tF) ?_
      first | refine Run.pureG (dd := some 32) rfl rfl rfl tG (op_fld_ptr (by decide) rfl (Opd.topt _ _ _ rfl tO)) ?_ | refine Run.pureG (dd := some 32) rfl rfl rfl tG (op_fld_fz (by decide) rfl (Opd.topt _ _ _ rfl tO) tR) ?_
      first | refine Run.loadG (dd := some 33) rfl rfl rfl tG (op_load1_flat rfl (Opd.topt _ _ _ rfl tO) tH rfl) ?_ | refine Run.pureG (dd := some 33) rfl rfl rfl tG (op_load1_fz rfl (Opd.topt _ _ _ rfl tO) rfl) ?_ | refine Run.loadG (dd := some 33) rfl rfl rfl tG (op_load1_refs rfl (Opd.topt _ _ _ rfl tO) tH rfl) ?_
      first | refine Run.pureG (dd := some 34) rfl rfl rfl tG (op_move rfl (Opd.tmp _ _ rfl)) ?_ | refine Run.pureG (dd := some 34) rfl rfl rfl tG (op_junk (.inl rfl)) ?_
      refine Run.pureG (dd := some 35) rfl rfl rfl tG (op_neq rfl (Opd.topt _ _ _ rfl tO) (Opd.topt _ _ _ rfl tO)) ?_
      refine Run.pure (dd := some 36) rfl rfl (op_pick_and rfl (Opd.tmp _ _ rfl) (Opd.topt _ _ _ rfl tO)) ?_
      refine Run.nil (FinR.mk ?_)
      refine nK ?_
      refine n_cond _ rfl (fun hb => ?_) (fun hb => ?_)
      · have hne : pW n e = false := by simp [pW] at hb ⊢; exact hb
        rw [hne, cond_false] at hK1
        have e4 : (acc ++ [e]).length = acc.length + 1 := by simp
        rw [e4] at hK1
        rw [show OE (acc ++ [e]) = some (.flat 3 (acc.map encE ++ [encE e])) by simp] at hK1
        refine nK ?_
        refine s_draw mixed ?_
        first | refine Run.pure (dd := some 37) rfl rfl (op_fld_ptr (by decide) rfl (Opd.tmp _ _ rfl)) ?_ | refine Run.pure (dd := some 37) rfl rfl (op_fld_fz (by decide) rfl (Opd.tmp _ _ rfl) tR) ?_
        first | refine Run.load (dd := some 38) rfl rfl (op_load1_flat rfl (Opd.tmp _ _ rfl) tH rfl) ?_ | refine Run.pure (dd := some 38) rfl rfl (op_load1_fz rfl (Opd.tmp _ _ rfl) rfl) ?_ | refine Run.load (dd := some 38) rfl rfl (op_load1_refs rfl (Opd.tmp _ _ rfl) tH rfl) ?_
        first | refine Run.pure (dd := some 39) rfl rfl (op_fld_ptr (by decide) rfl (Opd.tmp _ _ rfl)) ?_ | refine Run.pure (dd := some 39) rfl rfl (op_fld_fz (by decide) rfl (Opd.tmp _ _ rfl) tR) ?_
        first | refine Run.load (dd := some 40) rfl rfl (op_load1_flat rfl (Opd.tmp _ _ rfl) tH rfl) ?_ | refine Run.pure (dd := some 40) rfl rfl (op_load1_fz rfl (Opd.tmp _ _ rfl) rfl) ?_ | refine Run.load (dd := some 40) rfl rfl (op_load1_refs rfl (Opd.tmp _ _ rfl) tH rfl) ?_
        first | refine Run.pure (dd := some 41) rfl rfl (op_move rfl (Opd.tmp _ _ rfl)) ?_ | refine Run.pure (dd := some 41) rfl rfl (op_junk (.inl rfl)) ?_
        first | refine Run.pure (dd := some 42) rfl rfl (op_idx_sl0 _ rfl (Opd.tmp _ _ rfl) (Opd.tmp _ _ rfl) tD) ?_ | refine Run.pure (dd := some 42) rfl rfl (op_idx_fz _ rfl (Opd.tmp _ _ rfl) (Opd.tmp _ _ rfl) tF) ?_
        first | refine Run.load (dd := some 43) rfl rfl (op_loadw_flat rfl (Opd.tmp _ _ rfl) tH rfl) ?_ | refine Run.pure (dd := some 43) rfl rfl (op_loadw_fz rfl (Opd.tmp _ _ rfl) rfl) ?_ | refine Run.load (dd := some 43) rfl rfl (op_loadn_flat rfl (Opd.tmp _ _ rfl) tH tR tR) ?_ | refine Run.pure (dd := some 43) rfl rfl (op_loadn_fz rfl (Opd.tmp _ _ rfl) tR) ?_ | refine Run.load (dd := some 43) rfl rfl (op_loadn_refs rfl (Opd.tmp _ _ rfl) tH tR tR) ?_
        refine Run.pure (dd := some 44) rfl rfl (op_buildSlice_fz rfl (RowsF.cons _ _ _ _ _ _ (Opd.tmp _ _ rfl) tC (by rfl) (RowsF.nil _)) rfl rfl) ?_
        first | refine Run.effW (dd := some 45) rfl rfl (op_append_own0 rfl (Opd.tmp _ _ rfl) (Opd.tmp _ _ rfl) rfl (by first | rfl | simp) rfl (by first | rfl | simp) rfl rfl tB tB) tE ?_ | refine Run.effW (dd := some 45) rfl rfl (op_append rfl (Opd.tmp _ _ rfl) (by first | exact Opd.tmp _ _ rfl | exact Opd.nil _ _ (Opd.tmp _ _ rfl)) rfl (by first | rfl | simp) rfl rfl tB tB) tE ?_
        first | refine Run.pure (dd := some 46) rfl rfl (op_fld_ptr (by decide) rfl (Opd.tmp _ _ rfl)) ?_ | refine Run.pure (dd := some 46) rfl rfl (op_fld_fz (by decide) rfl (Opd.tmp _ _ rfl) tR) ?_
        first | refine Run.effW (dd := none) rfl rfl (op_store_flat rfl (Opd.tmp _ _ rfl) (Opd.tmp _ _ rfl) tC rfl rfl (by first | rfl | assumption) tS) tE ?_ | refine Run.effW (dd := none) rfl rfl (op_store_refs rfl (Opd.tmp _ _ rfl) (Opd.tmp _ _ rfl) tP rfl rfl rfl tS) tE ?_
        refine Run.nil (FinD.mk (by kernel_rfl) ?_)
        refine nK ?_
        refine s_reg rfl ?_
        first | refine Run.pure (dd := some 17) rfl rfl (op_move rfl (Opd.tmp _ _ rfl)) ?_ | refine Run.pure (dd := some 17) rfl rfl (op_junk (.inl rfl)) ?_
        refine Run.pure (dd := some 18) rfl rfl (op_add rfl (Opd.tmp _ _ rfl) (Opd.const _) tI) ?_
        first | refine Run.pure (dd := some 6) rfl rfl (op_assign rfl (Opd.tmp _ _ rfl)) ?_ | refine Run.pure (dd := some 6) rfl rfl (op_junk (.inr rfl)) ?_
        refine Run.nil (FinR.mk ?_)
        refine nK ?_
        refine Next.weak [0, 1, 2, 4] [] (by rfl) (keeps0 hC _) (by repeat (first | exact trivial | refine ⟨⟨_, rfl, .inl ⟨rfl, rfl⟩⟩, ?_⟩ | refine ⟨⟨_, rfl, .inl ⟨slEq rfl tN, rfl⟩⟩, ?_⟩ | refine ⟨⟨_, rfl, .inl ⟨ivEq tX, rfl⟩⟩, ?_⟩)) (by exact ⟨ent_same rfl rfl rfl tL, ⟨ent_same rfl rfl rfl tL, ⟨ent_same rfl rfl rfl tL, ⟨ent_same rfl rfl rfl tL, trivial⟩⟩⟩⟩) (fun _ h => by simp at h) hK1
      · have hne : pW n e = true := by simp [pW] at hb ⊢; exact (Classical.em (e.f = n)).imp id hb
        rw [hne, cond_true, List.append_nil] at hK1
        refine nK ?_
        refine s_reg rfl ?_
        first | refine Run.pure (dd := some 17) rfl rfl (op_move rfl (Opd.tmp _ _ rfl)) ?_ | refine Run.pure (dd := some 17) rfl rfl (op_junk (.inl rfl)) ?_
        refine Run.pure (dd := some 18) rfl rfl (op_add rfl (Opd.tmp _ _ rfl) (Opd.const _) tI) ?_
        first | refine Run.pure (dd := some 6) rfl rfl (op_assign rfl (Opd.tmp _ _ rfl)) ?_ | refine Run.pure (dd := some 6) rfl rfl (op_junk (.inr rfl)) ?_
        refine Run.nil (FinR.mk ?_)
        refine nK ?_
        refine Next.weak [0, 1, 2, 3] [] (by rfl) (keeps0 hC _) (by repeat (first | exact trivial | refine ⟨⟨_, rfl, .inl ⟨rfl, rfl⟩⟩, ?_⟩ | refine ⟨⟨_, rfl, .inl ⟨slEq rfl tN, rfl⟩⟩, ?_⟩ | refine ⟨⟨_, rfl, .inl ⟨ivEq tX, rfl⟩⟩, ?_⟩)) (by exact ⟨ent_same rfl rfl rfl tL, ⟨ent_same rfl rfl rfl tL, ⟨ent_same rfl rfl rfl tL, ⟨ent_same rfl rfl rfl tL, trivial⟩⟩⟩⟩) (fun _ h => by simp at h) hK1
    · have hie : i = g.es.length := by simp at hb; omega
      rw [take_len_eq' hie]
      refine Next.weak [1, 2] [3] (by rfl) (keeps0 hC _) (G' := [(4, .ptr 0 3 0 0), (5, .ptr 1 3 0 0)]) (H' := [(0, OG zeroG), (1, OG ⟨g.r, g.n, keepL (pW n) g.es⟩)]) (by repeat (first | exact trivial | refine ⟨⟨_, rfl, .inl ⟨rfl, rfl⟩⟩, ?_⟩ | refine ⟨⟨_, rfl, .inl ⟨slEq rfl tN, rfl⟩⟩, ?_⟩ | refine ⟨⟨_, rfl, .inl ⟨ivEq tX, rfl⟩⟩, ?_⟩)) (by exact ⟨ent_same rfl rfl rfl tL, ⟨⟨rfl, rfl, .flat _ _ _ rfl tW⟩, trivial⟩⟩) (fun id h => by obtain rfl : id = 3 := (by simpa using h); exact ⟨_, rfl⟩) ?_
      refine nK ?_
      refine s_reg rfl ?_
      first | refine Run.load (dd := some 47) rfl rfl (op_loadw_flat rfl (Opd.tmp _ _ rfl) tH rfl) ?_ | refine Run.pure (dd := some 47) rfl rfl (op_loadw_fz rfl (Opd.tmp _ _ rfl) rfl) ?_ | refine Run.load (dd := some 47) rfl rfl (op_loadn_flat rfl (Opd.tmp _ _ rfl) tH tR tR) ?_ | refine Run.pure (dd := some 47) rfl rfl (op_loadn_fz rfl (Opd.tmp _ _ rfl) tR) ?_ | refine Run.load (dd := some 47) rfl rfl (op_loadn_refs rfl (Opd.tmp _ _ rfl) tH tR tR) ?_
      first | refine Run.eff (dd := none) rfl rfl (op_store_flat rfl (Opd.tmp _ _ rfl) (Opd.tmp _ _ rfl) tC rfl rfl (by first | rfl | assumption) tS) ?_ | refine Run.eff (dd := none) rfl rfl (op_store_refs rfl (Opd.tmp _ _ rfl) (Opd.tmp _ _ rfl) tP rfl rfl rfl tS) ?_
      refine Run.nil (FinR.mk ?_)
      refine nK ?_
      (first | exact s_o1 hC rfl tV | exact s_o2 hC rfl tV tV | exact s_o3 hC rfl tV tV tV | exact s_out0 hC rfl | exact s_outO hC rfl rfl rfl)
theorem rcut_c (g : Gr) (a b : Int) (hn : g.es.length ≤ 2000000) : Pure Try.prog 31 [.agg (encG g), If .i64 a, If .i64 b] (.agg (encG ⟨g.r, g.n, keepL (pC a b) g.es⟩)) := by
  refine Meets.intro Try.func31 rfl (Nat.le_of_ble_eq_true rfl) fun C hC => ?_
  simp only [List.map, argEnv, Nat.reduceAdd]
  refine nK ?_
  refine s_reg rfl ?_
  first | refine Run.eff (dd := some 3) rfl rfl (op_box_flat rfl (Opd.tmp _ _ rfl) tC rfl) ?_ | refine Run.eff (dd := some 3) rfl rfl (op_box_refs rfl (Opd.tmp _ _ rfl) tP rfl) ?_
  refine Run.eff (dd := some 6) rfl rfl (op_alloc rfl rfl rfl rfl) ?_
  refine Run.nil (FinR.mk ?_)
  refine nK ?_
  refine s_reg rfl ?_
  first | refine Run.pure (dd := some 10) rfl rfl (op_fld_ptr (by decide) rfl (Opd.tmp _ _ rfl)) ?_ | refine Run.pure (dd := some 10) rfl rfl (op_fld_fz (by decide) rfl (Opd.tmp _ _ rfl) tR) ?_
  first | refine Run.load (dd := some 11) rfl rfl (op_load1_flat rfl (Opd.tmp _ _ rfl) tH rfl) ?_ | refine Run.pure (dd := some 11) rfl rfl (op_load1_fz rfl (Opd.tmp _ _ rfl) rfl) ?_ | refine Run.load (dd := some 11) rfl rfl (op_load1_refs rfl (Opd.tmp _ _ rfl) tH rfl) ?_
  first | refine Run.pure (dd := some 12) rfl rfl (op_fld_ptr (by decide) rfl (Opd.tmp _ _ rfl)) ?_ | refine Run.pure (dd := some 12) rfl rfl (op_fld_fz (by decide) rfl (Opd.tmp _ _ rfl) tR) ?_
  first | refine Run.load (dd := some 13) rfl rfl (op_load1_flat rfl (Opd.tmp _ _ rfl) tH rfl) ?_ | refine Run.pure (dd := some 13) rfl rfl (op_load1_fz rfl (Opd.tmp _ _ rfl) rfl) ?_ | refine Run.load (dd := some 13) rfl rfl (op_load1_refs rfl (Opd.tmp _ _ rfl) tH rfl) ?_
  first | refine Run.pure (dd := some 14) rfl rfl (op_build rfl rfl rfl (FillF.cons _ _ _ _ _ _ _ _ _ _ (by rfl) (Opd.tmp _ _ rfl) tC (by rfl) tR (FillF.cons _ _ _ _ _ _ _ _ _ _ (by rfl) (Opd.tmp _ _ rfl) tC (by rfl) tR (FillF.nil _)))) ?_ | refine Run.pure (dd := some 14) rfl rfl (op_buildP rfl rfl rfl rfl (FillP.cons _ _ _ _ _ _ _ _ _ _ (by rfl) (Opd.tmp _ _ rfl) tP (by rfl) tR (FillP.cons _ _ _ _ _ _ _ _ _ _ (by rfl) (Opd.tmp _ _ rfl) tP (by rfl) tR (FillP.nil _)))) ?_
  refine Run.eff (dd := some 7) rfl rfl (op_alloc rfl rfl rfl rfl) ?_
  first | refine Run.eff (dd := none) rfl rfl (op_store_flat rfl (Opd.tmp _ _ rfl) (Opd.tmp _ _ rfl) tC rfl rfl (by first | rfl | assumption) tS) ?_ | refine Run.eff (dd := none) rfl rfl (op_store_refs rfl (Opd.tmp _ _ rfl) (Opd.tmp _ _ rfl) tP rfl rfl rfl tS) ?_
  refine Run.nil (FinR.mk ?_)
  refine nK ?_
  refine s_reg rfl ?_
  first | refine Run.pure (dd := some 8) rfl rfl (op_assign rfl (Opd.const _)) ?_ | refine Run.pure (dd := some 8) rfl rfl (op_junk (.inr rfl)) ?_
  refine Run.nil (FinR.mk ?_)
  refine nK ?_
  refine Next.toRefs 2 rfl rfl ?_
  refine Next.adoptCell 2 0 2 3 rfl rfl rfl rfl ?_
  refine n_loop (ι := Nat) (fun i => ([(1, IV .i64 a), (2, IV .i64 b), (3, .ptr 0 3 0 0), (6, .ptr 1 3 0 0), (7, .ptr 2 3 0 0), (8, IV .i64 i)], [(0, OG g), (1, OG zeroG), (2, some (.refs 3 [[IV .i64 g.r, IV .i64 g.n, .sl 3 3 0 (keepL (pC a b) (g.es.take i)).length]])), (3, OE (keepL (pC a b) (g.es.take i)))], 4)) (fun i => i ≤ g.es.length) (fun i => g.es.length - i) 0 (Nat.zero_le _) ?_ ?_
  · refine Next.weak [0, 1, 2, 3] [] (by rfl) (keeps0 hC _) (by repeat (first | exact trivial | refine ⟨⟨_, rfl, .inl ⟨rfl, rfl⟩⟩, ?_⟩ | refine ⟨⟨_, rfl, .inl ⟨slEq rfl tN, rfl⟩⟩, ?_⟩ | refine ⟨⟨_, rfl, .inl ⟨ivEq tX, rfl⟩⟩, ?_⟩)) (by exact ⟨ent_same rfl rfl rfl tL, ⟨⟨rfl, rfl, .fflat _ _ _ rfl tW⟩, ⟨ent_same rfl rfl rfl tL, ⟨ent_same rfl rfl rfl tL, trivial⟩⟩⟩⟩) (fun _ h => by simp at h) rel_intro
  · intro i hi K hK
    have hkl := keep_len (pC a b) (g.es.take i)
    have htl : (g.es.take i).length ≤ g.es.length := List.length_take_le' _ _
    refine nK ?_
    refine s_reg rfl ?_
    first | refine Run.pure (dd := some 15) rfl rfl (op_move rfl (Opd.tmp _ _ rfl)) ?_ | refine Run.pure (dd := some 15) rfl rfl (op_junk (.inl rfl)) ?_
    first | refine Run.pure (dd := some 16) rfl rfl (op_fld_ptr (by decide) rfl (Opd.tmp _ _ rfl)) ?_ | refine Run.pure (dd := some 16) rfl rfl (op_fld_fz (by decide) rfl (Opd.tmp _ _ rfl) tR) ?_
    first | refine Run.load (dd := some 17) rfl rfl (op_load1_flat rfl (Opd.tmp _ _ rfl) tH rfl) ?_ | refine Run.pure (dd := some 17) rfl rfl (op_load1_fz rfl (Opd.tmp _ _ rfl) rfl) ?_ | refine Run.load (dd := some 17) rfl rfl (op_load1_refs rfl (Opd.tmp _ _ rfl) tH rfl) ?_
    first | refine Run.pure (dd := some 18) rfl rfl (op_len_fz rfl (by first | exact Opd.tmp _ _ rfl | exact Opd.nil _ _ (Opd.tmp _ _ rfl)) (by first | exact List.length_map _ | rfl)) ?_ | refine Run.pure (dd := some 18) rfl rfl (op_len_sl rfl (Opd.tmp _ _ rfl)) ?_
    refine Run.pure (dd := some 19) rfl rfl (op_lss rfl (Opd.tmp _ _ rfl) (Opd.tmp _ _ rfl)) ?_
    refine Run.nil (FinR.mk ?_)
    refine nK ?_
    refine n_cond _ rfl (fun hb => ?_) (fun hb => ?_)
    · have hlt : i < g.es.length := by simp at hb; omega
      have hr1 := row_at' encE g.es i hlt
      have hst := keep_take (pC a b) g.es i hlt
      have hK1 := hK (i + 1) (by omega) (by omega)
      rw [hst] at hK1
      generalize keepL (pC a b) (g.es.take i) = acc at *
      generalize g.es[i] = e at *
      refine nK ?_
      refine s_reg rfl ?_
      first | refine Run.pure (dd := some 22) rfl rfl (op_fld_ptr (by decide) rfl (Opd.tmp _ _ rfl)) ?_ | refine Run.pure (dd := some 22) rfl rfl (op_fld_fz (by decide) rfl (Opd.tmp _ _ rfl) tR) ?_
      first | refine Run.load (dd := some 23) rfl rfl (op_load1_flat rfl (Opd.tmp _ _ rfl) tH rfl) ?_ | refine Run.pure (dd := some 23) rfl rfl (op_load1_fz rfl (Opd.tmp _ _ rfl) rfl) ?_ | refine Run.load (dd := some 23) rfl rfl (op_load1_refs rfl (Opd.tmp _ _ rfl) tH rfl) ?_
      first | refine Run.pure (dd := some 24) rfl rfl (op_move rfl (Opd.tmp _ _ rfl)) ?_ | refine Run.pure (dd := some 24) rfl rfl (op_junk (.inl rfl)) ?_
      first | refine Run.pure (dd := some 25) rfl rfl (op_idx_sl0 _ rfl (Opd.tmp _ _ rfl) (Opd.tmp _ _ rfl) tD) ?_ | refine Run.pure (dd := some 25) rfl rfl (op_idx_fz _ rfl (Opd.tmp _ _ rfl) (Opd.tmp _ _ rfl) tF) ?_
      first | refine Run.load (dd := some 26) rfl rfl (op_loadw_flat rfl (Opd.tmp _ _ rfl) tH rfl) ?_ | refine Run.pure (dd := some 26) rfl rfl (op_loadw_fz rfl (Opd.tmp _ _ rfl) rfl) ?_ | refine Run.load (dd := some 26) rfl rfl (op_loadn_flat rfl (Opd.tmp _ _ rfl) tH tR tR) ?_ | refine Run.pure (dd := some 26) rfl rfl (op_loadn_fz rfl (Opd.tmp _ _ rfl) tR) ?_ | refine Run.load (dd := some 26) rfl rfl (op_loadn_refs rfl (Opd.tmp _ _ rfl) tH tR tR) ?_
      refine Run.eff (dd := some 9) rfl rfl (op_alloc rfl rfl rfl rfl) ?_
      first | refine Run.eff (dd := none) rfl rfl (op_store_flat rfl (Opd.tmp _ _ rfl) (Opd.tmp _ _ rfl) tC rfl rfl (by first | rfl | assumption) tS) ?_ | refine Run.eff (dd := none) rfl rfl (op_store_refs rfl (Opd.tmp _ _ rfl) (Opd.tmp _ _ rfl) tP rfl rfl rfl tS) ?_
      refine Run.nil (FinR.mk ?_)
      refine nK ?_
      refine s_reg rfl ?_
      first | refine Run.pure (dd := some 27) rfl rfl (op_fld_ptr (by decide) rfl (Opd.tmp _ _ rfl)) ?_ | refine Run.pure (dd := some 27) rfl rfl (op_fld_fz (by decide) rfl (Opd.tmp _ _ rfl) tR) ?_
      first | refine Run.load (dd := some 28) rfl rfl (op_load1_flat rfl (Opd.tmp _ _ rfl) tH rfl) ?_ | refine Run.pure (dd := some 28) rfl rfl (op_load1_fz rfl (Opd.tmp _ _ rfl) rfl) ?_ | refine Run.load (dd := some 28) rfl rfl (op_load1_refs rfl (Opd.tmp _ _ rfl) tH rfl) ?_
      first | refine Run.pure (dd := some 29) rfl rfl (op_move rfl (Opd.tmp _ _ rfl)) ?_ | refine Run.pure (dd := some 29) rfl rfl (op_junk (.inl rfl)) ?_
      refine Run.pure (dd := some 30) rfl rfl (op_eql rfl (Opd.tmp _ _ rfl) (Opd.tmp _ _ rfl)) ?_
      first | refine Run.pure (dd := some 31) rfl rfl (op_move rfl (Opd.tmp _ _ rfl)) ?_ | refine Run.pure (dd := some 31) rfl rfl (op_junk (.inl rfl)) ?_
      first | refine Run.pureG (dd := some 32) rfl rfl rfl tG (op_fld_ptr (by decide) rfl (Opd.tmp _ _ rfl)) ?_ | refine Run.pureG (dd := some 32) rfl rfl rfl tG (op_fld_fz (by decide) rfl (Opd.tmp _ _ rfl) tR) ?_
      first | refine Run.loadG (dd := some 33) rfl rfl rfl tG (op_load1_flat rfl (Opd.topt _ _ _ rfl tO) tH rfl) ?_ | refine Run.pureG (dd := some 33) rfl rfl rfl tG (op_load1_fz rfl (Opd.topt _ _ _ rfl tO) rfl) ?_ | refine Run.loadG (dd := some 33) rfl rfl rfl tG (op_load1_refs rfl (Opd.topt _ _ _ rfl tO) tH rfl) ?_
      first | refine Run.pureG (dd := some 34) rfl rfl rfl tG (op_move rfl (Opd.tmp _ _ rfl)) ?_ | refine Run.pureG (dd := some 34) rfl rfl rfl tG (op_junk (.inl rfl)) ?_
      refine Run.pureG (dd := some 35) rfl rfl rfl tG (op_eql rfl (Opd.topt _ _ _ rfl tO) (Opd.topt _ _ _ rfl tO)) ?_
      refine Run.pure (dd := some 36) rfl rfl (op_pick_and rfl (Opd.tmp _ _ rfl) (Opd.topt _ _ _ rfl tO)) ?_
      first | refine Run.pure (dd := some 37) rfl rfl (op_move rfl (Opd.tmp _ _ rfl)) ?_ | refine Run.pure (dd := some 37) rfl rfl (op_junk (.inl rfl)) ?_
      first | refine Run.pureG (dd := some 38) rfl rfl rfl tG (op_fld_ptr (by decide) rfl (Opd.tmp _ _ rfl)) ?_ | refine Run.pureG (dd := some 38) rfl rfl rfl tG (op_fld_fz (by decide) rfl (Opd.tmp _ _ rfl) tR) ?_
      first | refine Run.loadG (dd := some 39) rfl rfl rfl tG (op_load1_flat rfl (Opd.topt _ _ _ rfl tO) tH rfl) ?_ | refine Run.pureG (dd := some 39) rfl rfl rfl tG (op_load1_fz rfl (Opd.topt _ _ _ rfl tO) rfl) ?_ | refine Run.loadG (dd := some 39) rfl rfl rfl tG (op_load1_refs rfl (Opd.topt _ _ _ rfl tO) tH rfl) ?_
      first | refine Run.pureG (dd := some 40) rfl rfl rfl tG (op_move rfl (Opd.tmp _ _ rfl)) ?_ | refine Run.pureG (dd := some 40) rfl rfl rfl tG (op_junk (.inl rfl)) ?_
      refine Run.pureG (dd := some 41) rfl rfl rfl tG (op_eql rfl (Opd.topt _ _ _ rfl tO) (Opd.topt _ _ _ rfl tO)) ?_
      first | refine Run.pureG (dd := some 42) rfl rfl rfl tG (op_move rfl (Opd.topt _ _ _ rfl tO)) ?_ | refine Run.pureG (dd := some 42) rfl rfl rfl tG (op_junk (.inl rfl)) ?_
      first | refine Run.pureG (dd := some 43) rfl rfl rfl tG (op_fld_ptr (by decide) rfl (Opd.tmp _ _ rfl)) ?_ | refine Run.pureG (dd := some 43) rfl rfl rfl tG (op_fld_fz (by decide) rfl (Opd.tmp _ _ rfl) tR) ?_
      first | refine Run.loadG (dd := some 44) rfl rfl rfl tG (op_load1_flat rfl (Opd.topt _ _ _ rfl tO) tH rfl) ?_ | refine Run.pureG (dd := some 44) rfl rfl rfl tG (op_load1_fz rfl (Opd.topt _ _ _ rfl tO) rfl) ?_ | refine Run.loadG (dd := some 44) rfl rfl rfl tG (op_load1_refs rfl (Opd.topt _ _ _ rfl tO) tH rfl) ?_
      first | refine Run.pureG (dd := some 45) rfl rfl rfl tG (op_move rfl (Opd.tmp _ _ rfl)) ?_ | refine Run.pureG (dd := some 45) rfl rfl rfl tG (op_junk (.inl rfl)) ?_
      refine Run.pureG (dd := some 46) rfl rfl rfl tG (op_eql rfl (Opd.topt _ _ _ rfl tO) (Opd.topt _ _ _ rfl tO)) ?_
      refine Run.pureG (dd := some 47) rfl rfl rfl tG (op_pick_and rfl (Opd.topt _ _ _ rfl tO) (Opd.topt _ _ _ rfl tO)) ?_
      refine Run.pure (dd := some 48) rfl rfl (op_pick_or rfl (Opd.tmp _ _ rfl) (Opd.topt _ _ _ rfl tO)) ?_
      refine Run.pure (dd := some 49) rfl rfl (op_not rfl (Opd.tmp _ _ rfl)) ?_
      refine Run.nil (FinR.mk ?_)
      refine nK ?_
      refine n_cond _ rfl (fun hb => ?_) (fun hb => ?_)
      · have hne : pC a b e = false := by simpa only [Bool.not_eq_true'] using hb
        rw [hne, cond_false] at hK1
        have e4 : (acc ++ [e]).length = acc.length + 1 := by simp
        rw [e4] at hK1
        rw [show OE (acc ++ [e]) = some (.flat 3 (acc.map encE ++ [encE e])) by simp] at hK1
        refine nK ?_
        refine s_reg rfl ?_
        first | refine Run.pure (dd := some 50) rfl rfl (op_fld_ptr (by decide) rfl (Opd.tmp _ _ rfl)) ?_ | refine Run.pure (dd := some 50) rfl rfl (op_fld_fz (by decide) rfl (Opd.tmp _ _ rfl) tR) ?_
        first | refine Run.load (dd := some 51) rfl rfl (op_load1_flat rfl (Opd.tmp _ _ rfl) tH rfl) ?_ | refine Run.pure (dd := some 51) rfl rfl (op_load1_fz rfl (Opd.tmp _ _ rfl) rfl) ?_ | refine Run.load (dd := some 51) rfl rfl (op_load1_refs rfl (Opd.tmp _ _ rfl) tH rfl) ?_
        first | refine Run.load (dd := some 52) rfl rfl (op_loadw_flat rfl (Opd.tmp _ _ rfl) tH rfl) ?_ | refine Run.pure (dd := some 52) rfl rfl (op_loadw_fz rfl (Opd.tmp _ _ rfl) rfl) ?_ | refine Run.load (dd := some 52) rfl rfl (op_loadn_flat rfl (Opd.tmp _ _ rfl) tH tR tR) ?_ | refine Run.pure (dd := some 52) rfl rfl (op_loadn_fz rfl (Opd.tmp _ _ rfl) tR) ?_ | refine Run.load (dd := some 52) rfl rfl (op_loadn_refs rfl (Opd.tmp _ _ rfl) tH tR tR) ?_
        refine Run.pure (dd := some 53) rfl rfl (op_buildSlice_fz rfl (RowsF.cons _ _ _ _ _ _ (Opd.tmp _ _ rfl) tC (by rfl) (RowsF.nil _)) rfl rfl) ?_
        first | refine Run.eff (dd := some 54) rfl rfl (op_append_own0 rfl (Opd.tmp _ _ rfl) (Opd.tmp _ _ rfl) rfl (by first | rfl | simp) rfl (by first | rfl | simp) rfl rfl tB tB) ?_ | refine Run.eff (dd := some 54) rfl rfl (op_append rfl (Opd.tmp _ _ rfl) (by first | exact Opd.tmp _ _ rfl | exact Opd.nil _ _ (Opd.tmp _ _ rfl)) rfl (by first | rfl | simp) rfl rfl tB tB) ?_
        first | refine Run.pure (dd := some 55) rfl rfl (op_fld_ptr (by decide) rfl (Opd.tmp _ _ rfl)) ?_ | refine Run.pure (dd := some 55) rfl rfl (op_fld_fz (by decide) rfl (Opd.tmp _ _ rfl) tR) ?_
        first | refine Run.eff (dd := none) rfl rfl (op_store_flat rfl (Opd.tmp _ _ rfl) (Opd.tmp _ _ rfl) tC rfl rfl (by first | rfl | assumption) tS) ?_ | refine Run.eff (dd := none) rfl rfl (op_store_refs rfl (Opd.tmp _ _ rfl) (Opd.tmp _ _ rfl) tP rfl rfl rfl tS) ?_
        refine Run.nil (FinR.mk ?_)
        refine nK ?_
        refine s_reg rfl ?_
        first | refine Run.pure (dd := some 20) rfl rfl (op_move rfl (Opd.tmp _ _ rfl)) ?_ | refine Run.pure (dd := some 20) rfl rfl (op_junk (.inl rfl)) ?_
        refine Run.pure (dd := some 21) rfl rfl (op_add rfl (Opd.tmp _ _ rfl) (Opd.const _) tI) ?_
        first | refine Run.pure (dd := some 8) rfl rfl (op_assign rfl (Opd.tmp _ _ rfl)) ?_ | refine Run.pure (dd := some 8) rfl rfl (op_junk (.inr rfl)) ?_
        refine Run.nil (FinR.mk ?_)
        refine nK ?_
        refine Next.weak [0, 1, 2, 5] [] (by rfl) (keeps0 hC _) (by repeat (first | exact trivial | refine ⟨⟨_, rfl, .inl ⟨rfl, rfl⟩⟩, ?_⟩ | refine ⟨⟨_, rfl, .inl ⟨slEq rfl tN, rfl⟩⟩, ?_⟩ | refine ⟨⟨_, rfl, .inl ⟨ivEq tX, rfl⟩⟩, ?_⟩)) (by exact ⟨ent_same rfl rfl rfl tL, ⟨ent_same rfl rfl rfl tL, ⟨ent_same rfl rfl rfl tL, ⟨ent_same rfl rfl rfl tL, trivial⟩⟩⟩⟩) (fun _ h => by simp at h) hK1
      · have hne : pC a b e = true := by simpa only [Bool.not_eq_false'] using hb
        rw [hne, cond_true, List.append_nil] at hK1
        refine nK ?_
        refine s_reg rfl ?_
        first | refine Run.pure (dd := some 20) rfl rfl (op_move rfl (Opd.tmp _ _ rfl)) ?_ | refine Run.pure (dd := some 20) rfl rfl (op_junk (.inl rfl)) ?_
        refine Run.pure (dd := some 21) rfl rfl (op_add rfl (Opd.tmp _ _ rfl) (Opd.const _) tI) ?_
        first | refine Run.pure (dd := some 8) rfl rfl (op_assign rfl (Opd.tmp _ _ rfl)) ?_ | refine Run.pure (dd := some 8) rfl rfl (op_junk (.inr rfl)) ?_
        refine Run.nil (FinR.mk ?_)
        refine nK ?_
        refine Next.weak [0, 1, 2, 3] [] (by rfl) (keeps0 hC _) (by repeat (first | exact trivial | refine ⟨⟨_, rfl, .inl ⟨rfl, rfl⟩⟩, ?_⟩ | refine ⟨⟨_, rfl, .inl ⟨slEq rfl tN, rfl⟩⟩, ?_⟩ | refine ⟨⟨_, rfl, .inl ⟨ivEq tX, rfl⟩⟩, ?_⟩)) (by exact ⟨ent_same rfl rfl rfl tL, ⟨ent_same rfl rfl rfl tL, ⟨ent_same rfl rfl rfl tL, ⟨ent_same rfl rfl rfl tL, trivial⟩⟩⟩⟩) (fun _ h => by simp at h) hK1
    · have hie : i = g.es.length := by simp at hb; omega
      rw [take_len_eq' hie]
      refine Next.weak [1, 2] [3] (by rfl) (keeps0 hC _) (G' := [(6, .ptr 0 3 0 0), (7, .ptr 1 3 0 0)]) (H' := [(0, OG zeroG), (1, OG ⟨g.r, g.n, keepL (pC a b) g.es⟩)]) (by repeat (first | exact trivial | refine ⟨⟨_, rfl, .inl ⟨rfl, rfl⟩⟩, ?_⟩ | refine ⟨⟨_, rfl, .inl ⟨slEq rfl tN, rfl⟩⟩, ?_⟩ | refine ⟨⟨_, rfl, .inl ⟨ivEq tX, rfl⟩⟩, ?_⟩)) (by exact ⟨ent_same rfl rfl rfl tL, ⟨⟨rfl, rfl, .flat _ _ _ rfl tW⟩, trivial⟩⟩) (fun id h => by obtain rfl : id = 3 := (by simpa using h); exact ⟨_, rfl⟩) ?_
      refine nK ?_
      refine s_reg rfl ?_
      first | refine Run.load (dd := some 56) rfl rfl (op_loadw_flat rfl (Opd.tmp _ _ rfl) tH rfl) ?_ | refine Run.pure (dd := some 56) rfl rfl (op_loadw_fz rfl (Opd.tmp _ _ rfl) rfl) ?_ | refine Run.load (dd := some 56) rfl rfl (op_loadn_flat rfl (Opd.tmp _ _ rfl) tH tR tR) ?_ | refine Run.pure (dd := some 56) rfl rfl (op_loadn_fz rfl (Opd.tmp _ _ rfl) tR) ?_ | refine Run.load (dd := some 56) rfl rfl (op_loadn_refs rfl (Opd.tmp _ _ rfl) tH tR tR) ?_
      first | refine Run.eff (dd := none) rfl rfl (op_store_flat rfl (Opd.tmp _ _ rfl) (Opd.tmp _ _ rfl) tC rfl rfl (by first | rfl | assumption) tS) ?_ | refine Run.eff (dd := none) rfl rfl (op_store_refs rfl (Opd.tmp _ _ rfl) (Opd.tmp _ _ rfl) tP rfl rfl rfl tS) ?_
      refine Run.nil (FinR.mk ?_)
      refine nK ?_
      (first | exact s_o1 hC rfl tV | exact s_o2 hC rfl tV tV | exact s_o3 hC rfl tV tV tV | exact s_out0 hC rfl | exact s_outO hC rfl rfl rfl)
end Go.Proofs.Ytelnedgopdlnkaa
namespace Go.Pl
set_option linter.all false
/-- binary search: the least place in [i, j) whose element is not below -/
def bsGo {α : Type} (p : α → Bool) (l : List α) (i j : Nat) : Nat :=
  if h : i < j then
    (if h2 : (i + j) / 2 < l.length then
      (bif p l[(i + j) / 2] then bsGo p l ((i + j) / 2 + 1) j else bsGo p l i ((i + j) / 2))
    else i)
  else i
termination_by j - i
theorem bsGo_end {α : Type} (p : α → Bool) (l : List α) (i : Nat) : bsGo p l i i = i := by
  rw [bsGo]; simp
theorem bsGo_step {α : Type} (p : α → Bool) (l : List α) (i j : Nat) (h : i < j) (hj : j ≤ l.length) :
    bsGo p l i j = (bif p (l[(i + j) / 2]'(by omega)) then bsGo p l ((i + j) / 2 + 1) j else bsGo p l i ((i + j) / 2)) := by
  rw [bsGo]; simp [h, show (i + j) / 2 < l.length by omega]
def hitAt {α : Type} (p : α → Bool) (l : List α) (i : Nat) : Bool := match l[i]? with | some e => p e | none => false
theorem bsGo_le {α : Type} (p : α → Bool) (l : List α) : ∀ (n i j : Nat), j - i ≤ n → i ≤ j → j ≤ l.length → i ≤ bsGo p l i j ∧ bsGo p l i j ≤ j
  | n, i, j, hn, hi, hj => by
    rw [bsGo]
    by_cases h : i < j
    · have hm : (i + j) / 2 < l.length := by omega
      simp only [h, hm, dif_pos]
      cases n with
      | zero => omega
      | succ n =>
        cases p l[(i + j) / 2] with
        | true => have := bsGo_le p l n ((i + j) / 2 + 1) j (by omega) (by omega) hj; simp only [cond_true]; omega
        | false => have := bsGo_le p l n i ((i + j) / 2) (by omega) (by omega) (by omega); simp only [cond_false]; omega
    · simp only [h, dif_neg, not_false_eq_true]; omega
/-- over a list on which p is first true and then false -/
theorem bsGo_spec {α : Type} (p : α → Bool) (l : List α) (hm : ∀ a b (ha : a < b) (hb : b < l.length), p l[b] = true → p (l[a]'(by omega)) = true) :
    ∀ (n i j : Nat), j - i ≤ n → (hi : i ≤ j) → (hj : j ≤ l.length) →
      (∀ k (hk : k < i), p (l[k]'(by omega)) = true) → (∀ k (hk : j ≤ k) (hl : k < l.length), p l[k] = false) →
      (∀ k (hk : k < bsGo p l i j) (hl : k < l.length), p l[k] = true) ∧ (∀ k (hk : bsGo p l i j ≤ k) (hl : k < l.length), p l[k] = false)
  | n, i, j, hn, hi, hj, h1, h2 => by
    rw [bsGo]
    by_cases h : i < j
    · have hmm : (i + j) / 2 < l.length := by omega
      simp only [h, hmm, dif_pos]
      cases n with
      | zero => omega
      | succ n =>
        cases hp : p l[(i + j) / 2] with
        | true =>
          simp only [cond_true]
          refine bsGo_spec p l hm n ((i + j) / 2 + 1) j (by omega) (by omega) hj ?_ h2
          intro k hk
          by_cases e : k = (i + j) / 2
          · subst e; exact hp
          · exact hm k ((i + j) / 2) (by omega) hmm hp
        | false =>
          simp only [cond_false]
          refine bsGo_spec p l hm n i ((i + j) / 2) (by omega) (by omega) (by omega) h1 ?_
          intro k hk hl
          by_cases e : k = (i + j) / 2
          · subst e; exact hp
          · cases hq : p l[k] with
            | false => rfl
            | true => have := hm ((i + j) / 2) k (by omega) hl hq; rw [hp] at this; exact absurd this (by simp)
    · simp only [h, dif_neg, not_false_eq_true]
      have : i = j := by omega
      exact ⟨fun k hk _ => h1 k hk, fun k hk hl => h2 k (by omega) hl⟩
end Go.Pl
namespace Go.Pl
theorem hitAt_eq {α : Type} [Inhabited α] (l : List α) (i : Nat) (p : α → Bool) : ∃ q, (i < l.length → l[i]? = some q) ∧ hitAt p l i = (decide ((i : Int) < (l.length : Int)) && p q) := by
  by_cases h : i < l.length
  · exact ⟨l[i], fun _ => List.getElem?_eq_getElem h, by simp [hitAt, h]⟩
  · exact ⟨default, fun h' => absurd h' h, by simp [hitAt, h]⟩
end Go.Pl
namespace Go.Pl
open Go.RT
def zE : Edg := ⟨0, 0, 0⟩
/-- what Delete leaves in the room -/
def delL (l : List Edg) (i j : Nat) : List Edg := l.take i ++ l.drop j
theorem delL_len (l : List Edg) (i j : Nat) (h1 : i ≤ j) (h2 : j ≤ l.length) : (delL l i j).length = l.length - (j - i) := by simp [delL]; omega
theorem del_rows (l : List Edg) (k i j : Nat) (h1 : i ≤ j) (h2 : j ≤ l.length) :
    ((l ++ List.replicate k zE).take i ++ l.drop j ++ (l ++ List.replicate k zE).drop (i + (l.length - j))).take (i + (l.length - j)) ++ List.replicate (l.length - (i + (l.length - j))) zE
      ++ ((l ++ List.replicate k zE).take i ++ l.drop j ++ (l ++ List.replicate k zE).drop (i + (l.length - j))).drop (i + (l.length - j) + (l.length - (i + (l.length - j))))
      = delL l i j ++ List.replicate (k + (j - i)) zE := by
  have e1 : (l ++ List.replicate k zE).take i = l.take i := by rw [List.take_append_of_le_length (by omega)]
  have e2 : (l.take i ++ l.drop j).length = i + (l.length - j) := by simp; omega
  rw [e1]
  rw [show i + (l.length - j) + (l.length - (i + (l.length - j))) = l.length by omega]
  have e3 : ((l ++ List.replicate k zE).drop (i + (l.length - j))).drop (l.length - (i + (l.length - j))) = List.replicate k zE := by
    rw [List.drop_drop, show i + (l.length - j) + (l.length - (i + (l.length - j))) = l.length by omega, List.drop_left]
  have e4 : List.replicate (l.length - (i + (l.length - j))) zE ++ List.replicate k zE = List.replicate (k + (j - i)) zE := by
    rw [List.replicate_append_replicate]; congr 1; omega
  show _ = (l.take i ++ l.drop j) ++ _
  generalize hA : l.take i ++ l.drop j = A at *
  generalize hB : (l ++ List.replicate k zE).drop (i + (l.length - j)) = B at *
  rw [List.take_left' e2, List.append_assoc, ← e4, ← e3]
  congr 2
  rw [List.drop_append, e2, List.drop_of_length_le (by omega), List.nil_append]
end Go.Pl
namespace Go.Proofs.Ytelnedgopdlnkaa
open Go Go.RT Go.Proofs Go.Pl
set_option linter.all false
set_option maxRecDepth 20000
theorem bsearch_c (l : List Edg) (x : Edg) (hn : l.length ≤ 2000000) (gf : Nat) [FnB Try.prog gf] (caps : List FV) (c : Edg → Edg → Int) (hp : ∀ a b, Pure Try.prog gf ([.agg (encE a), .agg (encE b)] ++ caps) (If .i64 (c a b))) : Pure Try.prog 66 [VE l, .agg (encE x), .clo gf caps] (.tup [If .i64 (bsGo (fun e => decide (c e x < 0)) l 0 l.length : Nat), Bf (hitAt (fun e => decide (c e x = 0)) l (bsGo (fun e => decide (c e x < 0)) l 0 l.length))]) := by
  refine Meets.intro Try.func66 rfl (Nat.le_of_ble_eq_true rfl) fun C hC => ?_
  simp only [List.map, argEnv, Nat.reduceAdd]
  refine nK ?_
  refine s_reg rfl ?_
  first | refine Run.eff (dd := some 4) rfl rfl (op_box_flat rfl (Opd.tmp _ _ rfl) tC rfl) ?_ | refine Run.eff (dd := some 4) rfl rfl (op_box_refs rfl (Opd.tmp _ _ rfl) tP rfl) ?_
  first | refine Run.pure (dd := some 6) rfl rfl (op_assign rfl (Opd.const _)) ?_ | refine Run.pure (dd := some 6) rfl rfl (op_junk (.inr rfl)) ?_
  first | refine Run.pure (dd := some 7) rfl rfl (op_assign rfl (Opd.const _)) ?_ | refine Run.pure (dd := some 7) rfl rfl (op_junk (.inr rfl)) ?_
  refine Run.nil (FinR.mk ?_)
  refine nK ?_
  refine s_reg rfl ?_
  first | refine Run.pure (dd := some 12) rfl rfl (op_move rfl (Opd.tmp _ _ rfl)) ?_ | refine Run.pure (dd := some 12) rfl rfl (op_junk (.inl rfl)) ?_
  first | refine Run.pure (dd := some 13) rfl rfl (op_len_fz rfl (by first | exact Opd.tmp _ _ rfl | exact Opd.nil _ _ (Opd.tmp _ _ rfl)) (by first | exact List.length_map _ | rfl)) ?_ | refine Run.pure (dd := some 13) rfl rfl (op_len_sl rfl (Opd.tmp _ _ rfl)) ?_
  first | refine Run.pure (dd := some 8) rfl rfl (op_assign rfl (Opd.tmp _ _ rfl)) ?_ | refine Run.pure (dd := some 8) rfl rfl (op_junk (.inr rfl)) ?_
  refine Run.nil (FinR.mk ?_)
  refine nK ?_
  refine s_reg rfl ?_
  first | refine Run.pure (dd := some 14) rfl rfl (op_move rfl (Opd.tmp _ _ rfl)) ?_ | refine Run.pure (dd := some 14) rfl rfl (op_junk (.inl rfl)) ?_
  first | refine Run.pure (dd := some 9) rfl rfl (op_assign rfl (Opd.const _)) ?_ | refine Run.pure (dd := some 9) rfl rfl (op_junk (.inr rfl)) ?_
  first | refine Run.pure (dd := some 10) rfl rfl (op_assign rfl (Opd.tmp _ _ rfl)) ?_ | refine Run.pure (dd := some 10) rfl rfl (op_junk (.inr rfl)) ?_
  refine Run.nil (FinR.mk ?_)
  refine nK ?_
  refine n_loop (ι := Nat × Nat) (fun g => ([(0, .fz (VE l)), (2, .fz (.clo gf caps)), (4, .ptr 0 3 0 0), (8, IV .i64 l.length), (9, IV .i64 g.1), (10, IV .i64 g.2)], [(0, some (.flat 3 [encE x]))], 1)) (fun g => g.1 ≤ g.2 ∧ g.2 ≤ l.length ∧ bsGo (fun e => decide (c e x < 0)) l g.1 g.2 = bsGo (fun e => decide (c e x < 0)) l 0 l.length) (fun g => g.2 - g.1) (0, l.length) ⟨Nat.zero_le _, Nat.le_refl _, rfl⟩ ?_ ?_
  · refine Next.weakS [0] [] (by rfl) (by first | exact keeps0 hC _ | exact keepsN hC _ rfl) (by repeat (first | exact trivial | refine ⟨⟨_, rfl, .inl ⟨rfl, rfl⟩⟩, ?_⟩ | refine ⟨⟨_, rfl, .inl ⟨slEq rfl tN, rfl⟩⟩, ?_⟩ | refine ⟨⟨_, rfl, .inl ⟨ivEq tX, rfl⟩⟩, ?_⟩)) (by repeat (first | exact trivial | refine ⟨ent_same rfl rfl rfl tL, ?_⟩ | refine ⟨ent_same rfl rfl (rfEq rfl tU) tL, ?_⟩ | refine ⟨ent_same rfl rfl (flEq rfl (by first | (simp; done) | (simp; omega) | (simp [encE, encN, encB]; done) | simp [maxC, minC])) trivial, ?_⟩)) rfl (rel_intro)
  · intro ⟨i, j⟩ ⟨hi, hj, ho⟩ K hK
    dsimp only at hi hj ho ⊢
    refine nK ?_
    refine s_reg rfl ?_
    first | refine Run.pure (dd := some 15) rfl rfl (op_move rfl (Opd.tmp _ _ rfl)) ?_ | refine Run.pure (dd := some 15) rfl rfl (op_junk (.inl rfl)) ?_
    first | refine Run.pure (dd := some 16) rfl rfl (op_move rfl (Opd.tmp _ _ rfl)) ?_ | refine Run.pure (dd := some 16) rfl rfl (op_junk (.inl rfl)) ?_
    refine Run.pure (dd := some 17) rfl rfl (op_lss rfl (Opd.tmp _ _ rfl) (Opd.tmp _ _ rfl)) ?_
    refine Run.nil (FinR.mk ?_)
    refine nK ?_
    refine n_cond _ rfl (fun hb => ?_) (fun hb => ?_)
    · have hlt : i < j := by simp at hb; omega
      have hm : (i + j) / 2 < l.length := by omega
      have hr1 := row_at' encE l ((i + j) / 2) hm
      have hst := bsGo_step (fun e => decide (c e x < 0)) l i j hlt hj
      rw [ho] at hst
      have hKl := fun h => hK (((i + j) / 2) + 1, j) ⟨by dsimp only; omega, by dsimp only; omega, h⟩ (by dsimp only; omega)
      have hKr := fun h => hK (i, (i + j) / 2) ⟨by dsimp only; omega, by dsimp only; omega, h⟩ (by dsimp only; omega)
      generalize l[(i + j) / 2] = e at *
      refine nK ?_
      refine s_reg rfl ?_
      first | refine Run.pure (dd := some 18) rfl rfl (op_move rfl (Opd.tmp _ _ rfl)) ?_ | refine Run.pure (dd := some 18) rfl rfl (op_junk (.inl rfl)) ?_
      first | refine Run.pure (dd := some 19) rfl rfl (op_move rfl (Opd.tmp _ _ rfl)) ?_ | refine Run.pure (dd := some 19) rfl rfl (op_junk (.inl rfl)) ?_
      refine Run.pure (dd := some 20) rfl rfl (op_add rfl (Opd.tmp _ _ rfl) (Opd.tmp _ _ rfl) tI) ?_
      refine Run.pure (dd := some 21) rfl rfl (op_conv rfl (Opd.tmp _ _ rfl) tI) ?_
      refine Run.pure (dd := some 22) rfl rfl (op_shr (n := 1) rfl (Opd.tmp _ _ rfl) (Opd.const _) (by intro _; simp only [IntKind.bits]; omega)) ?_
      refine Run.pure (dd := some 23) rfl rfl (op_conv rfl (Opd.tmp _ _ rfl) tI) ?_
      first | refine Run.pure (dd := some 11) rfl rfl (op_assign rfl (Opd.tmp _ _ rfl)) ?_ | refine Run.pure (dd := some 11) rfl rfl (op_junk (.inr rfl)) ?_
      refine Run.nil (FinR.mk ?_)
      refine nK ?_
      refine s_draw mixed ?_
      first | refine Run.pure (dd := some 24) rfl rfl (op_move rfl (Opd.tmp _ _ rfl)) ?_ | refine Run.pure (dd := some 24) rfl rfl (op_junk (.inl rfl)) ?_
      first | refine Run.pure (dd := some 25) rfl rfl (op_move rfl (Opd.tmp _ _ rfl)) ?_ | refine Run.pure (dd := some 25) rfl rfl (op_junk (.inl rfl)) ?_
      first | refine Run.pure (dd := some 26) rfl rfl (op_move rfl (Opd.tmp _ _ rfl)) ?_ | refine Run.pure (dd := some 26) rfl rfl (op_junk (.inl rfl)) ?_
      refine Run.pure (dd := some 27) rfl rfl (op_idx_fz ((i + j) / 2) rfl (Opd.tmp _ _ rfl) (Opd.tmp _ _ rfl) (by intro _; exact ⟨by omega, hr1⟩)) ?_
      first | refine Run.load (dd := some 28) rfl rfl (op_loadw_flat rfl (Opd.tmp _ _ rfl) tH rfl) ?_ | refine Run.pure (dd := some 28) rfl rfl (op_loadw_fz rfl (Opd.tmp _ _ rfl) rfl) ?_ | refine Run.load (dd := some 28) rfl rfl (op_loadn_flat rfl (Opd.tmp _ _ rfl) tH tR tR) ?_ | refine Run.pure (dd := some 28) rfl rfl (op_loadn_fz rfl (Opd.tmp _ _ rfl) tR) ?_ | refine Run.load (dd := some 28) rfl rfl (op_loadn_refs rfl (Opd.tmp _ _ rfl) tH tR tR) ?_
      first | refine Run.load (dd := some 29) rfl rfl (op_loadw_flat rfl (Opd.tmp _ _ rfl) tH rfl) ?_ | refine Run.pure (dd := some 29) rfl rfl (op_loadw_fz rfl (Opd.tmp _ _ rfl) rfl) ?_ | refine Run.load (dd := some 29) rfl rfl (op_loadn_flat rfl (Opd.tmp _ _ rfl) tH tR tR) ?_ | refine Run.pure (dd := some 29) rfl rfl (op_loadn_fz rfl (Opd.tmp _ _ rfl) tR) ?_ | refine Run.load (dd := some 29) rfl rfl (op_loadn_refs rfl (Opd.tmp _ _ rfl) tH tR tR) ?_
      refine Run.pure (dd := some 30) rfl rfl (op_call_pureC (fun _ => hp e x) rfl (Opd.tmp _ _ rfl) (Opds.cons _ _ _ _ (Opd.tmp _ _ rfl) (Opds.cons _ _ _ _ (Opd.tmp _ _ rfl) Opds.nil))) ?_
      refine Run.pure (dd := some 31) rfl rfl (op_lss rfl (Opd.tmp _ _ rfl) (Opd.const _)) ?_
      refine Run.nil (FinD.mk (by kernel_rfl) ?_)
      refine nK ?_
      refine n_cond _ rfl (fun hb => ?_) (fun hb => ?_)
      · simp only [hb, cond_true] at hst
        refine nK ?_
        refine s_reg rfl ?_
        first | refine Run.pure (dd := some 32) rfl rfl (op_move rfl (Opd.tmp _ _ rfl)) ?_ | refine Run.pure (dd := some 32) rfl rfl (op_junk (.inl rfl)) ?_
        refine Run.pure (dd := some 33) rfl rfl (op_add rfl (Opd.tmp _ _ rfl) (Opd.const _) tI) ?_
        first | refine Run.pure (dd := some 9) rfl rfl (op_assign rfl (Opd.tmp _ _ rfl)) ?_ | refine Run.pure (dd := some 9) rfl rfl (op_junk (.inr rfl)) ?_
        refine Run.nil (FinR.mk ?_)
        refine nK ?_
        refine Next.weakS [0] [] (by rfl) (by first | exact keeps0 hC _ | exact keepsN hC _ rfl) (by repeat (first | exact trivial | refine ⟨⟨_, rfl, .inl ⟨rfl, rfl⟩⟩, ?_⟩ | refine ⟨⟨_, rfl, .inl ⟨slEq rfl tN, rfl⟩⟩, ?_⟩ | refine ⟨⟨_, rfl, .inl ⟨ivEq tX, rfl⟩⟩, ?_⟩)) (by repeat (first | exact trivial | refine ⟨ent_same rfl rfl rfl tL, ?_⟩ | refine ⟨ent_same rfl rfl (rfEq rfl tU) tL, ?_⟩ | refine ⟨ent_same rfl rfl (flEq rfl (by first | (simp; done) | (simp; omega) | (simp [encE, encN, encB]; done) | simp [maxC, minC])) trivial, ?_⟩)) rfl ((hKl hst.symm))
      · simp only [hb, cond_false] at hst
        refine nK ?_
        refine s_reg rfl ?_
        first | refine Run.pure (dd := some 34) rfl rfl (op_move rfl (Opd.tmp _ _ rfl)) ?_ | refine Run.pure (dd := some 34) rfl rfl (op_junk (.inl rfl)) ?_
        first | refine Run.pure (dd := some 10) rfl rfl (op_assign rfl (Opd.tmp _ _ rfl)) ?_ | refine Run.pure (dd := some 10) rfl rfl (op_junk (.inr rfl)) ?_
        refine Run.nil (FinR.mk ?_)
        refine nK ?_
        refine Next.weakS [0] [] (by rfl) (by first | exact keeps0 hC _ | exact keepsN hC _ rfl) (by repeat (first | exact trivial | refine ⟨⟨_, rfl, .inl ⟨rfl, rfl⟩⟩, ?_⟩ | refine ⟨⟨_, rfl, .inl ⟨slEq rfl tN, rfl⟩⟩, ?_⟩ | refine ⟨⟨_, rfl, .inl ⟨ivEq tX, rfl⟩⟩, ?_⟩)) (by repeat (first | exact trivial | refine ⟨ent_same rfl rfl rfl tL, ?_⟩ | refine ⟨ent_same rfl rfl (rfEq rfl tU) tL, ?_⟩ | refine ⟨ent_same rfl rfl (flEq rfl (by first | (simp; done) | (simp; omega) | (simp [encE, encN, encB]; done) | simp [maxC, minC])) trivial, ?_⟩)) rfl ((hKr hst.symm))
    · have hie : i = j := by simp at hb; omega
      rw [hie, bsGo_end] at ho
      rw [← ho]
      rw [hie] at hi ⊢
      obtain ⟨q, hq, hh⟩ := hitAt_eq l j (fun e => decide (c e x = 0))
      rw [hh]
      have hr : j < l.length → (l.map encE)[j]? = some (encE q) := fun h => by rw [List.getElem?_map, hq h]; rfl
      refine nK ?_
      refine s_draw mixed ?_
      first | refine Run.pure (dd := some 35) rfl rfl (op_move rfl (Opd.tmp _ _ rfl)) ?_ | refine Run.pure (dd := some 35) rfl rfl (op_junk (.inl rfl)) ?_
      first | refine Run.pure (dd := some 36) rfl rfl (op_move rfl (Opd.tmp _ _ rfl)) ?_ | refine Run.pure (dd := some 36) rfl rfl (op_junk (.inl rfl)) ?_
      first | refine Run.pure (dd := some 37) rfl rfl (op_move rfl (Opd.tmp _ _ rfl)) ?_ | refine Run.pure (dd := some 37) rfl rfl (op_junk (.inl rfl)) ?_
      refine Run.pure (dd := some 38) rfl rfl (op_lss rfl (Opd.tmp _ _ rfl) (Opd.tmp _ _ rfl)) ?_
      first | refine Run.pure (dd := some 39) rfl rfl (op_move rfl (Opd.tmp _ _ rfl)) ?_ | refine Run.pure (dd := some 39) rfl rfl (op_junk (.inl rfl)) ?_
      first | refine Run.pureG (dd := some 40) rfl rfl rfl tG (op_move rfl (Opd.tmp _ _ rfl)) ?_ | refine Run.pureG (dd := some 40) rfl rfl rfl tG (op_junk (.inl rfl)) ?_
      first | refine Run.pureG (dd := some 41) rfl rfl rfl tG (op_move rfl (Opd.tmp _ _ rfl)) ?_ | refine Run.pureG (dd := some 41) rfl rfl rfl tG (op_junk (.inl rfl)) ?_
      first | refine Run.pureG (dd := some 42) rfl rfl rfl tG (op_move rfl (Opd.tmp _ _ rfl)) ?_ | refine Run.pureG (dd := some 42) rfl rfl rfl tG (op_junk (.inl rfl)) ?_
      refine Run.pureG (dd := some 43) rfl rfl rfl tG (op_idx_fz j rfl (Opd.topt _ _ _ rfl tO) (Opd.topt _ _ _ rfl tO) (by intro hg; exact ⟨rfl, hr (by simp at hg; omega)⟩)) ?_
      first | refine Run.loadG (dd := some 44) rfl rfl rfl tG (op_loadw_flat rfl (Opd.topt _ _ _ rfl tO) tH rfl) ?_ | refine Run.pureG (dd := some 44) rfl rfl rfl tG (op_loadw_fz rfl (Opd.topt _ _ _ rfl tO) rfl) ?_ | refine Run.loadG (dd := some 44) rfl rfl rfl tG (op_loadn_flat rfl (Opd.topt _ _ _ rfl tO) tH tR tR) ?_ | refine Run.pureG (dd := some 44) rfl rfl rfl tG (op_loadn_fz rfl (Opd.topt _ _ _ rfl tO) tR) ?_ | refine Run.loadG (dd := some 44) rfl rfl rfl tG (op_loadn_refs rfl (Opd.topt _ _ _ rfl tO) tH tR tR) ?_
      first | refine Run.loadG (dd := some 45) rfl rfl rfl tG (op_loadw_flat rfl (Opd.tmp _ _ rfl) tH rfl) ?_ | refine Run.pureG (dd := some 45) rfl rfl rfl tG (op_loadw_fz rfl (Opd.tmp _ _ rfl) rfl) ?_ | refine Run.loadG (dd := some 45) rfl rfl rfl tG (op_loadn_flat rfl (Opd.tmp _ _ rfl) tH tR tR) ?_ | refine Run.pureG (dd := some 45) rfl rfl rfl tG (op_loadn_fz rfl (Opd.tmp _ _ rfl) tR) ?_ | refine Run.loadG (dd := some 45) rfl rfl rfl tG (op_loadn_refs rfl (Opd.tmp _ _ rfl) tH tR tR) ?_
      refine Run.pureG (dd := some 46) rfl rfl rfl tG (op_call_pureC (fun _ => hp q x) rfl (Opd.topt _ _ _ rfl tO) (Opds.cons _ _ _ _ (Opd.topt _ _ _ rfl tO) (Opds.cons _ _ _ _ (Opd.topt _ _ _ rfl tO) Opds.nil))) ?_
      refine Run.pureG (dd := some 47) rfl rfl rfl tG (op_eql rfl (Opd.topt _ _ _ rfl tO) (Opd.const _)) ?_
      refine Run.pure (dd := some 48) rfl rfl (op_pick_and rfl (Opd.tmp _ _ rfl) (Opd.topt _ _ _ rfl tO)) ?_
      first | refine Run.pure (dd := some 6) rfl rfl (op_assign rfl (Opd.tmp _ _ rfl)) ?_ | refine Run.pure (dd := some 6) rfl rfl (op_junk (.inr rfl)) ?_
      first | refine Run.pure (dd := some 7) rfl rfl (op_assign rfl (Opd.tmp _ _ rfl)) ?_ | refine Run.pure (dd := some 7) rfl rfl (op_junk (.inr rfl)) ?_
      refine Run.nil (FinD.mk (by kernel_rfl) ?_)
      refine nK ?_
      (first | exact s_o1 hC rfl tV | exact s_o2 hC rfl tV tV | exact s_o3 hC rfl tV tV tV | exact s_out0 hC rfl | exact s_outO hC rfl rfl rfl)
end Go.Proofs.Ytelnedgopdlnkaa
/- Owned slices written by many cells at once: append into the room that is there, copy. -/
namespace Go.RT
open Go
set_option linter.all false
section
variable {P : Program} {o : Oper} {g : Bool} {G : Env} {x y : Operand} {t t' : TypeId} {H : Hp} {nx : Nat}
theorem RowsRep.splice {α : Type} {R : Value → α → Prop} {c : Array Value} {sz : Nat} {rows rs : List (List α)} (h : RowsRep R c sz rows) {lo : Nat} {vs : List Value} (hlo : lo + rs.length ≤ rows.length) (hrs : ∀ r ∈ rs, r.length = sz)
    (hvl : vs.length = rs.length * sz) (hv : ∀ i j r p, rs[i]? = some r → r[j]? = some p → ∃ u, vs[i * sz + j]? = some u ∧ u.oneCell' = true ∧ R u p) :
    RowsRep R (c.toList.take (lo * sz) ++ vs ++ c.toList.drop (lo * sz + vs.length)).toArray sz (rows.take lo ++ rs ++ rows.drop (lo + rs.length)) := by
  obtain ⟨h1, h2, h3⟩ := h
  have hb : (lo + rs.length) * sz ≤ c.size := Nat.le_trans (Nat.mul_le_mul_right _ hlo) h1
  have hsz : (c.toList.take (lo * sz) ++ vs ++ c.toList.drop (lo * sz + vs.length)).length = c.size := by
    simp only [List.length_append, List.length_take, Array.length_toList, List.length_drop, hvl]
    rw [Nat.add_mul] at hb; omega
  have hrl : (rows.take lo ++ rs ++ rows.drop (lo + rs.length)).length = rows.length := by simp; omega
  refine ⟨by rw [List.size_toArray, hsz, hrl]; exact h1, fun r hr => ?_, fun i j r p hi hj => ?_⟩
  · rcases List.mem_append.1 hr with hr | hr
    · rcases List.mem_append.1 hr with hr | hr
      · exact h2 r (List.mem_of_mem_take hr)
      · exact hrs r hr
    · exact h2 r (List.mem_of_mem_drop hr)
  · have hget : ∀ q, (c.toList.take (lo * sz) ++ vs ++ c.toList.drop (lo * sz + vs.length)).toArray[q]? = if q < lo * sz then c[q]? else if q < lo * sz + vs.length then vs[q - lo * sz]? else c[q]? := fun q => by
      have hle : lo * sz ≤ c.size := by rw [Nat.add_mul] at hb; omega
      rw [List.getElem?_toArray, List.append_assoc, List.getElem?_append]
      simp only [List.length_take, Array.length_toList, Nat.min_eq_left hle]
      by_cases hq : q < lo * sz
      · rw [if_pos hq, if_pos hq, List.getElem?_take, if_pos hq, Array.getElem?_toList]
      · rw [if_neg hq, if_neg hq, List.getElem?_append]
        by_cases hq2 : q < lo * sz + vs.length
        · rw [if_pos (by omega), if_pos hq2]
        · rw [if_neg (by omega), if_neg hq2, List.getElem?_drop, Array.getElem?_toList]; congr 1; omega
    rw [hget]
    have hil : i < rows.length := by rw [← hrl]; exact (List.getElem?_eq_some_iff.1 hi).1
    have hrsz : ∀ r, rows[i]? = some r → r.length = sz := fun r hr => h2 r (List.mem_of_getElem? hr)
    rw [List.append_assoc, List.getElem?_append] at hi
    simp only [List.length_take, Nat.min_eq_left (show lo ≤ rows.length by omega)] at hi
    by_cases c1 : i < lo
    · rw [if_pos c1, List.getElem?_take, if_pos c1] at hi
      have hjs : j < sz := by rw [← hrsz r hi]; exact (List.getElem?_eq_some_iff.1 hj).1
      have : i * sz + j < lo * sz := by
        have := Nat.mul_le_mul_right sz (show i + 1 ≤ lo by omega)
        rw [Nat.add_mul] at this; omega
      rw [if_pos this]; exact h3 i j r p hi hj
    · rw [if_neg c1, List.getElem?_append] at hi
      by_cases c2 : i - lo < rs.length
      · rw [if_pos c2] at hi
        have hjs : j < sz := by rw [← hrs r (List.mem_of_getElem? hi)]; exact (List.getElem?_eq_some_iff.1 hj).1
        have e1 : i * sz + j = lo * sz + ((i - lo) * sz + j) := by
          have : i = lo + (i - lo) := by omega
          rw [this, Nat.add_mul]; simp; omega
        have e2 : (i - lo) * sz + j < rs.length * sz := by
          have := Nat.mul_le_mul_right sz (show i - lo + 1 ≤ rs.length by omega)
          rw [Nat.add_mul] at this; omega
        rw [if_neg (by omega), if_pos (by omega), e1, Nat.add_sub_cancel_left]
        exact hv (i - lo) j r p hi hj
      · rw [if_neg c2, List.getElem?_drop] at hi
        rw [show lo + rs.length + (i - lo - rs.length) = i by omega] at hi
        have : lo * sz + vs.length ≤ i * sz + j := by
          have := Nat.mul_le_mul_right sz (show lo + rs.length ≤ i by omega)
          rw [Nat.add_mul] at this; omega
        rw [if_neg (by rw [hvl] at this; omega), if_neg (by omega)]
        exact h3 i j r p hi hj
theorem Mem.again {C : Cx} {S : Nat → Prop} {m : Ids} {w : World} (hm : Mem C H nx S m w) {id : Nat} {ob : Ob} (hl : hlook H id = some ob) : Mem C ((id, some ob) :: H) nx S m w :=
  hm.reheap2 fun i => by
    rw [hlook_cons]; by_cases h : id = i
    · subst h; rw [if_pos rfl, hl]
    · rw [if_neg h]
/-- rows written over an owned object's from 'lo' on, the cells given -/
theorem splice_core {C : Cx} {S : Nat → Prop} {m : Ids} {w : World} (hm : Mem C H nx S m w) {id b sz lo : Nat} {rows rs : List (List FV)} (hl : hlook H id = some (.flat sz rows)) (hid : m id = some (some b)) {c : Array Value} {e : TypeId} (hcb : w.heap[b]? = some (.cells c e (0, 0)))
    (hR : RowsRep (FRep w S) c sz rows) {news : List Value} (hlo : lo + rs.length ≤ rows.length) (hrs : ∀ r ∈ rs, r.length = sz) (hvl : news.length = rs.length * sz) (h1 : ∀ u ∈ news, u.oneCell' = true) (hv : ∀ i j r p, rs[i]? = some r → r[j]? = some p → ∃ u, news[i * sz + j]? = some u ∧ FRep w S u p) :
    Mem C ((id, some (.flat sz (rows.take lo ++ rs ++ rows.drop (lo + rs.length)))) :: H) nx S m (w.setRow b (c.toList.take (lo * sz) ++ news ++ c.toList.drop (lo * sz + news.length)).toArray) ∧ Le S m w S m (w.setRow b (c.toList.take (lo * sz) ++ news ++ c.toList.drop (lo * sz + news.length)).toArray) := by
  have hb : lo * sz + rs.length * sz ≤ c.size := by
    have := Nat.le_trans (Nat.mul_le_mul_right sz hlo) hR.1
    rw [Nat.add_mul] at this; exact this
  have hsz2 : (c.toList.take (lo * sz) ++ news ++ c.toList.drop (lo * sz + news.length)).toArray.size = c.size := by
    simp only [List.size_toArray, List.length_append, List.length_take, Array.length_toList, List.length_drop, hvl]
    omega
  have hfill := hR.splice (lo := lo) hlo hrs hvl (fun i j r p hi hj => by
    obtain ⟨u, hu, hp⟩ := hv i j r p hi hj
    exact ⟨u, hu, h1 u (List.mem_of_getElem? hu), hp⟩)
  exact hm.write hl hid hcb hsz2 (o' := .flat sz (rows.take lo ++ rs ++ rows.drop (lo + rs.length))) (plain_hown (by exact trivial)) (fun w' hle hnew => .inr ⟨b, _, e, hid, hnew, hfill.mono fun v p h => h.mono hle.st hle.same⟩)
theorem append_in_core {C : Cx} {S : Nat → Prop} {m : Ids} {w : World} (hm : Mem C H nx S m w) {e : TypeId} {sz by_ : Nat} {z : Value} [hd : TyD P t (.slice e)] [hn : TyN P e sz by_ z] {ty : TypeId} {id n : Nat} {rows rs : List (List FV)} {vs vx : Value}
    (hs : Rep w S m vs (.sl id sz 0 n)) (hl : hlook H id = some (.flat sz rows)) (hx : Src w (FRep w S) sz vx rs) (hfit : n + rs.length ≤ rows.length) (h0 : 0 < sz) :
    ∃ v w', (Builtin.append_ #[t, t] ty #[vs, vx]).run P w = .ok v w' ∧ Mem C ((id, some (.flat sz (rows.take n ++ rs ++ rows.drop (n + rs.length)))) :: H) nx S m w' ∧ Le S m w S m w' ∧ Rep w' S m v (.sl id sz 0 (n + rs.length)) := by
  have ho := hm.objs id _ hl
  rcases hx with ⟨rfl, ax, cx, rfl⟩ | ⟨bx, ox, cx, news, rfl, hsz, hnl, hnews, hnr⟩
  · have e1 : rows.take n ++ [] ++ rows.drop (n + ([] : List (List FV)).length) = rows := by simp
    rw [e1]
    simp only [List.length_nil, Nat.add_zero]
    have hs' := hs
    cases hs with
    | sl0 _ _ h => exact ⟨_, w, run_append_zero (P := P) (t := t) (Nat.le_refl _), hm.again hl, Le.refl _ _ _, hs'⟩
    | sl _ _ _ _ b cap hb hr hc hmx2 => exact ⟨_, w, run_append_zero (P := P) (t := t) hc, hm.again hl, Le.refl _ _ _, hs'⟩
  · have h1c : ∀ u ∈ news, u.oneCell' = true := fun u hu => by
      obtain ⟨j, hj, he⟩ := List.getElem_of_mem hu
      exact (hnews j u (by simp [hj, he])).2
    have hnw : ∀ j u, news[j]? = some u → w.cell? ((⟨bx, ox, none⟩ : Addr).add j) = some u := fun j u h => (hnews j u h).1
    cases hs with
    | sl0 _ _ h =>
      rcases ho with ⟨_, hr0⟩ | ⟨b', _, _, h2, _⟩
      · subst hr0
        simp at hfit
        subst hfit
        simp only [List.take_nil, List.drop_nil, List.append_nil, List.length_nil, Nat.add_zero]
        exact ⟨_, w, run_append_zero (P := P) (t := t) (Nat.le_refl _), hm.again hl, Le.refl _ _ _, .sl0 _ _ h⟩
      · rw [h] at h2; cases h2
    | sl _ _ _ _ b cap hb hr hc hmx2 =>
      rcases ho with ⟨h1, _⟩ | ⟨b', c, e', h1, hcb, hRR⟩
      · rw [hb] at h1; cases h1
      · rw [hb] at h1; cases h1
        have hr' := hr
        have hcs : c.size = cap * sz := by
          obtain ⟨c2, e2, fr, q1, q2⟩ := hr
          rw [hcb] at q1; cases q1; simpa using q2
        have hcap : rows.length ≤ cap := by
          have := hRR.1
          rw [hcs] at this
          exact Nat.le_of_mul_le_mul_right this h0
        have hroom : n + rs.length ≤ cap := by omega
        have hfit2 : n * sz + news.length ≤ c.size := by rw [hnl, hcs, ← Nat.add_mul]; exact Nat.mul_le_mul_right _ hroom
        simp only [Nat.zero_mul] at hmx2 ⊢
        have hrun := run_append_roomA (P := P) (t := t) (ty := ty) (c := cx) hcb hnl hnw h1c hroom hfit2
        obtain ⟨k1, k2⟩ := splice_core hm hl hb hcb hRR (lo := n) hfit hsz hnl h1c hnr
        refine ⟨_, _, hrun, k1, k2, ?_⟩
        have := Rep.sl (w := w.setRow b (c.toList.take (n * sz) ++ news ++ c.toList.drop (n * sz + news.length)).toArray) (S := S) (m := m) id sz 0 (n + rs.length) b cap hb (k2.room _ _ hr') hroom (by omega)
        simpa using this
/-- 'append(s[:n], s2..)' where the object of s has the room: it is written in place -/
theorem op_append_in {e : TypeId} {sz by_ id n id2 lo len : Nat} {z : Value} {rows rows2 rs : List (List FV)} [hd : TyD P t (.slice e)] [hn : TyN P e sz by_ z] (ho : o.op = .call { callee := .builtin .append, args := #[x, y], argTypes := #[t, t] })
    (hx : Opd G g x (.sl id sz 0 n)) (hy : Opd G g y (.sl id2 sz lo len)) (hl : hlook H id = some (.flat sz rows)) (hl2 : hlook H id2 = some (.flat sz rows2)) (hrs : (rows2.drop lo).take len = rs) (hlen : rs.length = len) (hfit : n + len ≤ rows.length) (h0 : Nat.blt 0 sz = true) :
    OpS P o g G H nx (.sl id sz 0 (n + len)) ((id, some (.flat sz (rows.take n ++ rs ++ rows.drop (n + len)))) :: H) nx :=
  ⟨fun C S m a w hm hg ha K Q hK => by
    have h1 := hx.rep hg (by simp [ho, Op.operands, Call.operands]) ha
    have h2 := hy.rep hg (by simp [ho, Op.operands, Call.operands]) ha
    subst hlen
    obtain ⟨v, w', r1, r2, r3, r4⟩ := append_in_core (P := P) (t := t) (ty := o.type) hm h1 hl (src_own hm h2 hl2 hrs rfl) hfit (blt_of h0)
    refine wp_value (w' := w') (v := v) ?_ (hK _ _ _ _ r2 r3 r4)
    simp [execOp, ho, resolve, invoke, builtin, r1]⟩
/-- reslicing an owned slice: nothing is told of the result -/
theorem op_slice_any {e : TypeId} {sz by_ id lo len l h mx : Nat} {z : Value} {rows : List (List FV)} {ol : Option Operand} {oh om : Operand} [hd : TyD P t (.slice e)] [hn : TyN P e sz by_ z] (ho : o.op = .slice t x ol (some oh) (some om)) (hx : Opd G g x (.sl id sz lo len)) (hlo : Bnd G g ol 0 l) (hhi : Bnd G g (some oh) len h) (hmx : Bnd G g (some om) h mx)
    (hh : g = true → hlook H id = some (.flat sz rows) ∧ l ≤ h ∧ h ≤ mx ∧ lo + mx ≤ rows.length ∧ 0 < sz) : OpL P o g G H [id] .any := fun H' nx' hag =>
  .of fun C S m a w hm hg ha => by
    have h1 := hx.rep hg (by simp [ho, Op.operands]) ha
    obtain ⟨hl0, q1, q2, q3, q4⟩ := hh hg
    have hl : hlook H' id = some (.flat sz rows) := (hag id (by simp)).trans hl0
    have b1 := hlo.val (o := o) (a := a) (w := w) (S := S) (m := m) hg (fun x hx => by simp [ho, Op.operands, hx]) ha
    have b2 := hhi.val (o := o) (a := a) (w := w) (S := S) (m := m) hg (fun x hx => by simp [ho, Op.operands, hx]) ha
    have b3 := hmx.val (o := o) (a := a) (w := w) (S := S) (m := m) hg (fun x hx => by simp [ho, Op.operands, hx]) ha
    generalize hv : a.eval x = v at h1
    have go : ∀ (ad : Option Addr) (cap : Nat), v = .slice ad len cap → mx ≤ cap → ∃ v', (execOp a.eval o).run P w = .ok (.value v') w ∧ Rep w S m v' .any := fun ad cap hvv hmc => by
      subst hvv
      have e1 : ∃ r, (Instr.sliceBounds true len cap (ol.map a.eval) (some (a.eval oh)) (some (a.eval om))).run P w = .ok r w := by
        rcases b2 with ⟨c2, _⟩ | ⟨k2, c2⟩
        · simp at c2
        rcases b3 with ⟨c3, _⟩ | ⟨k3, c3⟩
        · simp at c3
        rw [Option.map_some] at c2 c3
        rcases b1 with ⟨c1, rfl⟩ | ⟨k1, c1⟩ <;> rw [c1, c2, c3] <;> simp [Instr.sliceBounds, Instr.sliceBound, asIntOf, q1, q2, hmc, Nat.le_trans q2 hmc]
      obtain ⟨r, e1⟩ := e1
      exact ⟨_, by simp [execOp, ho, hv, Instr.sliceAt, Instr.slice, run_underlying hd.h, e1, run_size hn]; rfl, .any _⟩
    cases h1 with
    | sl0 _ _ hid =>
      rcases hm.objs id _ hl with ⟨_, hr0⟩ | ⟨b', _, _, h2, _⟩
      · subst hr0
        simp at q3
        exact go _ _ rfl (by omega)
      · rw [hid] at h2; cases h2
    | sl _ _ _ _ b cap hid hr hc hmx =>
      rcases hm.objs id _ hl with ⟨h2, _⟩ | ⟨b', c, e', h2, hcb, h3, h4, h5⟩
      · rw [hid] at h2; cases h2
      · rw [hid] at h2; cases h2
        obtain ⟨c2, e2, fr, hc2, hsz⟩ := hr
        rw [hcb] at hc2; cases hc2
        have hcap : rows.length ≤ lo + cap := by
          rw [hsz] at h3
          exact Nat.le_of_mul_le_mul_right h3 q4
        exact go _ _ rfl (by omega)
/-- an owned slice resliced to nothing -/
theorem op_slice_end {e : TypeId} {sz by_ id lo len l h : Nat} {z : Value} {rows : List (List FV)} {ol oh : Option Operand} [hd : TyD P t (.slice e)] [hn : TyN P e sz by_ z] (ho : o.op = .slice t x ol oh none) (hx : Opd G g x (.sl id sz lo len)) (hlo : Bnd G g ol 0 l) (hhi : Bnd G g oh len h)
    (hh : g = true → hlook H id = some (.flat sz rows) ∧ l = h ∧ lo + h ≤ rows.length ∧ 0 < sz) : OpL P o g G H [id] (.fz (.vals sz [])) := fun H' nx' hag =>
  .of fun C S m a w hm hg ha => by
    have h1 := hx.rep hg (by simp [ho, Op.operands]) ha
    obtain ⟨hl0, q2, q3, q4⟩ := hh hg
    subst q2
    have hl : hlook H' id = some (.flat sz rows) := (hag id (by simp)).trans hl0
    have b1 := hlo.val (o := o) (a := a) (w := w) (S := S) (m := m) hg (fun x hx => by simp [ho, Op.operands, hx]) ha
    have b2 := hhi.val (o := o) (a := a) (w := w) (S := S) (m := m) hg (fun x hx => by simp [ho, Op.operands, hx]) ha
    generalize hv : a.eval x = v at h1
    have go : ∀ (ad : Option Addr) (cap : Nat), v = .slice ad len cap → l ≤ cap → ∃ v', (execOp a.eval o).run P w = .ok (.value v') w ∧ Rep w S m v' (.fz (.vals sz [])) := fun ad cap hvv hmc => by
      subst hvv
      have := run_slice (P := P) (t := t) (w := w) (a := ad) (len := len) (cap := cap) b1 b2 (Nat.le_refl _) hmc
      rw [Nat.sub_self] at this
      exact ⟨.slice (if cap = l then ad else ad.map (·.add (l * sz))) 0 (cap - l), by simp only [execOp, ho, hv, Option.map_none, Sem.run_bind, this, Result.andThen_ok, Sem.run_pure], .fz _ _ (.nil _ _ _)⟩
    cases h1 with
    | sl0 _ _ hid =>
      rcases hm.objs id _ hl with ⟨_, hr0⟩ | ⟨b', _, _, h2, _⟩
      · subst hr0
        simp at q3
        exact go _ _ rfl (by omega)
      · rw [hid] at h2; cases h2
    | sl _ _ _ _ b cap hid hr hc hmx =>
      rcases hm.objs id _ hl with ⟨h2, _⟩ | ⟨b', c, e', h2, hcb, h3, h4, h5⟩
      · rw [hid] at h2; cases h2
      · rw [hid] at h2; cases h2
        obtain ⟨c2, e2, fr, hc2, hsz⟩ := hr
        rw [hcb] at hc2; cases hc2
        have hcap : rows.length ≤ lo + cap := by
          rw [hsz] at h3
          exact Nat.le_of_mul_le_mul_right h3 q4
        exact go _ _ rfl (by omega)
/-- 'append(s[:n], fs..)' of frozen rows where the object of s has the room -/
theorem op_append_inF {e : TypeId} {sz by_ id n : Nat} {z : Value} {rows rs : List (List FV)} [hd : TyD P t (.slice e)] [hn : TyN P e sz by_ z] (ho : o.op = .call { callee := .builtin .append, args := #[x, y], argTypes := #[t, t] })
    (hx : Opd G g x (.sl id sz 0 n)) (hy : Opd G g y (.fz (.vals sz rs))) (hl : hlook H id = some (.flat sz rows)) (hfit : n + rs.length ≤ rows.length) (h0 : Nat.blt 0 sz = true) :
    OpS P o g G H nx (.sl id sz 0 (n + rs.length)) ((id, some (.flat sz (rows.take n ++ rs ++ rows.drop (n + rs.length)))) :: H) nx :=
  ⟨fun C S m a w hm hg ha K Q hK => by
    have h1 := hx.rep hg (by simp [ho, Op.operands, Call.operands]) ha
    have h2 := (hy.rep hg (by simp [ho, Op.operands, Call.operands]) ha).frz
    obtain ⟨v, w', r1, r2, r3, r4⟩ := append_in_core (P := P) (t := t) (ty := o.type) hm h1 hl (src_fz h2) hfit (blt_of h0)
    refine wp_value (w' := w') (v := v) ?_ (hK _ _ _ _ r2 r3 r4)
    simp [execOp, ho, resolve, invoke, builtin, r1]⟩
end
end Go.RT
namespace Go.Proofs.Ytelnedgopdlnkaa
open Go Go.RT Go.Proofs Go.Pl
set_option linter.all false
set_option maxRecDepth 20000
theorem delete_c (l : List Edg) (k i j : Nat) (hn : l.length ≤ 2000000) (hij : i < j) (hj : j ≤ l.length) : Meets Try.prog 67 [.sl 0 3 0 l.length, IV .i64 i, IV .i64 j] 1 [(0, OE (l ++ List.replicate k zE))] (.sl 0 3 0 (l.length - (j - i))) [(0, OE (delL l i j ++ List.replicate (k + (j - i)) zE))] 1 := by
  have hrl : (l ++ List.replicate k zE).length = l.length + k := by simp
  have hrows := del_rows l k i j (by omega) hj
  have e0 : ∀ xs ys : List Edg, List.map encE (xs ++ ys) = xs.map encE ++ ys.map encE := fun xs ys => List.map_append
  have hcl : l.length - (j - i) = i + (l.length - j) := by omega
  refine Meets.intro Try.func67 rfl (Nat.le_of_ble_eq_true rfl) fun C hC => ?_
  simp only [List.map, argEnv, Nat.reduceAdd]
  refine nK ?_
  refine s_reg rfl ?_
  first | refine Run.pure (dd := some 6) rfl rfl (op_assign rfl (Opd.const _)) ?_ | refine Run.pure (dd := some 6) rfl rfl (op_junk (.inr rfl)) ?_
  refine Run.nil (FinR.mk ?_)
  refine nK ?_
  refine s_reg rfl ?_
  first | refine Run.pure (dd := some 8) rfl rfl (op_move rfl (Opd.tmp _ _ rfl)) ?_ | refine Run.pure (dd := some 8) rfl rfl (op_junk (.inl rfl)) ?_
  first | refine Run.pure (dd := some 9) rfl rfl (op_move rfl (Opd.tmp _ _ rfl)) ?_ | refine Run.pure (dd := some 9) rfl rfl (op_junk (.inl rfl)) ?_
  first | refine Run.pure (dd := some 10) rfl rfl (op_move rfl (Opd.tmp _ _ rfl)) ?_ | refine Run.pure (dd := some 10) rfl rfl (op_junk (.inl rfl)) ?_
  first | refine Run.pure (dd := some 11) rfl rfl (op_move rfl (Opd.tmp _ _ rfl)) ?_ | refine Run.pure (dd := some 11) rfl rfl (op_junk (.inl rfl)) ?_
  first | refine Run.pure (dd := some 12) rfl rfl (op_len_fz rfl (by first | exact Opd.tmp _ _ rfl | exact Opd.nil _ _ (Opd.tmp _ _ rfl)) (by first | exact List.length_map _ | rfl)) ?_ | refine Run.pure (dd := some 12) rfl rfl (op_len_sl rfl (Opd.tmp _ _ rfl)) ?_
  refine Run.load (dd := some 13) rfl rfl (op_slice_any (l := i) (h := j) (mx := l.length) rfl (Opd.tmp _ _ rfl) (Bnd.yes _ _ _ _ _ (Opd.tmp _ _ rfl) tQ) (Bnd.yes _ _ _ _ _ (Opd.tmp _ _ rfl) tQ) (Bnd.yes _ _ _ _ _ (Opd.tmp _ _ rfl) tQ) (by intro _; refine ⟨rfl, ?_⟩; rw [List.length_map, hrl]; omega)) ?_
  refine Run.nil (FinR.mk ?_)
  refine nK ?_
  refine nK ?_
  refine s_reg rfl ?_
  first | refine Run.pure (dd := some 14) rfl rfl (op_move rfl (Opd.tmp _ _ rfl)) ?_ | refine Run.pure (dd := some 14) rfl rfl (op_junk (.inl rfl)) ?_
  first | refine Run.pure (dd := some 15) rfl rfl (op_move rfl (Opd.tmp _ _ rfl)) ?_ | refine Run.pure (dd := some 15) rfl rfl (op_junk (.inl rfl)) ?_
  refine Run.pure (dd := some 16) rfl rfl (op_eql rfl (Opd.tmp _ _ rfl) (Opd.tmp _ _ rfl)) ?_
  refine Run.nil (FinR.mk ?_)
  refine nK ?_
  refine n_cond _ rfl (fun hb => ?_) (fun hb => ?_)
  · simp at hb; omega
  · have hxl : ((l ++ List.replicate k zE).take i ++ l.drop j ++ (l ++ List.replicate k zE).drop (i + (l.length - j))).length = l.length + k := by simp; omega
    by_cases hje : j = l.length
    · refine nK ?_
      refine s_reg rfl ?_
      first | refine Run.pure (dd := some 18) rfl rfl (op_move rfl (Opd.tmp _ _ rfl)) ?_ | refine Run.pure (dd := some 18) rfl rfl (op_junk (.inl rfl)) ?_
      first | refine Run.pure (dd := some 19) rfl rfl (op_len_fz rfl (by first | exact Opd.tmp _ _ rfl | exact Opd.nil _ _ (Opd.tmp _ _ rfl)) (by first | exact List.length_map _ | rfl)) ?_ | refine Run.pure (dd := some 19) rfl rfl (op_len_sl rfl (Opd.tmp _ _ rfl)) ?_
      first | refine Run.pure (dd := some 7) rfl rfl (op_assign rfl (Opd.tmp _ _ rfl)) ?_ | refine Run.pure (dd := some 7) rfl rfl (op_junk (.inr rfl)) ?_
      refine Run.nil (FinR.mk ?_)
      refine nK ?_
      refine s_draw mixed ?_
      first | refine Run.pure (dd := some 20) rfl rfl (op_move rfl (Opd.tmp _ _ rfl)) ?_ | refine Run.pure (dd := some 20) rfl rfl (op_junk (.inl rfl)) ?_
      first | refine Run.pure (dd := some 21) rfl rfl (op_move rfl (Opd.tmp _ _ rfl)) ?_ | refine Run.pure (dd := some 21) rfl rfl (op_junk (.inl rfl)) ?_
      refine Run.load (dd := some 22) rfl rfl (op_slice_view rfl (Opd.tmp _ _ rfl) (Bnd.no _) (Bnd.yes _ _ _ _ _ (Opd.tmp _ _ rfl) tQ) (by intro _; refine ⟨rfl, ?_⟩; rw [List.length_map, hrl]; omega)) ?_
      first | refine Run.pure (dd := some 23) rfl rfl (op_move rfl (Opd.tmp _ _ rfl)) ?_ | refine Run.pure (dd := some 23) rfl rfl (op_junk (.inl rfl)) ?_
      first | refine Run.pure (dd := some 24) rfl rfl (op_move rfl (Opd.tmp _ _ rfl)) ?_ | refine Run.pure (dd := some 24) rfl rfl (op_junk (.inl rfl)) ?_
      refine Run.load (dd := some 25) rfl rfl (op_slice_end (l := j) (h := l.length) rfl (Opd.tmp _ _ rfl) (Bnd.yes _ _ _ _ _ (Opd.tmp _ _ rfl) tQ) (Bnd.no _) (by intro _; refine ⟨rfl, ?_⟩; rw [List.length_map, hrl]; omega)) ?_
      refine Run.effW (dd := some 26) rfl rfl (op_append_inF rfl (Opd.tmp _ _ rfl) (Opd.tmp _ _ rfl) rfl (by rw [List.length_map, hrl]; simp; omega) rfl) tE ?_
      first | refine Run.pure (dd := some 0) rfl rfl (op_assign rfl (Opd.tmp _ _ rfl)) ?_ | refine Run.pure (dd := some 0) rfl rfl (op_junk (.inr rfl)) ?_
      refine Run.nil (FinD.mk (by kernel_rfl) ?_)
      refine nK ?_
      refine Next.weakS [0] [] (by rfl) (keepsN hC _ rfl) (G' := [(0, .sl 0 3 0 (i + (l.length - j))), (7, IV .i64 l.length)]) (H' := [(0, OE ((l ++ List.replicate k zE).take i ++ l.drop j ++ (l ++ List.replicate k zE).drop (i + (l.length - j))))]) (by exact ⟨⟨_, rfl, .inl ⟨slEq rfl (by simp; omega), rfl⟩⟩, ⟨_, rfl, .inl ⟨rfl, rfl⟩⟩, trivial⟩) (by exact ⟨ent_same rfl rfl (by refine congrArg (fun r => some (Ob.flat 3 r)) ?_; subst hje; simp) trivial, trivial⟩) rfl ?_
      refine nK ?_
      refine s_reg rfl ?_
      first | refine Run.pure (dd := some 27) rfl rfl (op_move rfl (Opd.tmp _ _ rfl)) ?_ | refine Run.pure (dd := some 27) rfl rfl (op_junk (.inl rfl)) ?_
      first | refine Run.pure (dd := some 28) rfl rfl (op_move rfl (Opd.tmp _ _ rfl)) ?_ | refine Run.pure (dd := some 28) rfl rfl (op_junk (.inl rfl)) ?_
      first | refine Run.pure (dd := some 29) rfl rfl (op_len_fz rfl (by first | exact Opd.tmp _ _ rfl | exact Opd.nil _ _ (Opd.tmp _ _ rfl)) (by first | exact List.length_map _ | rfl)) ?_ | refine Run.pure (dd := some 29) rfl rfl (op_len_sl rfl (Opd.tmp _ _ rfl)) ?_
      first | refine Run.pure (dd := some 30) rfl rfl (op_move rfl (Opd.tmp _ _ rfl)) ?_ | refine Run.pure (dd := some 30) rfl rfl (op_junk (.inl rfl)) ?_
      refine Run.load (dd := some 31) rfl rfl (op_slice_view (l := i + (l.length - j)) (h := l.length) rfl (Opd.tmp _ _ rfl) (Bnd.yes _ _ _ _ _ (Opd.tmp _ _ rfl) tQ) (Bnd.yes _ _ _ _ _ (Opd.tmp _ _ rfl) tQ) (by intro _; refine ⟨rfl, ?_⟩; rw [List.length_map, hxl]; omega)) ?_
      refine Run.eff (dd := none) rfl rfl (op_clear rfl (Opd.tmp _ _ rfl) rfl rfl rfl rfl (by rw [List.length_map, hxl]; omega)) ?_
      refine Run.nil (FinR.mk ?_)
      refine nK ?_
      refine s_reg rfl ?_
      first | refine Run.pure (dd := some 32) rfl rfl (op_move rfl (Opd.tmp _ _ rfl)) ?_ | refine Run.pure (dd := some 32) rfl rfl (op_junk (.inl rfl)) ?_
      first | refine Run.pure (dd := some 6) rfl rfl (op_assign rfl (Opd.tmp _ _ rfl)) ?_ | refine Run.pure (dd := some 6) rfl rfl (op_junk (.inr rfl)) ?_
      refine Run.nil (FinR.mk ?_)
      refine nK ?_
      refine Next.weakS [6] [] (by rfl) (keepsN hC _ rfl) (G' := [(6, .sl 0 3 0 (l.length - (j - i)))]) (H' := [(0, OE (delL l i j ++ List.replicate (k + (j - i)) zE))]) (by exact ⟨⟨_, rfl, .inl ⟨slEq rfl (by omega), rfl⟩⟩, trivial⟩) (by exact ⟨ent_same rfl rfl (by refine congrArg (fun r => some (Ob.flat 3 r)) ?_; rw [← hrows]; simp [zE]; exact .inr rfl) trivial, trivial⟩) rfl ?_
      exact n_out1 rfl (by rfl) rfl rfl
    · refine nK ?_
      refine s_reg rfl ?_
      first | refine Run.pure (dd := some 18) rfl rfl (op_move rfl (Opd.tmp _ _ rfl)) ?_ | refine Run.pure (dd := some 18) rfl rfl (op_junk (.inl rfl)) ?_
      first | refine Run.pure (dd := some 19) rfl rfl (op_len_fz rfl (by first | exact Opd.tmp _ _ rfl | exact Opd.nil _ _ (Opd.tmp _ _ rfl)) (by first | exact List.length_map _ | rfl)) ?_ | refine Run.pure (dd := some 19) rfl rfl (op_len_sl rfl (Opd.tmp _ _ rfl)) ?_
      first | refine Run.pure (dd := some 7) rfl rfl (op_assign rfl (Opd.tmp _ _ rfl)) ?_ | refine Run.pure (dd := some 7) rfl rfl (op_junk (.inr rfl)) ?_
      refine Run.nil (FinR.mk ?_)
      refine nK ?_
      refine s_draw mixed ?_
      first | refine Run.pure (dd := some 20) rfl rfl (op_move rfl (Opd.tmp _ _ rfl)) ?_ | refine Run.pure (dd := some 20) rfl rfl (op_junk (.inl rfl)) ?_
      first | refine Run.pure (dd := some 21) rfl rfl (op_move rfl (Opd.tmp _ _ rfl)) ?_ | refine Run.pure (dd := some 21) rfl rfl (op_junk (.inl rfl)) ?_
      refine Run.load (dd := some 22) rfl rfl (op_slice_view rfl (Opd.tmp _ _ rfl) (Bnd.no _) (Bnd.yes _ _ _ _ _ (Opd.tmp _ _ rfl) tQ) (by intro _; refine ⟨rfl, ?_⟩; rw [List.length_map, hrl]; omega)) ?_
      first | refine Run.pure (dd := some 23) rfl rfl (op_move rfl (Opd.tmp _ _ rfl)) ?_ | refine Run.pure (dd := some 23) rfl rfl (op_junk (.inl rfl)) ?_
      first | refine Run.pure (dd := some 24) rfl rfl (op_move rfl (Opd.tmp _ _ rfl)) ?_ | refine Run.pure (dd := some 24) rfl rfl (op_junk (.inl rfl)) ?_
      refine Run.load (dd := some 25) rfl rfl (op_slice_view (l := j) (h := l.length) rfl (Opd.tmp _ _ rfl) (Bnd.yes _ _ _ _ _ (Opd.tmp _ _ rfl) tQ) (Bnd.no _) (by intro _; refine ⟨rfl, ?_⟩; rw [List.length_map, hrl]; omega)) ?_
      refine Run.effW (dd := some 26) rfl rfl (op_append_in (rs := (l.drop j).map encE) rfl (Opd.tmp _ _ rfl) (Opd.tmp _ _ rfl) rfl rfl (by simp [List.drop_append, List.take_append]; try omega) (by simp) (by rw [List.length_map, hrl]; omega) rfl) tE ?_
      first | refine Run.pure (dd := some 0) rfl rfl (op_assign rfl (Opd.tmp _ _ rfl)) ?_ | refine Run.pure (dd := some 0) rfl rfl (op_junk (.inr rfl)) ?_
      refine Run.nil (FinD.mk (by kernel_rfl) ?_)
      refine nK ?_
      refine Next.weakS [0] [] (by rfl) (keepsN hC _ rfl) (G' := [(0, .sl 0 3 0 (i + (l.length - j))), (7, IV .i64 l.length)]) (H' := [(0, OE ((l ++ List.replicate k zE).take i ++ l.drop j ++ (l ++ List.replicate k zE).drop (i + (l.length - j))))]) (by exact ⟨⟨_, rfl, .inl ⟨slEq rfl (by simp), rfl⟩⟩, ⟨_, rfl, .inl ⟨rfl, rfl⟩⟩, trivial⟩) (by exact ⟨ent_same rfl rfl (by refine congrArg (fun r => some (Ob.flat 3 r)) ?_; simp) trivial, trivial⟩) rfl ?_
      refine nK ?_
      refine s_reg rfl ?_
      first | refine Run.pure (dd := some 27) rfl rfl (op_move rfl (Opd.tmp _ _ rfl)) ?_ | refine Run.pure (dd := some 27) rfl rfl (op_junk (.inl rfl)) ?_
      first | refine Run.pure (dd := some 28) rfl rfl (op_move rfl (Opd.tmp _ _ rfl)) ?_ | refine Run.pure (dd := some 28) rfl rfl (op_junk (.inl rfl)) ?_
      first | refine Run.pure (dd := some 29) rfl rfl (op_len_fz rfl (by first | exact Opd.tmp _ _ rfl | exact Opd.nil _ _ (Opd.tmp _ _ rfl)) (by first | exact List.length_map _ | rfl)) ?_ | refine Run.pure (dd := some 29) rfl rfl (op_len_sl rfl (Opd.tmp _ _ rfl)) ?_
      first | refine Run.pure (dd := some 30) rfl rfl (op_move rfl (Opd.tmp _ _ rfl)) ?_ | refine Run.pure (dd := some 30) rfl rfl (op_junk (.inl rfl)) ?_
      refine Run.load (dd := some 31) rfl rfl (op_slice_view (l := i + (l.length - j)) (h := l.length) rfl (Opd.tmp _ _ rfl) (Bnd.yes _ _ _ _ _ (Opd.tmp _ _ rfl) tQ) (Bnd.yes _ _ _ _ _ (Opd.tmp _ _ rfl) tQ) (by intro _; refine ⟨rfl, ?_⟩; rw [List.length_map, hxl]; omega)) ?_
      refine Run.eff (dd := none) rfl rfl (op_clear rfl (Opd.tmp _ _ rfl) rfl rfl rfl rfl (by rw [List.length_map, hxl]; omega)) ?_
      refine Run.nil (FinR.mk ?_)
      refine nK ?_
      refine s_reg rfl ?_
      first | refine Run.pure (dd := some 32) rfl rfl (op_move rfl (Opd.tmp _ _ rfl)) ?_ | refine Run.pure (dd := some 32) rfl rfl (op_junk (.inl rfl)) ?_
      first | refine Run.pure (dd := some 6) rfl rfl (op_assign rfl (Opd.tmp _ _ rfl)) ?_ | refine Run.pure (dd := some 6) rfl rfl (op_junk (.inr rfl)) ?_
      refine Run.nil (FinR.mk ?_)
      refine nK ?_
      refine Next.weakS [6] [] (by rfl) (keepsN hC _ rfl) (G' := [(6, .sl 0 3 0 (l.length - (j - i)))]) (H' := [(0, OE (delL l i j ++ List.replicate (k + (j - i)) zE))]) (by exact ⟨⟨_, rfl, .inl ⟨slEq rfl (by omega), rfl⟩⟩, trivial⟩) (by exact ⟨ent_same rfl rfl (by refine congrArg (fun r => some (Ob.flat 3 r)) ?_; rw [← hrows]; simp [zE]; exact .inr rfl) trivial, trivial⟩) rfl ?_
      exact n_out1 rfl (by rfl) rfl rfl
end Go.Proofs.Ytelnedgopdlnkaa
namespace Go.Pl
set_option linter.all false
/-- x put in ahead of place i -/
def insL {α : Type} (l : List α) (i : Nat) (x : α) : List α := l.take i ++ x :: l.drop i
theorem insL_len {α : Type} (l : List α) (i : Nat) (x : α) (h : i ≤ l.length) : (insL l i x).length = l.length + 1 := by simp [insL]; omega
theorem insL_map {α β : Type} (f : α → β) (l : List α) (i : Nat) (x : α) : (insL l i x).map f = insL (l.map f) i (f x) := by simp [insL]
/-- the rows behind the copies of slices.Insert, where it grows -/
theorem ins_grow {β : Type} (l : List β) (i : Nat) (x z : β) (h : i < l.length) :
    (((l.take i ++ List.replicate (l.length + 1 - i) z).take i ++ [x] ++ (l.take i ++ List.replicate (l.length + 1 - i) z).drop (i + 1)).take (i + 1) ++ l.drop i ++
      ((l.take i ++ List.replicate (l.length + 1 - i) z).take i ++ [x] ++ (l.take i ++ List.replicate (l.length + 1 - i) z).drop (i + 1)).drop (i + 1 + (l.length - i))) = insL l i x := by
  have h1 : (l.take i).length = i := by simp; omega
  have e1 : (l.take i ++ List.replicate (l.length + 1 - i) z).take i = l.take i := by rw [List.take_append_of_le_length (by omega), List.take_take]; simp
  rw [e1]
  generalize hd : (l.take i ++ List.replicate (l.length + 1 - i) z).drop (i + 1) = d
  have hdl : d.length = l.length - i := by rw [← hd]; simp; omega
  have h2 : (l.take i ++ [x]).length = i + 1 := by simp; omega
  have e2 : (l.take i ++ [x] ++ d).take (i + 1) = l.take i ++ [x] := by rw [List.take_append_of_le_length (by omega), List.take_of_length_le (by omega)]
  have e3 : (l.take i ++ [x] ++ d).drop (i + 1 + (l.length - i)) = [] := List.drop_of_length_le (by rw [List.length_append, h2, hdl]; omega)
  rw [e2, e3]
  simp [insL]
/-- .. where there is room -/
theorem ins_room {β : Type} (l : List β) (i : Nat) (x : β) (h : i < l.length) :
    ((l.take (i + 1) ++ l.drop i ++ l.drop (i + 1 + (l.length - i))).take i ++ [x] ++ (l.take (i + 1) ++ l.drop i ++ l.drop (i + 1 + (l.length - i))).drop (i + 1)) = insL l i x := by
  have e0 : l.drop (i + 1 + (l.length - i)) = [] := List.drop_of_length_le (by omega)
  have h1 : (l.take (i + 1)).length = i + 1 := by simp; omega
  rw [e0, List.append_nil]
  have e1 : (l.take (i + 1) ++ l.drop i).take i = l.take i := by rw [List.take_append_of_le_length (by omega), List.take_take, Nat.min_eq_left (by omega)]
  have e2 : (l.take (i + 1) ++ l.drop i).drop (i + 1) = l.drop i := by rw [List.drop_append_of_le_length (by omega), List.drop_of_length_le (by omega)]; rfl
  rw [e1, e2]
  simp [insL]
abbrev bsAt (l : List Edg) (x : Edg) : Nat := bsGo (fun e => decide (ordE e x < 0)) l 0 l.length
abbrev bsHit (l : List Edg) (x : Edg) : Bool := hitAt (fun e => decide (ordE e x = 0)) l (bsAt l x)
/-- one change, as the program makes it -/
def chgF (g : Gr) (c : Edg) : Gr × Int :=
  if nodeB g c.f = false ∨ nodeB g c.t = false then (g, 5)
  else if c.c < 0 then (if bsHit g.es c = false then (g, 6) else (⟨g.r, g.n, delL g.es (bsAt g.es c) (bsAt g.es c + 1)⟩, 0))
  else if alwI g c ≠ 0 then (g, alwI g c)
  else if bsHit g.es c = true then (⟨g.r, g.n, g.es.set (bsAt g.es c) c⟩, 0)
  else if g.es.length = 1024 then (g, 4)
  else (⟨g.r, g.n, insL g.es (bsAt g.es c) c⟩, 0)
theorem hitAt_lt {α : Type} {p : α → Bool} {l : List α} {i : Nat} (h : hitAt p l i = true) : ∃ h : i < l.length, p l[i] = true := by
  unfold hitAt at h
  cases hi : l[i]? with
  | none => rw [hi] at h; cases h
  | some e =>
    rw [hi] at h
    obtain ⟨h1, h2⟩ := List.getElem?_eq_some_iff.1 hi
    exact ⟨h1, by rw [h2]; exact h⟩
end Go.Pl
/- The capacity of an owned slice, told; reslicing into the room. -/
namespace Go.RT
open Go
set_option linter.all false
section
variable {P : Program} {o : Oper} {g : Bool} {G : Env} {x y : Operand} {t t' : TypeId} {H : Hp} {nx : Nat}
/-- what an owned slice's capacity is -/
theorem Next.capE {C : Cx} {N : Nat} {K : Act → World → Prop} (tt : Nat) {id sz lo len : Nat} {rows : List (List FV)} (hl : look G tt = some (.sl id sz lo len)) (ho : hlook H id = some (.flat sz rows)) (h0 : Nat.blt 0 sz = true) (hlr : lo ≤ rows.length)
    (h : ∀ cap : Nat, len ≤ cap → rows.length ≤ lo + cap → lo + cap ≤ maxLen → Next C N ((tt, .wc cap (.sl id sz lo len)) :: G) H nx K) : Next C N G H nx K := by
  intro a w hR
  obtain ⟨S, m, hm, hsl⟩ := hR.mem
  obtain ⟨v, hv, hr⟩ := hsl tt _ hl
  have fin : ∀ (ad : Option Addr) (cap : Nat), v = .slice ad len cap → (len ≤ cap ∧ rows.length ≤ lo + cap ∧ lo + cap ≤ maxLen) → K a w := fun ad cap hvv hc => by
    subst hvv
    refine h cap hc.1 hc.2.1 hc.2.2 a w ⟨hR.defers, hR.size, S, m, hm, fun t q hq => ?_⟩
    rw [look_cons] at hq
    by_cases ht : tt = t
    · rw [if_pos ht] at hq; cases hq; subst ht; exact ⟨_, hv, .wc _ _ _ _ hr⟩
    · rw [if_neg ht] at hq; exact hsl t q hq
  have hr' := hr
  cases hr with
  | sl0 _ _ hid =>
    rcases hm.objs id _ ho with ⟨_, hr0⟩ | ⟨b', _, _, h2, _⟩
    · subst hr0
      exact fin _ _ rfl ⟨Nat.le_refl _, by simp, by unfold maxLen; omega⟩
    · rw [hid] at h2; cases h2
  | sl _ _ _ _ b cap hid hrm hc hmx =>
    rcases hm.objs id _ ho with ⟨h2, _⟩ | ⟨b', c, e', h2, hcb, h3, h4, h5⟩
    · rw [hid] at h2; cases h2
    · rw [hid] at h2; cases h2
      obtain ⟨c2, e2, fr, hc2, hsz⟩ := hrm
      rw [hcb] at hc2; cases hc2
      have hcap : rows.length ≤ lo + cap := by
        rw [hsz] at h3
        exact Nat.le_of_mul_le_mul_right h3 (blt_of h0)
      exact fin _ _ rfl ⟨hc, hcap, hmx⟩
theorem op_cap {e : TypeId} {c : Nat} {p : PV} [hd : TyD P t (.slice e)] (ho : o.op = .call { callee := .builtin .cap, args := #[x], argTypes := #[t] }) (hx : Opd G g x (.wc c p)) : OpP P o g G (IV .i64 c) :=
  .of fun S m a w hg ha => by
    have h1 := hx.rep hg (by simp [ho, Op.operands, Call.operands]) ha
    generalize hv : a.eval x = v at h1
    cases h1 with
    | wc ad len cap p h =>
      refine ⟨.int .i64 c, ?_, .fz _ _ (.lit _)⟩
      simp [execOp, ho, hv, resolve, invoke, builtin, Builtin.cap_, run_underlying hd.h, goInt]
/-- 's[:h]' within the capacity: a view that may reach beyond the rows that are told -/
theorem op_slice_room {e : TypeId} {sz by_ id lo len h c : Nat} {z : Value} {oh : Operand} [hd : TyD P t (.slice e)] [hn : TyN P e sz by_ z] (ho : o.op = .slice t x none (some oh) none) (hx : Opd G g x (.wc c (.sl id sz lo len))) (hhi : Bnd G g (some oh) len h)
    (hh : g = true → h ≤ c) : OpP P o g G (.wc c (.sl id sz lo h)) :=
  .of fun S m a w hg ha => by
    have h1 := hx.rep hg (by simp [ho, Op.operands]) ha
    have b2 := hhi.val (o := o) (a := a) (w := w) (S := S) (m := m) hg (fun x hx => by simp [ho, Op.operands, hx]) ha
    have q := hh hg
    generalize hv : a.eval x = v at h1
    cases h1 with
    | wc ad len' cap p h' =>
      have := run_slice (P := P) (t := t) (w := w) (a := ad) (len := len') (cap := c) (lo := none) (hi := some (a.eval oh)) (l := 0) (h := h) (.inl ⟨rfl, rfl⟩) (by
        rcases b2 with ⟨c2, _⟩ | ⟨k, c2⟩
        · simp at c2
        · exact .inr ⟨k, by simpa using c2⟩) (Nat.zero_le _) q
      have e0 : (if c = 0 then ad else ad.map (·.add (0 * sz))) = ad := by
        split
        · rfl
        · cases ad with
          | none => rfl
          | some ad => simp [Addr.add]
      rw [e0] at this
      refine ⟨.slice ad h c, by simp only [execOp, ho, hv, Option.map_none, Option.map_some, Sem.run_bind, this, Result.andThen_ok, Sem.run_pure, Nat.sub_zero], .wc _ _ _ _ ?_⟩
      cases h' with
      | sl0 _ _ hid =>
        have : h = 0 := by omega
        subst this; exact .sl0 _ _ hid
      | sl _ _ _ _ b cap hid hr hc hmx => exact .sl _ _ _ _ _ _ hid hr q hmx
end
end Go.RT
/- 'copy' onto an owned slice. -/
namespace Go.RT
open Go
set_option linter.all false
section
variable {P : Program} {o : Oper} {g : Bool} {G : Env} {x y : Operand} {t t' : TypeId} {H : Hp} {nx : Nat}
theorem RowsRep.splice2 {α : Type} {R : Value → α → Prop} {c : Array Value} {sz : Nat} {rows rs : List (List α)} (h : RowsRep R c sz rows) {lo : Nat} {vs : List Value} (hlo : lo ≤ rows.length) (hfit : (lo + rs.length) * sz ≤ c.size) (hrs : ∀ r ∈ rs, r.length = sz)
    (hvl : vs.length = rs.length * sz) (hv : ∀ i j r p, rs[i]? = some r → r[j]? = some p → ∃ u, vs[i * sz + j]? = some u ∧ u.oneCell' = true ∧ R u p) :
    RowsRep R (c.toList.take (lo * sz) ++ vs ++ c.toList.drop (lo * sz + vs.length)).toArray sz (rows.take lo ++ rs ++ rows.drop (lo + rs.length)) := by
  obtain ⟨h1, h2, h3⟩ := h
  have hb := hfit
  have hsz : (c.toList.take (lo * sz) ++ vs ++ c.toList.drop (lo * sz + vs.length)).length = c.size := by
    simp only [List.length_append, List.length_take, Array.length_toList, List.length_drop, hvl]
    rw [Nat.add_mul] at hb; omega
  have hrl : (rows.take lo ++ rs ++ rows.drop (lo + rs.length)).length = rows.length ∨ (rows.take lo ++ rs ++ rows.drop (lo + rs.length)).length = lo + rs.length := by simp; omega
  refine ⟨by rw [List.size_toArray, hsz]; rcases hrl with e | e <;> rw [e] <;> assumption, fun r hr => ?_, fun i j r p hi hj => ?_⟩
  · rcases List.mem_append.1 hr with hr | hr
    · rcases List.mem_append.1 hr with hr | hr
      · exact h2 r (List.mem_of_mem_take hr)
      · exact hrs r hr
    · exact h2 r (List.mem_of_mem_drop hr)
  · have hget : ∀ q, (c.toList.take (lo * sz) ++ vs ++ c.toList.drop (lo * sz + vs.length)).toArray[q]? = if q < lo * sz then c[q]? else if q < lo * sz + vs.length then vs[q - lo * sz]? else c[q]? := fun q => by
      have hle : lo * sz ≤ c.size := by rw [Nat.add_mul] at hb; omega
      rw [List.getElem?_toArray, List.append_assoc, List.getElem?_append]
      simp only [List.length_take, Array.length_toList, Nat.min_eq_left hle]
      by_cases hq : q < lo * sz
      · rw [if_pos hq, if_pos hq, List.getElem?_take, if_pos hq, Array.getElem?_toList]
      · rw [if_neg hq, if_neg hq, List.getElem?_append]
        by_cases hq2 : q < lo * sz + vs.length
        · rw [if_pos (by omega), if_pos hq2]
        · rw [if_neg (by omega), if_neg hq2, List.getElem?_drop, Array.getElem?_toList]; congr 1; omega
    rw [hget]
    have hrsz : ∀ r, rows[i]? = some r → r.length = sz := fun r hr => h2 r (List.mem_of_getElem? hr)
    rw [List.append_assoc, List.getElem?_append] at hi
    simp only [List.length_take, Nat.min_eq_left (show lo ≤ rows.length by omega)] at hi
    by_cases c1 : i < lo
    · rw [if_pos c1, List.getElem?_take, if_pos c1] at hi
      have hjs : j < sz := by rw [← hrsz r hi]; exact (List.getElem?_eq_some_iff.1 hj).1
      have : i * sz + j < lo * sz := by
        have := Nat.mul_le_mul_right sz (show i + 1 ≤ lo by omega)
        rw [Nat.add_mul] at this; omega
      rw [if_pos this]; exact h3 i j r p hi hj
    · rw [if_neg c1, List.getElem?_append] at hi
      by_cases c2 : i - lo < rs.length
      · rw [if_pos c2] at hi
        have hjs : j < sz := by rw [← hrs r (List.mem_of_getElem? hi)]; exact (List.getElem?_eq_some_iff.1 hj).1
        have e1 : i * sz + j = lo * sz + ((i - lo) * sz + j) := by
          have : i = lo + (i - lo) := by omega
          rw [this, Nat.add_mul]; simp; omega
        have e2 : (i - lo) * sz + j < rs.length * sz := by
          have := Nat.mul_le_mul_right sz (show i - lo + 1 ≤ rs.length by omega)
          rw [Nat.add_mul] at this; omega
        rw [if_neg (by omega), if_pos (by omega), e1, Nat.add_sub_cancel_left]
        exact hv (i - lo) j r p hi hj
      · rw [if_neg c2, List.getElem?_drop] at hi
        rw [show lo + rs.length + (i - lo - rs.length) = i by omega] at hi
        have : lo * sz + vs.length ≤ i * sz + j := by
          have := Nat.mul_le_mul_right sz (show lo + rs.length ≤ i by omega)
          rw [Nat.add_mul] at this; omega
        rw [if_neg (by rw [hvl] at this; omega), if_neg (by omega)]
        exact h3 i j r p hi hj
/-- the cells of the first n rows of an owned slice -/
theorem cells_own {C : Cx} {S : Nat → Prop} {m : Ids} {w : World} (hm : Mem C H nx S m w) {id sz lo len n : Nat} {rows rs : List (List FV)} {v : Value} (h : Rep w S m v (.sl id sz lo len)) (hl : hlook H id = some (.flat sz rows)) (hn : n ≤ len) (hrs : (rows.drop lo).take n = rs) (hlen : rs.length = n) :
    ∃ ax c, v = .slice ax len c ∧ Src w (FRep w S) sz (.slice ax n c) rs := by
  have ho := hm.objs id _ hl
  cases h with
  | sl0 _ _ hid =>
    have : n = 0 := by omega
    subst this
    exact ⟨_, _, rfl, .inl ⟨List.eq_nil_of_length_eq_zero hlen, _, _, rfl⟩⟩
  | sl _ _ _ _ b cap hid hr hc hmx => exact ⟨_, _, rfl, src_own hm (.sl _ _ _ _ _ _ hid hr (by omega) hmx) hl hrs hlen⟩
theorem copy_core {C : Cx} {S : Nat → Prop} {m : Ids} {w : World} (hm : Mem C H nx S m w) {e : TypeId} {sz by_ : Nat} {z : Value} [hd : TyD P t (.slice e)] [hn : TyN P e sz by_ z] {t2 ty : TypeId} {id lo len l2 c2 : Nat} {ax : Option Addr} {rows rs : List (List FV)} {vd : Value}
    (hs : Rep w S m vd (.sl id sz lo len)) (hl : hlook H id = some (.flat sz rows)) (hx : Src w (FRep w S) sz (.slice ax rs.length c2) rs) (hmin : Nat.min l2 len = rs.length) (hlo : lo ≤ rows.length) :
    ∃ w', (Builtin.copy_ #[t, t2] ty #[vd, .slice ax l2 c2]).run P w = .ok (goInt rs.length) w' ∧ Mem C ((id, some (.flat sz (rows.take lo ++ rs ++ rows.drop (lo + rs.length)))) :: H) nx S m w' ∧ Le S m w S m w' := by
  have ho := hm.objs id _ hl
  have nothing : rs = [] → ∃ w', (Builtin.copy_ #[t, t2] ty #[vd, .slice ax l2 c2]).run P w = .ok (goInt rs.length) w' ∧ Mem C ((id, some (.flat sz (rows.take lo ++ rs ++ rows.drop (lo + rs.length)))) :: H) nx S m w' ∧ Le S m w S m w' := fun h => by
    subst h
    refine ⟨w, ?_, ?_, Le.refl _ _ _⟩
    · have hm0 : Nat.min l2 len = 0 := hmin
      generalize hq : Nat.min l2 len = q at hm0
      subst hm0
      cases hs <;> cases ax <;> simp [Builtin.copy_, run_underlying hd.h, run_size hn, Builtin.lenOf, Builtin.firstCells, loadCells, loadCellsFrom, storeCells, hq]
    · have e1 : rows.take lo ++ [] ++ rows.drop (lo + ([] : List (List FV)).length) = rows := by simp
      rw [e1]; exact hm.again hl
  rcases hx with ⟨h, _⟩ | ⟨bx, ox, cx, news, he, hsz, hnl, hnews, hnr⟩
  · exact nothing h
  · cases he
    have h1c : ∀ u ∈ news, u.oneCell' = true := fun u hu => by
      obtain ⟨j, hj, he⟩ := List.getElem_of_mem hu
      exact (hnews j u (by simp [hj, he])).2
    have hnw : ∀ j u, news[j]? = some u → w.cell? ((⟨bx, ox, none⟩ : Addr).add j) = some u := fun j u h => (hnews j u h).1
    cases hs with
    | sl0 _ _ h =>
      refine nothing (List.eq_nil_of_length_eq_zero ?_)
      rw [← hmin]; exact Nat.min_zero _
    | sl _ _ _ _ b cap hb hr hc hmx2 =>
      rcases ho with ⟨h1, _⟩ | ⟨b', c, e', h1, hcb, hRR⟩
      · rw [hb] at h1; cases h1
      · rw [hb] at h1; cases h1
        have hcs : c.size = (lo + cap) * sz := by
          obtain ⟨c2, e2, fr, q1, q2⟩ := hr
          rw [hcb] at q1; cases q1; simpa using q2
        have hle : rs.length ≤ len := by rw [← hmin]; exact Nat.min_le_right _ _
        have hfit : (lo + rs.length) * sz ≤ c.size := by rw [hcs]; exact Nat.mul_le_mul_right _ (by omega)
        have hfit2 : lo * sz + news.length ≤ c.size := by rw [hnl, ← Nat.add_mul]; exact hfit
        have hf := run_firstCells_some (P := P) w sz rs.length ⟨bx, ox, none⟩ l2 c2 news hnl hnw
        have hst := run_storeCells_at P b (lo * sz) e' news 0 c w hcb (by simpa using hfit2) h1c
        simp only [Nat.add_zero] at hst
        have hsz2 : (c.toList.take (lo * sz) ++ news ++ c.toList.drop (lo * sz + news.length)).toArray.size = c.size := by
          simp only [List.size_toArray, List.length_append, List.length_take, Array.length_toList, List.length_drop]
          omega
        have hfill := hRR.splice2 (lo := lo) hlo hfit hsz hnl (fun i j r p hi hj => by
          obtain ⟨u, hu, hp⟩ := hnr i j r p hi hj
          exact ⟨u, hu, h1c u (List.mem_of_getElem? hu), hp⟩)
        obtain ⟨k1, k2⟩ := hm.write hl hb hcb hsz2 (o' := .flat sz (rows.take lo ++ rs ++ rows.drop (lo + rs.length))) (plain_hown (by exact trivial)) (fun w' hle hnew => .inr ⟨b, _, e', hb, hnew, hfill.mono fun v p h => h.mono hle.st hle.same⟩)
        refine ⟨_, ?_, k1, k2⟩
        simp [Builtin.copy_, run_underlying hd.h, run_size hn, Builtin.lenOf, hmin, hf, hst]
/-- 'copy(d, s)' of owned slices (of one object, too); d may reach beyond the rows that are told -/
theorem op_copy {e : TypeId} {sz by_ id lo len id2 lo2 len2 n : Nat} {z : Value} {rows rows2 rs : List (List FV)} [hd : TyD P t (.slice e)] [hn : TyN P e sz by_ z] (ho : o.op = .call { callee := .builtin .copy, args := #[x, y], argTypes := #[t, t] })
    (hx : Opd G g x (.sl id sz lo len)) (hy : Opd G g y (.sl id2 sz lo2 len2)) (hl : hlook H id = some (.flat sz rows)) (hl2 : hlook H id2 = some (.flat sz rows2)) (hmin : Nat.min len2 len = n) (hrs : (rows2.drop lo2).take n = rs) (hlen : rs.length = n) (hlo : lo ≤ rows.length) :
    OpS P o g G H nx (IV .i64 n) ((id, some (.flat sz (rows.take lo ++ rs ++ rows.drop (lo + n)))) :: H) nx :=
  ⟨fun C S m a w hm hg ha K Q hK => by
    have h1 := hx.rep hg (by simp [ho, Op.operands, Call.operands]) ha
    have h2 := hy.rep hg (by simp [ho, Op.operands, Call.operands]) ha
    obtain ⟨ax, c, hv, hsrc⟩ := cells_own hm h2 hl2 (by rw [← hmin]; exact Nat.min_le_left _ _) hrs hlen
    subst hlen
    obtain ⟨w', r1, r2, r3⟩ := copy_core (P := P) (t := t) (t2 := t) (ty := o.type) hm h1 hl hsrc hmin hlo
    refine wp_value (w' := w') (v := goInt rs.length) ?_ (hK _ _ _ _ r2 r3 (.fz _ _ (.lit _)))
    simp [execOp, ho, resolve, invoke, builtin, hv, r1]⟩
/-- 'copy(d, fs)' of frozen rows -/
theorem op_copyF {e : TypeId} {sz by_ id lo len : Nat} {z : Value} {rows rs : List (List FV)} [hd : TyD P t (.slice e)] [hn : TyN P e sz by_ z] (ho : o.op = .call { callee := .builtin .copy, args := #[x, y], argTypes := #[t, t] })
    (hx : Opd G g x (.sl id sz lo len)) (hy : Opd G g y (.fz (.vals sz rs))) (hl : hlook H id = some (.flat sz rows)) (hfit : rs.length ≤ len) (hlo : lo ≤ rows.length) :
    OpS P o g G H nx (IV .i64 rs.length) ((id, some (.flat sz (rows.take lo ++ rs ++ rows.drop (lo + rs.length)))) :: H) nx :=
  ⟨fun C S m a w hm hg ha K Q hK => by
    have h1 := hx.rep hg (by simp [ho, Op.operands, Call.operands]) ha
    have h2 := (hy.rep hg (by simp [ho, Op.operands, Call.operands]) ha).frz
    have hsrc := src_fz h2
    obtain ⟨ax, c, hv⟩ : ∃ ax c, a.eval y = .slice ax rs.length c := by
      rcases hsrc with ⟨h, ax, c, he⟩ | ⟨b, off, c, _, he, _⟩
      · subst h; exact ⟨_, _, he⟩
      · exact ⟨_, _, he⟩
    rw [hv] at hsrc
    obtain ⟨w', r1, r2, r3⟩ := copy_core (P := P) (t := t) (t2 := t) (ty := o.type) hm h1 hl hsrc (Nat.min_eq_left hfit) hlo
    refine wp_value (w' := w') (v := goInt rs.length) ?_ (hK _ _ _ _ r2 r3 (.fz _ _ (.lit _)))
    simp [execOp, ho, resolve, invoke, builtin, hv, r1]⟩
end
end Go.RT
/- 'append(s[:n], make(S, k)..)' where it grows. -/
namespace Go.RT
open Go
set_option linter.all false
section
variable {P : Program} {o : Oper} {g : Bool} {G : Env} {x y : Operand} {t t' : TypeId} {H : Hp} {nx : Nat}
theorem run_append_zgrow {w : World} {t2 ty e : TypeId} {i : TypeInfo} {z : Value} {k : IntKind} (ht : P.underlying t = some (.slice e)) (ht2 : P.underlying t2 = some (.int k)) (hi : P.info? e = some i) (hz : i.zero = some z)
    (ao : Option Addr) (sLen sCap : Nat) (olds : List Value) (hlo : olds.length = sLen * i.size) (hold : (Builtin.firstCells i.size sLen (.slice ao sLen sCap)).run P w.drew = .ok olds.toArray w.drew) (n : Nat) (hn0 : n * i.size ≠ 0)
    (hg : sCap < sLen + n) (h63 : ((sLen + n : Nat) : Int) ≤ 4611686018427387904) (hb : n * i.bytes ≤ 281474976710656) (hfit : Builtin.nextslicecap (sLen + n) sCap * i.bytes ≤ 281474976710656) :
    (Builtin.append_ #[t, t2] ty #[.slice ao sLen sCap, .int .i64 n]).run P w =
      .ok (.slice (some ⟨w.heap.size, 0, none⟩) (sLen + n) (grownCap w (sLen + n) sCap e))
        (w.drew.alloc (.cells (olds.toArray ++ Builtin.zeroCells z.cells n ++ Builtin.zeroCells z.cells (grownCap w (sLen + n) sCap e - (sLen + n))) e)) := by
  have hn : ¬ (sLen + n ≤ sCap) := by omega
  have hwr : IntKind.i64.wrap (n : Int) = n := wrap_of (k := .i64) (by simp only [inr]; omega)
  have h63' : ¬ (9223372036854775807 < ((sLen : Int) + (n : Int))) := by omega
  have h48' : ¬ (281474976710656 < Builtin.nextslicecap (sLen + n) sCap * i.bytes) := by omega
  have q1 : ¬ ((n : Int) < 0) := by omega
  have q3 : ¬ ((281474976710656 : Int) < (n : Int) * (i.bytes : Int)) := by
    rw [← Int.natCast_mul]
    generalize n * i.bytes = q at hb
    omega
  simp [Builtin.append_, run_underlying ht, run_underlying ht2, sizeOf, typeInfo, zeroValue, hi, hz, Builtin.lenOf, asInt, asIntOf, hwr, q1, q3, hn, hn0, h63', h48', Question.forced, hold, newRow, grownCap]
/-- 'append(s[:n], make(S, k)..)' beyond the capacity: a fresh object; the old one stays -/
theorem op_append_zg {e : TypeId} {sz by_ id n k c : Nat} {kk : IntKind} {z : Value} {zs : List FV} {rows : List (List FV)} [hd : TyD P t (.slice e)] [hn : TyN P e sz by_ z] [hd2 : TyD P t' (.int kk)] (ho : o.op = .call { callee := .builtin .append, args := #[x, y], argTypes := #[t, t'] })
    (hx : Opd G g x (.wc c (.sl id sz 0 n))) (hy : Opd G g y (IV .i64 k)) (hl : hlook H id = some (.flat sz rows)) (hz : zeroFs z = zs) (hzl : Nat.beq zs.length sz = true) (hz1 : z.cells.toList.all (·.oneCell') = true) (h0 : Nat.blt 0 sz = true) (hnr : n ≤ rows.length) (hk : 0 < k) (hc : c < n + k) (hbd : (n + k) * by_ ≤ 140737488355328) (hmx : n + k ≤ 4611686018427387904) :
    OpS P o g G H nx (.sl nx sz 0 (n + k)) ((nx, some (.flat sz (rows.take n ++ List.replicate k zs))) :: H) (nx + 1) :=
  ⟨fun C S m a w hm hg ha K Q hK => by
    have h1 := hx.rep hg (by simp [ho, Op.operands, Call.operands]) ha
    have h2 := (hy.rep hg (by simp [ho, Op.operands, Call.operands]) ha).lit
    have h0 := blt_of h0
    have hzl := Nat.eq_of_beq_eq_true hzl
    subst hz
    have hzc : z.cells.size = sz := by rw [← hzl]; simp [zeroFs]
    generalize hv : a.eval x = v at h1
    cases h1 with
    | wc ad len' cap p h =>
      obtain ⟨ax, c', hv', hsrc⟩ := cells_own hm h hl (Nat.le_refl _) rfl (by simp; omega) (rs := rows.take n)
      cases hv'
      have hrl : (rows.take n).length = n := by simp; omega
      obtain ⟨olds, o1, o2, o3⟩ : ∃ olds : List Value, olds.length = n * sz ∧ (Builtin.firstCells sz n (.slice ad n c)).run P w.drew = .ok olds.toArray w.drew ∧ ∀ (i j : Nat) (r : List FV) (f : FV), (rows.take n)[i]? = some r → r[j]? = some f → ∃ u, olds[i * sz + j]? = some u ∧ u.oneCell' = true ∧ FRep w S u f := by
        rcases hsrc with ⟨he, _⟩ | ⟨b, off, c2, news, he, hsz, hnl, hnews, hR⟩
        · have hn0 : n = 0 := by rw [← hrl, he]; rfl
          subst hn0
          refine ⟨[], by simp, ?_, fun i j r f hi => by rw [he] at hi; simp at hi⟩
          cases ad <;> simp [Builtin.firstCells, loadCells, loadCellsFrom]
        · rw [hrl] at he hnl
          cases he
          refine ⟨news, hnl, run_firstCells_some (P := P) w.drew sz n _ n c news hnl (by simpa using fun j u h => (hnews j u h).1), fun i j r f hi hj => ?_⟩
          obtain ⟨u, hu, hf⟩ := hR i j r f hi hj
          exact ⟨u, hu, (hnews _ u hu).2, hf⟩
      obtain ⟨i, hi, i1, i2, i3⟩ := hn.h
      have hrun := run_append_zgrow (P := P) (ty := o.type) (t2 := t') hd.h hd2.h hi i3 ad n c olds (by rw [i1]; exact o1) (by rw [i1]; exact o2) k (by rw [i1]; exact Nat.mul_ne_zero (by omega) (by omega)) hc (by omega) (by rw [i2]; have := Nat.mul_le_mul_right by_ (show k ≤ n + k by omega); omega) (growslice_fits (by omega) (by rw [i2]; exact hbd))
      have hsize : (olds.toArray ++ Builtin.zeroCells z.cells k ++ Builtin.zeroCells z.cells (grownCap w (n + k) c e - (n + k))).size = grownCap w (n + k) c e * sz := by
        have hge := grownCap_ge w (n + k) c e
        simp only [Array.size_append, List.size_toArray, o1, size_zeroCells, hzc]
        rw [← Nat.add_mul, ← Nat.add_mul]; congr 1; omega
      have hge := grownCap_ge w (n + k) c e
      obtain ⟨zc1, zc2⟩ := zeroCells_get (cs := z.cells) (n := k)
      have hdrew : Le S m w S m w.drew := ⟨fun _ h => h, fun _ _ => rfl, fun _ _ h => h, fun _ _ h => h⟩
      have hrsz : ∀ r ∈ rows.take n, r.length = sz := fun r hr => by
        rcases hm.objs id _ hl with ⟨_, hr0⟩ | ⟨_, _, _, _, _, _, h4, _⟩
        · rw [hr0] at hr; simp at hr
        · exact h4 r (List.mem_of_mem_take hr)
      obtain ⟨k1, k2, k3⟩ := hm.drew.new (olds.toArray ++ Builtin.zeroCells z.cells k ++ Builtin.zeroCells z.cells (grownCap w (n + k) c e - (n + k))) e (.flat sz (rows.take n ++ List.replicate k (zeroFs z))) trivial (fun w' m' hle hnew hid => .inr ⟨_, _, _, hid, hnew, by
        have hall := hdrew.trans hle
        refine RowsRep.append hrsz (fun r hr => by rw [List.eq_of_mem_replicate hr]; exact hzl) (by rw [hsize, hrl, List.length_replicate]; exact Nat.mul_le_mul_right _ hge) (fun i j r p hi hj => ?_) (fun i j r p hi hj => ?_)
        · obtain ⟨u, hu, ho1, hp⟩ := o3 i j r p hi hj
          have hlt : i * sz + j < olds.length := (List.getElem?_eq_some_iff.1 hu).1
          refine ⟨u, ?_, ho1, hp.mono hall.st hall.same⟩
          rw [Array.append_assoc, Array.getElem?_append_left (by simpa using hlt)]; simpa using hu
        · rw [List.getElem?_replicate] at hi
          split at hi
          · rename_i hik
            cases hi
            have hj2 : j < sz := by rw [← hzl]; exact (List.getElem?_eq_some_iff.1 hj).1
            obtain ⟨u, hu, hone, hr⟩ := (zeroFs_rep hz1 w' S).2 j p hj
            have hq := zc2 i j hik (by rw [hzc]; exact hj2)
            rw [hzc] at hq zc1
            have hlt : i * sz + j < k * sz := by
              have := Nat.mul_le_mul_right sz (show i + 1 ≤ k by omega)
              rw [Nat.add_mul] at this; omega
            refine ⟨u, ?_, hone, hr⟩
            rw [Array.append_assoc, Array.getElem?_append_right (by simp [o1, hrl]), Array.getElem?_append_left (by simp only [List.size_toArray, o1, hrl, size_zeroCells, hzc]; omega)]
            simp only [List.size_toArray, o1, hrl, Nat.add_sub_cancel_left]
            rw [← Array.getElem?_toList, hq]; exact hu
          · cases hi⟩)
      have hrep := Rep.sl (w := w.drew.alloc (.cells (olds.toArray ++ Builtin.zeroCells z.cells k ++ Builtin.zeroCells z.cells (grownCap w (n + k) c e - (n + k))) e)) (S := S) (m := setM m nx (some w.drew.heap.size)) nx sz 0 (n + k) w.drew.heap.size (grownCap w (n + k) c e) (setM_self _ _ _) ⟨_, e, _, k3, by rw [hsize]; simp⟩ hge (by have := grownCap_le_maxLen w (n + k) c e (by unfold maxLen; omega); omega)
      refine wp_value (v := .slice (some ⟨w.heap.size, 0, none⟩) (n + k) (grownCap w (n + k) c e)) ?_ (hK _ _ S _ k1 (hdrew.trans k2) (by simpa using hrep))
      simp [execOp, ho, hv, h2, resolve, invoke, builtin, hrun]⟩
end
end Go.RT
/- slices.overlaps of two owned objects; an owned slice called by a new number. -/
namespace Go.RT
open Go
set_option linter.all false
class FnOv (P : Program) (f : FuncId) (t : outParam TypeId) : Prop where
  h : ∃ fn tR, P.funcs[f]? = some fn ∧ (fn.name == "runtime.NumGoroutine") = false ∧ fn.body.isNone = true ∧ Extern.findNext fn = none ∧ Extern.find fn = some (Extern.SlicesOverlaps.overlaps #[t, t] #[tR])
theorem run_overlaps_none {P : Program} (w : World) (tS tR e : TypeId) (ht : P.underlying tS = some (.slice e)) (size : Nat) (hz : ∀ w, (Go.sizeOf e).run P w = .ok size w) (oa ob : Option Addr) (la ca lb cb : Nat) (hn : oa = none ∨ ob = none) :
    (Extern.SlicesOverlaps.overlaps #[tS, tS] #[tR] #[.slice oa la ca, .slice ob lb cb]).run P w = .ok (.bool false) w := by
  change Sem.run P (α := Value) (do
    let some t := (#[tS, tS] : Array TypeId)[0]? | stuck "slices.overlaps: no parameter types"
    let .slice elem ← underlying t | stuck "slices.overlaps: slice type expected"
    let size ← sizeOf elem
    match oa, ob with
    | some a, some b =>
      if la = 0 ∨ lb = 0 ∨ size = 0 then pure (Value.bool false)
      else if a.block != b.block && (← frozen a) && (← frozen b) then unsupported .addressObserved
      else do
        if a.block != b.block then do
          noView a; noView b
          if ← mayBeOne a b then return Value.bool ((← choose (.extern "sameAddr.stringBytes" 2)) == 1)
        pure (Value.bool (a.block == b.block && a.off < b.off + lb * size && b.off < a.off + la * size))
    | _, _ => pure (Value.bool false)) w = _
  rcases hn with rfl | rfl
  · simp [run_underlying ht, hz]
  · cases oa <;> simp [run_underlying ht, hz]
section
variable {P : Program} {o : Oper} {g : Bool} {G : Env} {x y : Operand} {t t' : TypeId} {H : Hp} {nx : Nat}
theorem op_overlaps {f : FuncId} {ts : Array TypeId} {e : TypeId} {sz by_ id lo len id2 lo2 len2 : Nat} {z : Value} {rows rows2 : List (List FV)} [hf : FnOv P f t] [hd : TyD P t (.slice e)] [hn : TyN P e sz by_ z] (ho : o.op = .call { callee := .value (.func f), args := #[x, y], argTypes := ts })
    (hx : Opd G g x (.sl id sz lo len)) (hy : Opd G g y (.sl id2 sz lo2 len2)) (hl : hlook H id = some (.flat sz rows)) (hl2 : hlook H id2 = some (.flat sz rows2)) (hne : Nat.beq id id2 = false) (hr2 : 0 < rows2.length) (h0 : Nat.blt 0 sz = true) :
    OpL P o g G H [id, id2] (BV false) := fun H' nx' hag =>
  have hl := (hag id (by simp)).trans hl
  have hl2 := (hag id2 (by simp)).trans hl2
  .of fun C S m a w hm hg ha => by
    have h1 := hx.rep hg (by simp [ho, Op.operands, Call.operands]) ha
    have h2 := hy.rep hg (by simp [ho, Op.operands, Call.operands]) ha
    have h0 := blt_of h0
    obtain ⟨fn, tR, q1, q2, q3, q4, q5⟩ := hf.h
    refine ⟨.bool false, ?_, .fz _ _ (.lit _)⟩
    have hrun : ∀ u v, a.eval x = u → a.eval y = v → (Extern.SlicesOverlaps.overlaps #[t, t] #[tR] #[u, v]).run P w = .ok (.bool false) w → (execOp a.eval o).run P w = .ok (.value (.bool false)) w := fun u v hu hv hr => by
      have hc := run_callFunc_extern q1 q2 q3 q4 q5 #[u, v] w
      rw [hr] at hc
      have h3 : fn.body = none := by simpa using q3
      have h5 : ¬ (fn.name = "runtime.NumGoroutine") := by simpa using q2
      have hself : a.eval (.func f) = .func (.func f) #[] #[] := rfl
      simp only [execOp, ho, resolve, hself, Deferred.ofValue, invoke, Sem.run_bind, Sem.run_pure, Result.andThen_ok]
      simpa [hu, hv, Result.andThen] using hc
    generalize hu : a.eval x = u at h1
    generalize hv : a.eval y = v at h2
    refine hrun u v hu hv ?_
    have hsz := fun w => run_size (P := P) hn w
    cases h1 with
    | sl0 _ _ hid => cases h2 <;> exact run_overlaps_none w t tR e hd.h sz hsz _ _ _ _ _ _ (.inl rfl)
    | sl _ _ _ _ b cap hid hr hc hmx =>
      cases h2 with
      | sl0 _ _ hid2 => exact run_overlaps_none w t tR e hd.h sz hsz _ _ _ _ _ _ (.inr rfl)
      | sl _ _ _ _ b2 cap2 hid2 hr2' hc2 hmx2 =>
        rcases hm.objs id _ hl with ⟨k1, _⟩ | ⟨b', c, e', k1, k2, k3⟩
        · rw [hid] at k1; cases k1
        · rw [hid] at k1; cases k1
          rcases hm.objs id2 _ hl2 with ⟨k4, _⟩ | ⟨b'', c2, e2, k4, k5, k6⟩
          · rw [hid2] at k4; cases k4
          · rw [hid2] at k4; cases k4
            have hbne : b ≠ b2 := fun e => by
              subst e
              have := hm.inj _ _ _ _ _ hl hl2 hid hid2
              subst this; simp [Nat.beq_refl] at hne
            have hk : c2.size ≠ 0 := by
              have := Nat.le_trans (Nat.mul_le_mul_right sz (show 1 ≤ rows2.length from hr2)) k6.1
              omega
            exact Lib.run_overlaps_apart w t tR e hd.h sz hsz ⟨b, lo * sz, none⟩ ⟨b2, lo2 * sz, none⟩ len cap len2 cap2 hbne e' e2 c.size c2.size (by simp [World.shape?, k2]) (by simp [World.shape?, k5]) hk (by simp [World.frozen?, k2]) (by simp [World.frozen?, k2])
/-- an owned slice called by a new number -/
theorem Next.retag {C : Cx} {N : Nat} {K : Act → World → Prop} (tt : Nat) {id sz lo len : Nat} {rows : List (List FV)} (hl : look G tt = some (.sl id sz lo len)) (ho : hlook H id = some (.flat sz rows))
    (h : Next C N ((tt, .sl nx sz lo len) :: G) ((nx, some (.flat sz rows)) :: (id, none) :: H) (nx + 1) K) : Next C N G H nx K := by
  intro a w hR
  obtain ⟨S, m, hm, hsl⟩ := hR.mem
  obtain ⟨x, hx⟩ := (hm.objs id _ ho).known
  obtain ⟨k1, k2⟩ := hm.retag ho hx
  refine h a w ⟨hR.defers, hR.size, S, _, k1, fun t q hq => ?_⟩
  rw [look_cons] at hq
  by_cases h1 : tt = t
  · rw [if_pos h1] at hq; cases hq; subst h1
    obtain ⟨v, hv, hr⟩ := hsl tt _ hl
    refine ⟨v, hv, ?_⟩
    cases hr with
    | sl0 _ _ q => rw [q] at hx; cases hx; exact .sl0 _ _ (setM_self _ _ _)
    | sl _ _ _ _ b cap q hr hc hmx => rw [q] at hx; cases hx; exact .sl _ _ _ _ b cap (setM_self _ _ _) hr hc hmx
  · rw [if_neg h1] at hq; exact (hsl t q hq).mono k2
/-- 's[l:]' of a slice whose capacity is told; it may reach beyond the rows that are told -/
theorem op_slice_fromR {e : TypeId} {sz by_ id lo len l c : Nat} {z : Value} {ol : Operand} [hd : TyD P t (.slice e)] [hn : TyN P e sz by_ z] (ho : o.op = .slice t x (some ol) none none) (hx : Opd G g x (.wc c (.sl id sz lo len))) (hlo : Bnd G g (some ol) 0 l)
    (hh : g = true → l ≤ len ∧ l < c) : OpP P o g G (.sl id sz (lo + l) (len - l)) :=
  .of fun S m a w hg ha => by
    have h1 := hx.rep hg (by simp [ho, Op.operands]) ha
    have b1 := hlo.val (o := o) (a := a) (w := w) (S := S) (m := m) hg (fun x hx => by simp [ho, Op.operands, hx]) ha
    obtain ⟨q1, q2⟩ := hh hg
    generalize hv : a.eval x = v at h1
    cases h1 with
    | wc ad len' cap p h' =>
      cases h' with
      | sl0 _ _ hid => omega
      | sl _ _ _ _ b cap hid hr hc hmx =>
        have := run_slice (P := P) (t := t) (w := w) (a := some ⟨b, lo * sz, none⟩) (len := len) (cap := c) (lo := some (a.eval ol)) (hi := none) (l := l) (h := len) (by
          rcases b1 with ⟨c2, _⟩ | ⟨k, c2⟩
          · simp at c2
          · exact .inr ⟨k, by simpa using c2⟩) (.inl ⟨rfl, rfl⟩) q1 hc
        rw [if_neg (by omega), Option.map_some, Addr.add_lit, show lo * sz + l * sz = (lo + l) * sz by rw [Nat.add_mul]] at this
        refine ⟨_, by simp only [execOp, ho, hv, Option.map_none, Option.map_some, Sem.run_bind, this, Result.andThen_ok, Sem.run_pure], .sl _ _ _ _ b (c - l) hid (by rw [show lo + l + (c - l) = lo + c by omega]; exact hr) (by omega) (by omega)⟩
theorem Next.unwc {C : Cx} {N : Nat} {K : Act → World → Prop} (tt : Nat) {c : Nat} {p : PV} (hl : look G tt = some (.wc c p)) (h : Next C N ((tt, p) :: G) H nx K) : Next C N G H nx K := by
  intro a w hR
  obtain ⟨S, m, hm, hsl⟩ := hR.mem
  refine h a w ⟨hR.defers, hR.size, S, m, hm, fun t q hq => ?_⟩
  rw [look_cons] at hq
  by_cases ht : tt = t
  · rw [if_pos ht] at hq; cases hq; subst ht
    obtain ⟨v, hv, hr⟩ := hsl tt _ hl
    cases hr with
    | wc _ _ _ _ h' => exact ⟨_, hv, h'⟩
  · rw [if_neg ht] at hq; exact hsl t q hq
/-- the last rows of an owned object are no longer told -/
theorem Next.trim {C : Cx} {N : Nat} {K : Act → World → Prop} (id n : Nat) {sz : Nat} {rows : List (List FV)} (hl : hlook H id = some (.flat sz rows)) (h : Next C N G ((id, some (.flat sz (rows.take n))) :: H) nx K) : Next C N G H nx K := by
  intro a w hR
  obtain ⟨S, m, hm, hsl⟩ := hR.mem
  refine h a w ⟨hR.defers, hR.size, S, m, hm.retell hl (fun ho => ?_) (no_own (by exact trivial)), hsl⟩
  rcases ho with ⟨k1, k2⟩ | ⟨b, c, e, k1, k2, k3, k4, k5⟩
  · subst k2; exact .inl ⟨k1, by simp⟩
  · refine .inr ⟨b, c, e, k1, k2, Nat.le_trans (Nat.mul_le_mul_right _ (by simp; omega)) k3, fun r hr => k4 r (List.mem_of_mem_take hr), fun i j r p hi hj => ?_⟩
    rw [List.getElem?_take] at hi
    split at hi
    · exact k5 i j r p hi hj
    · cases hi
theorem rep_renumber {w : World} {S : Nat → Prop} {m : Ids} {v : Value} {a sz lo len : Nat} {x : Option Nat} (hr : Rep w S m v (.sl a sz lo len)) (hx : m a = some x) {n : Nat} {m' : Ids} (hn : m' n = some x) : Rep w S m' v (.sl n sz lo len) := by
  cases hr with
  | sl0 _ _ q => rw [q] at hx; cases hx; exact .sl0 _ _ hn
  | sl _ _ _ _ b cap q hr hc hmx => rw [q] at hx; cases hx; exact .sl _ _ _ _ b cap hn hr hc hmx
/-- an object, whose slice lies in a cell, called by a new number -/
theorem Next.retagCell {C : Cx} {N : Nat} {K : Act → World → Prop} (id row col : Nat) {s a sz lo len : Nat} {rows rows' : List (List PV)} {r : List PV} {orows : List (List FV)} (hl : hlook H id = some (.refs s rows)) (hrow : rows[row]? = some r) (hcol : r[col]? = some (.sl a sz lo len)) (ha : hlook H a = some (.flat sz orows))
    (hr : rows.set row (r.set col (.sl nx sz lo len)) = rows') (h : Next C N G ((id, some (.refs s rows')) :: (nx, some (.flat sz orows)) :: (a, none) :: H) (nx + 1) K) : Next C N G H nx K := by
  subst hr
  intro ac w hR
  obtain ⟨S, m, hm, hsl⟩ := hR.mem
  obtain ⟨x, hx⟩ := (hm.objs a _ ha).known
  obtain ⟨k1, kle⟩ := hm.retag ha hx
  have hidne : id ≠ nx := by obtain ⟨y, hy⟩ := (hm.objs id _ hl).known; have := hm.lt hy; omega
  have hida : id ≠ a := fun e => by subst e; rw [hl] at ha; cases ha
  have m2 := k1.retell (id := id) (o := .refs s rows) (o' := .refs s (rows.set row (r.set col (.sl nx sz lo len)))) (by rw [hlook_cons, if_neg (fun e => hidne e.symm), hlook_cons, if_neg (fun e => hida e.symm)]; exact hl) (fun ho => by
    rcases ho with ⟨k1, k2⟩ | ⟨b, c, e, k1, k2, k3⟩
    · subst k2; simp at hrow
    · refine .inr ⟨b, c, e, k1, k2, by simpa using k3.1, fun r' hr' => ?_, fun i j r' p hi hj => ?_⟩
      · rcases List.mem_or_eq_of_mem_set hr' with h1 | rfl
        · exact k3.2.1 r' h1
        · simpa using k3.2.1 r (List.mem_of_getElem? hrow)
      · rw [List.getElem?_set] at hi
        by_cases h1 : row = i
        · subst h1
          have hlt : row < rows.length := (List.getElem?_eq_some_iff.1 hrow).1
          simp only [if_true, hlt] at hi
          cases hi
          rw [List.getElem?_set] at hj
          by_cases h2 : col = j
          · subst h2
            have hlt2 : col < r.length := (List.getElem?_eq_some_iff.1 hcol).1
            simp only [if_true, hlt2] at hj
            cases hj
            obtain ⟨u, hu, ho1, hp⟩ := k3.2.2 row col r _ hrow hcol
            exact ⟨u, hu, ho1, rep_renumber hp (kle.ids _ _ hx) (setM_self _ _ _)⟩
          · rw [if_neg h2] at hj
            exact k3.2.2 row j r p hrow hj
        · rw [if_neg h1] at hi
          exact k3.2.2 i j r' p hi hj) (own_setCell (fun a b e => by cases e) hrow)
  exact h ac w ⟨hR.defers, hR.size, S, _, m2, fun t q hq => (hsl t q hq).mono kle⟩
theorem opdI {k : IntKind} {a b : Int} (h2 : Opd G g x (IV k a)) (h : a = b) : Opd G g x (IV k b) := h ▸ h2
end
end Go.RT
