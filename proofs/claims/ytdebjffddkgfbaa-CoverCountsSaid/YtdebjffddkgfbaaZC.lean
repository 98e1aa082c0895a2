/- A part of the proof: T8, T9, T10, T11, RT18, T12, T13, T14. -/
import Derived.Test.YtdebjffddkgfbaaZB
set_option linter.all false
namespace Go.Proofs.Ytdebjffddkgfbaa
open Go Go.RT Go.Proofs Go.Pl
set_option linter.all false
set_option maxRecDepth 20000
abbrev encS (s : Spn) : List FV := [If .u64 s.lo, If .u64 s.hi]
abbrev VS (l : List Spn) : FV := .vals 2 (l.map encS)
abbrev OP (l : List Pfx) : Option Ob := some (.flat 2 (l.map encP))
abbrev OS (l : List Spn) : Option Ob := some (.flat 2 (l.map encS))

theorem eraseIdx_take_succ {α : Type} (l : List α) (k i : Nat) (hi : i < l.length) : (l.take (i + 1)).eraseIdx k = if i = k then (l.take i).eraseIdx k else (l.take i).eraseIdx k ++ [l[i]] := by
  rw [List.take_succ_eq_append_getElem hi]
  have hlen : (l.take i).length = i := by simp; omega
  by_cases h : i = k
  · subst h
    rw [if_pos rfl, List.eraseIdx_append_of_length_le (by omega), hlen, Nat.sub_self]
    simp [List.eraseIdx_of_length_le, hlen]
  · rw [if_neg h]
    by_cases h2 : k < i
    · rw [List.eraseIdx_append_of_lt_length (by omega)]
    · rw [List.eraseIdx_append_of_length_le (by omega), hlen]
      rw [List.eraseIdx_of_length_le (l := [l[i]]) (by simp; omega), List.eraseIdx_of_length_le (by omega)]

structure MG where
  cur : List Spn
  out : List Spn
def MGok (l : List Spn) (g : MG) : Prop := Canon g.out ∧ (∀ o ∈ g.out, o.hi ≤ 2 ^ 32) ∧ okS g.cur ∧ (∀ x, (memS g.out x ∨ memS g.cur x) ↔ memS l x) ∧ (∀ o ∈ g.out, ∀ s ∈ g.cur, o.lo ≤ s.lo) ∧ g.cur.length + g.out.length ≤ l.length

theorem MGstep {l : List Spn} {g : MG} {b : Nat} (h : MGok l g) (hb : b < g.cur.length) (hm : ∀ j (hj : j < g.cur.length), g.cur[b].lo ≤ g.cur[j].lo) : MGok l ⟨g.cur.eraseIdx b, joinS g.out g.cur[b]⟩ := by
  obtain ⟨h1, h2, h3, h4, h5, h6⟩ := h
  have hs := h3 g.cur[b] (List.getElem_mem hb)
  obtain ⟨c1, c2, c3, c4⟩ := joinS_spec h1 hs.1 (fun o ho => h5 o ho _ (List.getElem_mem hb))
  have hmem : ∀ s, s ∈ g.cur ↔ s = g.cur[b] ∨ s ∈ g.cur.eraseIdx b := fun s => by
    constructor
    · intro hs
      obtain ⟨j, hj, rfl⟩ := List.getElem_of_mem hs
      by_cases hjb : j = b
      · subst hjb; exact .inl rfl
      · exact .inr (List.mem_eraseIdx_iff_getElem.2 ⟨j, hj, hjb, rfl⟩)
    · rintro (h | hs)
      · rw [h]; exact List.getElem_mem hb
      · exact List.mem_of_mem_eraseIdx hs
  refine ⟨c1, fun o ho => ?_, fun s hs => h3 s ((hmem s).2 (.inr hs)), fun x => ?_, fun o ho s hs => ?_, ?_⟩
  · have hlt := c1.1 o ho
    have : memS (joinS g.out g.cur[b]) (o.hi - 1) := ⟨o, ho, by omega, by omega⟩
    rcases (c2 _).1 this with ⟨q, hq, _, hh⟩ | hh
    · have := h2 q hq; omega
    · omega
  · rw [← h4, c2]
    constructor
    · rintro ((h | h) | ⟨s, hs, h⟩)
      · exact .inl h
      · exact .inr ⟨_, List.getElem_mem hb, h⟩
      · exact .inr ⟨s, (hmem s).2 (.inr hs), h⟩
    · rintro (h | ⟨s, hs, h⟩)
      · exact .inl (.inl h)
      · rcases (hmem s).1 hs with rfl | hs
        · exact .inl (.inr h)
        · exact .inr ⟨s, hs, h⟩
  · have hs' := (hmem s).2 (.inr hs)
    obtain ⟨j, hj, rfl⟩ := List.getElem_of_mem hs'
    exact Nat.le_trans (c3 o ho) (hm j hj)
  · simp only [List.length_eraseIdx, hb, if_true]
    omega
theorem min_at (l : List Spn) (h : l ≠ []) : ∃ b, ∃ hb : b < l.length, ∀ j (hj : j < l.length), l[b].lo ≤ l[j].lo := by
  induction l with
  | nil => exact absurd rfl h
  | cons s l ih =>
    by_cases hl : l = []
    · subst hl; exact ⟨0, by simp, fun j hj => by simp at hj; subst hj; exact Nat.le_refl _⟩
    · obtain ⟨b, hb, hm⟩ := ih hl
      by_cases hs : s.lo ≤ l[b].lo
      · refine ⟨0, by simp, fun j hj => ?_⟩
        cases j with
        | zero => exact Nat.le_refl _
        | succ j => have := hm j (by simp at hj; omega); simp; omega
      · refine ⟨b + 1, by simp; omega, fun j hj => ?_⟩
        cases j with
        | zero => simp; omega
        | succ j => have := hm j (by simp at hj; omega); simpa using this
theorem MGend {l : List Spn} : ∀ (n : Nat) (g : MG), g.cur.length = n → MGok l g → ∃ out, MGok l ⟨[], out⟩
  | 0, ⟨cur, out⟩, hn, h => by
    have : cur = [] := List.length_eq_zero_iff.1 hn
    subst this; exact ⟨out, h⟩
  | n + 1, g, hn, h => by
    obtain ⟨b, hb, hm⟩ := min_at g.cur (by intro e; rw [e] at hn; simp at hn)
    exact MGend n _ (by simp [List.length_eraseIdx, hb, hn]; omega) (MGstep h hb hm)
def MG0 {l : List Spn} (hl : okS l) : MGok l ⟨l, []⟩ := ⟨Canon.nil, by simp, hl, fun x => by simp [memS], by simp, by simp⟩

theorem rmerged_run (l : List Spn) (hl : okS l) (hn : l.length ≤ 1000000) (res : List Spn) (hres : ∀ g : MG, MGok l g → g.cur = [] → g.out = res) : Pure Try.prog 62 [VS l] (VS res) := by
  refine Meets.freeze (len := res.length) (by simp) ?_
  refine Meets.intro Try.func62 rfl (Nat.le_of_ble_eq_true rfl) fun C hC => ?_
  simp only [List.map, argEnv, Nat.reduceAdd]
  refine nK ?_
  refine s_reg rfl ?_
  first | refine Run.pure (dd := some 2) rfl rfl (op_assign rfl (Opd.const _)) ?_ | refine Run.pure (dd := some 2) rfl rfl (op_junk (.inr rfl)) ?_
  refine Run.nil (FinR.mk ?_)
  refine nK ?_
  refine s_reg rfl ?_
  first | refine Run.pure (dd := some 3) rfl rfl (op_assign rfl (Opd.const _)) ?_ | refine Run.pure (dd := some 3) rfl rfl (op_junk (.inr rfl)) ?_
  refine Run.nil (FinR.mk ?_)
  refine nK ?_
  refine Next.adopt 3 2 rfl ?_
  refine n_loop (ι := MG) (fun g => ([(0, .fz (VS g.cur)), (3, .sl 0 2 0 g.out.length)], [(0, OS g.out)], 1)) (MGok l) (fun g => g.cur.length) ⟨l, []⟩ (MG0 hl) ?_ ?_
  · refine Next.weakS [3] [] (by rfl) (by first | exact keeps0 hC _ | exact keepsN hC _ rfl) (by repeat (first | exact trivial | refine ⟨⟨_, rfl, .inl ⟨rfl, rfl⟩⟩, ?_⟩ | refine ⟨⟨_, rfl, .inl ⟨slEq rfl tN, rfl⟩⟩, ?_⟩ | refine ⟨⟨_, rfl, .inl ⟨ivEq tX, rfl⟩⟩, ?_⟩)) (by repeat (first | exact trivial | refine ⟨⟨rfl, rfl, rfl, tL⟩, ?_⟩ | refine ⟨⟨rfl, rfl, rfEq rfl tU, tL⟩, ?_⟩ | refine ⟨⟨rfl, rfl, flEq rfl (by first | (simp; done) | (simp; omega) | (simp [encP]; done) | simp [maxC, minC]), trivial⟩, ?_⟩)) rfl (rel_intro)
  · intro g hg K hK
    have ⟨hc1, hc2, hc3, hc4, hc5, hc6⟩ := hg
    refine nK ?_
    refine s_reg rfl ?_
    first | refine Run.pure (dd := some 12) rfl rfl (op_move rfl (Opd.tmp _ _ rfl)) ?_ | refine Run.pure (dd := some 12) rfl rfl (op_junk (.inl rfl)) ?_
    first | refine Run.pure (dd := some 13) rfl rfl (op_len_fz rfl (by first | exact Opd.tmp _ _ rfl | exact Opd.nil _ _ (Opd.tmp _ _ rfl)) (by first | exact List.length_map _ | rfl)) ?_ | refine Run.pure (dd := some 13) rfl rfl (op_len_sl rfl (Opd.tmp _ _ rfl)) ?_
    refine Run.pure (dd := some 14) rfl rfl (op_gtr rfl (Opd.tmp _ _ rfl) (Opd.const _)) ?_
    refine Run.nil (FinR.mk ?_)
    refine nK ?_
    refine n_cond _ rfl (fun hb => ?_) (fun hb => ?_)
    · have hpos : 0 < g.cur.length := by simp at hb; omega
      refine nK ?_
      refine s_reg rfl ?_
      first | refine Run.pure (dd := some 4) rfl rfl (op_assign rfl (Opd.const _)) ?_ | refine Run.pure (dd := some 4) rfl rfl (op_junk (.inr rfl)) ?_
      refine Run.nil (FinR.mk ?_)
      refine nK ?_
      refine s_reg rfl ?_
      first | refine Run.pure (dd := some 15) rfl rfl (op_move rfl (Opd.tmp _ _ rfl)) ?_ | refine Run.pure (dd := some 15) rfl rfl (op_junk (.inl rfl)) ?_
      first | refine Run.pure (dd := some 16) rfl rfl (op_len_fz rfl (by first | exact Opd.tmp _ _ rfl | exact Opd.nil _ _ (Opd.tmp _ _ rfl)) (by first | exact List.length_map _ | rfl)) ?_ | refine Run.pure (dd := some 16) rfl rfl (op_len_sl rfl (Opd.tmp _ _ rfl)) ?_
      first | refine Run.pure (dd := some 17) rfl rfl (op_move rfl (Opd.const _)) ?_ | refine Run.pure (dd := some 17) rfl rfl (op_junk (.inl rfl)) ?_
      refine Run.nil (FinR.mk ?_)
      refine nK ?_
      refine n_loop (ι := Nat × Nat) (fun i => ([(0, .fz (VS g.cur)), (3, .sl 0 2 0 g.out.length), (4, IV .i64 i.2), (15, .fz (VS g.cur)), (16, IV .i64 g.cur.length), (17, IV .i64 i.1)], [(0, OS g.out)], 1)) (fun i => i.1 ≤ g.cur.length ∧ ∃ h : i.2 < g.cur.length, ∀ j (hj : j < i.1) (hj2 : j < g.cur.length), g.cur[i.2].lo ≤ g.cur[j].lo) (fun i => g.cur.length - i.1) (0, 0) ⟨Nat.zero_le _, hpos, fun j hj => by omega⟩ ?_ ?_
      · refine Next.weakS [3] [] (by rfl) (by first | exact keeps0 hC _ | exact keepsN hC _ rfl) (by repeat (first | exact trivial | refine ⟨⟨_, rfl, .inl ⟨rfl, rfl⟩⟩, ?_⟩ | refine ⟨⟨_, rfl, .inl ⟨slEq rfl tN, rfl⟩⟩, ?_⟩ | refine ⟨⟨_, rfl, .inl ⟨ivEq tX, rfl⟩⟩, ?_⟩)) (by repeat (first | exact trivial | refine ⟨⟨rfl, rfl, rfl, tL⟩, ?_⟩ | refine ⟨⟨rfl, rfl, rfEq rfl tU, tL⟩, ?_⟩ | refine ⟨⟨rfl, rfl, flEq rfl (by first | (simp; done) | (simp; omega) | (simp [encP]; done) | simp [maxC, minC]), trivial⟩, ?_⟩)) rfl (rel_intro)
      · intro ⟨i, best⟩ ⟨hi, hbs, hmin⟩ K1 hK1
        refine nK ?_
        refine s_reg rfl ?_
        refine Run.pure (dd := some 18) rfl rfl (op_lss rfl (Opd.tmp _ _ rfl) (Opd.tmp _ _ rfl)) ?_
        refine Run.nil (FinR.mk ?_)
        refine nK ?_
        refine n_cond _ rfl (fun hb => ?_) (fun hb => ?_)
        · have hlt : i < g.cur.length := by simp at hb; omega
          have hr1 := row_at encS g.cur i hlt
          have hr2 := row_at encS g.cur best hbs
          refine nK ?_
          refine s_reg rfl ?_
          first | refine Run.pure (dd := some 19) rfl rfl (op_move rfl (Opd.tmp _ _ rfl)) ?_ | refine Run.pure (dd := some 19) rfl rfl (op_junk (.inl rfl)) ?_
          first | refine Run.pure (dd := some 20) rfl rfl (op_idx_sl0 _ rfl (Opd.tmp _ _ rfl) (Opd.tmp _ _ rfl) tD) ?_ | refine Run.pure (dd := some 20) rfl rfl (op_idx_fz _ rfl (Opd.tmp _ _ rfl) (Opd.tmp _ _ rfl) tF) ?_
          first | refine Run.load (dd := some 21) rfl rfl (op_loadw_flat rfl (Opd.tmp _ _ rfl) tH rfl) ?_ | refine Run.pure (dd := some 21) rfl rfl (op_loadw_fz rfl (Opd.tmp _ _ rfl) rfl) ?_ | refine Run.load (dd := some 21) rfl rfl (op_loadn_flat rfl (Opd.tmp _ _ rfl) tH tR tR) ?_ | refine Run.pure (dd := some 21) rfl rfl (op_loadn_fz rfl (Opd.tmp _ _ rfl) tR) ?_ | refine Run.load (dd := some 21) rfl rfl (op_loadn_refs rfl (Opd.tmp _ _ rfl) tH tR tR) ?_
          refine Run.eff (dd := some 6) rfl rfl (op_alloc rfl rfl rfl rfl) ?_
          first | refine Run.pure (dd := some 5) rfl rfl (op_assign rfl (Opd.tmp _ _ rfl)) ?_ | refine Run.pure (dd := some 5) rfl rfl (op_junk (.inr rfl)) ?_
          first | refine Run.eff (dd := none) rfl rfl (op_store_flat rfl (Opd.tmp _ _ rfl) (Opd.tmp _ _ rfl) tC rfl rfl (by first | rfl | assumption) tS) ?_ | refine Run.eff (dd := none) rfl rfl (op_store_refs rfl (Opd.tmp _ _ rfl) (Opd.tmp _ _ rfl) tP rfl rfl rfl tS) ?_
          refine Run.nil (FinR.mk ?_)
          refine nK ?_
          refine s_draw mixed ?_
          first | refine Run.pure (dd := some 22) rfl rfl (op_fld_ptr (by decide) rfl (Opd.tmp _ _ rfl)) ?_ | refine Run.pure (dd := some 22) rfl rfl (op_fld_fz (by decide) rfl (Opd.tmp _ _ rfl) tR) ?_
          first | refine Run.load (dd := some 23) rfl rfl (op_load1_flat rfl (Opd.tmp _ _ rfl) tH rfl) ?_ | refine Run.pure (dd := some 23) rfl rfl (op_load1_fz rfl (Opd.tmp _ _ rfl) rfl) ?_ | refine Run.load (dd := some 23) rfl rfl (op_load1_refs rfl (Opd.tmp _ _ rfl) tH rfl) ?_
          first | refine Run.pure (dd := some 24) rfl rfl (op_move rfl (Opd.tmp _ _ rfl)) ?_ | refine Run.pure (dd := some 24) rfl rfl (op_junk (.inl rfl)) ?_
          first | refine Run.pure (dd := some 25) rfl rfl (op_move rfl (Opd.tmp _ _ rfl)) ?_ | refine Run.pure (dd := some 25) rfl rfl (op_junk (.inl rfl)) ?_
          first | refine Run.pure (dd := some 26) rfl rfl (op_idx_sl0 _ rfl (Opd.tmp _ _ rfl) (Opd.tmp _ _ rfl) tD) ?_ | refine Run.pure (dd := some 26) rfl rfl (op_idx_fz _ rfl (Opd.tmp _ _ rfl) (Opd.tmp _ _ rfl) tF) ?_
          first | refine Run.pure (dd := some 27) rfl rfl (op_fld_ptr (by decide) rfl (Opd.tmp _ _ rfl)) ?_ | refine Run.pure (dd := some 27) rfl rfl (op_fld_fz (by decide) rfl (Opd.tmp _ _ rfl) tR) ?_
          first | refine Run.load (dd := some 28) rfl rfl (op_load1_flat rfl (Opd.tmp _ _ rfl) tH rfl) ?_ | refine Run.pure (dd := some 28) rfl rfl (op_load1_fz rfl (Opd.tmp _ _ rfl) rfl) ?_ | refine Run.load (dd := some 28) rfl rfl (op_load1_refs rfl (Opd.tmp _ _ rfl) tH rfl) ?_
          refine Run.pure (dd := some 29) rfl rfl (op_lss rfl (Opd.tmp _ _ rfl) (Opd.tmp _ _ rfl)) ?_
          refine Run.nil (FinD.mk (by kernel_rfl) ?_)
          refine nK ?_
          refine n_cond _ rfl (fun hb => ?_) (fun hb => ?_)
          · have hlo : g.cur[i].lo < g.cur[best].lo := by simpa using hb
            refine nK ?_
            refine s_reg rfl ?_
            first | refine Run.pure (dd := some 30) rfl rfl (op_move rfl (Opd.tmp _ _ rfl)) ?_ | refine Run.pure (dd := some 30) rfl rfl (op_junk (.inl rfl)) ?_
            first | refine Run.pure (dd := some 4) rfl rfl (op_assign rfl (Opd.tmp _ _ rfl)) ?_ | refine Run.pure (dd := some 4) rfl rfl (op_junk (.inr rfl)) ?_
            refine Run.nil (FinR.mk ?_)
            refine nK ?_
            refine s_reg rfl ?_
            refine Run.pure (dd := some 31) rfl rfl (op_add rfl (Opd.tmp _ _ rfl) (Opd.const _) tI) ?_
            first | refine Run.pure (dd := some 17) rfl rfl (op_move rfl (Opd.tmp _ _ rfl)) ?_ | refine Run.pure (dd := some 17) rfl rfl (op_junk (.inl rfl)) ?_
            refine Run.nil (FinR.mk ?_)
            refine nK ?_
            have hm2 : ∀ j (hj : j < i + 1) (hj2 : j < g.cur.length), g.cur[i].lo ≤ g.cur[j].lo := fun j hj hj2 => by
              rcases Nat.lt_succ_iff_lt_or_eq.1 hj with h | h
              · have := hmin j h hj2; simp only at this; omega
              · subst h; exact Nat.le_refl _
            refine Next.weakS [3] [] (by rfl) (by first | exact keeps0 hC _ | exact keepsN hC _ rfl) (by repeat (first | exact trivial | refine ⟨⟨_, rfl, .inl ⟨rfl, rfl⟩⟩, ?_⟩ | refine ⟨⟨_, rfl, .inl ⟨slEq rfl tN, rfl⟩⟩, ?_⟩ | refine ⟨⟨_, rfl, .inl ⟨ivEq tX, rfl⟩⟩, ?_⟩)) (by repeat (first | exact trivial | refine ⟨⟨rfl, rfl, rfl, tL⟩, ?_⟩ | refine ⟨⟨rfl, rfl, rfEq rfl tU, tL⟩, ?_⟩ | refine ⟨⟨rfl, rfl, flEq rfl (by first | (simp; done) | (simp; omega) | (simp [encP]; done) | simp [maxC, minC]), trivial⟩, ?_⟩)) rfl (hK1 (i + 1, i) ⟨by omega, hlt, hm2⟩ (by simp; omega))
          · have hlo : ¬ g.cur[i].lo < g.cur[best].lo := by simpa using hb
            refine nK ?_
            refine s_reg rfl ?_
            refine Run.pure (dd := some 31) rfl rfl (op_add rfl (Opd.tmp _ _ rfl) (Opd.const _) tI) ?_
            first | refine Run.pure (dd := some 17) rfl rfl (op_move rfl (Opd.tmp _ _ rfl)) ?_ | refine Run.pure (dd := some 17) rfl rfl (op_junk (.inl rfl)) ?_
            refine Run.nil (FinR.mk ?_)
            refine nK ?_
            have hm2 : ∀ j (hj : j < i + 1) (hj2 : j < g.cur.length), g.cur[best].lo ≤ g.cur[j].lo := fun j hj hj2 => by
              rcases Nat.lt_succ_iff_lt_or_eq.1 hj with h | h
              · exact hmin j h hj2
              · subst h; omega
            refine Next.weakS [3] [] (by rfl) (by first | exact keeps0 hC _ | exact keepsN hC _ rfl) (by repeat (first | exact trivial | refine ⟨⟨_, rfl, .inl ⟨rfl, rfl⟩⟩, ?_⟩ | refine ⟨⟨_, rfl, .inl ⟨slEq rfl tN, rfl⟩⟩, ?_⟩ | refine ⟨⟨_, rfl, .inl ⟨ivEq tX, rfl⟩⟩, ?_⟩)) (by repeat (first | exact trivial | refine ⟨⟨rfl, rfl, rfl, tL⟩, ?_⟩ | refine ⟨⟨rfl, rfl, rfEq rfl tU, tL⟩, ?_⟩ | refine ⟨⟨rfl, rfl, flEq rfl (by first | (simp; done) | (simp; omega) | (simp [encP]; done) | simp [maxC, minC]), trivial⟩, ?_⟩)) rfl (hK1 (i + 1, best) ⟨by omega, hbs, hm2⟩ (by simp; omega))
        · have hie : i = g.cur.length := by simp at hb; omega
          subst hie
          have hmin' : ∀ j (hj : j < g.cur.length), g.cur[best].lo ≤ g.cur[j].lo := fun j hj => hmin j hj hj
          have hok := MGstep hg hbs hmin'
          have hr2 := row_at encS g.cur best hbs
          refine nK ?_
          refine s_reg rfl ?_
          first | refine Run.pure (dd := some 32) rfl rfl (op_move rfl (Opd.tmp _ _ rfl)) ?_ | refine Run.pure (dd := some 32) rfl rfl (op_junk (.inl rfl)) ?_
          first | refine Run.pure (dd := some 33) rfl rfl (op_move rfl (Opd.tmp _ _ rfl)) ?_ | refine Run.pure (dd := some 33) rfl rfl (op_junk (.inl rfl)) ?_
          first | refine Run.pure (dd := some 34) rfl rfl (op_idx_sl0 _ rfl (Opd.tmp _ _ rfl) (Opd.tmp _ _ rfl) tD) ?_ | refine Run.pure (dd := some 34) rfl rfl (op_idx_fz _ rfl (Opd.tmp _ _ rfl) (Opd.tmp _ _ rfl) tF) ?_
          first | refine Run.load (dd := some 35) rfl rfl (op_loadw_flat rfl (Opd.tmp _ _ rfl) tH rfl) ?_ | refine Run.pure (dd := some 35) rfl rfl (op_loadw_fz rfl (Opd.tmp _ _ rfl) rfl) ?_ | refine Run.load (dd := some 35) rfl rfl (op_loadn_flat rfl (Opd.tmp _ _ rfl) tH tR tR) ?_ | refine Run.pure (dd := some 35) rfl rfl (op_loadn_fz rfl (Opd.tmp _ _ rfl) tR) ?_ | refine Run.load (dd := some 35) rfl rfl (op_loadn_refs rfl (Opd.tmp _ _ rfl) tH tR tR) ?_
          refine Run.eff (dd := some 7) rfl rfl (op_alloc rfl rfl rfl rfl) ?_
          first | refine Run.eff (dd := none) rfl rfl (op_store_flat rfl (Opd.tmp _ _ rfl) (Opd.tmp _ _ rfl) tC rfl rfl (by first | rfl | assumption) tS) ?_ | refine Run.eff (dd := none) rfl rfl (op_store_refs rfl (Opd.tmp _ _ rfl) (Opd.tmp _ _ rfl) tP rfl rfl rfl tS) ?_
          refine Run.nil (FinR.mk ?_)
          refine nK ?_
          refine s_reg rfl ?_
          first | refine Run.pure (dd := some 8) rfl rfl (op_assign rfl (Opd.const _)) ?_ | refine Run.pure (dd := some 8) rfl rfl (op_junk (.inr rfl)) ?_
          refine Run.nil (FinR.mk ?_)
          refine nK ?_
          refine s_reg rfl ?_
          first | refine Run.pure (dd := some 36) rfl rfl (op_move rfl (Opd.tmp _ _ rfl)) ?_ | refine Run.pure (dd := some 36) rfl rfl (op_junk (.inl rfl)) ?_
          first | refine Run.pure (dd := some 37) rfl rfl (op_len_fz rfl (by first | exact Opd.tmp _ _ rfl | exact Opd.nil _ _ (Opd.tmp _ _ rfl)) (by first | exact List.length_map _ | rfl)) ?_ | refine Run.pure (dd := some 37) rfl rfl (op_len_sl rfl (Opd.tmp _ _ rfl)) ?_
          first | refine Run.pure (dd := some 38) rfl rfl (op_move rfl (Opd.const _)) ?_ | refine Run.pure (dd := some 38) rfl rfl (op_junk (.inl rfl)) ?_
          refine Run.nil (FinR.mk ?_)
          refine nK ?_
          refine Next.adopt 8 2 rfl ?_
          refine n_loop (ι := Nat) (fun i => ([(0, .fz (VS g.cur)), (3, .sl 0 2 0 g.out.length), (4, IV .i64 best), (7, .ptr 1 2 0 0), (8, .sl 2 2 0 ((g.cur.take i).eraseIdx best).length), (36, .fz (VS g.cur)), (37, IV .i64 g.cur.length), (38, IV .i64 i)], [(0, OS g.out), (1, some (.flat 2 [encS g.cur[best]])), (2, OS ((g.cur.take i).eraseIdx best))], 3)) (fun i => i ≤ g.cur.length) (fun i => g.cur.length - i) 0 (Nat.zero_le _) ?_ ?_
          · refine Next.weakS [3, 7, 8] [] (by rfl) (by first | exact keeps0 hC _ | exact keepsN hC _ rfl) (by repeat (first | exact trivial | refine ⟨⟨_, rfl, .inl ⟨rfl, rfl⟩⟩, ?_⟩ | refine ⟨⟨_, rfl, .inl ⟨slEq rfl tN, rfl⟩⟩, ?_⟩ | refine ⟨⟨_, rfl, .inl ⟨ivEq tX, rfl⟩⟩, ?_⟩)) (by repeat (first | exact trivial | refine ⟨⟨rfl, rfl, rfl, tL⟩, ?_⟩ | refine ⟨⟨rfl, rfl, rfEq rfl tU, tL⟩, ?_⟩ | refine ⟨⟨rfl, rfl, flEq rfl (by first | (simp; done) | (simp; omega) | (simp [encP]; done) | simp [maxC, minC]), trivial⟩, ?_⟩)) rfl (rel_intro)
          · intro i hi K2 hK2
            refine nK ?_
            refine s_reg rfl ?_
            refine Run.pure (dd := some 39) rfl rfl (op_lss rfl (Opd.tmp _ _ rfl) (Opd.tmp _ _ rfl)) ?_
            refine Run.nil (FinR.mk ?_)
            refine nK ?_
            refine n_cond _ rfl (fun hb => ?_) (fun hb => ?_)
            · have hlt : i < g.cur.length := by simp at hb; omega
              have hr1 := row_at encS g.cur i hlt
              have hes := eraseIdx_take_succ g.cur best i hlt
              have hle : ((g.cur.take i).eraseIdx best).length ≤ 1000000 := by have := List.length_eraseIdx_le (g.cur.take i) best; simp at this; omega
              refine nK ?_
              refine s_reg rfl ?_
              first | refine Run.pure (dd := some 40) rfl rfl (op_move rfl (Opd.tmp _ _ rfl)) ?_ | refine Run.pure (dd := some 40) rfl rfl (op_junk (.inl rfl)) ?_
              first | refine Run.pure (dd := some 41) rfl rfl (op_idx_sl0 _ rfl (Opd.tmp _ _ rfl) (Opd.tmp _ _ rfl) tD) ?_ | refine Run.pure (dd := some 41) rfl rfl (op_idx_fz _ rfl (Opd.tmp _ _ rfl) (Opd.tmp _ _ rfl) tF) ?_
              first | refine Run.load (dd := some 42) rfl rfl (op_loadw_flat rfl (Opd.tmp _ _ rfl) tH rfl) ?_ | refine Run.pure (dd := some 42) rfl rfl (op_loadw_fz rfl (Opd.tmp _ _ rfl) rfl) ?_ | refine Run.load (dd := some 42) rfl rfl (op_loadn_flat rfl (Opd.tmp _ _ rfl) tH tR tR) ?_ | refine Run.pure (dd := some 42) rfl rfl (op_loadn_fz rfl (Opd.tmp _ _ rfl) tR) ?_ | refine Run.load (dd := some 42) rfl rfl (op_loadn_refs rfl (Opd.tmp _ _ rfl) tH tR tR) ?_
              refine Run.eff (dd := some 10) rfl rfl (op_alloc rfl rfl rfl rfl) ?_
              first | refine Run.pure (dd := some 9) rfl rfl (op_assign rfl (Opd.tmp _ _ rfl)) ?_ | refine Run.pure (dd := some 9) rfl rfl (op_junk (.inr rfl)) ?_
              first | refine Run.eff (dd := none) rfl rfl (op_store_flat rfl (Opd.tmp _ _ rfl) (Opd.tmp _ _ rfl) tC rfl rfl (by first | rfl | assumption) tS) ?_ | refine Run.eff (dd := none) rfl rfl (op_store_refs rfl (Opd.tmp _ _ rfl) (Opd.tmp _ _ rfl) tP rfl rfl rfl tS) ?_
              refine Run.nil (FinR.mk ?_)
              refine nK ?_
              refine s_reg rfl ?_
              first | refine Run.pure (dd := some 43) rfl rfl (op_move rfl (Opd.tmp _ _ rfl)) ?_ | refine Run.pure (dd := some 43) rfl rfl (op_junk (.inl rfl)) ?_
              first | refine Run.pure (dd := some 44) rfl rfl (op_move rfl (Opd.tmp _ _ rfl)) ?_ | refine Run.pure (dd := some 44) rfl rfl (op_junk (.inl rfl)) ?_
              refine Run.pure (dd := some 45) rfl rfl (op_neq rfl (Opd.tmp _ _ rfl) (Opd.tmp _ _ rfl)) ?_
              refine Run.nil (FinR.mk ?_)
              refine nK ?_
              refine n_cond _ rfl (fun hb => ?_) (fun hb => ?_)
              · have hne : i ≠ best := by simp at hb; omega
                rw [if_neg hne] at hes
                refine nK ?_
                refine s_reg rfl ?_
                first | refine Run.pure (dd := some 46) rfl rfl (op_move rfl (Opd.tmp _ _ rfl)) ?_ | refine Run.pure (dd := some 46) rfl rfl (op_junk (.inl rfl)) ?_
                first | refine Run.load (dd := some 47) rfl rfl (op_loadw_flat rfl (Opd.tmp _ _ rfl) tH rfl) ?_ | refine Run.pure (dd := some 47) rfl rfl (op_loadw_fz rfl (Opd.tmp _ _ rfl) rfl) ?_ | refine Run.load (dd := some 47) rfl rfl (op_loadn_flat rfl (Opd.tmp _ _ rfl) tH tR tR) ?_ | refine Run.pure (dd := some 47) rfl rfl (op_loadn_fz rfl (Opd.tmp _ _ rfl) tR) ?_ | refine Run.load (dd := some 47) rfl rfl (op_loadn_refs rfl (Opd.tmp _ _ rfl) tH tR tR) ?_
                refine Run.pure (dd := some 48) rfl rfl (op_buildSlice_fz rfl (RowsF.cons _ _ _ _ _ _ (Opd.tmp _ _ rfl) tC (by rfl) (RowsF.nil _)) rfl rfl) ?_
                first | refine Run.eff (dd := some 49) rfl rfl (op_append_own0 rfl (Opd.tmp _ _ rfl) (Opd.tmp _ _ rfl) rfl (by first | rfl | simp) rfl (by first | rfl | simp) rfl rfl tB tB) ?_ | refine Run.eff (dd := some 49) rfl rfl (op_append rfl (Opd.tmp _ _ rfl) (by first | exact Opd.tmp _ _ rfl | exact Opd.nil _ _ (Opd.tmp _ _ rfl)) rfl (by first | rfl | simp) rfl rfl tB tB) ?_
                first | refine Run.pure (dd := some 8) rfl rfl (op_assign rfl (Opd.tmp _ _ rfl)) ?_ | refine Run.pure (dd := some 8) rfl rfl (op_junk (.inr rfl)) ?_
                refine Run.nil (FinR.mk ?_)
                refine nK ?_
                refine s_reg rfl ?_
                refine Run.pure (dd := some 50) rfl rfl (op_add rfl (Opd.tmp _ _ rfl) (Opd.const _) tI) ?_
                first | refine Run.pure (dd := some 38) rfl rfl (op_move rfl (Opd.tmp _ _ rfl)) ?_ | refine Run.pure (dd := some 38) rfl rfl (op_junk (.inl rfl)) ?_
                refine Run.nil (FinR.mk ?_)
                refine nK ?_
                have h2 := hK2 (i + 1) (by omega) (by omega)
                rw [hes] at h2
                refine Next.weakS [3, 7, 8] [] (by rfl) (by first | exact keeps0 hC _ | exact keepsN hC _ rfl) (by repeat (first | exact trivial | refine ⟨⟨_, rfl, .inl ⟨rfl, rfl⟩⟩, ?_⟩ | refine ⟨⟨_, rfl, .inl ⟨slEq rfl tN, rfl⟩⟩, ?_⟩ | refine ⟨⟨_, rfl, .inl ⟨ivEq tX, rfl⟩⟩, ?_⟩)) (by repeat (first | exact trivial | refine ⟨⟨rfl, rfl, rfl, tL⟩, ?_⟩ | refine ⟨⟨rfl, rfl, rfEq rfl tU, tL⟩, ?_⟩ | refine ⟨⟨rfl, rfl, flEq rfl (by first | (simp; done) | (simp; omega) | (simp [encP]; done) | simp [maxC, minC]), trivial⟩, ?_⟩)) rfl (h2)
              · have hne : i = best := by simp at hb; omega
                rw [if_pos hne] at hes
                refine nK ?_
                refine s_reg rfl ?_
                refine Run.pure (dd := some 50) rfl rfl (op_add rfl (Opd.tmp _ _ rfl) (Opd.const _) tI) ?_
                first | refine Run.pure (dd := some 38) rfl rfl (op_move rfl (Opd.tmp _ _ rfl)) ?_ | refine Run.pure (dd := some 38) rfl rfl (op_junk (.inl rfl)) ?_
                refine Run.nil (FinR.mk ?_)
                refine nK ?_
                have h2 := hK2 (i + 1) (by omega) (by omega)
                rw [hes] at h2
                refine Next.weakS [3, 7, 8] [] (by rfl) (by first | exact keeps0 hC _ | exact keepsN hC _ rfl) (by repeat (first | exact trivial | refine ⟨⟨_, rfl, .inl ⟨rfl, rfl⟩⟩, ?_⟩ | refine ⟨⟨_, rfl, .inl ⟨slEq rfl tN, rfl⟩⟩, ?_⟩ | refine ⟨⟨_, rfl, .inl ⟨ivEq tX, rfl⟩⟩, ?_⟩)) (by repeat (first | exact trivial | refine ⟨⟨rfl, rfl, rfl, tL⟩, ?_⟩ | refine ⟨⟨rfl, rfl, rfEq rfl tU, tL⟩, ?_⟩ | refine ⟨⟨rfl, rfl, flEq rfl (by first | (simp; done) | (simp; omega) | (simp [encP]; done) | simp [maxC, minC]), trivial⟩, ?_⟩)) rfl (h2)
            · have hie : i = g.cur.length := by simp at hb; omega
              subst hie
              rw [List.take_length]
              refine nK ?_
              refine s_reg rfl ?_
              first | refine Run.pure (dd := some 51) rfl rfl (op_move rfl (Opd.tmp _ _ rfl)) ?_ | refine Run.pure (dd := some 51) rfl rfl (op_junk (.inl rfl)) ?_
              first | refine Run.pure (dd := some 0) rfl rfl (op_assign rfl (Opd.tmp _ _ rfl)) ?_ | refine Run.pure (dd := some 0) rfl rfl (op_junk (.inr rfl)) ?_
              refine Run.nil (FinR.mk ?_)
              refine nK ?_
              refine s_reg rfl ?_
              first | refine Run.pure (dd := some 52) rfl rfl (op_move rfl (Opd.tmp _ _ rfl)) ?_ | refine Run.pure (dd := some 52) rfl rfl (op_junk (.inl rfl)) ?_
              first | refine Run.pure (dd := some 53) rfl rfl (op_len_fz rfl (by first | exact Opd.tmp _ _ rfl | exact Opd.nil _ _ (Opd.tmp _ _ rfl)) (by first | exact List.length_map _ | rfl)) ?_ | refine Run.pure (dd := some 53) rfl rfl (op_len_sl rfl (Opd.tmp _ _ rfl)) ?_
              first | refine Run.pure (dd := some 11) rfl rfl (op_assign rfl (Opd.tmp _ _ rfl)) ?_ | refine Run.pure (dd := some 11) rfl rfl (op_junk (.inr rfl)) ?_
              refine Run.nil (FinR.mk ?_)
              refine nK ?_
              have hs := hc3 g.cur[best] (List.getElem_mem hbs)
              have hel : (g.cur.eraseIdx best).length < g.cur.length := by simp [List.length_eraseIdx, hbs]; omega
              have hK3 := hK _ hok hel
              rcases snoc_or g.out with ho | ⟨r, o, ho⟩
              · rw [ho] at hK3 ⊢
                rw [show joinS [] g.cur[best] = [g.cur[best]] by simp [joinS, hs.1]] at hK3
                refine s_draw mixed ?_
                first | refine Run.pure (dd := some 54) rfl rfl (op_move rfl (Opd.tmp _ _ rfl)) ?_ | refine Run.pure (dd := some 54) rfl rfl (op_junk (.inl rfl)) ?_
                refine Run.pure (dd := some 55) rfl rfl (op_gtr rfl (Opd.tmp _ _ rfl) (Opd.const _)) ?_
                first | refine Run.pure (dd := some 56) rfl rfl (op_move rfl (Opd.tmp _ _ rfl)) ?_ | refine Run.pure (dd := some 56) rfl rfl (op_junk (.inl rfl)) ?_
                first | refine Run.pureG (dd := some 57) rfl rfl rfl tG (op_fld_ptr (by decide) rfl (Opd.tmp _ _ rfl)) ?_ | refine Run.pureG (dd := some 57) rfl rfl rfl tG (op_fld_fz (by decide) rfl (Opd.tmp _ _ rfl) tR) ?_
                first | refine Run.loadG (dd := some 58) rfl rfl rfl tG (op_load1_flat rfl (Opd.topt _ _ _ rfl tO) tH rfl) ?_ | refine Run.pureG (dd := some 58) rfl rfl rfl tG (op_load1_fz rfl (Opd.topt _ _ _ rfl tO) rfl) ?_ | refine Run.loadG (dd := some 58) rfl rfl rfl tG (op_load1_refs rfl (Opd.topt _ _ _ rfl tO) tH rfl) ?_
                first | refine Run.pureG (dd := some 59) rfl rfl rfl tG (op_move rfl (Opd.tmp _ _ rfl)) ?_ | refine Run.pureG (dd := some 59) rfl rfl rfl tG (op_junk (.inl rfl)) ?_
                first | refine Run.pureG (dd := some 60) rfl rfl rfl tG (op_move rfl (Opd.tmp _ _ rfl)) ?_ | refine Run.pureG (dd := some 60) rfl rfl rfl tG (op_junk (.inl rfl)) ?_
                refine Run.pureG (dd := some 61) rfl rfl rfl tG (op_sub rfl (Opd.topt _ _ _ rfl tO) (Opd.const _) tI) ?_
                refine Run.pureG (dd := some 62) rfl rfl rfl tG (op_idx_sl0 0 rfl (Opd.topt _ _ _ rfl tO) (Opd.topt _ _ _ rfl tO) (by intro hg; simp at hg)) ?_
                first | refine Run.pureG (dd := some 63) rfl rfl rfl tG (op_fld_ptr (by decide) rfl (Opd.topt _ _ _ rfl tO)) ?_ | refine Run.pureG (dd := some 63) rfl rfl rfl tG (op_fld_fz (by decide) rfl (Opd.topt _ _ _ rfl tO) tR) ?_
                refine Run.loadG (dd := some 64) rfl rfl rfl tG (op_load1_flat (rows := []) (r := encS ⟨0, 0⟩) rfl (Opd.topt _ _ _ rfl tO) (by intro hg; simp at hg) rfl) ?_
                refine Run.pureG (dd := some 65) rfl rfl rfl tG (op_leq rfl (Opd.topt _ _ _ rfl tO) (Opd.topt _ _ _ rfl tO)) ?_
                refine Run.pure (dd := some 66) rfl rfl (op_pick_and rfl (Opd.tmp _ _ rfl) (Opd.topt _ _ _ rfl tO)) ?_
                refine Run.nil (FinD.mk (by kernel_rfl) ?_)
                refine nK ?_
                refine n_cond _ rfl (fun hb => ?_) (fun hb => ?_)
                · simp at hb
                · refine nK ?_
                  refine s_reg rfl ?_
                  first | refine Run.pure (dd := some 81) rfl rfl (op_fld_ptr (by decide) rfl (Opd.tmp _ _ rfl)) ?_ | refine Run.pure (dd := some 81) rfl rfl (op_fld_fz (by decide) rfl (Opd.tmp _ _ rfl) tR) ?_
                  first | refine Run.load (dd := some 82) rfl rfl (op_load1_flat rfl (Opd.tmp _ _ rfl) tH rfl) ?_ | refine Run.pure (dd := some 82) rfl rfl (op_load1_fz rfl (Opd.tmp _ _ rfl) rfl) ?_ | refine Run.load (dd := some 82) rfl rfl (op_load1_refs rfl (Opd.tmp _ _ rfl) tH rfl) ?_
                  first | refine Run.pure (dd := some 83) rfl rfl (op_fld_ptr (by decide) rfl (Opd.tmp _ _ rfl)) ?_ | refine Run.pure (dd := some 83) rfl rfl (op_fld_fz (by decide) rfl (Opd.tmp _ _ rfl) tR) ?_
                  first | refine Run.load (dd := some 84) rfl rfl (op_load1_flat rfl (Opd.tmp _ _ rfl) tH rfl) ?_ | refine Run.pure (dd := some 84) rfl rfl (op_load1_fz rfl (Opd.tmp _ _ rfl) rfl) ?_ | refine Run.load (dd := some 84) rfl rfl (op_load1_refs rfl (Opd.tmp _ _ rfl) tH rfl) ?_
                  refine Run.pure (dd := some 85) rfl rfl (op_lss rfl (Opd.tmp _ _ rfl) (Opd.tmp _ _ rfl)) ?_
                  refine Run.nil (FinR.mk ?_)
                  refine nK ?_
                  refine n_cond _ rfl (fun hb => ?_) (fun hb => ?_)
                  · refine nK ?_
                    refine s_reg rfl ?_
                    first | refine Run.pure (dd := some 86) rfl rfl (op_move rfl (Opd.tmp _ _ rfl)) ?_ | refine Run.pure (dd := some 86) rfl rfl (op_junk (.inl rfl)) ?_
                    first | refine Run.load (dd := some 87) rfl rfl (op_loadw_flat rfl (Opd.tmp _ _ rfl) tH rfl) ?_ | refine Run.pure (dd := some 87) rfl rfl (op_loadw_fz rfl (Opd.tmp _ _ rfl) rfl) ?_ | refine Run.load (dd := some 87) rfl rfl (op_loadn_flat rfl (Opd.tmp _ _ rfl) tH tR tR) ?_ | refine Run.pure (dd := some 87) rfl rfl (op_loadn_fz rfl (Opd.tmp _ _ rfl) tR) ?_ | refine Run.load (dd := some 87) rfl rfl (op_loadn_refs rfl (Opd.tmp _ _ rfl) tH tR tR) ?_
                    refine Run.pure (dd := some 88) rfl rfl (op_buildSlice_fz rfl (RowsF.cons _ _ _ _ _ _ (Opd.tmp _ _ rfl) tC (by rfl) (RowsF.nil _)) rfl rfl) ?_
                    first | refine Run.eff (dd := some 89) rfl rfl (op_append_own0 rfl (Opd.tmp _ _ rfl) (Opd.tmp _ _ rfl) rfl (by first | rfl | simp) rfl (by first | rfl | simp) rfl rfl tB tB) ?_ | refine Run.eff (dd := some 89) rfl rfl (op_append rfl (Opd.tmp _ _ rfl) (by first | exact Opd.tmp _ _ rfl | exact Opd.nil _ _ (Opd.tmp _ _ rfl)) rfl (by first | rfl | simp) rfl rfl tB tB) ?_
                    first | refine Run.pure (dd := some 3) rfl rfl (op_assign rfl (Opd.tmp _ _ rfl)) ?_ | refine Run.pure (dd := some 3) rfl rfl (op_junk (.inr rfl)) ?_
                    refine Run.nil (FinR.mk ?_)
                    refine nK ?_
                    refine Next.weakS [3] [0] (by rfl) (by first | exact keeps0 hC _ | exact keepsN hC _ rfl) (by repeat (first | exact trivial | refine ⟨⟨_, rfl, .inl ⟨rfl, rfl⟩⟩, ?_⟩ | refine ⟨⟨_, rfl, .inl ⟨slEq rfl tN, rfl⟩⟩, ?_⟩ | refine ⟨⟨_, rfl, .inl ⟨ivEq tX, rfl⟩⟩, ?_⟩ | refine ⟨⟨_, rfl, .inr ⟨_, rfl, .sl _ _ 0 _ _ _ rfl rfl (take0 (by first | rfl | (simp; done) | (simp; omega)) (by simp)) (by simp)⟩⟩, ?_⟩)) (by repeat (first | exact trivial | refine ⟨⟨rfl, rfl, rfl, tL⟩, ?_⟩ | refine ⟨⟨rfl, rfl, rfEq rfl tU, tL⟩, ?_⟩ | refine ⟨⟨rfl, rfl, flEq rfl (by first | (simp; done) | (simp; omega) | (simp [encP]; done) | simp [maxC, minC]), trivial⟩, ?_⟩)) rfl (hK3)
                  · simp at hb; omega
              · rw [ho] at hK3 ⊢
                have hrow : ((r ++ [o]).map encS)[r.length]? = some (encS o) := by simp
                rw [joinS_snoc] at hK3
                have hle := hc2 o (by rw [ho]; simp)
                have hrl : r.length + 1 ≤ l.length := by rw [ho] at hc6; simp at hc6; omega
                have hrl2 : (r ++ [o]).length = r.length + 1 := by simp
                refine s_draw mixed ?_
                first | refine Run.pure (dd := some 54) rfl rfl (op_move rfl (Opd.tmp _ _ rfl)) ?_ | refine Run.pure (dd := some 54) rfl rfl (op_junk (.inl rfl)) ?_
                refine Run.pure (dd := some 55) rfl rfl (op_gtr rfl (Opd.tmp _ _ rfl) (Opd.const _)) ?_
                first | refine Run.pure (dd := some 56) rfl rfl (op_move rfl (Opd.tmp _ _ rfl)) ?_ | refine Run.pure (dd := some 56) rfl rfl (op_junk (.inl rfl)) ?_
                first | refine Run.pureG (dd := some 57) rfl rfl rfl tG (op_fld_ptr (by decide) rfl (Opd.tmp _ _ rfl)) ?_ | refine Run.pureG (dd := some 57) rfl rfl rfl tG (op_fld_fz (by decide) rfl (Opd.tmp _ _ rfl) tR) ?_
                first | refine Run.loadG (dd := some 58) rfl rfl rfl tG (op_load1_flat rfl (Opd.topt _ _ _ rfl tO) tH rfl) ?_ | refine Run.pureG (dd := some 58) rfl rfl rfl tG (op_load1_fz rfl (Opd.topt _ _ _ rfl tO) rfl) ?_ | refine Run.loadG (dd := some 58) rfl rfl rfl tG (op_load1_refs rfl (Opd.topt _ _ _ rfl tO) tH rfl) ?_
                first | refine Run.pureG (dd := some 59) rfl rfl rfl tG (op_move rfl (Opd.tmp _ _ rfl)) ?_ | refine Run.pureG (dd := some 59) rfl rfl rfl tG (op_junk (.inl rfl)) ?_
                first | refine Run.pureG (dd := some 60) rfl rfl rfl tG (op_move rfl (Opd.tmp _ _ rfl)) ?_ | refine Run.pureG (dd := some 60) rfl rfl rfl tG (op_junk (.inl rfl)) ?_
                refine Run.pureG (dd := some 61) rfl rfl rfl tG (op_sub rfl (Opd.topt _ _ _ rfl tO) (Opd.const _) tI) ?_
                refine Run.pureG (dd := some 62) rfl rfl rfl tG (op_idx_sl0 r.length rfl (Opd.topt _ _ _ rfl tO) (Opd.topt _ _ _ rfl tO) (by intro _; simp)) ?_
                first | refine Run.pureG (dd := some 63) rfl rfl rfl tG (op_fld_ptr (by decide) rfl (Opd.topt _ _ _ rfl tO)) ?_ | refine Run.pureG (dd := some 63) rfl rfl rfl tG (op_fld_fz (by decide) rfl (Opd.topt _ _ _ rfl tO) tR) ?_
                first | refine Run.loadG (dd := some 64) rfl rfl rfl tG (op_load1_flat rfl (Opd.topt _ _ _ rfl tO) tH rfl) ?_ | refine Run.pureG (dd := some 64) rfl rfl rfl tG (op_load1_fz rfl (Opd.topt _ _ _ rfl tO) rfl) ?_ | refine Run.loadG (dd := some 64) rfl rfl rfl tG (op_load1_refs rfl (Opd.topt _ _ _ rfl tO) tH rfl) ?_
                refine Run.pureG (dd := some 65) rfl rfl rfl tG (op_leq rfl (Opd.topt _ _ _ rfl tO) (Opd.topt _ _ _ rfl tO)) ?_
                refine Run.pure (dd := some 66) rfl rfl (op_pick_and rfl (Opd.tmp _ _ rfl) (Opd.topt _ _ _ rfl tO)) ?_
                refine Run.nil (FinD.mk (by kernel_rfl) ?_)
                refine nK ?_
                refine n_cond _ rfl (fun hb => ?_) (fun hb => ?_)
                · have hjo : g.cur[best].lo ≤ o.hi := by simp at hb; omega
                  rw [if_pos hjo] at hK3
                  refine nK ?_
                  refine s_draw mixed ?_
                  first | refine Run.pure (dd := some 67) rfl rfl (op_move rfl (Opd.tmp _ _ rfl)) ?_ | refine Run.pure (dd := some 67) rfl rfl (op_junk (.inl rfl)) ?_
                  first | refine Run.pure (dd := some 68) rfl rfl (op_move rfl (Opd.tmp _ _ rfl)) ?_ | refine Run.pure (dd := some 68) rfl rfl (op_junk (.inl rfl)) ?_
                  refine Run.pure (dd := some 69) rfl rfl (op_sub rfl (Opd.tmp _ _ rfl) (Opd.const _) tI) ?_
                  first | refine Run.pure (dd := some 70) rfl rfl (op_move rfl (Opd.tmp _ _ rfl)) ?_ | refine Run.pure (dd := some 70) rfl rfl (op_junk (.inl rfl)) ?_
                  first | refine Run.pure (dd := some 71) rfl rfl (op_move rfl (Opd.tmp _ _ rfl)) ?_ | refine Run.pure (dd := some 71) rfl rfl (op_junk (.inl rfl)) ?_
                  refine Run.pure (dd := some 72) rfl rfl (op_sub rfl (Opd.tmp _ _ rfl) (Opd.const _) tI) ?_
                  refine Run.pure (dd := some 73) rfl rfl (op_idx_sl0 r.length rfl (Opd.tmp _ _ rfl) (Opd.tmp _ _ rfl) (by intro _; simp)) ?_
                  first | refine Run.pure (dd := some 74) rfl rfl (op_fld_ptr (by decide) rfl (Opd.tmp _ _ rfl)) ?_ | refine Run.pure (dd := some 74) rfl rfl (op_fld_fz (by decide) rfl (Opd.tmp _ _ rfl) tR) ?_
                  first | refine Run.load (dd := some 75) rfl rfl (op_load1_flat rfl (Opd.tmp _ _ rfl) tH rfl) ?_ | refine Run.pure (dd := some 75) rfl rfl (op_load1_fz rfl (Opd.tmp _ _ rfl) rfl) ?_ | refine Run.load (dd := some 75) rfl rfl (op_load1_refs rfl (Opd.tmp _ _ rfl) tH rfl) ?_
                  first | refine Run.pure (dd := some 76) rfl rfl (op_fld_ptr (by decide) rfl (Opd.tmp _ _ rfl)) ?_ | refine Run.pure (dd := some 76) rfl rfl (op_fld_fz (by decide) rfl (Opd.tmp _ _ rfl) tR) ?_
                  first | refine Run.load (dd := some 77) rfl rfl (op_load1_flat rfl (Opd.tmp _ _ rfl) tH rfl) ?_ | refine Run.pure (dd := some 77) rfl rfl (op_load1_fz rfl (Opd.tmp _ _ rfl) rfl) ?_ | refine Run.load (dd := some 77) rfl rfl (op_load1_refs rfl (Opd.tmp _ _ rfl) tH rfl) ?_
                  refine Run.pure (dd := some 78) rfl rfl (op_max rfl (Opd.tmp _ _ rfl) (Opd.tmp _ _ rfl)) ?_
                  refine Run.pure (dd := some 79) rfl rfl (op_idx_sl0 r.length rfl (Opd.tmp _ _ rfl) (Opd.tmp _ _ rfl) (by intro _; simp)) ?_
                  first | refine Run.pure (dd := some 80) rfl rfl (op_fld_ptr (by decide) rfl (Opd.tmp _ _ rfl)) ?_ | refine Run.pure (dd := some 80) rfl rfl (op_fld_fz (by decide) rfl (Opd.tmp _ _ rfl) tR) ?_
                  first | refine Run.effW (dd := none) rfl rfl (op_store_flat rfl (Opd.tmp _ _ rfl) (Opd.tmp _ _ rfl) tC rfl rfl (by first | rfl | assumption) tS) tE ?_ | refine Run.effW (dd := none) rfl rfl (op_store_refs rfl (Opd.tmp _ _ rfl) (Opd.tmp _ _ rfl) tP rfl rfl rfl tS) tE ?_
                  refine Run.nil (FinD.mk (by kernel_rfl) ?_)
                  refine nK ?_
                  refine Next.weakS [3] [0] (by rfl) (by first | exact keeps0 hC _ | exact keepsN hC _ rfl) (by repeat (first | exact trivial | refine ⟨⟨_, rfl, .inl ⟨rfl, rfl⟩⟩, ?_⟩ | refine ⟨⟨_, rfl, .inl ⟨slEq rfl tN, rfl⟩⟩, ?_⟩ | refine ⟨⟨_, rfl, .inl ⟨ivEq tX, rfl⟩⟩, ?_⟩ | refine ⟨⟨_, rfl, .inr ⟨_, rfl, .sl _ _ 0 _ _ _ rfl rfl (take0 (by first | rfl | (simp; done) | (simp; omega)) (by simp)) (by simp)⟩⟩, ?_⟩)) (by repeat (first | exact trivial | refine ⟨⟨rfl, rfl, rfl, tL⟩, ?_⟩ | refine ⟨⟨rfl, rfl, rfEq rfl tU, tL⟩, ?_⟩ | refine ⟨⟨rfl, rfl, flEq rfl (by first | (simp; done) | (simp; omega) | (simp [encP]; done) | simp [maxC, minC]), trivial⟩, ?_⟩)) rfl (hK3)
                · have hjo : ¬ g.cur[best].lo ≤ o.hi := by simp at hb; omega
                  rw [if_neg hjo, if_pos hs.1] at hK3
                  refine nK ?_
                  refine s_reg rfl ?_
                  first | refine Run.pure (dd := some 81) rfl rfl (op_fld_ptr (by decide) rfl (Opd.tmp _ _ rfl)) ?_ | refine Run.pure (dd := some 81) rfl rfl (op_fld_fz (by decide) rfl (Opd.tmp _ _ rfl) tR) ?_
                  first | refine Run.load (dd := some 82) rfl rfl (op_load1_flat rfl (Opd.tmp _ _ rfl) tH rfl) ?_ | refine Run.pure (dd := some 82) rfl rfl (op_load1_fz rfl (Opd.tmp _ _ rfl) rfl) ?_ | refine Run.load (dd := some 82) rfl rfl (op_load1_refs rfl (Opd.tmp _ _ rfl) tH rfl) ?_
                  first | refine Run.pure (dd := some 83) rfl rfl (op_fld_ptr (by decide) rfl (Opd.tmp _ _ rfl)) ?_ | refine Run.pure (dd := some 83) rfl rfl (op_fld_fz (by decide) rfl (Opd.tmp _ _ rfl) tR) ?_
                  first | refine Run.load (dd := some 84) rfl rfl (op_load1_flat rfl (Opd.tmp _ _ rfl) tH rfl) ?_ | refine Run.pure (dd := some 84) rfl rfl (op_load1_fz rfl (Opd.tmp _ _ rfl) rfl) ?_ | refine Run.load (dd := some 84) rfl rfl (op_load1_refs rfl (Opd.tmp _ _ rfl) tH rfl) ?_
                  refine Run.pure (dd := some 85) rfl rfl (op_lss rfl (Opd.tmp _ _ rfl) (Opd.tmp _ _ rfl)) ?_
                  refine Run.nil (FinR.mk ?_)
                  refine nK ?_
                  refine n_cond _ rfl (fun hb => ?_) (fun hb => ?_)
                  · refine nK ?_
                    refine s_reg rfl ?_
                    first | refine Run.pure (dd := some 86) rfl rfl (op_move rfl (Opd.tmp _ _ rfl)) ?_ | refine Run.pure (dd := some 86) rfl rfl (op_junk (.inl rfl)) ?_
                    first | refine Run.load (dd := some 87) rfl rfl (op_loadw_flat rfl (Opd.tmp _ _ rfl) tH rfl) ?_ | refine Run.pure (dd := some 87) rfl rfl (op_loadw_fz rfl (Opd.tmp _ _ rfl) rfl) ?_ | refine Run.load (dd := some 87) rfl rfl (op_loadn_flat rfl (Opd.tmp _ _ rfl) tH tR tR) ?_ | refine Run.pure (dd := some 87) rfl rfl (op_loadn_fz rfl (Opd.tmp _ _ rfl) tR) ?_ | refine Run.load (dd := some 87) rfl rfl (op_loadn_refs rfl (Opd.tmp _ _ rfl) tH tR tR) ?_
                    refine Run.pure (dd := some 88) rfl rfl (op_buildSlice_fz rfl (RowsF.cons _ _ _ _ _ _ (Opd.tmp _ _ rfl) tC (by rfl) (RowsF.nil _)) rfl rfl) ?_
                    first | refine Run.eff (dd := some 89) rfl rfl (op_append_own0 rfl (Opd.tmp _ _ rfl) (Opd.tmp _ _ rfl) rfl (by first | rfl | simp) rfl (by first | rfl | simp) rfl rfl tB tB) ?_ | refine Run.eff (dd := some 89) rfl rfl (op_append rfl (Opd.tmp _ _ rfl) (by first | exact Opd.tmp _ _ rfl | exact Opd.nil _ _ (Opd.tmp _ _ rfl)) rfl (by first | rfl | simp) rfl rfl tB tB) ?_
                    first | refine Run.pure (dd := some 3) rfl rfl (op_assign rfl (Opd.tmp _ _ rfl)) ?_ | refine Run.pure (dd := some 3) rfl rfl (op_junk (.inr rfl)) ?_
                    refine Run.nil (FinR.mk ?_)
                    refine nK ?_
                    refine Next.weakS [3] [0] (by rfl) (by first | exact keeps0 hC _ | exact keepsN hC _ rfl) (by repeat (first | exact trivial | refine ⟨⟨_, rfl, .inl ⟨rfl, rfl⟩⟩, ?_⟩ | refine ⟨⟨_, rfl, .inl ⟨slEq rfl tN, rfl⟩⟩, ?_⟩ | refine ⟨⟨_, rfl, .inl ⟨ivEq tX, rfl⟩⟩, ?_⟩ | refine ⟨⟨_, rfl, .inr ⟨_, rfl, .sl _ _ 0 _ _ _ rfl rfl (take0 (by first | rfl | (simp; done) | (simp; omega)) (by simp)) (by simp)⟩⟩, ?_⟩)) (by repeat (first | exact trivial | refine ⟨⟨rfl, rfl, rfl, tL⟩, ?_⟩ | refine ⟨⟨rfl, rfl, rfEq rfl tU, tL⟩, ?_⟩ | refine ⟨⟨rfl, rfl, flEq rfl (by first | (simp; done) | (simp; omega) | (simp [encP]; done) | simp [maxC, minC]), trivial⟩, ?_⟩)) rfl (hK3)
                  · simp at hb; omega
    · have hz : g.cur = [] := List.length_eq_zero_iff.1 (by simp at hb; simp [hb])
      rw [hres g hg hz]
      refine nK ?_
      refine s_reg rfl ?_
      first | refine Run.pure (dd := some 90) rfl rfl (op_move rfl (Opd.tmp _ _ rfl)) ?_ | refine Run.pure (dd := some 90) rfl rfl (op_junk (.inl rfl)) ?_
      first | refine Run.pure (dd := some 2) rfl rfl (op_assign rfl (Opd.tmp _ _ rfl)) ?_ | refine Run.pure (dd := some 2) rfl rfl (op_junk (.inr rfl)) ?_
      refine Run.nil (FinR.mk ?_)
      refine nK ?_
      (first | exact s_o1 hC rfl tV | exact s_o2 hC rfl tV tV | exact s_o3 hC rfl tV tV tV | exact s_out0 hC rfl | exact s_outO hC rfl rfl rfl)
theorem rmerged_any (l : List Spn) (hl : okS l) (hn : l.length ≤ 1000000) : ∃ out, Canon out ∧ okS out ∧ (∀ x, memS out x ↔ memS l x) ∧ out.length ≤ l.length ∧ Pure Try.prog 62 [VS l] (VS out) := by
  obtain ⟨out, h⟩ := MGend l.length ⟨l, []⟩ rfl (MG0 hl)
  have h' := h
  obtain ⟨h1, h2, h3, h4, h5, h6⟩ := h
  refine ⟨out, h1, fun s hs => ⟨h1.1 s hs, h2 s hs⟩, fun x => by rw [← h4]; simp [memS], by simpa using h6, rmerged_run l hl hn out fun g hg hz => ?_⟩
  obtain ⟨g1, g2, g3, g4, g5, g6⟩ := hg
  exact Canon.ext_aux g1 h1 fun x => by
    have a := g4 x; have b := h4 x
    rw [hz] at a
    simp only [memS, List.not_mem_nil, false_and, exists_false, or_false] at a b ⊢
    rw [a, b]
end Go.Proofs.Ytdebjffddkgfbaa
namespace Go.Proofs.Ytdebjffddkgfbaa
open Go Go.RT Go.Proofs Go.Pl
set_option linter.all false
set_option maxRecDepth 20000
theorem rmerged_c (l : List Spn) (hl : okS l) (hn : l.length ≤ 1000000) : Pure Try.prog 62 [VS l] (VS (canonOf l)) := by
  obtain ⟨out, h1, h2, h3, h4, h5⟩ := rmerged_any l hl hn
  rw [canon_eq hl h1 h3] at h5
  exact h5
theorem filter_succ {α : Type} (f : α → Bool) (l : List α) (i : Nat) (h : i < l.length) : (l.take (i + 1)).filter f = (l.take i).filter f ++ if f l[i] then [l[i]] else [] := by
  rw [List.take_succ_eq_append_getElem h, List.filter_append]
  congr 1
  by_cases hf : f l[i] <;> simp [hf]
abbrev runsUp (l : List Pfx) (i : Nat) : List Spn := runsOf (l.take i)
theorem runs_succ (l : List Pfx) (i : Nat) (h : i < l.length) : runsUp l (i + 1) = runsUp l i ++ if validB l[i] then [toS l[i]] else [] := by
  unfold runsUp runsOf
  rw [filter_succ _ _ _ h]
  by_cases hf : validB l[i] <;> simp [hf]
theorem runs_le (l : List Pfx) (i : Nat) : (runsUp l i).length ≤ l.length := by
  unfold runsUp runsOf
  have := List.length_filter_le validB (l.take i)
  simp at this ⊢; omega
theorem rspans_c (l : List Pfx) (hl : okL l) (hn : l.length ≤ 1000000) : Pure Try.prog 44 [VP l] (VS (spansOf l)) := by
  refine Meets.intro Try.func44 rfl (Nat.le_of_ble_eq_true rfl) fun C hC => ?_
  simp only [List.map, argEnv, Nat.reduceAdd]
  refine nK ?_
  refine s_reg rfl ?_
  first | refine Run.pure (dd := some 2) rfl rfl (op_assign rfl (Opd.const _)) ?_ | refine Run.pure (dd := some 2) rfl rfl (op_junk (.inr rfl)) ?_
  refine Run.nil (FinR.mk ?_)
  refine nK ?_
  refine s_reg rfl ?_
  first | refine Run.pure (dd := some 3) rfl rfl (op_assign rfl (Opd.const _)) ?_ | refine Run.pure (dd := some 3) rfl rfl (op_junk (.inr rfl)) ?_
  refine Run.nil (FinR.mk ?_)
  refine nK ?_
  refine s_reg rfl ?_
  first | refine Run.pure (dd := some 6) rfl rfl (op_move rfl (Opd.tmp _ _ rfl)) ?_ | refine Run.pure (dd := some 6) rfl rfl (op_junk (.inl rfl)) ?_
  first | refine Run.pure (dd := some 7) rfl rfl (op_len_fz rfl (by first | exact Opd.tmp _ _ rfl | exact Opd.nil _ _ (Opd.tmp _ _ rfl)) (by first | exact List.length_map _ | rfl)) ?_ | refine Run.pure (dd := some 7) rfl rfl (op_len_sl rfl (Opd.tmp _ _ rfl)) ?_
  first | refine Run.pure (dd := some 8) rfl rfl (op_move rfl (Opd.const _)) ?_ | refine Run.pure (dd := some 8) rfl rfl (op_junk (.inl rfl)) ?_
  refine Run.nil (FinR.mk ?_)
  refine nK ?_
  refine Next.adopt 3 2 rfl ?_
  refine n_loop (ι := Nat) (fun i => ([(0, .fz (VP l)), (3, .sl 0 2 0 (runsUp l i).length), (6, .fz (VP l)), (7, IV .i64 l.length), (8, IV .i64 i)], [(0, OS (runsUp l i))], 1)) (fun i => i ≤ l.length) (fun i => l.length - i) 0 (Nat.zero_le _) ?_ ?_
  · refine Next.weakS [3] [] (by rfl) (by first | exact keeps0 hC _ | exact keepsN hC _ rfl) (by repeat (first | exact trivial | refine ⟨⟨_, rfl, .inl ⟨rfl, rfl⟩⟩, ?_⟩ | refine ⟨⟨_, rfl, .inl ⟨slEq rfl tN, rfl⟩⟩, ?_⟩ | refine ⟨⟨_, rfl, .inl ⟨ivEq tX, rfl⟩⟩, ?_⟩)) (by repeat (first | exact trivial | refine ⟨⟨rfl, rfl, rfl, tL⟩, ?_⟩ | refine ⟨⟨rfl, rfl, rfEq rfl tU, tL⟩, ?_⟩ | refine ⟨⟨rfl, rfl, flEq rfl (by first | (simp; done) | (simp; omega) | (simp [encP]; done) | simp [maxC, minC]), trivial⟩, ?_⟩)) rfl (rel_intro)
  · intro i hi K hK
    refine nK ?_
    refine s_reg rfl ?_
    refine Run.pure (dd := some 9) rfl rfl (op_lss rfl (Opd.tmp _ _ rfl) (Opd.tmp _ _ rfl)) ?_
    refine Run.nil (FinR.mk ?_)
    refine nK ?_
    refine n_cond _ rfl (fun hb => ?_) (fun hb => ?_)
    · have hlt : i < l.length := by simp at hb; omega
      have hr1 := row_at encP l i hlt
      have hok := hl l[i] (List.getElem_mem hlt)
      have hle := runs_le l i
      have hs := runs_succ l i hlt
      refine nK ?_
      refine s_reg rfl ?_
      first | refine Run.pure (dd := some 10) rfl rfl (op_idx_sl0 _ rfl (Opd.tmp _ _ rfl) (Opd.tmp _ _ rfl) tD) ?_ | refine Run.pure (dd := some 10) rfl rfl (op_idx_fz _ rfl (Opd.tmp _ _ rfl) (Opd.tmp _ _ rfl) tF) ?_
      first | refine Run.load (dd := some 11) rfl rfl (op_loadw_flat rfl (Opd.tmp _ _ rfl) tH rfl) ?_ | refine Run.pure (dd := some 11) rfl rfl (op_loadw_fz rfl (Opd.tmp _ _ rfl) rfl) ?_ | refine Run.load (dd := some 11) rfl rfl (op_loadn_flat rfl (Opd.tmp _ _ rfl) tH tR tR) ?_ | refine Run.pure (dd := some 11) rfl rfl (op_loadn_fz rfl (Opd.tmp _ _ rfl) tR) ?_ | refine Run.load (dd := some 11) rfl rfl (op_loadn_refs rfl (Opd.tmp _ _ rfl) tH tR tR) ?_
      refine Run.eff (dd := some 5) rfl rfl (op_alloc rfl rfl rfl rfl) ?_
      first | refine Run.eff (dd := none) rfl rfl (op_store_flat rfl (Opd.tmp _ _ rfl) (Opd.tmp _ _ rfl) tC rfl rfl (by first | rfl | assumption) tS) ?_ | refine Run.eff (dd := none) rfl rfl (op_store_refs rfl (Opd.tmp _ _ rfl) (Opd.tmp _ _ rfl) tP rfl rfl rfl tS) ?_
      refine Run.nil (FinR.mk ?_)
      refine nK ?_
      refine s_reg rfl ?_
      first | refine Run.load (dd := some 12) rfl rfl (op_loadw_flat rfl (Opd.tmp _ _ rfl) tH rfl) ?_ | refine Run.pure (dd := some 12) rfl rfl (op_loadw_fz rfl (Opd.tmp _ _ rfl) rfl) ?_ | refine Run.load (dd := some 12) rfl rfl (op_loadn_flat rfl (Opd.tmp _ _ rfl) tH tR tR) ?_ | refine Run.pure (dd := some 12) rfl rfl (op_loadn_fz rfl (Opd.tmp _ _ rfl) tR) ?_ | refine Run.load (dd := some 12) rfl rfl (op_loadn_refs rfl (Opd.tmp _ _ rfl) tH tR tR) ?_
      refine Run.pure (dd := some 13) rfl rfl (op_call_pure (fun _ => rvalid_any _ (by assumption)) rfl (Opd.func _) (Opds.cons _ _ _ _ (Opd.tmp _ _ rfl) Opds.nil)) ?_
      refine Run.nil (FinR.mk ?_)
      refine nK ?_
      refine n_cond _ rfl (fun hb => ?_) (fun hb => ?_)
      · rw [if_pos hb] at hs
        have hK1 := hK (i + 1) (by omega) (by omega)
        rw [hs, show toS l[i] = ⟨l[i].addr, l[i].addr + 1 * 2 ^ hob l[i]⟩ by simp [toS, sz]] at hK1
        have hv := (valid_iff _).1 hb
        have hln := valid_len hb
        have hhb := hob_le l[i]
        have hft := valid_fit hb hok.1
        have hlt2 := hok.1
        have hpw : 2 ^ hob l[i] ≤ 2 ^ 32 := Nat.pow_le_pow_right (by omega) hhb
        refine nK ?_
        refine s_draw mixed ?_
        first | refine Run.pure (dd := some 14) rfl rfl (op_move rfl (Opd.tmp _ _ rfl)) ?_ | refine Run.pure (dd := some 14) rfl rfl (op_junk (.inl rfl)) ?_
        first | refine Run.pure (dd := some 15) rfl rfl (op_fld_ptr (by decide) rfl (Opd.tmp _ _ rfl)) ?_ | refine Run.pure (dd := some 15) rfl rfl (op_fld_fz (by decide) rfl (Opd.tmp _ _ rfl) tR) ?_
        first | refine Run.load (dd := some 16) rfl rfl (op_load1_flat rfl (Opd.tmp _ _ rfl) tH rfl) ?_ | refine Run.pure (dd := some 16) rfl rfl (op_load1_fz rfl (Opd.tmp _ _ rfl) rfl) ?_ | refine Run.load (dd := some 16) rfl rfl (op_load1_refs rfl (Opd.tmp _ _ rfl) tH rfl) ?_
        refine Run.pure (dd := some 17) rfl rfl (op_conv rfl (Opd.tmp _ _ rfl) tI) ?_
        first | refine Run.pure (dd := some 18) rfl rfl (op_fld_ptr (by decide) rfl (Opd.tmp _ _ rfl)) ?_ | refine Run.pure (dd := some 18) rfl rfl (op_fld_fz (by decide) rfl (Opd.tmp _ _ rfl) tR) ?_
        first | refine Run.load (dd := some 19) rfl rfl (op_load1_flat rfl (Opd.tmp _ _ rfl) tH rfl) ?_ | refine Run.pure (dd := some 19) rfl rfl (op_load1_fz rfl (Opd.tmp _ _ rfl) rfl) ?_ | refine Run.load (dd := some 19) rfl rfl (op_load1_refs rfl (Opd.tmp _ _ rfl) tH rfl) ?_
        refine Run.pure (dd := some 20) rfl rfl (op_conv rfl (Opd.tmp _ _ rfl) tI) ?_
        first | refine Run.pure (dd := some 21) rfl rfl (op_fld_ptr (by decide) rfl (Opd.tmp _ _ rfl)) ?_ | refine Run.pure (dd := some 21) rfl rfl (op_fld_fz (by decide) rfl (Opd.tmp _ _ rfl) tR) ?_
        first | refine Run.load (dd := some 22) rfl rfl (op_load1_flat rfl (Opd.tmp _ _ rfl) tH rfl) ?_ | refine Run.pure (dd := some 22) rfl rfl (op_load1_fz rfl (Opd.tmp _ _ rfl) rfl) ?_ | refine Run.load (dd := some 22) rfl rfl (op_load1_refs rfl (Opd.tmp _ _ rfl) tH rfl) ?_
        refine Run.pure (dd := some 23) rfl rfl (op_sub rfl (Opd.const _) (Opd.tmp _ _ rfl) tI) ?_
        refine Run.pure (dd := some 24) rfl rfl (op_shlN (m := 1) (hob l[i]) rfl (Opd.const _) (Opd.tmp _ _ rfl) (by intro _; simp only [IntKind.bits, inr]; omega)) ?_
        refine Run.pure (dd := some 25) rfl rfl (op_add rfl (Opd.tmp _ _ rfl) (Opd.tmp _ _ rfl) tI) ?_
        first | refine Run.pure (dd := some 26) rfl rfl (op_build rfl rfl rfl (FillF.cons _ _ _ _ _ _ _ _ _ _ (by rfl) (Opd.tmp _ _ rfl) tC (by rfl) tR (FillF.cons _ _ _ _ _ _ _ _ _ _ (by rfl) (Opd.tmp _ _ rfl) tC (by rfl) tR (FillF.nil _)))) ?_ | refine Run.pure (dd := some 26) rfl rfl (op_buildP rfl rfl rfl rfl (FillP.cons _ _ _ _ _ _ _ _ _ _ (by rfl) (Opd.tmp _ _ rfl) tP (by rfl) tR (FillP.cons _ _ _ _ _ _ _ _ _ _ (by rfl) (Opd.tmp _ _ rfl) tP (by rfl) tR (FillP.nil _)))) ?_
        refine Run.pure (dd := some 27) rfl rfl (op_buildSlice_fz rfl (RowsF.cons _ _ _ _ _ _ (Opd.tmp _ _ rfl) tC (by rfl) (RowsF.nil _)) rfl rfl) ?_
        first | refine Run.effW (dd := some 28) rfl rfl (op_append_own0 rfl (Opd.tmp _ _ rfl) (Opd.tmp _ _ rfl) rfl (by first | rfl | simp) rfl (by first | rfl | simp) rfl rfl tB tB) tE ?_ | refine Run.effW (dd := some 28) rfl rfl (op_append rfl (Opd.tmp _ _ rfl) (by first | exact Opd.tmp _ _ rfl | exact Opd.nil _ _ (Opd.tmp _ _ rfl)) rfl (by first | rfl | simp) rfl rfl tB tB) tE ?_
        first | refine Run.pure (dd := some 3) rfl rfl (op_assign rfl (Opd.tmp _ _ rfl)) ?_ | refine Run.pure (dd := some 3) rfl rfl (op_junk (.inr rfl)) ?_
        refine Run.nil (FinD.mk (by kernel_rfl) ?_)
        refine nK ?_
        refine s_reg rfl ?_
        refine Run.pure (dd := some 29) rfl rfl (op_add rfl (Opd.tmp _ _ rfl) (Opd.const _) tI) ?_
        first | refine Run.pure (dd := some 8) rfl rfl (op_move rfl (Opd.tmp _ _ rfl)) ?_ | refine Run.pure (dd := some 8) rfl rfl (op_junk (.inl rfl)) ?_
        refine Run.nil (FinR.mk ?_)
        refine nK ?_
        refine Next.weakS [3] [] (by rfl) (by first | exact keeps0 hC _ | exact keepsN hC _ rfl) (by repeat (first | exact trivial | refine ⟨⟨_, rfl, .inl ⟨rfl, rfl⟩⟩, ?_⟩ | refine ⟨⟨_, rfl, .inl ⟨slEq rfl tN, rfl⟩⟩, ?_⟩ | refine ⟨⟨_, rfl, .inl ⟨ivEq tX, rfl⟩⟩, ?_⟩)) (by repeat (first | exact trivial | refine ⟨⟨rfl, rfl, rfl, tL⟩, ?_⟩ | refine ⟨⟨rfl, rfl, rfEq rfl tU, tL⟩, ?_⟩ | refine ⟨⟨rfl, rfl, flEq rfl (by first | (simp; done) | (simp; omega) | (simp [encP]; done) | simp [maxC, minC]), trivial⟩, ?_⟩)) rfl (hK1)
      · have hb2 : ¬ validB l[i] = true := by simp [hb]
        rw [if_neg hb2, List.append_nil] at hs
        have hK1 := hK (i + 1) (by omega) (by omega)
        rw [hs] at hK1
        refine nK ?_
        refine s_reg rfl ?_
        refine Run.pure (dd := some 29) rfl rfl (op_add rfl (Opd.tmp _ _ rfl) (Opd.const _) tI) ?_
        first | refine Run.pure (dd := some 8) rfl rfl (op_move rfl (Opd.tmp _ _ rfl)) ?_ | refine Run.pure (dd := some 8) rfl rfl (op_junk (.inl rfl)) ?_
        refine Run.nil (FinR.mk ?_)
        refine nK ?_
        refine Next.weakS [3] [] (by rfl) (by first | exact keeps0 hC _ | exact keepsN hC _ rfl) (by repeat (first | exact trivial | refine ⟨⟨_, rfl, .inl ⟨rfl, rfl⟩⟩, ?_⟩ | refine ⟨⟨_, rfl, .inl ⟨slEq rfl tN, rfl⟩⟩, ?_⟩ | refine ⟨⟨_, rfl, .inl ⟨ivEq tX, rfl⟩⟩, ?_⟩)) (by repeat (first | exact trivial | refine ⟨⟨rfl, rfl, rfl, tL⟩, ?_⟩ | refine ⟨⟨rfl, rfl, rfEq rfl tU, tL⟩, ?_⟩ | refine ⟨⟨rfl, rfl, flEq rfl (by first | (simp; done) | (simp; omega) | (simp [encP]; done) | simp [maxC, minC]), trivial⟩, ?_⟩)) rfl (hK1)
    · have hie : i = l.length := by simp at hb; omega
      have e : runsUp l i = runsOf l := by rw [hie]; unfold runsUp; rw [List.take_length]
      rw [e]
      have hro := runsOf_ok hl
      have hrl : (runsOf l).length ≤ 1000000 := by rw [← e]; have := runs_le l i; omega
      refine Next.weakS [] [3] (by rfl) (keeps0 hC _) (G' := [(3, .fz (VS (runsOf l)))]) (H' := []) (by repeat (first | exact trivial | refine ⟨⟨_, rfl, .inl ⟨rfl, rfl⟩⟩, ?_⟩ | refine ⟨⟨_, rfl, .inl ⟨slEq rfl tN, rfl⟩⟩, ?_⟩ | refine ⟨⟨_, rfl, .inl ⟨ivEq tX, rfl⟩⟩, ?_⟩ | refine ⟨⟨_, rfl, .inr ⟨_, rfl, .sl _ _ 0 _ _ _ rfl rfl (take0 (by first | rfl | (simp; done) | (simp; omega)) (by simp)) (by simp)⟩⟩, ?_⟩)) trivial rfl ?_
      refine nK ?_
      refine s_reg rfl ?_
      first | refine Run.pure (dd := some 30) rfl rfl (op_move rfl (Opd.tmp _ _ rfl)) ?_ | refine Run.pure (dd := some 30) rfl rfl (op_junk (.inl rfl)) ?_
      refine Run.pure (dd := some 31) rfl rfl (op_call_pure (fun _ => rmerged_c _ hro hrl) rfl (Opd.func _) (Opds.cons _ _ _ _ (Opd.tmp _ _ rfl) Opds.nil)) ?_
      first | refine Run.pure (dd := some 2) rfl rfl (op_assign rfl (Opd.tmp _ _ rfl)) ?_ | refine Run.pure (dd := some 2) rfl rfl (op_junk (.inr rfl)) ?_
      refine Run.nil (FinR.mk ?_)
      refine nK ?_
      (first | exact s_o1 hC rfl tV | exact s_o2 hC rfl tV tV | exact s_o3 hC rfl tV tV tV | exact s_out0 hC rfl | exact s_outO hC rfl rfl rfl)
theorem rprefs_c (l : List Spn) (hl : okS l) (hn : l.length ≤ 1000000) : Pure Try.prog 35 [VS l] (VP (prefsF l)) := by
  refine Meets.freeze (len := (prefsF l).length) (by simp) ?_
  refine Meets.intro Try.func35 rfl (Nat.le_of_ble_eq_true rfl) fun C hC => ?_
  simp only [List.map, argEnv, Nat.reduceAdd]
  refine nK ?_
  refine s_reg rfl ?_
  first | refine Run.pure (dd := some 2) rfl rfl (op_assign rfl (Opd.const _)) ?_ | refine Run.pure (dd := some 2) rfl rfl (op_junk (.inr rfl)) ?_
  refine Run.nil (FinR.mk ?_)
  refine nK ?_
  refine s_reg rfl ?_
  first | refine Run.pure (dd := some 3) rfl rfl (op_assign rfl (Opd.const _)) ?_ | refine Run.pure (dd := some 3) rfl rfl (op_junk (.inr rfl)) ?_
  refine Run.nil (FinR.mk ?_)
  refine nK ?_
  refine s_reg rfl ?_
  first | refine Run.pure (dd := some 7) rfl rfl (op_move rfl (Opd.tmp _ _ rfl)) ?_ | refine Run.pure (dd := some 7) rfl rfl (op_junk (.inl rfl)) ?_
  first | refine Run.pure (dd := some 8) rfl rfl (op_len_fz rfl (by first | exact Opd.tmp _ _ rfl | exact Opd.nil _ _ (Opd.tmp _ _ rfl)) (by first | exact List.length_map _ | rfl)) ?_ | refine Run.pure (dd := some 8) rfl rfl (op_len_sl rfl (Opd.tmp _ _ rfl)) ?_
  first | refine Run.pure (dd := some 9) rfl rfl (op_move rfl (Opd.const _)) ?_ | refine Run.pure (dd := some 9) rfl rfl (op_junk (.inl rfl)) ?_
  refine Run.nil (FinR.mk ?_)
  refine nK ?_
  refine Next.adopt 3 2 rfl ?_
  refine n_loop (ι := Nat) (fun i => ([(0, .fz (VS l)), (3, .sl 0 2 0 (prefsF (l.take i)).length), (7, .fz (VS l)), (8, IV .i64 l.length), (9, IV .i64 i)], [(0, OP (prefsF (l.take i)))], 1)) (fun i => i ≤ l.length) (fun i => l.length - i) 0 (Nat.zero_le _) ?_ ?_
  · refine Next.weakS [3] [] (by rfl) (by first | exact keeps0 hC _ | exact keepsN hC _ rfl) (by repeat (first | exact trivial | refine ⟨⟨_, rfl, .inl ⟨rfl, rfl⟩⟩, ?_⟩ | refine ⟨⟨_, rfl, .inl ⟨slEq rfl tN, rfl⟩⟩, ?_⟩ | refine ⟨⟨_, rfl, .inl ⟨ivEq tX, rfl⟩⟩, ?_⟩)) (by repeat (first | exact trivial | refine ⟨⟨rfl, rfl, rfl, tL⟩, ?_⟩ | refine ⟨⟨rfl, rfl, rfEq rfl tU, tL⟩, ?_⟩ | refine ⟨⟨rfl, rfl, flEq rfl (by first | (simp; done) | (simp; omega) | (simp [encP]; done) | simp [maxC, minC]), trivial⟩, ?_⟩)) rfl (rel_intro)
  · intro i hi K hK
    refine nK ?_
    refine s_reg rfl ?_
    refine Run.pure (dd := some 10) rfl rfl (op_lss rfl (Opd.tmp _ _ rfl) (Opd.tmp _ _ rfl)) ?_
    refine Run.nil (FinR.mk ?_)
    refine nK ?_
    refine n_cond _ rfl (fun hb => ?_) (fun hb => ?_)
    · have hlt : i < l.length := by simp at hb; omega
      have hr1 := row_at encS l i hlt
      have hok := hl l[i] (List.getElem_mem hlt)
      have hpl := prefs_len (l.take i)
      have htl : (l.take i).length ≤ 1000000 := by simp; omega
      have hK1 := hK (i + 1) (by omega) (by omega)
      have hs : prefsF (l.take (i + 1)) = prefsF (l.take i) ++ vis l[i] 32 0 := by unfold prefsF; rw [List.take_succ_eq_append_getElem hlt, List.flatMap_append, List.flatMap_singleton]
      rw [hs] at hK1
      generalize hr : l[i] = r at *
      generalize prefsF (l.take i) = pre at *
      have hch := vis_whole r hok.1 hok.2
      have h62 := vis62 r
      refine nK ?_
      refine s_reg rfl ?_
      first | refine Run.pure (dd := some 11) rfl rfl (op_idx_sl0 _ rfl (Opd.tmp _ _ rfl) (Opd.tmp _ _ rfl) tD) ?_ | refine Run.pure (dd := some 11) rfl rfl (op_idx_fz _ rfl (Opd.tmp _ _ rfl) (Opd.tmp _ _ rfl) tF) ?_
      first | refine Run.load (dd := some 12) rfl rfl (op_loadw_flat rfl (Opd.tmp _ _ rfl) tH rfl) ?_ | refine Run.pure (dd := some 12) rfl rfl (op_loadw_fz rfl (Opd.tmp _ _ rfl) rfl) ?_ | refine Run.load (dd := some 12) rfl rfl (op_loadn_flat rfl (Opd.tmp _ _ rfl) tH tR tR) ?_ | refine Run.pure (dd := some 12) rfl rfl (op_loadn_fz rfl (Opd.tmp _ _ rfl) tR) ?_ | refine Run.load (dd := some 12) rfl rfl (op_loadn_refs rfl (Opd.tmp _ _ rfl) tH tR tR) ?_
      refine Run.eff (dd := some 5) rfl rfl (op_alloc rfl rfl rfl rfl) ?_
      first | refine Run.eff (dd := none) rfl rfl (op_store_flat rfl (Opd.tmp _ _ rfl) (Opd.tmp _ _ rfl) tC rfl rfl (by first | rfl | assumption) tS) ?_ | refine Run.eff (dd := none) rfl rfl (op_store_refs rfl (Opd.tmp _ _ rfl) (Opd.tmp _ _ rfl) tP rfl rfl rfl tS) ?_
      refine Run.nil (FinR.mk ?_)
      refine nK ?_
      refine n_loop (ι := List Pfx × List Pfx × Nat) (fun g => ([(0, .fz (VS l)), (3, .sl 0 2 0 (pre ++ g.1).length), (5, .ptr 1 2 0 0), (7, .fz (VS l)), (8, IV .i64 l.length), (9, IV .i64 i)], [(0, OP (pre ++ g.1)), (1, some (.flat 2 [[If .u64 g.2.2, If .u64 r.hi]]))], 2)) (fun g => vis r 32 0 = g.1 ++ g.2.1 ∧ chain g.2.2 g.2.1 r.hi) (fun g => g.2.1.length) ([], vis r 32 0, r.lo) ⟨rfl, hch⟩ ?_ ?_
      · refine Next.weakS [3, 5] [] (by rfl) (by first | exact keeps0 hC _ | exact keepsN hC _ rfl) (by repeat (first | exact trivial | refine ⟨⟨_, rfl, .inl ⟨rfl, rfl⟩⟩, ?_⟩ | refine ⟨⟨_, rfl, .inl ⟨slEq rfl tN, rfl⟩⟩, ?_⟩ | refine ⟨⟨_, rfl, .inl ⟨ivEq tX, rfl⟩⟩, ?_⟩)) (by repeat (first | exact trivial | refine ⟨⟨rfl, rfl, rfl, tL⟩, ?_⟩ | refine ⟨⟨rfl, rfl, rfEq rfl tU, tL⟩, ?_⟩ | refine ⟨⟨rfl, rfl, flEq rfl (by first | (simp; done) | (simp; omega) | (simp [encP]; done) | simp [maxC, minC]), trivial⟩, ?_⟩)) rfl (rel_intro)
      · intro ⟨part, tail, lo⟩ ⟨hv, hc⟩ K1 hK1b
        have hle := chain_le hc
        have hlen : part.length + tail.length ≤ 62 := by rw [hv] at h62; simpa using h62
        simp only at hc hle hv
        refine nK ?_
        refine s_reg rfl ?_
        first | refine Run.pure (dd := some 13) rfl rfl (op_fld_ptr (by decide) rfl (Opd.tmp _ _ rfl)) ?_ | refine Run.pure (dd := some 13) rfl rfl (op_fld_fz (by decide) rfl (Opd.tmp _ _ rfl) tR) ?_
        first | refine Run.load (dd := some 14) rfl rfl (op_load1_flat rfl (Opd.tmp _ _ rfl) tH rfl) ?_ | refine Run.pure (dd := some 14) rfl rfl (op_load1_fz rfl (Opd.tmp _ _ rfl) rfl) ?_ | refine Run.load (dd := some 14) rfl rfl (op_load1_refs rfl (Opd.tmp _ _ rfl) tH rfl) ?_
        first | refine Run.pure (dd := some 15) rfl rfl (op_fld_ptr (by decide) rfl (Opd.tmp _ _ rfl)) ?_ | refine Run.pure (dd := some 15) rfl rfl (op_fld_fz (by decide) rfl (Opd.tmp _ _ rfl) tR) ?_
        first | refine Run.load (dd := some 16) rfl rfl (op_load1_flat rfl (Opd.tmp _ _ rfl) tH rfl) ?_ | refine Run.pure (dd := some 16) rfl rfl (op_load1_fz rfl (Opd.tmp _ _ rfl) rfl) ?_ | refine Run.load (dd := some 16) rfl rfl (op_load1_refs rfl (Opd.tmp _ _ rfl) tH rfl) ?_
        refine Run.pure (dd := some 17) rfl rfl (op_lss rfl (Opd.tmp _ _ rfl) (Opd.tmp _ _ rfl)) ?_
        refine Run.nil (FinR.mk ?_)
        refine nK ?_
        refine n_cond _ rfl (fun hb => ?_) (fun hb => ?_)
        · have hlh : lo < r.hi := by simpa using hb
          cases tail with
          | nil => have := chain_nil hc; omega
          | cons q tl =>
          obtain ⟨hqa, hc2⟩ := hc
          have hq : q ∈ vis r 32 0 := by rw [hv]; simp
          obtain ⟨hq1, hq2, hq3⟩ := vis_ok hq
          have hqd := ((valid_iff q).1 hq1).2
          have hql := valid_len hq1
          have hqh := hob_le q
          have hle2 := chain_le hc2
          have hfin := hK1b (part ++ [q], tl, lo + sz q) ⟨by rw [hv]; simp, hc2⟩ (by simp)
          refine nK ?_
          refine s_reg rfl ?_
          first | refine Run.pure (dd := some 6) rfl rfl (op_assign rfl (Opd.const _)) ?_ | refine Run.pure (dd := some 6) rfl rfl (op_junk (.inr rfl)) ?_
          refine Run.nil (FinR.mk ?_)
          refine nK ?_
          refine n_loop (ι := Nat) (fun n => ([(0, .fz (VS l)), (3, .sl 0 2 0 (pre ++ part).length), (5, .ptr 1 2 0 0), (6, IV .i64 n), (7, .fz (VS l)), (8, IV .i64 l.length), (9, IV .i64 i)], [(0, OP (pre ++ part)), (1, some (.flat 2 [[If .u64 lo, If .u64 r.hi]]))], 2)) (fun n => n ≤ 32 ∧ 32 ≤ n + hob q) (fun n => n) 32 ⟨by omega, by omega⟩ ?_ ?_
          · refine Next.weakS [3, 5] [] (by rfl) (by first | exact keeps0 hC _ | exact keepsN hC _ rfl) (by repeat (first | exact trivial | refine ⟨⟨_, rfl, .inl ⟨rfl, rfl⟩⟩, ?_⟩ | refine ⟨⟨_, rfl, .inl ⟨slEq rfl tN, rfl⟩⟩, ?_⟩ | refine ⟨⟨_, rfl, .inl ⟨ivEq tX, rfl⟩⟩, ?_⟩)) (by repeat (first | exact trivial | refine ⟨⟨rfl, rfl, rfl, tL⟩, ?_⟩ | refine ⟨⟨rfl, rfl, rfEq rfl tU, tL⟩, ?_⟩ | refine ⟨⟨rfl, rfl, flEq rfl (by first | (simp; done) | (simp; omega) | (simp [encP]; done) | simp [maxC, minC]), trivial⟩, ?_⟩)) rfl (rel_intro)
          · intro n ⟨hn1, hn2⟩ K2 hK2
            have hp1 : 2 ^ (33 - n) ≤ 2 ^ 33 := Nat.pow_le_pow_right (by omega) (by omega)
            have hp0 := Nat.two_pow_pos (33 - n)
            refine nK ?_
            refine s_draw mixed ?_
            first | refine Run.pure (dd := some 18) rfl rfl (op_move rfl (Opd.tmp _ _ rfl)) ?_ | refine Run.pure (dd := some 18) rfl rfl (op_junk (.inl rfl)) ?_
            refine Run.pure (dd := some 19) rfl rfl (op_gtr rfl (Opd.tmp _ _ rfl) (Opd.const _)) ?_
            first | refine Run.pure (dd := some 20) rfl rfl (op_move rfl (Opd.tmp _ _ rfl)) ?_ | refine Run.pure (dd := some 20) rfl rfl (op_junk (.inl rfl)) ?_
            first | refine Run.pureG (dd := some 21) rfl rfl rfl tG (op_fld_ptr (by decide) rfl (Opd.tmp _ _ rfl)) ?_ | refine Run.pureG (dd := some 21) rfl rfl rfl tG (op_fld_fz (by decide) rfl (Opd.tmp _ _ rfl) tR) ?_
            first | refine Run.loadG (dd := some 22) rfl rfl rfl tG (op_load1_flat rfl (Opd.topt _ _ _ rfl tO) tH rfl) ?_ | refine Run.pureG (dd := some 22) rfl rfl rfl tG (op_load1_fz rfl (Opd.topt _ _ _ rfl tO) rfl) ?_ | refine Run.loadG (dd := some 22) rfl rfl rfl tG (op_load1_refs rfl (Opd.topt _ _ _ rfl tO) tH rfl) ?_
            first | refine Run.pureG (dd := some 23) rfl rfl rfl tG (op_move rfl (Opd.tmp _ _ rfl)) ?_ | refine Run.pureG (dd := some 23) rfl rfl rfl tG (op_junk (.inl rfl)) ?_
            refine Run.pureG (dd := some 24) rfl rfl rfl tG (op_sub rfl (Opd.const _) (Opd.topt _ _ _ rfl tO) tI) ?_
            refine Run.pureG (dd := some 25) rfl rfl rfl tG (op_shlN (m := 1) (33 - n) rfl (Opd.const _) (Opd.topt _ _ _ rfl tO) (by intro _; simp only [IntKind.bits, inr]; omega)) ?_
            refine Run.pureG (dd := some 26) rfl rfl rfl tG (op_rem rfl (Opd.topt _ _ _ rfl tO) (Opd.topt _ _ _ rfl tO) tM) ?_
            refine Run.pureG (dd := some 27) rfl rfl rfl tG (op_eql rfl (Opd.topt _ _ _ rfl tO) (Opd.const _)) ?_
            refine Run.pure (dd := some 28) rfl rfl (op_pick_and rfl (Opd.tmp _ _ rfl) (Opd.topt _ _ _ rfl tO)) ?_
            first | refine Run.pure (dd := some 29) rfl rfl (op_move rfl (Opd.tmp _ _ rfl)) ?_ | refine Run.pure (dd := some 29) rfl rfl (op_junk (.inl rfl)) ?_
            first | refine Run.pureG (dd := some 30) rfl rfl rfl tG (op_fld_ptr (by decide) rfl (Opd.tmp _ _ rfl)) ?_ | refine Run.pureG (dd := some 30) rfl rfl rfl tG (op_fld_fz (by decide) rfl (Opd.tmp _ _ rfl) tR) ?_
            first | refine Run.loadG (dd := some 31) rfl rfl rfl tG (op_load1_flat rfl (Opd.topt _ _ _ rfl tO) tH rfl) ?_ | refine Run.pureG (dd := some 31) rfl rfl rfl tG (op_load1_fz rfl (Opd.topt _ _ _ rfl tO) rfl) ?_ | refine Run.loadG (dd := some 31) rfl rfl rfl tG (op_load1_refs rfl (Opd.topt _ _ _ rfl tO) tH rfl) ?_
            first | refine Run.pureG (dd := some 32) rfl rfl rfl tG (op_move rfl (Opd.tmp _ _ rfl)) ?_ | refine Run.pureG (dd := some 32) rfl rfl rfl tG (op_junk (.inl rfl)) ?_
            refine Run.pureG (dd := some 33) rfl rfl rfl tG (op_sub rfl (Opd.const _) (Opd.topt _ _ _ rfl tO) tI) ?_
            refine Run.pureG (dd := some 34) rfl rfl rfl tG (op_shlN (m := 1) (33 - n) rfl (Opd.const _) (Opd.topt _ _ _ rfl tO) (by intro _; simp only [IntKind.bits, inr]; omega)) ?_
            refine Run.pureG (dd := some 35) rfl rfl rfl tG (op_add rfl (Opd.topt _ _ _ rfl tO) (Opd.topt _ _ _ rfl tO) tI) ?_
            first | refine Run.pureG (dd := some 36) rfl rfl rfl tG (op_fld_ptr (by decide) rfl (Opd.tmp _ _ rfl)) ?_ | refine Run.pureG (dd := some 36) rfl rfl rfl tG (op_fld_fz (by decide) rfl (Opd.tmp _ _ rfl) tR) ?_
            first | refine Run.loadG (dd := some 37) rfl rfl rfl tG (op_load1_flat rfl (Opd.topt _ _ _ rfl tO) tH rfl) ?_ | refine Run.pureG (dd := some 37) rfl rfl rfl tG (op_load1_fz rfl (Opd.topt _ _ _ rfl tO) rfl) ?_ | refine Run.loadG (dd := some 37) rfl rfl rfl tG (op_load1_refs rfl (Opd.topt _ _ _ rfl tO) tH rfl) ?_
            refine Run.pureG (dd := some 38) rfl rfl rfl tG (op_leq rfl (Opd.topt _ _ _ rfl tO) (Opd.topt _ _ _ rfl tO)) ?_
            refine Run.pure (dd := some 39) rfl rfl (op_pick_and rfl (Opd.tmp _ _ rfl) (Opd.topt _ _ _ rfl tO)) ?_
            refine Run.nil (FinD.mk (by kernel_rfl) ?_)
            refine nK ?_
            refine n_cond _ rfl (fun hb => ?_) (fun hb => ?_)
            · simp only [Bool.and_eq_true, decide_eq_true_eq] at hb
              obtain ⟨⟨hb1, hb2⟩, hb3⟩ := hb
              have hd : 2 ^ (33 - n) ∣ q.addr := by rw [hqa]; exact Nat.dvd_of_mod_eq_zero (by rw [Nat.one_mul] at hb2; exact_mod_cast hb2)
              have := max_blk hq (j := 33 - n) (by omega) hd (by omega)
              refine nK ?_
              refine s_reg rfl ?_
              first | refine Run.pure (dd := some 40) rfl rfl (op_move rfl (Opd.tmp _ _ rfl)) ?_ | refine Run.pure (dd := some 40) rfl rfl (op_junk (.inl rfl)) ?_
              refine Run.pure (dd := some 41) rfl rfl (op_sub rfl (Opd.tmp _ _ rfl) (Opd.const _) tI) ?_
              first | refine Run.pure (dd := some 6) rfl rfl (op_assign rfl (Opd.tmp _ _ rfl)) ?_ | refine Run.pure (dd := some 6) rfl rfl (op_junk (.inr rfl)) ?_
              refine Run.nil (FinR.mk ?_)
              refine nK ?_
              refine Next.weakS [3, 5] [] (by rfl) (by first | exact keeps0 hC _ | exact keepsN hC _ rfl) (by repeat (first | exact trivial | refine ⟨⟨_, rfl, .inl ⟨rfl, rfl⟩⟩, ?_⟩ | refine ⟨⟨_, rfl, .inl ⟨slEq rfl tN, rfl⟩⟩, ?_⟩ | refine ⟨⟨_, rfl, .inl ⟨ivEq tX, rfl⟩⟩, ?_⟩)) (by repeat (first | exact trivial | refine ⟨⟨rfl, rfl, rfl, tL⟩, ?_⟩ | refine ⟨⟨rfl, rfl, rfEq rfl tU, tL⟩, ?_⟩ | refine ⟨⟨rfl, rfl, flEq rfl (by first | (simp; done) | (simp; omega) | (simp [encP]; done) | simp [maxC, minC]), trivial⟩, ?_⟩)) rfl (hK2 (n - 1) ⟨by omega, by omega⟩ (by omega))
            · have hne : n + hob q = 32 := by
                rcases Nat.lt_or_ge 32 (n + hob q) with h | h
                · exfalso
                  have e1 : 33 - n ≤ hob q := by omega
                  have e2 : 2 ^ (33 - n) ∣ q.addr := Nat.dvd_trans (Nat.pow_dvd_pow 2 e1) hqd
                  have e3 : 2 ^ (33 - n) ≤ sz q := Nat.pow_le_pow_right (by omega) e1
                  rw [hqa] at e2 hq3
                  have e4 := Nat.mod_eq_zero_of_dvd e2
                  have hb2 : ¬ ((0 < (n : Int) ∧ (lo : Int) % ((1 * 2 ^ (33 - n) : Nat) : Int) = 0) ∧ (lo : Int) + ((1 * 2 ^ (33 - n) : Nat) : Int) ≤ r.hi) := by simpa using hb
                  apply hb2
                  rw [Nat.one_mul]
                  refine ⟨⟨by omega, by omega⟩, by omega⟩
                · omega
              have hqe : q = ⟨lo, (n : Int)⟩ := by
                cases q; simp only at hqa hql; simp only [Pfx.mk.injEq]; exact ⟨hqa, by omega⟩
              have hsz : sz q = 1 * 2 ^ (32 - n) := by rw [Nat.one_mul]; unfold sz; congr 1; omega
              have hp3 : 2 ^ (32 - n) ≤ 2 ^ 32 := Nat.pow_le_pow_right (by omega) (by omega)
              rw [hsz, hqe] at hfin
              have hsz2 := sz_pos q
              have hppl : (pre ++ part).length = pre.length + part.length := by simp
              refine nK ?_
              refine s_reg rfl ?_
              first | refine Run.pure (dd := some 42) rfl rfl (op_move rfl (Opd.tmp _ _ rfl)) ?_ | refine Run.pure (dd := some 42) rfl rfl (op_junk (.inl rfl)) ?_
              first | refine Run.pure (dd := some 43) rfl rfl (op_fld_ptr (by decide) rfl (Opd.tmp _ _ rfl)) ?_ | refine Run.pure (dd := some 43) rfl rfl (op_fld_fz (by decide) rfl (Opd.tmp _ _ rfl) tR) ?_
              first | refine Run.load (dd := some 44) rfl rfl (op_load1_flat rfl (Opd.tmp _ _ rfl) tH rfl) ?_ | refine Run.pure (dd := some 44) rfl rfl (op_load1_fz rfl (Opd.tmp _ _ rfl) rfl) ?_ | refine Run.load (dd := some 44) rfl rfl (op_load1_refs rfl (Opd.tmp _ _ rfl) tH rfl) ?_
              refine Run.pure (dd := some 45) rfl rfl (op_conv rfl (Opd.tmp _ _ rfl) tI) ?_
              first | refine Run.pure (dd := some 46) rfl rfl (op_move rfl (Opd.tmp _ _ rfl)) ?_ | refine Run.pure (dd := some 46) rfl rfl (op_junk (.inl rfl)) ?_
              first | refine Run.pure (dd := some 47) rfl rfl (op_build rfl rfl rfl (FillF.cons _ _ _ _ _ _ _ _ _ _ (by rfl) (Opd.tmp _ _ rfl) tC (by rfl) tR (FillF.cons _ _ _ _ _ _ _ _ _ _ (by rfl) (Opd.tmp _ _ rfl) tC (by rfl) tR (FillF.nil _)))) ?_ | refine Run.pure (dd := some 47) rfl rfl (op_buildP rfl rfl rfl rfl (FillP.cons _ _ _ _ _ _ _ _ _ _ (by rfl) (Opd.tmp _ _ rfl) tP (by rfl) tR (FillP.cons _ _ _ _ _ _ _ _ _ _ (by rfl) (Opd.tmp _ _ rfl) tP (by rfl) tR (FillP.nil _)))) ?_
              refine Run.pure (dd := some 48) rfl rfl (op_buildSlice_fz rfl (RowsF.cons _ _ _ _ _ _ (Opd.tmp _ _ rfl) tC (by rfl) (RowsF.nil _)) rfl rfl) ?_
              first | refine Run.eff (dd := some 49) rfl rfl (op_append_own0 rfl (Opd.tmp _ _ rfl) (Opd.tmp _ _ rfl) rfl (by first | rfl | simp) rfl (by first | rfl | simp) rfl rfl tB tB) ?_ | refine Run.eff (dd := some 49) rfl rfl (op_append rfl (Opd.tmp _ _ rfl) (by first | exact Opd.tmp _ _ rfl | exact Opd.nil _ _ (Opd.tmp _ _ rfl)) rfl (by first | rfl | simp) rfl rfl tB tB) ?_
              first | refine Run.pure (dd := some 3) rfl rfl (op_assign rfl (Opd.tmp _ _ rfl)) ?_ | refine Run.pure (dd := some 3) rfl rfl (op_junk (.inr rfl)) ?_
              refine Run.nil (FinR.mk ?_)
              refine nK ?_
              refine s_draw mixed ?_
              first | refine Run.pure (dd := some 50) rfl rfl (op_fld_ptr (by decide) rfl (Opd.tmp _ _ rfl)) ?_ | refine Run.pure (dd := some 50) rfl rfl (op_fld_fz (by decide) rfl (Opd.tmp _ _ rfl) tR) ?_
              first | refine Run.load (dd := some 51) rfl rfl (op_load1_flat rfl (Opd.tmp _ _ rfl) tH rfl) ?_ | refine Run.pure (dd := some 51) rfl rfl (op_load1_fz rfl (Opd.tmp _ _ rfl) rfl) ?_ | refine Run.load (dd := some 51) rfl rfl (op_load1_refs rfl (Opd.tmp _ _ rfl) tH rfl) ?_
              first | refine Run.pure (dd := some 52) rfl rfl (op_move rfl (Opd.tmp _ _ rfl)) ?_ | refine Run.pure (dd := some 52) rfl rfl (op_junk (.inl rfl)) ?_
              refine Run.pure (dd := some 53) rfl rfl (op_sub rfl (Opd.const _) (Opd.tmp _ _ rfl) tI) ?_
              refine Run.pure (dd := some 54) rfl rfl (op_shlN (m := 1) (32 - n) rfl (Opd.const _) (Opd.tmp _ _ rfl) (by intro _; simp only [IntKind.bits, inr]; omega)) ?_
              refine Run.pure (dd := some 55) rfl rfl (op_add rfl (Opd.tmp _ _ rfl) (Opd.tmp _ _ rfl) tI) ?_
              first | refine Run.pure (dd := some 56) rfl rfl (op_fld_ptr (by decide) rfl (Opd.tmp _ _ rfl)) ?_ | refine Run.pure (dd := some 56) rfl rfl (op_fld_fz (by decide) rfl (Opd.tmp _ _ rfl) tR) ?_
              first | refine Run.effW (dd := none) rfl rfl (op_store_flat rfl (Opd.tmp _ _ rfl) (Opd.tmp _ _ rfl) tC rfl rfl (by first | rfl | assumption) tS) tE ?_ | refine Run.effW (dd := none) rfl rfl (op_store_refs rfl (Opd.tmp _ _ rfl) (Opd.tmp _ _ rfl) tP rfl rfl rfl tS) tE ?_
              refine Run.nil (FinD.mk (by kernel_rfl) ?_)
              refine nK ?_
              refine Next.weakS [3, 5] [] (by rfl) (by first | exact keeps0 hC _ | exact keepsN hC _ rfl) (by repeat (first | exact trivial | refine ⟨⟨_, rfl, .inl ⟨rfl, rfl⟩⟩, ?_⟩ | refine ⟨⟨_, rfl, .inl ⟨slEq rfl tN, rfl⟩⟩, ?_⟩ | refine ⟨⟨_, rfl, .inl ⟨ivEq tX, rfl⟩⟩, ?_⟩)) (by repeat (first | exact trivial | refine ⟨⟨rfl, rfl, rfl, tL⟩, ?_⟩ | refine ⟨⟨rfl, rfl, rfEq rfl tU, tL⟩, ?_⟩ | refine ⟨⟨rfl, rfl, flEq rfl (by first | (simp; done) | (simp; omega) | (simp [encP]; done) | simp [maxC, minC]), trivial⟩, ?_⟩)) rfl (hfin)
        · have hlh : ¬ lo < r.hi := by simpa using hb
          have htl2 : tail = [] := by
            cases tail with
            | nil => rfl
            | cons q tl =>
              have := sz_pos q
              have h2 := chain_le hc.2
              omega
          subst htl2
          rw [List.append_nil] at hv
          rw [hv] at hK1
          refine nK ?_
          refine s_reg rfl ?_
          refine Run.pure (dd := some 57) rfl rfl (op_add rfl (Opd.tmp _ _ rfl) (Opd.const _) tI) ?_
          first | refine Run.pure (dd := some 9) rfl rfl (op_move rfl (Opd.tmp _ _ rfl)) ?_ | refine Run.pure (dd := some 9) rfl rfl (op_junk (.inl rfl)) ?_
          refine Run.nil (FinR.mk ?_)
          refine nK ?_
          refine Next.weakS [3] [] (by rfl) (by first | exact keeps0 hC _ | exact keepsN hC _ rfl) (by repeat (first | exact trivial | refine ⟨⟨_, rfl, .inl ⟨rfl, rfl⟩⟩, ?_⟩ | refine ⟨⟨_, rfl, .inl ⟨slEq rfl tN, rfl⟩⟩, ?_⟩ | refine ⟨⟨_, rfl, .inl ⟨ivEq tX, rfl⟩⟩, ?_⟩)) (by repeat (first | exact trivial | refine ⟨⟨rfl, rfl, rfl, tL⟩, ?_⟩ | refine ⟨⟨rfl, rfl, rfEq rfl tU, tL⟩, ?_⟩ | refine ⟨⟨rfl, rfl, flEq rfl (by first | (simp; done) | (simp; omega) | (simp [encP]; done) | simp [maxC, minC]), trivial⟩, ?_⟩)) rfl (hK1)
    · have hie : i = l.length := by simp at hb; omega
      rw [hie, List.take_length]
      refine nK ?_
      refine s_reg rfl ?_
      first | refine Run.pure (dd := some 58) rfl rfl (op_move rfl (Opd.tmp _ _ rfl)) ?_ | refine Run.pure (dd := some 58) rfl rfl (op_junk (.inl rfl)) ?_
      first | refine Run.pure (dd := some 2) rfl rfl (op_assign rfl (Opd.tmp _ _ rfl)) ?_ | refine Run.pure (dd := some 2) rfl rfl (op_junk (.inr rfl)) ?_
      refine Run.nil (FinR.mk ?_)
      refine nK ?_
      (first | exact s_o1 hC rfl tV | exact s_o2 hC rfl tV tV | exact s_o3 hC rfl tV tV tV | exact s_out0 hC rfl | exact s_outO hC rfl rfl rfl)
theorem rnormal_c (l : List Pfx) (hl : okL l) (hn : l.length ≤ 1000000) : Pure Try.prog 28 [VP l] (VP (prefsF (spansOf l))) := by
  obtain ⟨h1, h2, h3, h4⟩ := spans_spec hl
  refine Meets.intro Try.func28 rfl (Nat.le_of_ble_eq_true rfl) fun C hC => ?_
  simp only [List.map, argEnv, Nat.reduceAdd]
  refine nK ?_
  refine s_reg rfl ?_
  first | refine Run.pure (dd := some 2) rfl rfl (op_assign rfl (Opd.const _)) ?_ | refine Run.pure (dd := some 2) rfl rfl (op_junk (.inr rfl)) ?_
  refine Run.nil (FinR.mk ?_)
  refine nK ?_
  refine s_reg rfl ?_
  first | refine Run.pure (dd := some 3) rfl rfl (op_move rfl (Opd.tmp _ _ rfl)) ?_ | refine Run.pure (dd := some 3) rfl rfl (op_junk (.inl rfl)) ?_
  refine Run.pure (dd := some 4) rfl rfl (op_call_pure (fun _ => rspans_c _ (by assumption) (by omega)) rfl (Opd.func _) (Opds.cons _ _ _ _ (Opd.tmp _ _ rfl) Opds.nil)) ?_
  refine Run.pure (dd := some 5) rfl rfl (op_call_pure (fun _ => rprefs_c _ (by assumption) (by omega)) rfl (Opd.func _) (Opds.cons _ _ _ _ (Opd.tmp _ _ rfl) Opds.nil)) ?_
  first | refine Run.pure (dd := some 2) rfl rfl (op_assign rfl (Opd.tmp _ _ rfl)) ?_ | refine Run.pure (dd := some 2) rfl rfl (op_junk (.inr rfl)) ?_
  refine Run.nil (FinR.mk ?_)
  refine nK ?_
  (first | exact s_o1 hC rfl tV | exact s_o2 hC rfl tV tV | exact s_o3 hC rfl tV tV tV | exact s_out0 hC rfl | exact s_outO hC rfl rfl rfl)
theorem ris_c (l : List Pfx) (hl : okL l) (hn : l.length ≤ 1000000) : Pure Try.prog 30 [VP l] (Bf (decide (l = prefsF (spansOf l)))) := by
  obtain ⟨h1, h2, h3, h4⟩ := spans_spec hl
  have := prefs_len (spansOf l)
  refine Meets.intro Try.func30 rfl (Nat.le_of_ble_eq_true rfl) fun C hC => ?_
  simp only [List.map, argEnv, Nat.reduceAdd]
  refine nK ?_
  refine s_reg rfl ?_
  first | refine Run.pure (dd := some 2) rfl rfl (op_assign rfl (Opd.const _)) ?_ | refine Run.pure (dd := some 2) rfl rfl (op_junk (.inr rfl)) ?_
  refine Run.nil (FinR.mk ?_)
  refine nK ?_
  refine s_reg rfl ?_
  first | refine Run.pure (dd := some 3) rfl rfl (op_move rfl (Opd.tmp _ _ rfl)) ?_ | refine Run.pure (dd := some 3) rfl rfl (op_junk (.inl rfl)) ?_
  first | refine Run.pure (dd := some 4) rfl rfl (op_move rfl (Opd.tmp _ _ rfl)) ?_ | refine Run.pure (dd := some 4) rfl rfl (op_junk (.inl rfl)) ?_
  refine Run.pure (dd := some 5) rfl rfl (op_call_pure (fun _ => rnormal_c _ (by assumption) (by omega)) rfl (Opd.func _) (Opds.cons _ _ _ _ (Opd.tmp _ _ rfl) Opds.nil)) ?_
  refine Run.pure (dd := some 6) rfl rfl (op_call_pure (fun _ => same_any _ _ (by omega) (by omega)) rfl (Opd.func _) (Opds.cons _ _ _ _ (Opd.tmp _ _ rfl) (Opds.cons _ _ _ _ (Opd.tmp _ _ rfl) Opds.nil))) ?_
  first | refine Run.pure (dd := some 2) rfl rfl (op_assign rfl (Opd.tmp _ _ rfl)) ?_ | refine Run.pure (dd := some 2) rfl rfl (op_junk (.inr rfl)) ?_
  refine Run.nil (FinR.mk ?_)
  refine nK ?_
  (first | exact s_o1 hC rfl tV | exact s_o2 hC rfl tV tV | exact s_o3 hC rfl tV tV tV | exact s_out0 hC rfl | exact s_outO hC rfl rfl rfl)
theorem runion_c (a b : List Pfx) (ha : okL a) (hb : okL b) (hn : a.length + b.length ≤ 1000000) : Pure Try.prog 19 [VP a, VP b] (VP (prefsF (spansOf (a ++ b)))) := by
  have hab : okL (a ++ b) := fun p hp => by
    rcases List.mem_append.1 hp with h | h
    · exact ha p h
    · exact hb p h
  have hlen : (a ++ b).length ≤ 1000000 := by simp; omega
  refine Meets.intro Try.func19 rfl (Nat.le_of_ble_eq_true rfl) fun C hC => ?_
  simp only [List.map, argEnv, Nat.reduceAdd]
  refine nK ?_
  refine s_reg rfl ?_
  first | refine Run.pure (dd := some 4) rfl rfl (op_assign rfl (Opd.const _)) ?_ | refine Run.pure (dd := some 4) rfl rfl (op_junk (.inr rfl)) ?_
  refine Run.nil (FinR.mk ?_)
  refine nK ?_
  refine s_reg rfl ?_
  first | refine Run.pure (dd := some 5) rfl rfl (op_assign rfl (Opd.const _)) ?_ | refine Run.pure (dd := some 5) rfl rfl (op_junk (.inr rfl)) ?_
  refine Run.nil (FinR.mk ?_)
  refine nK ?_
  refine Next.adopt 5 2 rfl ?_
  refine s_reg rfl ?_
  first | refine Run.pure (dd := some 6) rfl rfl (op_move rfl (Opd.tmp _ _ rfl)) ?_ | refine Run.pure (dd := some 6) rfl rfl (op_junk (.inl rfl)) ?_
  first | refine Run.pure (dd := some 7) rfl rfl (op_move rfl (Opd.tmp _ _ rfl)) ?_ | refine Run.pure (dd := some 7) rfl rfl (op_junk (.inl rfl)) ?_
  first | refine Run.eff (dd := some 8) rfl rfl (op_append_own0 rfl (Opd.tmp _ _ rfl) (Opd.tmp _ _ rfl) rfl (by first | rfl | simp) rfl (by first | rfl | simp) rfl rfl tB tB) ?_ | refine Run.eff (dd := some 8) rfl rfl (op_append rfl (Opd.tmp _ _ rfl) (by first | exact Opd.tmp _ _ rfl | exact Opd.nil _ _ (Opd.tmp _ _ rfl)) rfl (by first | rfl | simp) rfl rfl tB tB) ?_
  first | refine Run.pure (dd := some 5) rfl rfl (op_assign rfl (Opd.tmp _ _ rfl)) ?_ | refine Run.pure (dd := some 5) rfl rfl (op_junk (.inr rfl)) ?_
  refine Run.nil (FinR.mk ?_)
  refine nK ?_
  refine s_reg rfl ?_
  first | refine Run.pure (dd := some 9) rfl rfl (op_move rfl (Opd.tmp _ _ rfl)) ?_ | refine Run.pure (dd := some 9) rfl rfl (op_junk (.inl rfl)) ?_
  first | refine Run.pure (dd := some 10) rfl rfl (op_move rfl (Opd.tmp _ _ rfl)) ?_ | refine Run.pure (dd := some 10) rfl rfl (op_junk (.inl rfl)) ?_
  first | refine Run.eff (dd := some 11) rfl rfl (op_append_own0 rfl (Opd.tmp _ _ rfl) (Opd.tmp _ _ rfl) rfl (by first | rfl | simp) rfl (by first | rfl | simp) rfl rfl tB tB) ?_ | refine Run.eff (dd := some 11) rfl rfl (op_append rfl (Opd.tmp _ _ rfl) (by first | exact Opd.tmp _ _ rfl | exact Opd.nil _ _ (Opd.tmp _ _ rfl)) rfl (by first | rfl | simp) rfl rfl tB tB) ?_
  first | refine Run.pure (dd := some 5) rfl rfl (op_assign rfl (Opd.tmp _ _ rfl)) ?_ | refine Run.pure (dd := some 5) rfl rfl (op_junk (.inr rfl)) ?_
  refine Run.nil (FinR.mk ?_)
  refine nK ?_
  refine Next.weakS [] [5] (by rfl) (keeps0 hC _) (G' := [(5, .fz (VP (a ++ b)))]) (H' := []) (by repeat (first | exact trivial | refine ⟨⟨_, rfl, .inl ⟨rfl, rfl⟩⟩, ?_⟩ | refine ⟨⟨_, rfl, .inl ⟨slEq rfl tN, rfl⟩⟩, ?_⟩ | refine ⟨⟨_, rfl, .inl ⟨ivEq tX, rfl⟩⟩, ?_⟩ | refine ⟨⟨_, rfl, .inr ⟨_, rfl, .sl _ _ 0 _ _ _ rfl rfl (take0 (by first | rfl | (simp; done) | (simp; omega)) (by simp)) (by simp)⟩⟩, ?_⟩)) trivial rfl ?_
  refine s_reg rfl ?_
  first | refine Run.pure (dd := some 12) rfl rfl (op_move rfl (Opd.tmp _ _ rfl)) ?_ | refine Run.pure (dd := some 12) rfl rfl (op_junk (.inl rfl)) ?_
  refine Run.pure (dd := some 13) rfl rfl (op_call_pure (fun _ => rnormal_c _ (by assumption) (by omega)) rfl (Opd.func _) (Opds.cons _ _ _ _ (Opd.tmp _ _ rfl) Opds.nil)) ?_
  first | refine Run.pure (dd := some 4) rfl rfl (op_assign rfl (Opd.tmp _ _ rfl)) ?_ | refine Run.pure (dd := some 4) rfl rfl (op_junk (.inr rfl)) ?_
  refine Run.nil (FinR.mk ?_)
  refine nK ?_
  (first | exact s_o1 hC rfl tV | exact s_o2 hC rfl tV tV | exact s_o3 hC rfl tV tV tV | exact s_out0 hC rfl | exact s_outO hC rfl rfl rfl)
theorem rboth_c (a b : List Spn) (ha : okS a) (hb0 : okS b) (hn : a.length * b.length ≤ 1000000) (hna : a.length ≤ 1000000) (hnb : b.length ≤ 1000000) : Pure Try.prog 43 [VS a, VS b] (VS (interS a b)) := by
  have hok := meetS_ok (b := b) ha
  have hml := meet_len a b
  refine Meets.intro Try.func43 rfl (Nat.le_of_ble_eq_true rfl) fun C hC => ?_
  simp only [List.map, argEnv, Nat.reduceAdd]
  refine nK ?_
  refine s_reg rfl ?_
  first | refine Run.pure (dd := some 4) rfl rfl (op_assign rfl (Opd.const _)) ?_ | refine Run.pure (dd := some 4) rfl rfl (op_junk (.inr rfl)) ?_
  refine Run.nil (FinR.mk ?_)
  refine nK ?_
  refine s_reg rfl ?_
  first | refine Run.pure (dd := some 5) rfl rfl (op_assign rfl (Opd.const _)) ?_ | refine Run.pure (dd := some 5) rfl rfl (op_junk (.inr rfl)) ?_
  refine Run.nil (FinR.mk ?_)
  refine nK ?_
  refine s_reg rfl ?_
  first | refine Run.pure (dd := some 11) rfl rfl (op_move rfl (Opd.tmp _ _ rfl)) ?_ | refine Run.pure (dd := some 11) rfl rfl (op_junk (.inl rfl)) ?_
  first | refine Run.pure (dd := some 12) rfl rfl (op_len_fz rfl (by first | exact Opd.tmp _ _ rfl | exact Opd.nil _ _ (Opd.tmp _ _ rfl)) (by first | exact List.length_map _ | rfl)) ?_ | refine Run.pure (dd := some 12) rfl rfl (op_len_sl rfl (Opd.tmp _ _ rfl)) ?_
  first | refine Run.pure (dd := some 13) rfl rfl (op_move rfl (Opd.const _)) ?_ | refine Run.pure (dd := some 13) rfl rfl (op_junk (.inl rfl)) ?_
  refine Run.nil (FinR.mk ?_)
  refine nK ?_
  refine Next.adopt 5 2 rfl ?_
  refine n_loop (ι := Nat) (fun i => ([(0, .fz (VS a)), (1, .fz (VS b)), (5, .sl 0 2 0 (meetS (a.take i) b).length), (11, .fz (VS a)), (12, IV .i64 a.length), (13, IV .i64 i)], [(0, OS (meetS (a.take i) b))], 1)) (fun i => i ≤ a.length) (fun i => a.length - i) 0 (Nat.zero_le _) ?_ ?_
  · refine Next.weakS [5] [] (by rfl) (by first | exact keeps0 hC _ | exact keepsN hC _ rfl) (by repeat (first | exact trivial | refine ⟨⟨_, rfl, .inl ⟨rfl, rfl⟩⟩, ?_⟩ | refine ⟨⟨_, rfl, .inl ⟨slEq rfl tN, rfl⟩⟩, ?_⟩ | refine ⟨⟨_, rfl, .inl ⟨ivEq tX, rfl⟩⟩, ?_⟩)) (by repeat (first | exact trivial | refine ⟨⟨rfl, rfl, rfl, tL⟩, ?_⟩ | refine ⟨⟨rfl, rfl, rfEq rfl tU, tL⟩, ?_⟩ | refine ⟨⟨rfl, rfl, flEq rfl (by first | (simp; done) | (simp; omega) | (simp [encP]; done) | simp [maxC, minC]), trivial⟩, ?_⟩)) rfl (rel_intro)
  · intro i hi K hK
    refine nK ?_
    refine s_reg rfl ?_
    refine Run.pure (dd := some 14) rfl rfl (op_lss rfl (Opd.tmp _ _ rfl) (Opd.tmp _ _ rfl)) ?_
    refine Run.nil (FinR.mk ?_)
    refine nK ?_
    refine n_cond _ rfl (fun hb => ?_) (fun hb => ?_)
    · have hlt : i < a.length := by simp at hb; omega
      have hr1 := row_at encS a i hlt
      have hs := ha a[i] (List.getElem_mem hlt)
      have hK1 := hK (i + 1) (by omega) (by omega)
      rw [meet_succ a b i hlt] at hK1
      have hl1 : (meetS (a.take i) b).length ≤ 1000000 := by
        have h1 := meet_len (a.take i) b
        have h2 : (a.take i).length * b.length ≤ a.length * b.length := Nat.mul_le_mul_right _ (by simp; omega)
        omega
      generalize meetS (a.take i) b = pre at *
      generalize a[i] = s at *
      refine nK ?_
      refine s_reg rfl ?_
      first | refine Run.pure (dd := some 15) rfl rfl (op_idx_sl0 _ rfl (Opd.tmp _ _ rfl) (Opd.tmp _ _ rfl) tD) ?_ | refine Run.pure (dd := some 15) rfl rfl (op_idx_fz _ rfl (Opd.tmp _ _ rfl) (Opd.tmp _ _ rfl) tF) ?_
      first | refine Run.load (dd := some 16) rfl rfl (op_loadw_flat rfl (Opd.tmp _ _ rfl) tH rfl) ?_ | refine Run.pure (dd := some 16) rfl rfl (op_loadw_fz rfl (Opd.tmp _ _ rfl) rfl) ?_ | refine Run.load (dd := some 16) rfl rfl (op_loadn_flat rfl (Opd.tmp _ _ rfl) tH tR tR) ?_ | refine Run.pure (dd := some 16) rfl rfl (op_loadn_fz rfl (Opd.tmp _ _ rfl) tR) ?_ | refine Run.load (dd := some 16) rfl rfl (op_loadn_refs rfl (Opd.tmp _ _ rfl) tH tR tR) ?_
      refine Run.eff (dd := some 7) rfl rfl (op_alloc rfl rfl rfl rfl) ?_
      first | refine Run.eff (dd := none) rfl rfl (op_store_flat rfl (Opd.tmp _ _ rfl) (Opd.tmp _ _ rfl) tC rfl rfl (by first | rfl | assumption) tS) ?_ | refine Run.eff (dd := none) rfl rfl (op_store_refs rfl (Opd.tmp _ _ rfl) (Opd.tmp _ _ rfl) tP rfl rfl rfl tS) ?_
      refine Run.nil (FinR.mk ?_)
      refine nK ?_
      refine s_reg rfl ?_
      first | refine Run.pure (dd := some 17) rfl rfl (op_move rfl (Opd.tmp _ _ rfl)) ?_ | refine Run.pure (dd := some 17) rfl rfl (op_junk (.inl rfl)) ?_
      first | refine Run.pure (dd := some 18) rfl rfl (op_len_fz rfl (by first | exact Opd.tmp _ _ rfl | exact Opd.nil _ _ (Opd.tmp _ _ rfl)) (by first | exact List.length_map _ | rfl)) ?_ | refine Run.pure (dd := some 18) rfl rfl (op_len_sl rfl (Opd.tmp _ _ rfl)) ?_
      first | refine Run.pure (dd := some 19) rfl rfl (op_move rfl (Opd.const _)) ?_ | refine Run.pure (dd := some 19) rfl rfl (op_junk (.inl rfl)) ?_
      refine Run.nil (FinR.mk ?_)
      refine nK ?_
      refine n_loop (ι := Nat) (fun j => ([(0, .fz (VS a)), (1, .fz (VS b)), (5, .sl 0 2 0 (pre ++ meetS [s] (b.take j)).length), (7, .ptr 1 2 0 0), (11, .fz (VS a)), (12, IV .i64 a.length), (13, IV .i64 i), (17, .fz (VS b)), (18, IV .i64 b.length), (19, IV .i64 j)], [(0, OS (pre ++ meetS [s] (b.take j))), (1, some (.flat 2 [encS s]))], 2)) (fun j => j ≤ b.length) (fun j => b.length - j) 0 (Nat.zero_le _) ?_ ?_
      · refine Next.weakS [5, 7] [] (by rfl) (by first | exact keeps0 hC _ | exact keepsN hC _ rfl) (by repeat (first | exact trivial | refine ⟨⟨_, rfl, .inl ⟨rfl, rfl⟩⟩, ?_⟩ | refine ⟨⟨_, rfl, .inl ⟨slEq rfl tN, rfl⟩⟩, ?_⟩ | refine ⟨⟨_, rfl, .inl ⟨ivEq tX, rfl⟩⟩, ?_⟩)) (by repeat (first | exact trivial | refine ⟨⟨rfl, rfl, rfl, tL⟩, ?_⟩ | refine ⟨⟨rfl, rfl, rfEq rfl tU, tL⟩, ?_⟩ | refine ⟨⟨rfl, rfl, flEq rfl (by first | (simp; done) | (simp; omega) | (simp [encP]; done) | simp [maxC, minC]), trivial⟩, ?_⟩)) rfl (rel_intro)
      · intro j hj K1 hK2
        refine nK ?_
        refine s_reg rfl ?_
        refine Run.pure (dd := some 20) rfl rfl (op_lss rfl (Opd.tmp _ _ rfl) (Opd.tmp _ _ rfl)) ?_
        refine Run.nil (FinR.mk ?_)
        refine nK ?_
        refine n_cond _ rfl (fun hb => ?_) (fun hb => ?_)
        · have hjt : j < b.length := by simp at hb; omega
          have hr2 := row_at encS b j hjt
          have ht := hb0 b[j] (List.getElem_mem hjt)
          have hK3 := hK2 (j + 1) (by omega) (by omega)
          rw [meet_row s b j hjt] at hK3
          have hl2 : (meetS [s] (b.take j)).length ≤ 1000000 := by
            have h1 := meet_len [s] (b.take j)
            simp at h1; omega
          have hl3 : (pre ++ meetS [s] (b.take j)).length = pre.length + (meetS [s] (b.take j)).length := by simp
          generalize meetS [s] (b.take j) = row at *
          refine nK ?_
          refine s_reg rfl ?_
          first | refine Run.pure (dd := some 21) rfl rfl (op_idx_sl0 _ rfl (Opd.tmp _ _ rfl) (Opd.tmp _ _ rfl) tD) ?_ | refine Run.pure (dd := some 21) rfl rfl (op_idx_fz _ rfl (Opd.tmp _ _ rfl) (Opd.tmp _ _ rfl) tF) ?_
          first | refine Run.load (dd := some 22) rfl rfl (op_loadw_flat rfl (Opd.tmp _ _ rfl) tH rfl) ?_ | refine Run.pure (dd := some 22) rfl rfl (op_loadw_fz rfl (Opd.tmp _ _ rfl) rfl) ?_ | refine Run.load (dd := some 22) rfl rfl (op_loadn_flat rfl (Opd.tmp _ _ rfl) tH tR tR) ?_ | refine Run.pure (dd := some 22) rfl rfl (op_loadn_fz rfl (Opd.tmp _ _ rfl) tR) ?_ | refine Run.load (dd := some 22) rfl rfl (op_loadn_refs rfl (Opd.tmp _ _ rfl) tH tR tR) ?_
          refine Run.eff (dd := some 9) rfl rfl (op_alloc rfl rfl rfl rfl) ?_
          first | refine Run.eff (dd := none) rfl rfl (op_store_flat rfl (Opd.tmp _ _ rfl) (Opd.tmp _ _ rfl) tC rfl rfl (by first | rfl | assumption) tS) ?_ | refine Run.eff (dd := none) rfl rfl (op_store_refs rfl (Opd.tmp _ _ rfl) (Opd.tmp _ _ rfl) tP rfl rfl rfl tS) ?_
          refine Run.nil (FinR.mk ?_)
          refine nK ?_
          refine s_reg rfl ?_
          first | refine Run.pure (dd := some 23) rfl rfl (op_fld_ptr (by decide) rfl (Opd.tmp _ _ rfl)) ?_ | refine Run.pure (dd := some 23) rfl rfl (op_fld_fz (by decide) rfl (Opd.tmp _ _ rfl) tR) ?_
          first | refine Run.load (dd := some 24) rfl rfl (op_load1_flat rfl (Opd.tmp _ _ rfl) tH rfl) ?_ | refine Run.pure (dd := some 24) rfl rfl (op_load1_fz rfl (Opd.tmp _ _ rfl) rfl) ?_ | refine Run.load (dd := some 24) rfl rfl (op_load1_refs rfl (Opd.tmp _ _ rfl) tH rfl) ?_
          first | refine Run.pure (dd := some 25) rfl rfl (op_fld_ptr (by decide) rfl (Opd.tmp _ _ rfl)) ?_ | refine Run.pure (dd := some 25) rfl rfl (op_fld_fz (by decide) rfl (Opd.tmp _ _ rfl) tR) ?_
          first | refine Run.load (dd := some 26) rfl rfl (op_load1_flat rfl (Opd.tmp _ _ rfl) tH rfl) ?_ | refine Run.pure (dd := some 26) rfl rfl (op_load1_fz rfl (Opd.tmp _ _ rfl) rfl) ?_ | refine Run.load (dd := some 26) rfl rfl (op_load1_refs rfl (Opd.tmp _ _ rfl) tH rfl) ?_
          refine Run.pure (dd := some 27) rfl rfl (op_max rfl (Opd.tmp _ _ rfl) (Opd.tmp _ _ rfl)) ?_
          first | refine Run.pure (dd := some 28) rfl rfl (op_fld_ptr (by decide) rfl (Opd.tmp _ _ rfl)) ?_ | refine Run.pure (dd := some 28) rfl rfl (op_fld_fz (by decide) rfl (Opd.tmp _ _ rfl) tR) ?_
          first | refine Run.load (dd := some 29) rfl rfl (op_load1_flat rfl (Opd.tmp _ _ rfl) tH rfl) ?_ | refine Run.pure (dd := some 29) rfl rfl (op_load1_fz rfl (Opd.tmp _ _ rfl) rfl) ?_ | refine Run.load (dd := some 29) rfl rfl (op_load1_refs rfl (Opd.tmp _ _ rfl) tH rfl) ?_
          first | refine Run.pure (dd := some 30) rfl rfl (op_fld_ptr (by decide) rfl (Opd.tmp _ _ rfl)) ?_ | refine Run.pure (dd := some 30) rfl rfl (op_fld_fz (by decide) rfl (Opd.tmp _ _ rfl) tR) ?_
          first | refine Run.load (dd := some 31) rfl rfl (op_load1_flat rfl (Opd.tmp _ _ rfl) tH rfl) ?_ | refine Run.pure (dd := some 31) rfl rfl (op_load1_fz rfl (Opd.tmp _ _ rfl) rfl) ?_ | refine Run.load (dd := some 31) rfl rfl (op_load1_refs rfl (Opd.tmp _ _ rfl) tH rfl) ?_
          refine Run.pure (dd := some 32) rfl rfl (op_min rfl (Opd.tmp _ _ rfl) (Opd.tmp _ _ rfl)) ?_
          first | refine Run.pure (dd := some 33) rfl rfl (op_build rfl rfl rfl (FillF.cons _ _ _ _ _ _ _ _ _ _ (by rfl) (Opd.tmp _ _ rfl) tC (by rfl) tR (FillF.cons _ _ _ _ _ _ _ _ _ _ (by rfl) (Opd.tmp _ _ rfl) tC (by rfl) tR (FillF.nil _)))) ?_ | refine Run.pure (dd := some 33) rfl rfl (op_buildP rfl rfl rfl rfl (FillP.cons _ _ _ _ _ _ _ _ _ _ (by rfl) (Opd.tmp _ _ rfl) tP (by rfl) tR (FillP.cons _ _ _ _ _ _ _ _ _ _ (by rfl) (Opd.tmp _ _ rfl) tP (by rfl) tR (FillP.nil _)))) ?_
          refine Run.eff (dd := some 10) rfl rfl (op_alloc rfl rfl rfl rfl) ?_
          first | refine Run.eff (dd := none) rfl rfl (op_store_flat rfl (Opd.tmp _ _ rfl) (Opd.tmp _ _ rfl) tC rfl rfl (by first | rfl | assumption) tS) ?_ | refine Run.eff (dd := none) rfl rfl (op_store_refs rfl (Opd.tmp _ _ rfl) (Opd.tmp _ _ rfl) tP rfl rfl rfl tS) ?_
          refine Run.nil (FinR.mk ?_)
          refine nK ?_
          refine s_reg rfl ?_
          first | refine Run.pure (dd := some 34) rfl rfl (op_fld_ptr (by decide) rfl (Opd.tmp _ _ rfl)) ?_ | refine Run.pure (dd := some 34) rfl rfl (op_fld_fz (by decide) rfl (Opd.tmp _ _ rfl) tR) ?_
          first | refine Run.load (dd := some 35) rfl rfl (op_load1_flat rfl (Opd.tmp _ _ rfl) tH rfl) ?_ | refine Run.pure (dd := some 35) rfl rfl (op_load1_fz rfl (Opd.tmp _ _ rfl) rfl) ?_ | refine Run.load (dd := some 35) rfl rfl (op_load1_refs rfl (Opd.tmp _ _ rfl) tH rfl) ?_
          first | refine Run.pure (dd := some 36) rfl rfl (op_fld_ptr (by decide) rfl (Opd.tmp _ _ rfl)) ?_ | refine Run.pure (dd := some 36) rfl rfl (op_fld_fz (by decide) rfl (Opd.tmp _ _ rfl) tR) ?_
          first | refine Run.load (dd := some 37) rfl rfl (op_load1_flat rfl (Opd.tmp _ _ rfl) tH rfl) ?_ | refine Run.pure (dd := some 37) rfl rfl (op_load1_fz rfl (Opd.tmp _ _ rfl) rfl) ?_ | refine Run.load (dd := some 37) rfl rfl (op_load1_refs rfl (Opd.tmp _ _ rfl) tH rfl) ?_
          refine Run.pure (dd := some 38) rfl rfl (op_lss rfl (Opd.tmp _ _ rfl) (Opd.tmp _ _ rfl)) ?_
          refine Run.nil (FinR.mk ?_)
          refine nK ?_
          refine n_cond _ rfl (fun hb => ?_) (fun hb => ?_)
          · rw [if_pos (by simp at hb; omega)] at hK3
            refine nK ?_
            refine s_reg rfl ?_
            first | refine Run.pure (dd := some 39) rfl rfl (op_move rfl (Opd.tmp _ _ rfl)) ?_ | refine Run.pure (dd := some 39) rfl rfl (op_junk (.inl rfl)) ?_
            first | refine Run.load (dd := some 40) rfl rfl (op_loadw_flat rfl (Opd.tmp _ _ rfl) tH rfl) ?_ | refine Run.pure (dd := some 40) rfl rfl (op_loadw_fz rfl (Opd.tmp _ _ rfl) rfl) ?_ | refine Run.load (dd := some 40) rfl rfl (op_loadn_flat rfl (Opd.tmp _ _ rfl) tH tR tR) ?_ | refine Run.pure (dd := some 40) rfl rfl (op_loadn_fz rfl (Opd.tmp _ _ rfl) tR) ?_ | refine Run.load (dd := some 40) rfl rfl (op_loadn_refs rfl (Opd.tmp _ _ rfl) tH tR tR) ?_
            refine Run.pure (dd := some 41) rfl rfl (op_buildSlice_fz rfl (RowsF.cons _ _ _ _ _ _ (Opd.tmp _ _ rfl) tC (by rfl) (RowsF.nil _)) rfl rfl) ?_
            first | refine Run.eff (dd := some 42) rfl rfl (op_append_own0 rfl (Opd.tmp _ _ rfl) (Opd.tmp _ _ rfl) rfl (by first | rfl | simp) rfl (by first | rfl | simp) rfl rfl tB tB) ?_ | refine Run.eff (dd := some 42) rfl rfl (op_append rfl (Opd.tmp _ _ rfl) (by first | exact Opd.tmp _ _ rfl | exact Opd.nil _ _ (Opd.tmp _ _ rfl)) rfl (by first | rfl | simp) rfl rfl tB tB) ?_
            first | refine Run.pure (dd := some 5) rfl rfl (op_assign rfl (Opd.tmp _ _ rfl)) ?_ | refine Run.pure (dd := some 5) rfl rfl (op_junk (.inr rfl)) ?_
            refine Run.nil (FinR.mk ?_)
            refine nK ?_
            refine s_reg rfl ?_
            refine Run.pure (dd := some 43) rfl rfl (op_add rfl (Opd.tmp _ _ rfl) (Opd.const _) tI) ?_
            first | refine Run.pure (dd := some 19) rfl rfl (op_move rfl (Opd.tmp _ _ rfl)) ?_ | refine Run.pure (dd := some 19) rfl rfl (op_junk (.inl rfl)) ?_
            refine Run.nil (FinR.mk ?_)
            refine nK ?_
            refine Next.weakS [5, 7] [] (by rfl) (by first | exact keeps0 hC _ | exact keepsN hC _ rfl) (by repeat (first | exact trivial | refine ⟨⟨_, rfl, .inl ⟨rfl, rfl⟩⟩, ?_⟩ | refine ⟨⟨_, rfl, .inl ⟨slEq rfl tN, rfl⟩⟩, ?_⟩ | refine ⟨⟨_, rfl, .inl ⟨ivEq tX, rfl⟩⟩, ?_⟩)) (by repeat (first | exact trivial | refine ⟨⟨rfl, rfl, rfl, tL⟩, ?_⟩ | refine ⟨⟨rfl, rfl, rfEq rfl tU, tL⟩, ?_⟩ | refine ⟨⟨rfl, rfl, flEq rfl (by first | (simp; done) | (simp; omega) | (simp [encP]; done) | simp [maxC, minC]), trivial⟩, ?_⟩)) rfl (hK3)
          · rw [if_neg (by simp at hb; omega)] at hK3
            rw [List.append_nil] at hK3
            refine nK ?_
            refine s_reg rfl ?_
            refine Run.pure (dd := some 43) rfl rfl (op_add rfl (Opd.tmp _ _ rfl) (Opd.const _) tI) ?_
            first | refine Run.pure (dd := some 19) rfl rfl (op_move rfl (Opd.tmp _ _ rfl)) ?_ | refine Run.pure (dd := some 19) rfl rfl (op_junk (.inl rfl)) ?_
            refine Run.nil (FinR.mk ?_)
            refine nK ?_
            refine Next.weakS [5, 7] [] (by rfl) (by first | exact keeps0 hC _ | exact keepsN hC _ rfl) (by repeat (first | exact trivial | refine ⟨⟨_, rfl, .inl ⟨rfl, rfl⟩⟩, ?_⟩ | refine ⟨⟨_, rfl, .inl ⟨slEq rfl tN, rfl⟩⟩, ?_⟩ | refine ⟨⟨_, rfl, .inl ⟨ivEq tX, rfl⟩⟩, ?_⟩)) (by repeat (first | exact trivial | refine ⟨⟨rfl, rfl, rfl, tL⟩, ?_⟩ | refine ⟨⟨rfl, rfl, rfEq rfl tU, tL⟩, ?_⟩ | refine ⟨⟨rfl, rfl, flEq rfl (by first | (simp; done) | (simp; omega) | (simp [encP]; done) | simp [maxC, minC]), trivial⟩, ?_⟩)) rfl (hK3)
        · have hje : j = b.length := by simp at hb; omega
          rw [take_len_eq hje]
          refine nK ?_
          refine s_reg rfl ?_
          refine Run.pure (dd := some 44) rfl rfl (op_add rfl (Opd.tmp _ _ rfl) (Opd.const _) tI) ?_
          first | refine Run.pure (dd := some 13) rfl rfl (op_move rfl (Opd.tmp _ _ rfl)) ?_ | refine Run.pure (dd := some 13) rfl rfl (op_junk (.inl rfl)) ?_
          refine Run.nil (FinR.mk ?_)
          refine nK ?_
          refine Next.weakS [5] [] (by rfl) (by first | exact keeps0 hC _ | exact keepsN hC _ rfl) (by repeat (first | exact trivial | refine ⟨⟨_, rfl, .inl ⟨rfl, rfl⟩⟩, ?_⟩ | refine ⟨⟨_, rfl, .inl ⟨slEq rfl tN, rfl⟩⟩, ?_⟩ | refine ⟨⟨_, rfl, .inl ⟨ivEq tX, rfl⟩⟩, ?_⟩)) (by repeat (first | exact trivial | refine ⟨⟨rfl, rfl, rfl, tL⟩, ?_⟩ | refine ⟨⟨rfl, rfl, rfEq rfl tU, tL⟩, ?_⟩ | refine ⟨⟨rfl, rfl, flEq rfl (by first | (simp; done) | (simp; omega) | (simp [encP]; done) | simp [maxC, minC]), trivial⟩, ?_⟩)) rfl (hK1)
    · have hie : i = a.length := by simp at hb; omega
      rw [take_len_eq hie]
      refine Next.weakS [] [5] (by rfl) (keeps0 hC _) (G' := [(5, .fz (VS (meetS a b)))]) (H' := []) (by repeat (first | exact trivial | refine ⟨⟨_, rfl, .inl ⟨rfl, rfl⟩⟩, ?_⟩ | refine ⟨⟨_, rfl, .inl ⟨slEq rfl tN, rfl⟩⟩, ?_⟩ | refine ⟨⟨_, rfl, .inl ⟨ivEq tX, rfl⟩⟩, ?_⟩ | refine ⟨⟨_, rfl, .inr ⟨_, rfl, .sl _ _ 0 _ _ _ rfl rfl (take0 (by first | rfl | (simp; done) | (simp; omega)) (by simp)) (by simp)⟩⟩, ?_⟩)) trivial rfl ?_
      refine nK ?_
      refine s_reg rfl ?_
      first | refine Run.pure (dd := some 45) rfl rfl (op_move rfl (Opd.tmp _ _ rfl)) ?_ | refine Run.pure (dd := some 45) rfl rfl (op_junk (.inl rfl)) ?_
      refine Run.pure (dd := some 46) rfl rfl (op_call_pure (fun _ => rmerged_c _ (by assumption) (by omega)) rfl (Opd.func _) (Opds.cons _ _ _ _ (Opd.tmp _ _ rfl) Opds.nil)) ?_
      first | refine Run.pure (dd := some 4) rfl rfl (op_assign rfl (Opd.tmp _ _ rfl)) ?_ | refine Run.pure (dd := some 4) rfl rfl (op_junk (.inr rfl)) ?_
      refine Run.nil (FinR.mk ?_)
      refine nK ?_
      (first | exact s_o1 hC rfl tV | exact s_o2 hC rfl tV tV | exact s_o3 hC rfl tV tV tV | exact s_out0 hC rfl | exact s_outO hC rfl rfl rfl)
theorem routside_c (l : List Spn) (hl : okS l) (hn : l.length ≤ 1000000) : Pure Try.prog 46 [VS l] (VS (compS 0 l)) := by
  refine Meets.freeze (len := (compS 0 l).length) (by simp) ?_
  have hcl := compS_len l 0
  refine Meets.intro Try.func46 rfl (Nat.le_of_ble_eq_true rfl) fun C hC => ?_
  simp only [List.map, argEnv, Nat.reduceAdd]
  refine nK ?_
  refine s_reg rfl ?_
  first | refine Run.pure (dd := some 2) rfl rfl (op_assign rfl (Opd.const _)) ?_ | refine Run.pure (dd := some 2) rfl rfl (op_junk (.inr rfl)) ?_
  refine Run.nil (FinR.mk ?_)
  refine nK ?_
  refine s_reg rfl ?_
  first | refine Run.pure (dd := some 3) rfl rfl (op_assign rfl (Opd.const _)) ?_ | refine Run.pure (dd := some 3) rfl rfl (op_junk (.inr rfl)) ?_
  refine Run.nil (FinR.mk ?_)
  refine nK ?_
  refine s_reg rfl ?_
  first | refine Run.pure (dd := some 4) rfl rfl (op_assign rfl (Opd.const _)) ?_ | refine Run.pure (dd := some 4) rfl rfl (op_junk (.inr rfl)) ?_
  refine Run.nil (FinR.mk ?_)
  refine nK ?_
  refine s_reg rfl ?_
  first | refine Run.pure (dd := some 7) rfl rfl (op_move rfl (Opd.tmp _ _ rfl)) ?_ | refine Run.pure (dd := some 7) rfl rfl (op_junk (.inl rfl)) ?_
  first | refine Run.pure (dd := some 8) rfl rfl (op_len_fz rfl (by first | exact Opd.tmp _ _ rfl | exact Opd.nil _ _ (Opd.tmp _ _ rfl)) (by first | exact List.length_map _ | rfl)) ?_ | refine Run.pure (dd := some 8) rfl rfl (op_len_sl rfl (Opd.tmp _ _ rfl)) ?_
  first | refine Run.pure (dd := some 9) rfl rfl (op_move rfl (Opd.const _)) ?_ | refine Run.pure (dd := some 9) rfl rfl (op_junk (.inl rfl)) ?_
  refine Run.nil (FinR.mk ?_)
  refine nK ?_
  refine Next.adopt 3 2 rfl ?_
  refine n_loop (ι := Nat × Nat × List Spn) (fun g => ([(0, .fz (VS l)), (3, .sl 0 2 0 g.2.2.length), (4, IV .u64 g.2.1), (7, .fz (VS l)), (8, IV .i64 l.length), (9, IV .i64 g.1)], [(0, OS g.2.2)], 1)) (fun g => g.1 ≤ l.length ∧ g.2.1 ≤ 2 ^ 32 ∧ g.2.2 ++ compS g.2.1 (l.drop g.1) = compS 0 l) (fun g => l.length - g.1) (0, 0, []) ⟨Nat.zero_le _, Nat.zero_le _, rfl⟩ ?_ ?_
  · refine Next.weakS [3] [] (by rfl) (by first | exact keeps0 hC _ | exact keepsN hC _ rfl) (by repeat (first | exact trivial | refine ⟨⟨_, rfl, .inl ⟨rfl, rfl⟩⟩, ?_⟩ | refine ⟨⟨_, rfl, .inl ⟨slEq rfl tN, rfl⟩⟩, ?_⟩ | refine ⟨⟨_, rfl, .inl ⟨ivEq tX, rfl⟩⟩, ?_⟩)) (by repeat (first | exact trivial | refine ⟨⟨rfl, rfl, rfl, tL⟩, ?_⟩ | refine ⟨⟨rfl, rfl, rfEq rfl tU, tL⟩, ?_⟩ | refine ⟨⟨rfl, rfl, flEq rfl (by first | (simp; done) | (simp; omega) | (simp [encP]; done) | simp [maxC, minC]), trivial⟩, ?_⟩)) rfl (rel_intro)
  · intro ⟨i, lo, acc⟩ ⟨hi, hlo, hacc⟩ K hK
    simp only at hi hlo hacc
    have hal : acc.length ≤ l.length + 1 := by rw [← hacc] at hcl; simp at hcl; omega
    refine nK ?_
    refine s_reg rfl ?_
    refine Run.pure (dd := some 10) rfl rfl (op_lss rfl (Opd.tmp _ _ rfl) (Opd.tmp _ _ rfl)) ?_
    refine Run.nil (FinR.mk ?_)
    refine nK ?_
    refine n_cond _ rfl (fun hb => ?_) (fun hb => ?_)
    · have hlt : i < l.length := by simp at hb; omega
      have hr1 := row_at encS l i hlt
      have hs := hl l[i] (List.getElem_mem hlt)
      rw [List.drop_eq_getElem_cons hlt] at hacc
      simp only [compS] at hacc
      refine nK ?_
      refine s_reg rfl ?_
      first | refine Run.pure (dd := some 11) rfl rfl (op_idx_sl0 _ rfl (Opd.tmp _ _ rfl) (Opd.tmp _ _ rfl) tD) ?_ | refine Run.pure (dd := some 11) rfl rfl (op_idx_fz _ rfl (Opd.tmp _ _ rfl) (Opd.tmp _ _ rfl) tF) ?_
      first | refine Run.load (dd := some 12) rfl rfl (op_loadw_flat rfl (Opd.tmp _ _ rfl) tH rfl) ?_ | refine Run.pure (dd := some 12) rfl rfl (op_loadw_fz rfl (Opd.tmp _ _ rfl) rfl) ?_ | refine Run.load (dd := some 12) rfl rfl (op_loadn_flat rfl (Opd.tmp _ _ rfl) tH tR tR) ?_ | refine Run.pure (dd := some 12) rfl rfl (op_loadn_fz rfl (Opd.tmp _ _ rfl) tR) ?_ | refine Run.load (dd := some 12) rfl rfl (op_loadn_refs rfl (Opd.tmp _ _ rfl) tH tR tR) ?_
      refine Run.eff (dd := some 6) rfl rfl (op_alloc rfl rfl rfl rfl) ?_
      first | refine Run.eff (dd := none) rfl rfl (op_store_flat rfl (Opd.tmp _ _ rfl) (Opd.tmp _ _ rfl) tC rfl rfl (by first | rfl | assumption) tS) ?_ | refine Run.eff (dd := none) rfl rfl (op_store_refs rfl (Opd.tmp _ _ rfl) (Opd.tmp _ _ rfl) tP rfl rfl rfl tS) ?_
      refine Run.nil (FinR.mk ?_)
      refine nK ?_
      refine s_reg rfl ?_
      first | refine Run.pure (dd := some 13) rfl rfl (op_move rfl (Opd.tmp _ _ rfl)) ?_ | refine Run.pure (dd := some 13) rfl rfl (op_junk (.inl rfl)) ?_
      first | refine Run.pure (dd := some 14) rfl rfl (op_fld_ptr (by decide) rfl (Opd.tmp _ _ rfl)) ?_ | refine Run.pure (dd := some 14) rfl rfl (op_fld_fz (by decide) rfl (Opd.tmp _ _ rfl) tR) ?_
      first | refine Run.load (dd := some 15) rfl rfl (op_load1_flat rfl (Opd.tmp _ _ rfl) tH rfl) ?_ | refine Run.pure (dd := some 15) rfl rfl (op_load1_fz rfl (Opd.tmp _ _ rfl) rfl) ?_ | refine Run.load (dd := some 15) rfl rfl (op_load1_refs rfl (Opd.tmp _ _ rfl) tH rfl) ?_
      refine Run.pure (dd := some 16) rfl rfl (op_lss rfl (Opd.tmp _ _ rfl) (Opd.tmp _ _ rfl)) ?_
      refine Run.nil (FinR.mk ?_)
      refine nK ?_
      refine n_cond _ rfl (fun hb => ?_) (fun hb => ?_)
      · rw [if_pos (by simp at hb; omega)] at hacc
        refine nK ?_
        refine s_reg rfl ?_
        first | refine Run.pure (dd := some 17) rfl rfl (op_move rfl (Opd.tmp _ _ rfl)) ?_ | refine Run.pure (dd := some 17) rfl rfl (op_junk (.inl rfl)) ?_
        first | refine Run.pure (dd := some 18) rfl rfl (op_move rfl (Opd.tmp _ _ rfl)) ?_ | refine Run.pure (dd := some 18) rfl rfl (op_junk (.inl rfl)) ?_
        first | refine Run.pure (dd := some 19) rfl rfl (op_fld_ptr (by decide) rfl (Opd.tmp _ _ rfl)) ?_ | refine Run.pure (dd := some 19) rfl rfl (op_fld_fz (by decide) rfl (Opd.tmp _ _ rfl) tR) ?_
        first | refine Run.load (dd := some 20) rfl rfl (op_load1_flat rfl (Opd.tmp _ _ rfl) tH rfl) ?_ | refine Run.pure (dd := some 20) rfl rfl (op_load1_fz rfl (Opd.tmp _ _ rfl) rfl) ?_ | refine Run.load (dd := some 20) rfl rfl (op_load1_refs rfl (Opd.tmp _ _ rfl) tH rfl) ?_
        first | refine Run.pure (dd := some 21) rfl rfl (op_build rfl rfl rfl (FillF.cons _ _ _ _ _ _ _ _ _ _ (by rfl) (Opd.tmp _ _ rfl) tC (by rfl) tR (FillF.cons _ _ _ _ _ _ _ _ _ _ (by rfl) (Opd.tmp _ _ rfl) tC (by rfl) tR (FillF.nil _)))) ?_ | refine Run.pure (dd := some 21) rfl rfl (op_buildP rfl rfl rfl rfl (FillP.cons _ _ _ _ _ _ _ _ _ _ (by rfl) (Opd.tmp _ _ rfl) tP (by rfl) tR (FillP.cons _ _ _ _ _ _ _ _ _ _ (by rfl) (Opd.tmp _ _ rfl) tP (by rfl) tR (FillP.nil _)))) ?_
        refine Run.pure (dd := some 22) rfl rfl (op_buildSlice_fz rfl (RowsF.cons _ _ _ _ _ _ (Opd.tmp _ _ rfl) tC (by rfl) (RowsF.nil _)) rfl rfl) ?_
        first | refine Run.eff (dd := some 23) rfl rfl (op_append_own0 rfl (Opd.tmp _ _ rfl) (Opd.tmp _ _ rfl) rfl (by first | rfl | simp) rfl (by first | rfl | simp) rfl rfl tB tB) ?_ | refine Run.eff (dd := some 23) rfl rfl (op_append rfl (Opd.tmp _ _ rfl) (by first | exact Opd.tmp _ _ rfl | exact Opd.nil _ _ (Opd.tmp _ _ rfl)) rfl (by first | rfl | simp) rfl rfl tB tB) ?_
        first | refine Run.pure (dd := some 3) rfl rfl (op_assign rfl (Opd.tmp _ _ rfl)) ?_ | refine Run.pure (dd := some 3) rfl rfl (op_junk (.inr rfl)) ?_
        refine Run.nil (FinR.mk ?_)
        refine nK ?_
        refine s_reg rfl ?_
        first | refine Run.pure (dd := some 24) rfl rfl (op_fld_ptr (by decide) rfl (Opd.tmp _ _ rfl)) ?_ | refine Run.pure (dd := some 24) rfl rfl (op_fld_fz (by decide) rfl (Opd.tmp _ _ rfl) tR) ?_
        first | refine Run.load (dd := some 25) rfl rfl (op_load1_flat rfl (Opd.tmp _ _ rfl) tH rfl) ?_ | refine Run.pure (dd := some 25) rfl rfl (op_load1_fz rfl (Opd.tmp _ _ rfl) rfl) ?_ | refine Run.load (dd := some 25) rfl rfl (op_load1_refs rfl (Opd.tmp _ _ rfl) tH rfl) ?_
        first | refine Run.pure (dd := some 4) rfl rfl (op_assign rfl (Opd.tmp _ _ rfl)) ?_ | refine Run.pure (dd := some 4) rfl rfl (op_junk (.inr rfl)) ?_
        refine Run.nil (FinR.mk ?_)
        refine nK ?_
        refine s_reg rfl ?_
        refine Run.pure (dd := some 26) rfl rfl (op_add rfl (Opd.tmp _ _ rfl) (Opd.const _) tI) ?_
        first | refine Run.pure (dd := some 9) rfl rfl (op_move rfl (Opd.tmp _ _ rfl)) ?_ | refine Run.pure (dd := some 9) rfl rfl (op_junk (.inl rfl)) ?_
        refine Run.nil (FinR.mk ?_)
        refine nK ?_
        refine Next.weakS [3] [] (by rfl) (by first | exact keeps0 hC _ | exact keepsN hC _ rfl) (by repeat (first | exact trivial | refine ⟨⟨_, rfl, .inl ⟨rfl, rfl⟩⟩, ?_⟩ | refine ⟨⟨_, rfl, .inl ⟨slEq rfl tN, rfl⟩⟩, ?_⟩ | refine ⟨⟨_, rfl, .inl ⟨ivEq tX, rfl⟩⟩, ?_⟩)) (by repeat (first | exact trivial | refine ⟨⟨rfl, rfl, rfl, tL⟩, ?_⟩ | refine ⟨⟨rfl, rfl, rfEq rfl tU, tL⟩, ?_⟩ | refine ⟨⟨rfl, rfl, flEq rfl (by first | (simp; done) | (simp; omega) | (simp [encP]; done) | simp [maxC, minC]), trivial⟩, ?_⟩)) rfl (hK (i + 1, l[i].hi, acc ++ [⟨lo, l[i].lo⟩]) ⟨by omega, hs.2, by rw [← hacc]; simp⟩ (by simp; omega))
      · rw [if_neg (by simp at hb; omega)] at hacc
        refine nK ?_
        refine s_reg rfl ?_
        first | refine Run.pure (dd := some 24) rfl rfl (op_fld_ptr (by decide) rfl (Opd.tmp _ _ rfl)) ?_ | refine Run.pure (dd := some 24) rfl rfl (op_fld_fz (by decide) rfl (Opd.tmp _ _ rfl) tR) ?_
        first | refine Run.load (dd := some 25) rfl rfl (op_load1_flat rfl (Opd.tmp _ _ rfl) tH rfl) ?_ | refine Run.pure (dd := some 25) rfl rfl (op_load1_fz rfl (Opd.tmp _ _ rfl) rfl) ?_ | refine Run.load (dd := some 25) rfl rfl (op_load1_refs rfl (Opd.tmp _ _ rfl) tH rfl) ?_
        first | refine Run.pure (dd := some 4) rfl rfl (op_assign rfl (Opd.tmp _ _ rfl)) ?_ | refine Run.pure (dd := some 4) rfl rfl (op_junk (.inr rfl)) ?_
        refine Run.nil (FinR.mk ?_)
        refine nK ?_
        refine s_reg rfl ?_
        refine Run.pure (dd := some 26) rfl rfl (op_add rfl (Opd.tmp _ _ rfl) (Opd.const _) tI) ?_
        first | refine Run.pure (dd := some 9) rfl rfl (op_move rfl (Opd.tmp _ _ rfl)) ?_ | refine Run.pure (dd := some 9) rfl rfl (op_junk (.inl rfl)) ?_
        refine Run.nil (FinR.mk ?_)
        refine nK ?_
        refine Next.weakS [3] [] (by rfl) (by first | exact keeps0 hC _ | exact keepsN hC _ rfl) (by repeat (first | exact trivial | refine ⟨⟨_, rfl, .inl ⟨rfl, rfl⟩⟩, ?_⟩ | refine ⟨⟨_, rfl, .inl ⟨slEq rfl tN, rfl⟩⟩, ?_⟩ | refine ⟨⟨_, rfl, .inl ⟨ivEq tX, rfl⟩⟩, ?_⟩)) (by repeat (first | exact trivial | refine ⟨⟨rfl, rfl, rfl, tL⟩, ?_⟩ | refine ⟨⟨rfl, rfl, rfEq rfl tU, tL⟩, ?_⟩ | refine ⟨⟨rfl, rfl, flEq rfl (by first | (simp; done) | (simp; omega) | (simp [encP]; done) | simp [maxC, minC]), trivial⟩, ?_⟩)) rfl (hK (i + 1, l[i].hi, acc) ⟨by omega, hs.2, hacc⟩ (by simp; omega))
    · have hie : i = l.length := by simp at hb; omega
      rw [hie, List.drop_length] at hacc
      simp only [compS] at hacc
      refine nK ?_
      refine s_reg rfl ?_
      first | refine Run.pure (dd := some 27) rfl rfl (op_move rfl (Opd.tmp _ _ rfl)) ?_ | refine Run.pure (dd := some 27) rfl rfl (op_junk (.inl rfl)) ?_
      refine Run.pure (dd := some 28) rfl rfl (op_lss rfl (Opd.tmp _ _ rfl) (Opd.const _)) ?_
      refine Run.nil (FinR.mk ?_)
      refine nK ?_
      refine n_cond _ rfl (fun hb => ?_) (fun hb => ?_)
      · rw [if_pos (by simp at hb; omega)] at hacc
        rw [← hacc]
        have hl2 : (acc ++ [(⟨lo, 2 ^ 32⟩ : Spn)]).length = acc.length + 1 := by simp
        refine nK ?_
        refine s_reg rfl ?_
        first | refine Run.pure (dd := some 29) rfl rfl (op_move rfl (Opd.tmp _ _ rfl)) ?_ | refine Run.pure (dd := some 29) rfl rfl (op_junk (.inl rfl)) ?_
        first | refine Run.pure (dd := some 30) rfl rfl (op_move rfl (Opd.tmp _ _ rfl)) ?_ | refine Run.pure (dd := some 30) rfl rfl (op_junk (.inl rfl)) ?_
        first | refine Run.pure (dd := some 31) rfl rfl (op_build rfl rfl rfl (FillF.cons _ _ _ _ _ _ _ _ _ _ (by rfl) (Opd.tmp _ _ rfl) tC (by rfl) tR (FillF.cons _ _ _ _ _ _ _ _ _ _ (by rfl) (Opd.const _) tC (by rfl) tR (FillF.nil _)))) ?_ | refine Run.pure (dd := some 31) rfl rfl (op_buildP rfl rfl rfl rfl (FillP.cons _ _ _ _ _ _ _ _ _ _ (by rfl) (Opd.tmp _ _ rfl) tP (by rfl) tR (FillP.cons _ _ _ _ _ _ _ _ _ _ (by rfl) (Opd.const _) tP (by rfl) tR (FillP.nil _)))) ?_
        refine Run.pure (dd := some 32) rfl rfl (op_buildSlice_fz rfl (RowsF.cons _ _ _ _ _ _ (Opd.tmp _ _ rfl) tC (by rfl) (RowsF.nil _)) rfl rfl) ?_
        first | refine Run.eff (dd := some 33) rfl rfl (op_append_own0 rfl (Opd.tmp _ _ rfl) (Opd.tmp _ _ rfl) rfl (by first | rfl | simp) rfl (by first | rfl | simp) rfl rfl tB tB) ?_ | refine Run.eff (dd := some 33) rfl rfl (op_append rfl (Opd.tmp _ _ rfl) (by first | exact Opd.tmp _ _ rfl | exact Opd.nil _ _ (Opd.tmp _ _ rfl)) rfl (by first | rfl | simp) rfl rfl tB tB) ?_
        first | refine Run.pure (dd := some 3) rfl rfl (op_assign rfl (Opd.tmp _ _ rfl)) ?_ | refine Run.pure (dd := some 3) rfl rfl (op_junk (.inr rfl)) ?_
        refine Run.nil (FinR.mk ?_)
        refine nK ?_
        refine Next.weakS [3] [] (by rfl) (keeps0 hC _) (G' := [(3, .sl 0 2 0 (acc ++ [(⟨lo, 2 ^ 32⟩ : Spn)]).length)]) (H' := [(0, OS (acc ++ [(⟨lo, 2 ^ 32⟩ : Spn)]))]) (by repeat (first | exact trivial | refine ⟨⟨_, rfl, .inl ⟨rfl, rfl⟩⟩, ?_⟩ | refine ⟨⟨_, rfl, .inl ⟨slEq rfl tN, rfl⟩⟩, ?_⟩ | refine ⟨⟨_, rfl, .inl ⟨ivEq tX, rfl⟩⟩, ?_⟩)) (by repeat (first | exact trivial | refine ⟨⟨rfl, rfl, rfl, tL⟩, ?_⟩ | refine ⟨⟨rfl, rfl, rfEq rfl tU, tL⟩, ?_⟩ | refine ⟨⟨rfl, rfl, flEq rfl (by first | (simp; done) | (simp; omega) | (simp [encP]; done) | simp [maxC, minC]), trivial⟩, ?_⟩)) rfl ?_
        refine s_reg rfl ?_
        first | refine Run.pure (dd := some 34) rfl rfl (op_move rfl (Opd.tmp _ _ rfl)) ?_ | refine Run.pure (dd := some 34) rfl rfl (op_junk (.inl rfl)) ?_
        first | refine Run.pure (dd := some 2) rfl rfl (op_assign rfl (Opd.tmp _ _ rfl)) ?_ | refine Run.pure (dd := some 2) rfl rfl (op_junk (.inr rfl)) ?_
        refine Run.nil (FinR.mk ?_)
        refine nK ?_
        (first | exact s_o1 hC rfl tV | exact s_o2 hC rfl tV tV | exact s_o3 hC rfl tV tV tV | exact s_out0 hC rfl | exact s_outO hC rfl rfl rfl)
      · rw [if_neg (by simp at hb; omega), List.append_nil] at hacc
        rw [← hacc]
        refine nK ?_
        refine s_reg rfl ?_
        first | refine Run.pure (dd := some 34) rfl rfl (op_move rfl (Opd.tmp _ _ rfl)) ?_ | refine Run.pure (dd := some 34) rfl rfl (op_junk (.inl rfl)) ?_
        first | refine Run.pure (dd := some 2) rfl rfl (op_assign rfl (Opd.tmp _ _ rfl)) ?_ | refine Run.pure (dd := some 2) rfl rfl (op_junk (.inr rfl)) ?_
        refine Run.nil (FinR.mk ?_)
        refine nK ?_
        (first | exact s_o1 hC rfl tV | exact s_o2 hC rfl tV tV | exact s_o3 hC rfl tV tV tV | exact s_out0 hC rfl | exact s_outO hC rfl rfl rfl)
end Go.Proofs.Ytdebjffddkgfbaa
namespace Go.Proofs.Ytdebjffddkgfbaa
open Go Go.RT Go.Proofs Go.Pl
set_option linter.all false
set_option maxRecDepth 20000
theorem inter_ok {a b : List Spn} (ha : okS a) : okS (interS a b) ∧ (interS a b).length ≤ a.length * b.length := by
  obtain ⟨h1, h2, h3, h4⟩ := canon_spec (meetS_ok (b := b) ha)
  have := meet_len a b
  exact ⟨h2, by unfold interS; omega⟩
theorem rinter_c (a b : List Pfx) (ha : okL a) (hb0 : okL b) (hn : a.length ≤ 500) (hm : b.length ≤ 500) : Pure Try.prog 21 [VP a, VP b] (VP (prefsF (interS (spansOf a) (spansOf b)))) := by
  obtain ⟨a1, a2, a3, a4⟩ := spans_spec ha
  obtain ⟨b1, b2, b3, b4⟩ := spans_spec hb0
  obtain ⟨i1, i2⟩ := inter_ok (b := spansOf b) a2
  have hmul : (spansOf a).length * (spansOf b).length ≤ 500 * 500 := Nat.mul_le_mul (by omega) (by omega)
  have hmul2 : (spansOf a).length * (spansOf b).length ≤ 1000000 := by omega
  refine Meets.intro Try.func21 rfl (Nat.le_of_ble_eq_true rfl) fun C hC => ?_
  simp only [List.map, argEnv, Nat.reduceAdd]
  refine nK ?_
  refine s_reg rfl ?_
  first | refine Run.pure (dd := some 4) rfl rfl (op_assign rfl (Opd.const _)) ?_ | refine Run.pure (dd := some 4) rfl rfl (op_junk (.inr rfl)) ?_
  refine Run.nil (FinR.mk ?_)
  refine nK ?_
  refine s_reg rfl ?_
  first | refine Run.pure (dd := some 5) rfl rfl (op_move rfl (Opd.tmp _ _ rfl)) ?_ | refine Run.pure (dd := some 5) rfl rfl (op_junk (.inl rfl)) ?_
  refine Run.pure (dd := some 6) rfl rfl (op_call_pure (fun _ => rspans_c _ (by assumption) (by omega)) rfl (Opd.func _) (Opds.cons _ _ _ _ (Opd.tmp _ _ rfl) Opds.nil)) ?_
  first | refine Run.pure (dd := some 7) rfl rfl (op_move rfl (Opd.tmp _ _ rfl)) ?_ | refine Run.pure (dd := some 7) rfl rfl (op_junk (.inl rfl)) ?_
  refine Run.pure (dd := some 8) rfl rfl (op_call_pure (fun _ => rspans_c _ (by assumption) (by omega)) rfl (Opd.func _) (Opds.cons _ _ _ _ (Opd.tmp _ _ rfl) Opds.nil)) ?_
  refine Run.pure (dd := some 9) rfl rfl (op_call_pure (fun _ => rboth_c _ _ (by assumption) (by assumption) (by assumption) (by omega) (by omega)) rfl (Opd.func _) (Opds.cons _ _ _ _ (Opd.tmp _ _ rfl) (Opds.cons _ _ _ _ (Opd.tmp _ _ rfl) Opds.nil))) ?_
  refine Run.pure (dd := some 10) rfl rfl (op_call_pure (fun _ => rprefs_c _ (by assumption) (by omega)) rfl (Opd.func _) (Opds.cons _ _ _ _ (Opd.tmp _ _ rfl) Opds.nil)) ?_
  first | refine Run.pure (dd := some 4) rfl rfl (op_assign rfl (Opd.tmp _ _ rfl)) ?_ | refine Run.pure (dd := some 4) rfl rfl (op_junk (.inr rfl)) ?_
  refine Run.nil (FinR.mk ?_)
  refine nK ?_
  (first | exact s_o1 hC rfl tV | exact s_o2 hC rfl tV tV | exact s_o3 hC rfl tV tV tV | exact s_out0 hC rfl | exact s_outO hC rfl rfl rfl)
theorem comp0 {l : List Spn} (h : Canon l) (ho : okS l) : Canon (compS 0 l) ∧ okS (compS 0 l) ∧ (∀ x, memS (compS 0 l) x ↔ 0 ≤ x ∧ x < 2 ^ 32 ∧ ¬ memS l x) := comp_spec l 0 h ho (Nat.zero_le _) (fun _ _ => Nat.zero_le _)
theorem rsub_c (a b : List Pfx) (ha : okL a) (hb0 : okL b) (hn : a.length ≤ 500) (hm : b.length ≤ 500) : Pure Try.prog 23 [VP a, VP b] (VP (prefsF (interS (spansOf a) (compS 0 (spansOf b))))) := by
  obtain ⟨a1, a2, a3, a4⟩ := spans_spec ha
  obtain ⟨b1, b2, b3, b4⟩ := spans_spec hb0
  obtain ⟨c1, c2, c3⟩ := comp0 b1 b2
  have c4 := compS_len (spansOf b) 0
  obtain ⟨i1, i2⟩ := inter_ok (b := compS 0 (spansOf b)) a2
  have hmul : (spansOf a).length * (compS 0 (spansOf b)).length ≤ 500 * 501 := Nat.mul_le_mul (by omega) (by omega)
  have hmul2 : (spansOf a).length * (compS 0 (spansOf b)).length ≤ 1000000 := by omega
  refine Meets.intro Try.func23 rfl (Nat.le_of_ble_eq_true rfl) fun C hC => ?_
  simp only [List.map, argEnv, Nat.reduceAdd]
  refine nK ?_
  refine s_reg rfl ?_
  first | refine Run.pure (dd := some 4) rfl rfl (op_assign rfl (Opd.const _)) ?_ | refine Run.pure (dd := some 4) rfl rfl (op_junk (.inr rfl)) ?_
  refine Run.nil (FinR.mk ?_)
  refine nK ?_
  refine s_reg rfl ?_
  first | refine Run.pure (dd := some 5) rfl rfl (op_move rfl (Opd.tmp _ _ rfl)) ?_ | refine Run.pure (dd := some 5) rfl rfl (op_junk (.inl rfl)) ?_
  refine Run.pure (dd := some 6) rfl rfl (op_call_pure (fun _ => rspans_c _ (by assumption) (by omega)) rfl (Opd.func _) (Opds.cons _ _ _ _ (Opd.tmp _ _ rfl) Opds.nil)) ?_
  first | refine Run.pure (dd := some 7) rfl rfl (op_move rfl (Opd.tmp _ _ rfl)) ?_ | refine Run.pure (dd := some 7) rfl rfl (op_junk (.inl rfl)) ?_
  refine Run.pure (dd := some 8) rfl rfl (op_call_pure (fun _ => rspans_c _ (by assumption) (by omega)) rfl (Opd.func _) (Opds.cons _ _ _ _ (Opd.tmp _ _ rfl) Opds.nil)) ?_
  refine Run.pure (dd := some 9) rfl rfl (op_call_pure (fun _ => routside_c _ (by assumption) (by omega)) rfl (Opd.func _) (Opds.cons _ _ _ _ (Opd.tmp _ _ rfl) Opds.nil)) ?_
  refine Run.pure (dd := some 10) rfl rfl (op_call_pure (fun _ => rboth_c _ _ (by assumption) (by assumption) (by assumption) (by omega) (by omega)) rfl (Opd.func _) (Opds.cons _ _ _ _ (Opd.tmp _ _ rfl) (Opds.cons _ _ _ _ (Opd.tmp _ _ rfl) Opds.nil))) ?_
  refine Run.pure (dd := some 11) rfl rfl (op_call_pure (fun _ => rprefs_c _ (by assumption) (by omega)) rfl (Opd.func _) (Opds.cons _ _ _ _ (Opd.tmp _ _ rfl) Opds.nil)) ?_
  first | refine Run.pure (dd := some 4) rfl rfl (op_assign rfl (Opd.tmp _ _ rfl)) ?_ | refine Run.pure (dd := some 4) rfl rfl (op_junk (.inr rfl)) ?_
  refine Run.nil (FinR.mk ?_)
  refine nK ?_
  (first | exact s_o1 hC rfl tV | exact s_o2 hC rfl tV tV | exact s_o3 hC rfl tV tV tV | exact s_out0 hC rfl | exact s_outO hC rfl rfl rfl)
theorem any_no {α : Type} (f : α → Bool) (l : List α) (h : ∀ j (hj : j < l.length), f l[j] = false) : l.any f = false := by
  rw [List.any_eq_false]; intro x hx
  obtain ⟨j, hj, rfl⟩ := List.getElem_of_mem hx
  simp [h j hj]
theorem any_yes {α : Type} (f : α → Bool) (l : List α) (i : Nat) (hi : i < l.length) (h : f l[i] = true) : l.any f = true :=
  List.any_eq_true.2 ⟨l[i], List.getElem_mem hi, h⟩
theorem rhas_c (l : List Pfx) (x : Nat) (hl : okL l) (hx : x < 2 ^ 32) (hn : l.length ≤ 1000000) : Pure Try.prog 25 [VP l, If .u32 x] (Bf (l.any (containsB · x))) := by
  refine Meets.intro Try.func25 rfl (Nat.le_of_ble_eq_true rfl) fun C hC => ?_
  simp only [List.map, argEnv, Nat.reduceAdd]
  refine nK ?_
  refine s_reg rfl ?_
  first | refine Run.pure (dd := some 4) rfl rfl (op_assign rfl (Opd.const _)) ?_ | refine Run.pure (dd := some 4) rfl rfl (op_junk (.inr rfl)) ?_
  refine Run.nil (FinR.mk ?_)
  refine nK ?_
  refine s_reg rfl ?_
  first | refine Run.pure (dd := some 7) rfl rfl (op_move rfl (Opd.tmp _ _ rfl)) ?_ | refine Run.pure (dd := some 7) rfl rfl (op_junk (.inl rfl)) ?_
  first | refine Run.pure (dd := some 8) rfl rfl (op_len_fz rfl (by first | exact Opd.tmp _ _ rfl | exact Opd.nil _ _ (Opd.tmp _ _ rfl)) (by first | exact List.length_map _ | rfl)) ?_ | refine Run.pure (dd := some 8) rfl rfl (op_len_sl rfl (Opd.tmp _ _ rfl)) ?_
  first | refine Run.pure (dd := some 9) rfl rfl (op_move rfl (Opd.const _)) ?_ | refine Run.pure (dd := some 9) rfl rfl (op_junk (.inl rfl)) ?_
  refine Run.nil (FinR.mk ?_)
  refine nK ?_
  refine n_loop (ι := Nat) (fun i => ([(1, IV .u32 x), (7, .fz (VP l)), (8, IV .i64 l.length), (9, IV .i64 i)], [], 0)) (fun i => i ≤ l.length ∧ ∀ j (hj : j < i) (hj2 : j < l.length), containsB l[j] x = false) (fun i => l.length - i) 0 ⟨Nat.zero_le _, fun j hj => by omega⟩ ?_ ?_
  · refine Next.weak [] [] (by rfl) (keeps0 hC _) (by repeat (first | exact trivial | refine ⟨⟨_, rfl, .inl ⟨rfl, rfl⟩⟩, ?_⟩)) (by repeat (first | exact trivial | refine ⟨⟨rfl, rfl, rfl, tL⟩, ?_⟩)) (fun _ h => by simp at h) rel_intro
  · intro i ⟨hi, hno⟩ K hK
    refine nK ?_
    refine s_reg rfl ?_
    refine Run.pure (dd := some 10) rfl rfl (op_lss rfl (Opd.tmp _ _ rfl) (Opd.tmp _ _ rfl)) ?_
    refine Run.nil (FinR.mk ?_)
    refine nK ?_
    refine n_cond _ rfl (fun hb => ?_) (fun hb => ?_)
    · have hlt : i < l.length := by simp at hb; omega
      have hr1 := row_at encP l i hlt
      have hok := hl l[i] (List.getElem_mem hlt)
      refine nK ?_
      refine s_reg rfl ?_
      first | refine Run.pure (dd := some 11) rfl rfl (op_idx_sl0 _ rfl (Opd.tmp _ _ rfl) (Opd.tmp _ _ rfl) tD) ?_ | refine Run.pure (dd := some 11) rfl rfl (op_idx_fz _ rfl (Opd.tmp _ _ rfl) (Opd.tmp _ _ rfl) tF) ?_
      first | refine Run.load (dd := some 12) rfl rfl (op_loadw_flat rfl (Opd.tmp _ _ rfl) tH rfl) ?_ | refine Run.pure (dd := some 12) rfl rfl (op_loadw_fz rfl (Opd.tmp _ _ rfl) rfl) ?_ | refine Run.load (dd := some 12) rfl rfl (op_loadn_flat rfl (Opd.tmp _ _ rfl) tH tR tR) ?_ | refine Run.pure (dd := some 12) rfl rfl (op_loadn_fz rfl (Opd.tmp _ _ rfl) tR) ?_ | refine Run.load (dd := some 12) rfl rfl (op_loadn_refs rfl (Opd.tmp _ _ rfl) tH tR tR) ?_
      refine Run.eff (dd := some 6) rfl rfl (op_alloc rfl rfl rfl rfl) ?_
      first | refine Run.eff (dd := none) rfl rfl (op_store_flat rfl (Opd.tmp _ _ rfl) (Opd.tmp _ _ rfl) tC rfl rfl (by first | rfl | assumption) tS) ?_ | refine Run.eff (dd := none) rfl rfl (op_store_refs rfl (Opd.tmp _ _ rfl) (Opd.tmp _ _ rfl) tP rfl rfl rfl tS) ?_
      refine Run.nil (FinR.mk ?_)
      refine nK ?_
      refine s_reg rfl ?_
      first | refine Run.load (dd := some 13) rfl rfl (op_loadw_flat rfl (Opd.tmp _ _ rfl) tH rfl) ?_ | refine Run.pure (dd := some 13) rfl rfl (op_loadw_fz rfl (Opd.tmp _ _ rfl) rfl) ?_ | refine Run.load (dd := some 13) rfl rfl (op_loadn_flat rfl (Opd.tmp _ _ rfl) tH tR tR) ?_ | refine Run.pure (dd := some 13) rfl rfl (op_loadn_fz rfl (Opd.tmp _ _ rfl) tR) ?_ | refine Run.load (dd := some 13) rfl rfl (op_loadn_refs rfl (Opd.tmp _ _ rfl) tH tR tR) ?_
      first | refine Run.pure (dd := some 14) rfl rfl (op_move rfl (Opd.tmp _ _ rfl)) ?_ | refine Run.pure (dd := some 14) rfl rfl (op_junk (.inl rfl)) ?_
      refine Run.pure (dd := some 15) rfl rfl (op_call_pure (fun _ => rcontains_any _ _ (by assumption) (by omega)) rfl (Opd.func _) (Opds.cons _ _ _ _ (Opd.tmp _ _ rfl) (Opds.cons _ _ _ _ (Opd.tmp _ _ rfl) Opds.nil))) ?_
      refine Run.nil (FinR.mk ?_)
      refine nK ?_
      refine n_cond _ rfl (fun hb => ?_) (fun hb => ?_)
      · rw [any_yes _ l i hlt hb]
        refine nK ?_
        refine s_reg rfl ?_
        first | refine Run.pure (dd := some 4) rfl rfl (op_assign rfl (Opd.const _)) ?_ | refine Run.pure (dd := some 4) rfl rfl (op_junk (.inr rfl)) ?_
        refine Run.nil (FinR.mk ?_)
        refine nK ?_
        (first | exact s_o1 hC rfl tV | exact s_o2 hC rfl tV tV | exact s_o3 hC rfl tV tV tV | exact s_out0 hC rfl | exact s_outO hC rfl rfl rfl)
      · have hno2 : ∀ j (hj : j < i + 1) (hj2 : j < l.length), containsB l[j] x = false := fun j hj hj2 => by
          rcases Nat.lt_succ_iff_lt_or_eq.1 hj with h | h
          · exact hno j h hj2
          · subst h; exact hb
        refine nK ?_
        refine s_reg rfl ?_
        refine Run.pure (dd := some 16) rfl rfl (op_add rfl (Opd.tmp _ _ rfl) (Opd.const _) tI) ?_
        first | refine Run.pure (dd := some 9) rfl rfl (op_move rfl (Opd.tmp _ _ rfl)) ?_ | refine Run.pure (dd := some 9) rfl rfl (op_junk (.inl rfl)) ?_
        refine Run.nil (FinR.mk ?_)
        refine nK ?_
        refine Next.weak [] [] (by rfl) (keeps0 hC _) (by repeat (first | exact trivial | refine ⟨⟨_, rfl, .inl ⟨rfl, rfl⟩⟩, ?_⟩)) (by repeat (first | exact trivial | refine ⟨⟨rfl, rfl, rfl, tL⟩, ?_⟩)) (fun _ h => by simp at h) (hK (i + 1) ⟨by omega, hno2⟩ (by omega))
    · have hie : i = l.length := by simp at hb; omega
      rw [any_no _ l (fun j hj => hno j (by omega) hj)]
      refine nK ?_
      refine s_reg rfl ?_
      first | refine Run.pure (dd := some 4) rfl rfl (op_assign rfl (Opd.const _)) ?_ | refine Run.pure (dd := some 4) rfl rfl (op_junk (.inr rfl)) ?_
      refine Run.nil (FinR.mk ?_)
      refine nK ?_
      (first | exact s_o1 hC rfl tV | exact s_o2 hC rfl tV tV | exact s_o3 hC rfl tV tV tV | exact s_out0 hC rfl | exact s_outO hC rfl rfl rfl)
theorem rcount_c (l : List Pfx) (hl : okL l) (hn : l.length ≤ 1000000) : Pure Try.prog 32 [VP l] (If .u64 (cntS (spansOf l))) := by
  obtain ⟨a1, a2, a3, a4⟩ := spans_spec hl
  refine Meets.intro Try.func32 rfl (Nat.le_of_ble_eq_true rfl) fun C hC => ?_
  simp only [List.map, argEnv, Nat.reduceAdd]
  refine nK ?_
  refine s_reg rfl ?_
  first | refine Run.pure (dd := some 2) rfl rfl (op_assign rfl (Opd.const _)) ?_ | refine Run.pure (dd := some 2) rfl rfl (op_junk (.inr rfl)) ?_
  refine Run.nil (FinR.mk ?_)
  refine nK ?_
  refine s_reg rfl ?_
  first | refine Run.pure (dd := some 3) rfl rfl (op_assign rfl (Opd.const _)) ?_ | refine Run.pure (dd := some 3) rfl rfl (op_junk (.inr rfl)) ?_
  refine Run.nil (FinR.mk ?_)
  refine nK ?_
  refine s_reg rfl ?_
  first | refine Run.pure (dd := some 6) rfl rfl (op_move rfl (Opd.tmp _ _ rfl)) ?_ | refine Run.pure (dd := some 6) rfl rfl (op_junk (.inl rfl)) ?_
  refine Run.pure (dd := some 7) rfl rfl (op_call_pure (fun _ => rspans_c _ (by assumption) (by omega)) rfl (Opd.func _) (Opds.cons _ _ _ _ (Opd.tmp _ _ rfl) Opds.nil)) ?_
  first | refine Run.pure (dd := some 8) rfl rfl (op_len_fz rfl (by first | exact Opd.tmp _ _ rfl | exact Opd.nil _ _ (Opd.tmp _ _ rfl)) (by first | exact List.length_map _ | rfl)) ?_ | refine Run.pure (dd := some 8) rfl rfl (op_len_sl rfl (Opd.tmp _ _ rfl)) ?_
  first | refine Run.pure (dd := some 9) rfl rfl (op_move rfl (Opd.const _)) ?_ | refine Run.pure (dd := some 9) rfl rfl (op_junk (.inl rfl)) ?_
  refine Run.nil (FinR.mk ?_)
  refine nK ?_
  generalize spansOf l = s at *
  refine n_loop (ι := Nat) (fun i => ([(3, IV .u64 (cntS (s.take i))), (7, .fz (VS s)), (8, IV .i64 s.length), (9, IV .i64 i)], [], 0)) (fun i => i ≤ s.length) (fun i => s.length - i) 0 (Nat.zero_le _) ?_ ?_
  · refine Next.weak [] [] (by rfl) (keeps0 hC _) (by repeat (first | exact trivial | refine ⟨⟨_, rfl, .inl ⟨rfl, rfl⟩⟩, ?_⟩)) (by repeat (first | exact trivial | refine ⟨⟨rfl, rfl, rfl, tL⟩, ?_⟩)) (fun _ h => by simp at h) rel_intro
  · intro i hi K hK
    refine nK ?_
    refine s_reg rfl ?_
    refine Run.pure (dd := some 10) rfl rfl (op_lss rfl (Opd.tmp _ _ rfl) (Opd.tmp _ _ rfl)) ?_
    refine Run.nil (FinR.mk ?_)
    refine nK ?_
    refine n_cond _ rfl (fun hb => ?_) (fun hb => ?_)
    · have hlt : i < s.length := by simp at hb; omega
      have hr1 := row_at encS s i hlt
      have hok := a2 s[i] (List.getElem_mem hlt)
      have hK1 := hK (i + 1) (by omega) (by omega)
      rw [cnt_succ s i hlt] at hK1
      have hle := cnt_le (okS_take a2 i)
      have hle2 : (s.take i).length * 2 ^ 32 ≤ 1000000 * 2 ^ 32 := Nat.mul_le_mul_right _ (by simp; omega)
      refine nK ?_
      refine s_reg rfl ?_
      first | refine Run.pure (dd := some 11) rfl rfl (op_idx_sl0 _ rfl (Opd.tmp _ _ rfl) (Opd.tmp _ _ rfl) tD) ?_ | refine Run.pure (dd := some 11) rfl rfl (op_idx_fz _ rfl (Opd.tmp _ _ rfl) (Opd.tmp _ _ rfl) tF) ?_
      first | refine Run.load (dd := some 12) rfl rfl (op_loadw_flat rfl (Opd.tmp _ _ rfl) tH rfl) ?_ | refine Run.pure (dd := some 12) rfl rfl (op_loadw_fz rfl (Opd.tmp _ _ rfl) rfl) ?_ | refine Run.load (dd := some 12) rfl rfl (op_loadn_flat rfl (Opd.tmp _ _ rfl) tH tR tR) ?_ | refine Run.pure (dd := some 12) rfl rfl (op_loadn_fz rfl (Opd.tmp _ _ rfl) tR) ?_ | refine Run.load (dd := some 12) rfl rfl (op_loadn_refs rfl (Opd.tmp _ _ rfl) tH tR tR) ?_
      refine Run.eff (dd := some 5) rfl rfl (op_alloc rfl rfl rfl rfl) ?_
      first | refine Run.eff (dd := none) rfl rfl (op_store_flat rfl (Opd.tmp _ _ rfl) (Opd.tmp _ _ rfl) tC rfl rfl (by first | rfl | assumption) tS) ?_ | refine Run.eff (dd := none) rfl rfl (op_store_refs rfl (Opd.tmp _ _ rfl) (Opd.tmp _ _ rfl) tP rfl rfl rfl tS) ?_
      refine Run.nil (FinR.mk ?_)
      refine nK ?_
      refine s_reg rfl ?_
      first | refine Run.pure (dd := some 13) rfl rfl (op_move rfl (Opd.tmp _ _ rfl)) ?_ | refine Run.pure (dd := some 13) rfl rfl (op_junk (.inl rfl)) ?_
      first | refine Run.pure (dd := some 14) rfl rfl (op_fld_ptr (by decide) rfl (Opd.tmp _ _ rfl)) ?_ | refine Run.pure (dd := some 14) rfl rfl (op_fld_fz (by decide) rfl (Opd.tmp _ _ rfl) tR) ?_
      first | refine Run.load (dd := some 15) rfl rfl (op_load1_flat rfl (Opd.tmp _ _ rfl) tH rfl) ?_ | refine Run.pure (dd := some 15) rfl rfl (op_load1_fz rfl (Opd.tmp _ _ rfl) rfl) ?_ | refine Run.load (dd := some 15) rfl rfl (op_load1_refs rfl (Opd.tmp _ _ rfl) tH rfl) ?_
      first | refine Run.pure (dd := some 16) rfl rfl (op_fld_ptr (by decide) rfl (Opd.tmp _ _ rfl)) ?_ | refine Run.pure (dd := some 16) rfl rfl (op_fld_fz (by decide) rfl (Opd.tmp _ _ rfl) tR) ?_
      first | refine Run.load (dd := some 17) rfl rfl (op_load1_flat rfl (Opd.tmp _ _ rfl) tH rfl) ?_ | refine Run.pure (dd := some 17) rfl rfl (op_load1_fz rfl (Opd.tmp _ _ rfl) rfl) ?_ | refine Run.load (dd := some 17) rfl rfl (op_load1_refs rfl (Opd.tmp _ _ rfl) tH rfl) ?_
      refine Run.pure (dd := some 18) rfl rfl (op_sub rfl (Opd.tmp _ _ rfl) (Opd.tmp _ _ rfl) tI) ?_
      refine Run.pure (dd := some 19) rfl rfl (op_add rfl (Opd.tmp _ _ rfl) (Opd.tmp _ _ rfl) tI) ?_
      first | refine Run.pure (dd := some 3) rfl rfl (op_assign rfl (Opd.tmp _ _ rfl)) ?_ | refine Run.pure (dd := some 3) rfl rfl (op_junk (.inr rfl)) ?_
      refine Run.nil (FinR.mk ?_)
      refine nK ?_
      refine s_reg rfl ?_
      refine Run.pure (dd := some 20) rfl rfl (op_add rfl (Opd.tmp _ _ rfl) (Opd.const _) tI) ?_
      first | refine Run.pure (dd := some 9) rfl rfl (op_move rfl (Opd.tmp _ _ rfl)) ?_ | refine Run.pure (dd := some 9) rfl rfl (op_junk (.inl rfl)) ?_
      refine Run.nil (FinR.mk ?_)
      refine nK ?_
      refine Next.weakS [] [] (by rfl) (by first | exact keeps0 hC _ | exact keepsN hC _ rfl) (by repeat (first | exact trivial | refine ⟨⟨_, rfl, .inl ⟨rfl, rfl⟩⟩, ?_⟩ | refine ⟨⟨_, rfl, .inl ⟨slEq rfl tN, rfl⟩⟩, ?_⟩ | refine ⟨⟨_, rfl, .inl ⟨ivEq tX, rfl⟩⟩, ?_⟩)) (by repeat (first | exact trivial | refine ⟨⟨rfl, rfl, rfl, tL⟩, ?_⟩ | refine ⟨⟨rfl, rfl, rfEq rfl tU, tL⟩, ?_⟩ | refine ⟨⟨rfl, rfl, flEq rfl (by first | (simp; done) | (simp; omega) | (simp [encP]; done) | simp [maxC, minC]), trivial⟩, ?_⟩)) rfl (hK1)
    · have hie : i = s.length := by simp at hb; omega
      rw [take_len_eq hie]
      refine nK ?_
      refine s_reg rfl ?_
      first | refine Run.pure (dd := some 21) rfl rfl (op_move rfl (Opd.tmp _ _ rfl)) ?_ | refine Run.pure (dd := some 21) rfl rfl (op_junk (.inl rfl)) ?_
      first | refine Run.pure (dd := some 2) rfl rfl (op_assign rfl (Opd.tmp _ _ rfl)) ?_ | refine Run.pure (dd := some 2) rfl rfl (op_junk (.inr rfl)) ?_
      refine Run.nil (FinR.mk ?_)
      refine nK ?_
      (first | exact s_o1 hC rfl tV | exact s_o2 hC rfl tV tV | exact s_o3 hC rfl tV tV tV | exact s_out0 hC rfl | exact s_outO hC rfl rfl rfl)
def rangeF (a b : Nat) : FV := if a ≤ b then .tup [VP (prefsF [⟨a, b + 1⟩]), If .i64 0] else .tup [VP [], If .i64 16]
theorem rrange_c (a b : Nat) (ha : a < 2 ^ 32) (hb0 : b < 2 ^ 32) : Pure Try.prog 10 [If .u32 a, If .u32 b] (rangeF a b) := by
  refine Meets.intro Try.func10 rfl (Nat.le_of_ble_eq_true rfl) fun C hC => ?_
  simp only [List.map, argEnv, Nat.reduceAdd]
  refine nK ?_
  refine s_reg rfl ?_
  first | refine Run.pure (dd := some 4) rfl rfl (op_assign rfl (Opd.const _)) ?_ | refine Run.pure (dd := some 4) rfl rfl (op_junk (.inr rfl)) ?_
  first | refine Run.pure (dd := some 5) rfl rfl (op_assign rfl (Opd.const _)) ?_ | refine Run.pure (dd := some 5) rfl rfl (op_junk (.inr rfl)) ?_
  refine Run.nil (FinR.mk ?_)
  refine nK ?_
  refine s_reg rfl ?_
  first | refine Run.pure (dd := some 6) rfl rfl (op_move rfl (Opd.tmp _ _ rfl)) ?_ | refine Run.pure (dd := some 6) rfl rfl (op_junk (.inl rfl)) ?_
  first | refine Run.pure (dd := some 7) rfl rfl (op_move rfl (Opd.tmp _ _ rfl)) ?_ | refine Run.pure (dd := some 7) rfl rfl (op_junk (.inl rfl)) ?_
  refine Run.pure (dd := some 8) rfl rfl (op_gtr rfl (Opd.tmp _ _ rfl) (Opd.tmp _ _ rfl)) ?_
  refine Run.nil (FinR.mk ?_)
  refine nK ?_
  refine n_cond _ rfl (fun hb => ?_) (fun hb => ?_)
  · have : ¬ a ≤ b := by simp at hb; omega
    unfold rangeF; rw [if_neg this]
    refine nK ?_
    refine s_reg rfl ?_
    first | refine Run.pure (dd := some 4) rfl rfl (op_assign rfl (Opd.const _)) ?_ | refine Run.pure (dd := some 4) rfl rfl (op_junk (.inr rfl)) ?_
    first | refine Run.pure (dd := some 5) rfl rfl (op_assign rfl (Opd.const _)) ?_ | refine Run.pure (dd := some 5) rfl rfl (op_junk (.inr rfl)) ?_
    refine Run.nil (FinR.mk ?_)
    refine nK ?_
    refine Next.adopt 4 2 rfl ?_
    refine Next.weakS [] [4] (by rfl) (keeps0 hC _) (G' := [(4, .fz (VP [])), (5, IV .i64 16)]) (H' := []) (by repeat (first | exact trivial | refine ⟨⟨_, rfl, .inl ⟨rfl, rfl⟩⟩, ?_⟩ | refine ⟨⟨_, rfl, .inl ⟨slEq rfl tN, rfl⟩⟩, ?_⟩ | refine ⟨⟨_, rfl, .inl ⟨ivEq tX, rfl⟩⟩, ?_⟩ | refine ⟨⟨_, rfl, .inr ⟨_, rfl, .sl _ _ 0 _ _ _ rfl rfl (take0 (by first | rfl | (simp; done) | (simp; omega)) (by simp)) (by simp)⟩⟩, ?_⟩)) trivial rfl ?_
    (first | exact s_o1 hC rfl tV | exact s_o2 hC rfl tV tV | exact s_o3 hC rfl tV tV tV | exact s_out0 hC rfl | exact s_outO hC rfl rfl rfl)
  · have : a ≤ b := by simp at hb; omega
    unfold rangeF; rw [if_pos this]
    have hok : okS [⟨a, b + 1⟩] := fun s hs => by simp at hs; subst hs; exact ⟨by simp only; omega, by simp only; omega⟩
    refine nK ?_
    refine s_reg rfl ?_
    first | refine Run.pure (dd := some 9) rfl rfl (op_move rfl (Opd.tmp _ _ rfl)) ?_ | refine Run.pure (dd := some 9) rfl rfl (op_junk (.inl rfl)) ?_
    refine Run.pure (dd := some 10) rfl rfl (op_conv rfl (Opd.tmp _ _ rfl) tI) ?_
    first | refine Run.pure (dd := some 11) rfl rfl (op_move rfl (Opd.tmp _ _ rfl)) ?_ | refine Run.pure (dd := some 11) rfl rfl (op_junk (.inl rfl)) ?_
    refine Run.pure (dd := some 12) rfl rfl (op_conv rfl (Opd.tmp _ _ rfl) tI) ?_
    refine Run.pure (dd := some 13) rfl rfl (op_add rfl (Opd.tmp _ _ rfl) (Opd.const _) tI) ?_
    first | refine Run.pure (dd := some 14) rfl rfl (op_build rfl rfl rfl (FillF.cons _ _ _ _ _ _ _ _ _ _ (by rfl) (Opd.tmp _ _ rfl) tC (by rfl) tR (FillF.cons _ _ _ _ _ _ _ _ _ _ (by rfl) (Opd.tmp _ _ rfl) tC (by rfl) tR (FillF.nil _)))) ?_ | refine Run.pure (dd := some 14) rfl rfl (op_buildP rfl rfl rfl rfl (FillP.cons _ _ _ _ _ _ _ _ _ _ (by rfl) (Opd.tmp _ _ rfl) tP (by rfl) tR (FillP.cons _ _ _ _ _ _ _ _ _ _ (by rfl) (Opd.tmp _ _ rfl) tP (by rfl) tR (FillP.nil _)))) ?_
    refine Run.pure (dd := some 15) rfl rfl (op_buildSlice_fz rfl (RowsF.cons _ _ _ _ _ _ (Opd.tmp _ _ rfl) tC (by rfl) (RowsF.nil _)) rfl rfl) ?_
    refine Run.pure (dd := some 16) rfl rfl (op_call_pure (fun _ => rprefs_c [⟨a, b + 1⟩] hok (by simp)) rfl (Opd.func _) (Opds.cons _ _ _ _ (Opd.tmp _ _ rfl) Opds.nil)) ?_
    first | refine Run.pure (dd := some 4) rfl rfl (op_assign rfl (Opd.tmp _ _ rfl)) ?_ | refine Run.pure (dd := some 4) rfl rfl (op_junk (.inr rfl)) ?_
    first | refine Run.pure (dd := some 5) rfl rfl (op_assign rfl (Opd.const _)) ?_ | refine Run.pure (dd := some 5) rfl rfl (op_junk (.inr rfl)) ?_
    refine Run.nil (FinR.mk ?_)
    refine nK ?_
    (first | exact s_o1 hC rfl tV | exact s_o2 hC rfl tV tV | exact s_o3 hC rfl tV tV tV | exact s_out0 hC rfl | exact s_outO hC rfl rfl rfl)
end Go.Proofs.Ytdebjffddkgfbaa
namespace Go.Proofs.Ytdebjffddkgfbaa
open Go Go.RT Go.Proofs Go.Pl
set_option linter.all false
set_option maxRecDepth 20000
theorem rsum_c (l : List Pfx) (hl : okL l) (hn : l.length ≤ 1000000) : Pure Try.prog 27 [VP l] (sumFV (spansOf l)) := by
  obtain ⟨a1, a2, a3, a4⟩ := spans_spec hl
  refine Meets.intro Try.func27 rfl (Nat.le_of_ble_eq_true rfl) fun C hC => ?_
  simp only [List.map, argEnv, Nat.reduceAdd]
  refine nK ?_
  refine s_reg rfl ?_
  refine Run.eff (dd := some 2) rfl rfl (op_alloc rfl rfl rfl rfl) ?_
  first | refine Run.pure (dd := some 3) rfl rfl (op_assign rfl (Opd.const _)) ?_ | refine Run.pure (dd := some 3) rfl rfl (op_junk (.inr rfl)) ?_
  refine Run.nil (FinR.mk ?_)
  refine nK ?_
  refine s_reg rfl ?_
  first | refine Run.pure (dd := some 8) rfl rfl (op_move rfl (Opd.tmp _ _ rfl)) ?_ | refine Run.pure (dd := some 8) rfl rfl (op_junk (.inl rfl)) ?_
  refine Run.pure (dd := some 9) rfl rfl (op_call_pure (fun _ => rspans_c _ (by assumption) (by omega)) rfl (Opd.func _) (Opds.cons _ _ _ _ (Opd.tmp _ _ rfl) Opds.nil)) ?_
  first | refine Run.pure (dd := some 4) rfl rfl (op_assign rfl (Opd.tmp _ _ rfl)) ?_ | refine Run.pure (dd := some 4) rfl rfl (op_junk (.inr rfl)) ?_
  refine Run.nil (FinR.mk ?_)
  refine nK ?_
  refine s_reg rfl ?_
  first | refine Run.pure (dd := some 10) rfl rfl (op_move rfl (Opd.tmp _ _ rfl)) ?_ | refine Run.pure (dd := some 10) rfl rfl (op_junk (.inl rfl)) ?_
  first | refine Run.pure (dd := some 11) rfl rfl (op_len_fz rfl (by first | exact Opd.tmp _ _ rfl | exact Opd.nil _ _ (Opd.tmp _ _ rfl)) (by first | exact List.length_map _ | rfl)) ?_ | refine Run.pure (dd := some 11) rfl rfl (op_len_sl rfl (Opd.tmp _ _ rfl)) ?_
  refine Run.pure (dd := some 12) rfl rfl (op_eql rfl (Opd.tmp _ _ rfl) (Opd.const _)) ?_
  refine Run.nil (FinR.mk ?_)
  refine nK ?_
  generalize spansOf l = s at *
  refine n_cond _ rfl (fun hb => ?_) (fun hb => ?_)
  · have : s = [] := by simpa using hb
    subst this
    refine nK ?_
    refine s_reg rfl ?_
    first | refine Run.pure (dd := some 13) rfl rfl (op_build rfl rfl rfl (FillF.nil _)) ?_ | refine Run.pure (dd := some 13) rfl rfl (op_buildP rfl rfl rfl rfl (FillP.nil _)) ?_
    first | refine Run.eff (dd := none) rfl rfl (op_store_flat rfl (Opd.tmp _ _ rfl) (Opd.tmp _ _ rfl) tC rfl rfl (by first | rfl | assumption) tS) ?_ | refine Run.eff (dd := none) rfl rfl (op_store_refs rfl (Opd.tmp _ _ rfl) (Opd.tmp _ _ rfl) tP rfl rfl rfl tS) ?_
    first | refine Run.pure (dd := some 3) rfl rfl (op_assign rfl (Opd.const _)) ?_ | refine Run.pure (dd := some 3) rfl rfl (op_junk (.inr rfl)) ?_
    refine Run.nil (FinR.mk ?_)
    refine nK ?_
    (first | exact s_o1 hC rfl tV | exact s_o2 hC rfl tV tV | exact s_o3 hC rfl tV tV tV | exact s_out0 hC rfl | exact s_outO hC rfl rfl rfl)
  · cases s with
    | nil => simp at hb
    | cons a t =>
    have hlast : ((a :: t).map encS)[t.length]? = some (encS ((a :: t).getLast (by simp))) := by
      rw [List.getLast_eq_getElem]; exact row_at encS (a :: t) t.length (by simp)
    have hz := a2 ((a :: t).getLast (by simp)) (List.getLast_mem _)
    have ha := a2 a (by simp)
    unfold sumFV sumOf
    simp only
    generalize hzz : (a :: t).getLast (by simp) = z at *
    have hlen : (a :: t).length = t.length + 1 := rfl
    refine nK ?_
    refine s_draw mixed ?_
    first | refine Run.pure (dd := some 14) rfl rfl (op_move rfl (Opd.tmp _ _ rfl)) ?_ | refine Run.pure (dd := some 14) rfl rfl (op_junk (.inl rfl)) ?_
    refine Run.pure (dd := some 15) rfl rfl (op_idx_fz 0 rfl (Opd.tmp _ _ rfl) (Opd.const _) (by intro _; exact ⟨rfl, rfl⟩)) ?_
    first | refine Run.pure (dd := some 16) rfl rfl (op_fld_ptr (by decide) rfl (Opd.tmp _ _ rfl)) ?_ | refine Run.pure (dd := some 16) rfl rfl (op_fld_fz (by decide) rfl (Opd.tmp _ _ rfl) tR) ?_
    first | refine Run.load (dd := some 17) rfl rfl (op_load1_flat rfl (Opd.tmp _ _ rfl) tH rfl) ?_ | refine Run.pure (dd := some 17) rfl rfl (op_load1_fz rfl (Opd.tmp _ _ rfl) rfl) ?_ | refine Run.load (dd := some 17) rfl rfl (op_load1_refs rfl (Opd.tmp _ _ rfl) tH rfl) ?_
    first | refine Run.pure (dd := some 18) rfl rfl (op_move rfl (Opd.tmp _ _ rfl)) ?_ | refine Run.pure (dd := some 18) rfl rfl (op_junk (.inl rfl)) ?_
    first | refine Run.pure (dd := some 19) rfl rfl (op_move rfl (Opd.tmp _ _ rfl)) ?_ | refine Run.pure (dd := some 19) rfl rfl (op_junk (.inl rfl)) ?_
    first | refine Run.pure (dd := some 20) rfl rfl (op_len_fz rfl (by first | exact Opd.tmp _ _ rfl | exact Opd.nil _ _ (Opd.tmp _ _ rfl)) (by first | exact List.length_map _ | rfl)) ?_ | refine Run.pure (dd := some 20) rfl rfl (op_len_sl rfl (Opd.tmp _ _ rfl)) ?_
    refine Run.pure (dd := some 21) rfl rfl (op_sub rfl (Opd.tmp _ _ rfl) (Opd.const _) tI) ?_
    refine Run.pure (dd := some 22) rfl rfl (op_idx_fz t.length rfl (Opd.tmp _ _ rfl) (Opd.tmp _ _ rfl) (by intro _; exact ⟨by omega, hlast⟩)) ?_
    first | refine Run.pure (dd := some 23) rfl rfl (op_fld_ptr (by decide) rfl (Opd.tmp _ _ rfl)) ?_ | refine Run.pure (dd := some 23) rfl rfl (op_fld_fz (by decide) rfl (Opd.tmp _ _ rfl) tR) ?_
    first | refine Run.load (dd := some 24) rfl rfl (op_load1_flat rfl (Opd.tmp _ _ rfl) tH rfl) ?_ | refine Run.pure (dd := some 24) rfl rfl (op_load1_fz rfl (Opd.tmp _ _ rfl) rfl) ?_ | refine Run.load (dd := some 24) rfl rfl (op_load1_refs rfl (Opd.tmp _ _ rfl) tH rfl) ?_
    refine Run.pure (dd := some 25) rfl rfl (op_sub rfl (Opd.tmp _ _ rfl) (Opd.const _) tI) ?_
    first | refine Run.pure (dd := some 5) rfl rfl (op_assign rfl (Opd.tmp _ _ rfl)) ?_ | refine Run.pure (dd := some 5) rfl rfl (op_junk (.inr rfl)) ?_
    first | refine Run.pure (dd := some 6) rfl rfl (op_assign rfl (Opd.tmp _ _ rfl)) ?_ | refine Run.pure (dd := some 6) rfl rfl (op_junk (.inr rfl)) ?_
    refine Run.nil (FinD.mk (by kernel_rfl) ?_)
    refine nK ?_
    refine s_reg rfl ?_
    first | refine Run.pure (dd := some 7) rfl rfl (op_assign rfl (Opd.const _)) ?_ | refine Run.pure (dd := some 7) rfl rfl (op_junk (.inr rfl)) ?_
    refine Run.nil (FinR.mk ?_)
    refine nK ?_
    have hzh : (z.hi : Int) - 1 = ((z.hi - 1 : Nat) : Int) := by omega
    rw [hzh]
    have hh2 : z.hi - 1 < 2 ^ 32 := by omega
    generalize z.hi - 1 = hi at *
    refine n_loop (ι := Nat) (fun k => ([(2, .ptr 0 2 0 0), (5, IV .u64 a.lo), (6, IV .u64 hi), (7, IV .i64 (32 - (k : Int)))], [(0, some (.flat 2 [[If .u32 0, If .i64 0]]))], 1)) (fun k => k ≤ 32 ∧ sumK a.lo hi (32 - k) k = sumK a.lo hi 32 0) (fun k => 32 - k) 0 ⟨Nat.zero_le _, rfl⟩ ?_ ?_
    · refine Next.weakS [2] [] (by rfl) (by first | exact keeps0 hC _ | exact keepsN hC _ rfl) (by repeat (first | exact trivial | refine ⟨⟨_, rfl, .inl ⟨rfl, rfl⟩⟩, ?_⟩ | refine ⟨⟨_, rfl, .inl ⟨slEq rfl tN, rfl⟩⟩, ?_⟩ | refine ⟨⟨_, rfl, .inl ⟨ivEq tX, rfl⟩⟩, ?_⟩)) (by repeat (first | exact trivial | refine ⟨⟨rfl, rfl, rfl, tL⟩, ?_⟩ | refine ⟨⟨rfl, rfl, rfEq rfl tU, tL⟩, ?_⟩ | refine ⟨⟨rfl, rfl, flEq rfl (by first | (simp; done) | (simp; omega) | (simp [encP]; done) | simp [maxC, minC]), trivial⟩, ?_⟩)) rfl (rel_intro)
    · intro k ⟨hk, hs⟩ K hK
      refine nK ?_
      refine s_draw mixed ?_
      first | refine Run.pure (dd := some 26) rfl rfl (op_move rfl (Opd.tmp _ _ rfl)) ?_ | refine Run.pure (dd := some 26) rfl rfl (op_junk (.inl rfl)) ?_
      first | refine Run.pure (dd := some 27) rfl rfl (op_move rfl (Opd.tmp _ _ rfl)) ?_ | refine Run.pure (dd := some 27) rfl rfl (op_junk (.inl rfl)) ?_
      refine Run.pure (dd := some 28) rfl rfl (op_sub rfl (Opd.const _) (Opd.tmp _ _ rfl) tI) ?_
      refine Run.pure (dd := some 29) rfl rfl (op_shrN k rfl (Opd.tmp _ _ rfl) (Opd.tmp _ _ rfl) (by intro _; simp only [IntKind.bits]; omega)) ?_
      first | refine Run.pure (dd := some 30) rfl rfl (op_move rfl (Opd.tmp _ _ rfl)) ?_ | refine Run.pure (dd := some 30) rfl rfl (op_junk (.inl rfl)) ?_
      first | refine Run.pure (dd := some 31) rfl rfl (op_move rfl (Opd.tmp _ _ rfl)) ?_ | refine Run.pure (dd := some 31) rfl rfl (op_junk (.inl rfl)) ?_
      refine Run.pure (dd := some 32) rfl rfl (op_sub rfl (Opd.const _) (Opd.tmp _ _ rfl) tI) ?_
      refine Run.pure (dd := some 33) rfl rfl (op_shrN k rfl (Opd.tmp _ _ rfl) (Opd.tmp _ _ rfl) (by intro _; simp only [IntKind.bits]; omega)) ?_
      refine Run.pure (dd := some 34) rfl rfl (op_neq rfl (Opd.tmp _ _ rfl) (Opd.tmp _ _ rfl)) ?_
      refine Run.nil (FinD.mk (by kernel_rfl) ?_)
      refine nK ?_
      refine n_cond _ rfl (fun hb => ?_) (fun hb => ?_)
      · have hne : a.lo / 2 ^ k ≠ hi / 2 ^ k := fun e => by simp [e] at hb
        have hk2 : k < 32 := by
          rcases Nat.lt_or_ge k 32 with h | h
          · exact h
          · have : k = 32 := by omega
            subst this
            rw [Nat.div_eq_of_lt (by omega), Nat.div_eq_of_lt hh2] at hne
            exact absurd rfl hne
        have e : 32 - k = (32 - (k + 1)) + 1 := by omega
        rw [e] at hs
        simp only [sumK] at hs
        rw [if_neg hne] at hs
        refine nK ?_
        refine s_reg rfl ?_
        first | refine Run.pure (dd := some 35) rfl rfl (op_move rfl (Opd.tmp _ _ rfl)) ?_ | refine Run.pure (dd := some 35) rfl rfl (op_junk (.inl rfl)) ?_
        refine Run.pure (dd := some 36) rfl rfl (op_sub rfl (Opd.tmp _ _ rfl) (Opd.const _) tI) ?_
        first | refine Run.pure (dd := some 7) rfl rfl (op_assign rfl (Opd.tmp _ _ rfl)) ?_ | refine Run.pure (dd := some 7) rfl rfl (op_junk (.inr rfl)) ?_
        refine Run.nil (FinR.mk ?_)
        refine nK ?_
        refine Next.weakS [2] [] (by rfl) (by first | exact keeps0 hC _ | exact keepsN hC _ rfl) (by repeat (first | exact trivial | refine ⟨⟨_, rfl, .inl ⟨rfl, rfl⟩⟩, ?_⟩ | refine ⟨⟨_, rfl, .inl ⟨slEq rfl tN, rfl⟩⟩, ?_⟩ | refine ⟨⟨_, rfl, .inl ⟨ivEq tX, rfl⟩⟩, ?_⟩)) (by repeat (first | exact trivial | refine ⟨⟨rfl, rfl, rfl, tL⟩, ?_⟩ | refine ⟨⟨rfl, rfl, rfEq rfl tU, tL⟩, ?_⟩ | refine ⟨⟨rfl, rfl, flEq rfl (by first | (simp; done) | (simp; omega) | (simp [encP]; done) | simp [maxC, minC]), trivial⟩, ?_⟩)) rfl (hK (k + 1) ⟨by omega, hs⟩ (by omega))
      · have heq : a.lo / 2 ^ k = hi / 2 ^ k := by
          have : ¬ ((a.lo / 2 ^ k : Nat) : Int) ≠ ((hi / 2 ^ k : Nat) : Int) := by simpa using hb
          omega
        have hkk : sumK a.lo hi 32 0 = k := by
          rw [← hs]
          cases h : 32 - k with
          | zero => rfl
          | succ f => simp only [sumK]; rw [if_pos heq]
        rw [hkk]
        have hsl := shr_lt (x := a.lo) (k := k) (by omega)
        have hsl2 : a.lo / 2 ^ k ≤ a.lo := Nat.div_le_self _ _
        refine nK ?_
        refine s_reg rfl ?_
        first | refine Run.pure (dd := some 37) rfl rfl (op_move rfl (Opd.tmp _ _ rfl)) ?_ | refine Run.pure (dd := some 37) rfl rfl (op_junk (.inl rfl)) ?_
        first | refine Run.pure (dd := some 38) rfl rfl (op_move rfl (Opd.tmp _ _ rfl)) ?_ | refine Run.pure (dd := some 38) rfl rfl (op_junk (.inl rfl)) ?_
        refine Run.pure (dd := some 39) rfl rfl (op_sub rfl (Opd.const _) (Opd.tmp _ _ rfl) tI) ?_
        refine Run.pure (dd := some 40) rfl rfl (op_shrN k rfl (Opd.tmp _ _ rfl) (Opd.tmp _ _ rfl) (by intro _; simp only [IntKind.bits]; omega)) ?_
        first | refine Run.pure (dd := some 41) rfl rfl (op_move rfl (Opd.tmp _ _ rfl)) ?_ | refine Run.pure (dd := some 41) rfl rfl (op_junk (.inl rfl)) ?_
        refine Run.pure (dd := some 42) rfl rfl (op_sub rfl (Opd.const _) (Opd.tmp _ _ rfl) tI) ?_
        refine Run.pure (dd := some 43) rfl rfl (op_shlN k rfl (Opd.tmp _ _ rfl) (Opd.tmp _ _ rfl) (by intro _; simp only [IntKind.bits, inr]; omega)) ?_
        refine Run.pure (dd := some 44) rfl rfl (op_conv rfl (Opd.tmp _ _ rfl) tI) ?_
        first | refine Run.pure (dd := some 45) rfl rfl (op_move rfl (Opd.tmp _ _ rfl)) ?_ | refine Run.pure (dd := some 45) rfl rfl (op_junk (.inl rfl)) ?_
        first | refine Run.pure (dd := some 46) rfl rfl (op_build rfl rfl rfl (FillF.cons _ _ _ _ _ _ _ _ _ _ (by rfl) (Opd.tmp _ _ rfl) tC (by rfl) tR (FillF.cons _ _ _ _ _ _ _ _ _ _ (by rfl) (Opd.tmp _ _ rfl) tC (by rfl) tR (FillF.nil _)))) ?_ | refine Run.pure (dd := some 46) rfl rfl (op_buildP rfl rfl rfl rfl (FillP.cons _ _ _ _ _ _ _ _ _ _ (by rfl) (Opd.tmp _ _ rfl) tP (by rfl) tR (FillP.cons _ _ _ _ _ _ _ _ _ _ (by rfl) (Opd.tmp _ _ rfl) tP (by rfl) tR (FillP.nil _)))) ?_
        first | refine Run.eff (dd := none) rfl rfl (op_store_flat rfl (Opd.tmp _ _ rfl) (Opd.tmp _ _ rfl) tC rfl rfl (by first | rfl | assumption) tS) ?_ | refine Run.eff (dd := none) rfl rfl (op_store_refs rfl (Opd.tmp _ _ rfl) (Opd.tmp _ _ rfl) tP rfl rfl rfl tS) ?_
        first | refine Run.pure (dd := some 3) rfl rfl (op_assign rfl (Opd.const _)) ?_ | refine Run.pure (dd := some 3) rfl rfl (op_junk (.inr rfl)) ?_
        refine Run.nil (FinR.mk ?_)
        refine nK ?_
        (first | exact s_o1 hC rfl tV | exact s_o2 hC rfl tV tV | exact s_o3 hC rfl tV tV tV | exact s_out0 hC rfl | exact s_outO hC rfl rfl rfl)
end Go.Proofs.Ytdebjffddkgfbaa
/- Objects told anew: a flat one as0 one of abstract values; a nil slice in a cell as0 an owned empty one. -/
namespace Go.RT
open Go
set_option linter.all false
variable {C : Cx} {N : Nat} {G : Env} {H : Hp} {nx : Nat} {K : Act → World → Prop}
theorem Mem.retell {S : Nat → Prop} {m : Ids} {w : World} (hm : Mem C H nx S m w) {id : Nat} {o o' : Ob} (hid : hlook H id = some o) (ho : ORep w S m id o → ORep w S m id o') : Mem C ((id, some o') :: H) nx S m w := by
  have ex : ∀ id' o2, hlook ((id, some o') :: H) id' = some o2 → ∃ o3, hlook H id' = some o3 := fun id' o2 ho2 => by
    rw [hlook_cons] at ho2
    by_cases hi : id = id'
    · subst hi; exact ⟨_, hid⟩
    · rw [if_neg hi] at ho2; exact ⟨_, ho2⟩
  refine hm.step (Le.refl _ _ _) ⟨rfl, Nat.le_refl _⟩ rfl rfl (fun _ _ => rfl) (Nat.le_refl _) (fun _ _ _ => rfl) (fun _ h => .inl h) (fun i o2 h => ?_) (fun i o2 b h => ?_) (fun i1 i2 o1 o2 b h1 h2 => ?_) hm.stab hm.fresh
  · rw [hlook_cons] at h
    by_cases hi : id = i
    · rw [if_pos hi] at h; cases h; subst hi; exact ho (hm.objs _ _ hid)
    · rw [if_neg hi] at h; exact hm.objs _ _ h
  · obtain ⟨o3, h3⟩ := ex i o2 h; exact hm.blk i o3 b h3
  · obtain ⟨o3, h3⟩ := ex _ _ h1
    obtain ⟨o4, h4⟩ := ex _ _ h2
    exact hm.inj i1 i2 o3 o4 b h3 h4
theorem rows_toRefs {w : World} {S : Nat → Prop} {m : Ids} {c : Array Value} {sz : Nat} {rows : List (List FV)} (h : RowsRep (FRep w S) c sz rows) : RowsRep (Rep w S m) c sz (rows.map fun r => r.map PV.fz) := by
  refine ⟨by simpa using h.1, fun r hr => ?_, fun i j r p hi hj => ?_⟩
  · obtain ⟨r0, h0, rfl⟩ := List.mem_map.1 hr
    simpa using h.2.1 r0 h0
  · rw [List.getElem?_map] at hi
    obtain ⟨r0, h0, rfl⟩ := Option.map_eq_some_iff.1 hi
    rw [List.getElem?_map] at hj
    obtain ⟨f, hf, rfl⟩ := Option.map_eq_some_iff.1 hj
    obtain ⟨u, h1, h2, h3⟩ := h.2.2 i j r0 f h0 hf
    exact ⟨u, h1, h2, .fz _ _ h3⟩
theorem ORep.toRefs {w : World} {S : Nat → Prop} {m : Ids} {id sz : Nat} {rows : List (List FV)} (h : ORep w S m id (.flat sz rows)) : ORep w S m id (.refs sz (rows.map fun r => r.map PV.fz)) := by
  rcases h with ⟨h1, rfl⟩ | ⟨b, c, e, h1, h2, h3⟩
  · exact .inl ⟨h1, rfl⟩
  · exact .inr ⟨b, c, e, h1, h2, rows_toRefs h3⟩
/-- a flat object told as0 one of abstract values -/
theorem Next.toRefs (id : Nat) {sz : Nat} {rows : List (List FV)} {rows' : List (List PV)} (hl : hlook H id = some (.flat sz rows)) (hr : (rows.map fun r => r.map PV.fz) = rows') (h : Next C N G ((id, some (.refs sz rows')) :: H) nx K) : Next C N G H nx K := by
  subst hr
  intro a w hR
  obtain ⟨S, m, hm, hsl⟩ := hR.mem
  exact h a w ⟨hR.defers, hR.size, S, m, hm.retell hl ORep.toRefs, hsl⟩
/-- a nil slice in a cell of an owned object, taken as0 an owned empty one -/
theorem Next.adoptCell (id row col sz : Nat) {s : Nat} {rows rows' : List (List PV)} {r : List PV} (hl : hlook H id = some (.refs s rows)) (hrow : rows[row]? = some r) (hcol : r[col]? = some (.fz (.lit (.slice none 0 0)))) (hr : rows.set row (r.set col (.sl nx sz 0 0)) = rows')
    (h : Next C N G ((id, some (.refs s rows')) :: (nx, some (.flat sz [])) :: H) (nx + 1) K) : Next C N G H nx K := by
  subst hr
  intro a w hR
  obtain ⟨S, m, hm, hsl⟩ := hR.mem
  have hids : ∀ i y, m i = some y → i ≠ nx := fun i y hi => by have := hm.lt hi; omega
  have hle : Le S m w S (setM m nx none) w := ⟨fun _ h => h, fun _ _ => rfl, fun i y hi => by rw [setM_other (hids i y hi)]; exact hi, fun _ _ h => h⟩
  have ex : ∀ id' o' b, hlook ((nx, some (.flat sz [])) :: H) id' = some o' → setM m nx none id' = some (some b) → id' ≠ nx ∧ hlook H id' = some o' ∧ m id' = some (some b) := fun id' o' b h hb => by
    rw [hlook_cons] at h
    by_cases h1 : nx = id'
    · subst h1; rw [setM_self] at hb; cases hb
    · rw [if_neg h1] at h; rw [setM_other (fun e => h1 e.symm)] at hb; exact ⟨fun e => h1 e.symm, h, hb⟩
  have hidne : id ≠ nx := by obtain ⟨x, hx⟩ := (hm.objs id _ hl).known; exact hids id x hx
  have m1 : Mem C ((nx, some (.flat sz [])) :: H) (nx + 1) S (setM m nx none) w := by
    refine hm.step hle ⟨rfl, Nat.le_refl _⟩ rfl rfl (fun _ _ => rfl) (Nat.le_refl _) (fun _ _ _ => rfl) (fun _ h => .inl h) (fun id o ho => ?_) (fun id o b ho hb => ?_) (fun i1 i2 o1 o2 b h1 h2 h3 h4 => ?_) hm.stab (fun i hi => ?_)
    · rw [hlook_cons] at ho
      by_cases h1 : nx = id
      · rw [if_pos h1] at ho; cases ho; subst h1; exact .inl ⟨setM_self _ _ _, rfl⟩
      · rw [if_neg h1] at ho; exact (hm.objs id o ho).mono hle (fun _ _ => rfl)
    · obtain ⟨_, k1, k2⟩ := ex id o b ho hb; exact hm.blk id o b k1 k2
    · obtain ⟨_, k1, k2⟩ := ex i1 o1 b h1 h3
      obtain ⟨_, k3, k4⟩ := ex i2 o2 b h2 h4
      exact hm.inj i1 i2 o1 o2 b k1 k3 k2 k4
    · rw [setM_other (by omega)]; exact hm.fresh i (by omega)
  have m2 := m1.retell (id := id) (o := .refs s rows) (o' := .refs s (rows.set row (r.set col (.sl nx sz 0 0)))) (by rw [hlook_cons, if_neg (fun e => hidne e.symm)]; exact hl) (fun ho => by
    rcases ho with ⟨k1, k2⟩ | ⟨b, c, e, k1, k2, k3⟩
    · subst k2; simp at hrow
    · refine .inr ⟨b, c, e, k1, k2, by simpa using k3.1, fun r' hr' => ?_, fun i j r' p hi hj => ?_⟩
      · rcases List.mem_or_eq_of_mem_set hr' with h1 | rfl
        · exact k3.2.1 r' h1
        · simpa using k3.2.1 r (List.mem_of_getElem? hrow)
      · rw [List.getElem?_set] at hi
        by_cases h1 : row = i
        · subst h1
          have hlt : row < rows.length := (List.getElem?_eq_some_iff.1 hrow).1
          simp only [if_true, hlt] at hi
          cases hi
          rw [List.getElem?_set] at hj
          by_cases h2 : col = j
          · subst h2
            have hlt2 : col < r.length := (List.getElem?_eq_some_iff.1 hcol).1
            simp only [if_true, hlt2] at hj
            cases hj
            obtain ⟨u, hu, ho1, hp⟩ := k3.2.2 row col r _ hrow hcol
            refine ⟨u, hu, ho1, ?_⟩
            rw [hp.lit]; exact .sl0 _ _ (setM_self _ _ _)
          · rw [if_neg h2] at hj
            exact k3.2.2 row j r p hrow hj
        · rw [if_neg h1] at hi
          exact k3.2.2 i j r' p hi hj)
  exact h a w ⟨hR.defers, hR.size, S, _, m2, fun t q hq => (hsl t q hq).mono hle⟩
theorem Meets.freezeN {P : Program} {f : FuncId} {args : List PV} {n sz : Nat} {Hin : Hp} {rows : List (List FV)} {len : Nat} (hlen : len = rows.length) (h : Meets P f args n Hin (.sl n sz 0 len) [(n, some (.flat sz rows))] (n + 1)) : Meets P f args n Hin (.fz (.vals sz rows)) [] n := by
  subst hlen
  refine ⟨fun C vs hn hm hl hr => (h.run C vs hn hm hl hr).mono fun e w' ⟨v, S', m', he, hm', hv⟩ => ?_⟩
  have hself : hlook [(n, some (Ob.flat sz rows))] n = some (.flat sz rows) := by rw [hlook_cons, if_pos rfl]
  obtain ⟨h1, h2⟩ := hm'.weak (L := List.range n) (F := [n]) (H' := []) rfl (keepsN hn _ (by simp)) trivial (fun id hid => by
    have : id = n := by simpa using hid
    subst this; exact ⟨_, hself⟩)
  rw [List.length_range] at h1
  exact ⟨v, _, _, he, h1, h2 v _ _ hv (.inr ⟨_, rfl, .sl n sz 0 _ rows rows (by simp) hself (by simp) rfl⟩)⟩
theorem Lent.of {L : List Nat} {n : Nat} {H Hin : Hp} (hl : L.length = n) (hnd : nodupB L = true) (hE : EntH L [] H Hin) (ha : (List.range n).all (fun i => (hlook Hin i).isSome) = true) : Lent L n H Hin := by
  refine ⟨hl, hnd, fun i hi => ?_, fun i o ho => ?_⟩
  · have := List.all_eq_true.1 ha i (by simpa using hi)
    exact Option.isSome_iff_exists.1 this
  · obtain ⟨h1, _, h2, h3⟩ := hE.get i o ho
    subst hl
    exact ⟨h1, h2, h3⟩
end Go.RT
namespace Go.Proofs.Ytdebjffddkgfbaa
open Go Go.RT Go.Proofs Go.Pl
set_option linter.all false
set_option maxRecDepth 20000
abbrev encC (s : Spn) : List FV := [If .u64 s.lo, If .u64 ((s.hi - 1 : Nat) : Int)]
abbrev VC (l : List Spn) : FV := .vals 2 (l.map encC)
abbrev OC (l : List Spn) : Option Ob := some (.flat 2 (l.map encC))
abbrev visF : PV := .clo 51 [] [.ptr 0 2 0 0, .ptr 1 1 0 0, .ptr 2 1 0 0]
abbrev HV (r : Spn) (out : List Pfx) : Hp := [(0, some (.flat 2 [encC r])), (1, some (.refs 1 [[.sl 3 2 0 out.length]])), (2, some (.refs 1 [[visF]])), (3, OP out)]
abbrev HVo (r : Spn) (out : List Pfx) : Hp := [(0, some (.flat 2 [encC r])), (1, some (.refs 1 [[.sl 4 2 0 out.length]])), (2, some (.refs 1 [[visF]])), (4, OP out)]
theorem vis_eq (r : Spn) (k a : Nat) : vis r k a = if a + 2 ^ k ≤ r.lo ∨ r.hi ≤ a then [] else if r.lo ≤ a ∧ a + 2 ^ k ≤ r.hi then [blk a k] else vis r (k - 1) a ++ vis r (k - 1) (a + 2 ^ (k - 1)) := by
  cases k with
  | zero =>
    simp only [vis, Nat.pow_zero]
    by_cases h : a + 1 ≤ r.lo ∨ r.hi ≤ a
    · rw [if_pos h, if_pos h]
    · rw [if_neg h, if_neg h, if_pos (by omega)]
  | succ k => rfl
theorem visit_c (r : Spn) (hr : r.lo < r.hi ∧ r.hi ≤ 2 ^ 32) (k : Nat) : ∀ (p : Pfx) (out : List Pfx), validB p = true → hob p = k → p.addr < 2 ^ 32 → out.length + 64 * (k + 1) ≤ 100000000 →
    Meets Try.prog 51 [.fz (.agg (encP p)), .ptr 0 2 0 0, .ptr 1 1 0 0, .ptr 2 1 0 0] 4 (HV r out) (.fz (.tup [])) (HVo r (out ++ vis r k p.addr)) 5 := by
  induction k using Nat.strongRecOn with
  | _ k ih =>
  intro p out hv hk ha hn
  have hok := valid_ok hv ha
  have hlast := lastN_eq hv
  have hs : sz p = 2 ^ k := by unfold sz; rw [hk]
  have hp := Nat.two_pow_pos k
  have hlt := lastN_lt p hok
  rw [hs] at hlast
  rw [vis_eq]
  refine Meets.intro Try.func51 rfl (Nat.le_of_ble_eq_true rfl) fun C hC => ?_
  simp only [List.map, argEnv, Nat.reduceAdd]
  refine nK ?_
  refine s_reg rfl ?_
  first | refine Run.eff (dd := some 4) rfl rfl (op_box_flat rfl (Opd.tmp _ _ rfl) tC rfl) ?_ | refine Run.eff (dd := some 4) rfl rfl (op_box_refs rfl (Opd.tmp _ _ rfl) tP rfl) ?_
  refine Run.nil (FinR.mk ?_)
  refine nK ?_
  refine s_draw mixed ?_
  first | refine Run.pure (dd := some 10) rfl rfl (op_fld_ptr (by decide) rfl (Opd.tmp _ _ rfl)) ?_ | refine Run.pure (dd := some 10) rfl rfl (op_fld_fz (by decide) rfl (Opd.tmp _ _ rfl) tR) ?_
  first | refine Run.load (dd := some 11) rfl rfl (op_load1_flat rfl (Opd.tmp _ _ rfl) tH rfl) ?_ | refine Run.pure (dd := some 11) rfl rfl (op_load1_fz rfl (Opd.tmp _ _ rfl) rfl) ?_ | refine Run.load (dd := some 11) rfl rfl (op_load1_refs rfl (Opd.tmp _ _ rfl) tH rfl) ?_
  refine Run.pure (dd := some 12) rfl rfl (op_conv rfl (Opd.tmp _ _ rfl) tI) ?_
  first | refine Run.load (dd := some 13) rfl rfl (op_loadw_flat rfl (Opd.tmp _ _ rfl) tH rfl) ?_ | refine Run.pure (dd := some 13) rfl rfl (op_loadw_fz rfl (Opd.tmp _ _ rfl) rfl) ?_ | refine Run.load (dd := some 13) rfl rfl (op_loadn_flat rfl (Opd.tmp _ _ rfl) tH tR tR) ?_ | refine Run.pure (dd := some 13) rfl rfl (op_loadn_fz rfl (Opd.tmp _ _ rfl) tR) ?_ | refine Run.load (dd := some 13) rfl rfl (op_loadn_refs rfl (Opd.tmp _ _ rfl) tH tR tR) ?_
  refine Run.pure (dd := some 14) rfl rfl (op_call_pure (fun _ => last_any _ hok) rfl (Opd.func _) (Opds.cons _ _ _ _ (Opd.tmp _ _ rfl) Opds.nil)) ?_
  refine Run.pure (dd := some 15) rfl rfl (op_conv rfl (Opd.tmp _ _ rfl) tI) ?_
  first | refine Run.pure (dd := some 5) rfl rfl (op_assign rfl (Opd.tmp _ _ rfl)) ?_ | refine Run.pure (dd := some 5) rfl rfl (op_junk (.inr rfl)) ?_
  first | refine Run.pure (dd := some 6) rfl rfl (op_assign rfl (Opd.tmp _ _ rfl)) ?_ | refine Run.pure (dd := some 6) rfl rfl (op_junk (.inr rfl)) ?_
  refine Run.nil (FinD.mk (by kernel_rfl) ?_)
  refine nK ?_
  refine s_reg rfl ?_
  first | refine Run.pure (dd := some 16) rfl rfl (op_move rfl (Opd.tmp _ _ rfl)) ?_ | refine Run.pure (dd := some 16) rfl rfl (op_junk (.inl rfl)) ?_
  first | refine Run.pure (dd := some 17) rfl rfl (op_fld_ptr (by decide) rfl (Opd.tmp _ _ rfl)) ?_ | refine Run.pure (dd := some 17) rfl rfl (op_fld_fz (by decide) rfl (Opd.tmp _ _ rfl) tR) ?_
  first | refine Run.load (dd := some 18) rfl rfl (op_load1_flat rfl (Opd.tmp _ _ rfl) tH rfl) ?_ | refine Run.pure (dd := some 18) rfl rfl (op_load1_fz rfl (Opd.tmp _ _ rfl) rfl) ?_ | refine Run.load (dd := some 18) rfl rfl (op_load1_refs rfl (Opd.tmp _ _ rfl) tH rfl) ?_
  refine Run.pure (dd := some 19) rfl rfl (op_lss rfl (Opd.tmp _ _ rfl) (Opd.tmp _ _ rfl)) ?_
  first | refine Run.pure (dd := some 20) rfl rfl (op_move rfl (Opd.tmp _ _ rfl)) ?_ | refine Run.pure (dd := some 20) rfl rfl (op_junk (.inl rfl)) ?_
  first | refine Run.pureG (dd := some 21) rfl rfl rfl tG (op_move rfl (Opd.tmp _ _ rfl)) ?_ | refine Run.pureG (dd := some 21) rfl rfl rfl tG (op_junk (.inl rfl)) ?_
  first | refine Run.pureG (dd := some 22) rfl rfl rfl tG (op_fld_ptr (by decide) rfl (Opd.tmp _ _ rfl)) ?_ | refine Run.pureG (dd := some 22) rfl rfl rfl tG (op_fld_fz (by decide) rfl (Opd.tmp _ _ rfl) tR) ?_
  first | refine Run.loadG (dd := some 23) rfl rfl rfl tG (op_load1_flat rfl (Opd.topt _ _ _ rfl tO) tH rfl) ?_ | refine Run.pureG (dd := some 23) rfl rfl rfl tG (op_load1_fz rfl (Opd.topt _ _ _ rfl tO) rfl) ?_ | refine Run.loadG (dd := some 23) rfl rfl rfl tG (op_load1_refs rfl (Opd.topt _ _ _ rfl tO) tH rfl) ?_
  refine Run.pureG (dd := some 24) rfl rfl rfl tG (op_gtr rfl (Opd.topt _ _ _ rfl tO) (Opd.topt _ _ _ rfl tO)) ?_
  refine Run.pure (dd := some 25) rfl rfl (op_pick_or rfl (Opd.tmp _ _ rfl) (Opd.topt _ _ _ rfl tO)) ?_
  refine Run.nil (FinR.mk ?_)
  refine nK ?_
  refine n_cond _ rfl (fun hb => ?_) (fun hb => ?_)
  · have hd : p.addr + 2 ^ k ≤ r.lo ∨ r.hi ≤ p.addr := by simp at hb; omega
    rw [if_pos hd]
    refine nK ?_
    refine Next.weak [0, 1, 2, 3, 3] [] (by rfl) (keepsN hC _ rfl) (G' := []) (H' := HVo r (out ++ [])) trivial (by repeat (first | exact trivial | refine ⟨⟨rfl, rfl, rfl, tL⟩, ?_⟩ | refine ⟨⟨rfl, rfl, rfEq rfl tU, tL⟩, ?_⟩ | refine ⟨⟨rfl, rfl, flEq rfl (by first | (simp; done) | (simp; omega) | (simp [encP]; done) | simp [maxC, minC]), trivial⟩, ?_⟩)) (fun _ h => by simp at h) (n_out0 rfl)
  · have hd : ¬ (p.addr + 2 ^ k ≤ r.lo ∨ r.hi ≤ p.addr) := by
      have : ¬ ((lastN p : Int) < r.lo ∨ ((r.hi - 1 : Nat) : Int) < p.addr) := by simpa using hb
      omega
    rw [if_neg hd]
    refine nK ?_
    refine s_reg rfl ?_
    first | refine Run.pure (dd := some 26) rfl rfl (op_move rfl (Opd.tmp _ _ rfl)) ?_ | refine Run.pure (dd := some 26) rfl rfl (op_junk (.inl rfl)) ?_
    first | refine Run.pure (dd := some 27) rfl rfl (op_fld_ptr (by decide) rfl (Opd.tmp _ _ rfl)) ?_ | refine Run.pure (dd := some 27) rfl rfl (op_fld_fz (by decide) rfl (Opd.tmp _ _ rfl) tR) ?_
    first | refine Run.load (dd := some 28) rfl rfl (op_load1_flat rfl (Opd.tmp _ _ rfl) tH rfl) ?_ | refine Run.pure (dd := some 28) rfl rfl (op_load1_fz rfl (Opd.tmp _ _ rfl) rfl) ?_ | refine Run.load (dd := some 28) rfl rfl (op_load1_refs rfl (Opd.tmp _ _ rfl) tH rfl) ?_
    refine Run.pure (dd := some 29) rfl rfl (op_geq rfl (Opd.tmp _ _ rfl) (Opd.tmp _ _ rfl)) ?_
    first | refine Run.pure (dd := some 30) rfl rfl (op_move rfl (Opd.tmp _ _ rfl)) ?_ | refine Run.pure (dd := some 30) rfl rfl (op_junk (.inl rfl)) ?_
    first | refine Run.pureG (dd := some 31) rfl rfl rfl tG (op_move rfl (Opd.tmp _ _ rfl)) ?_ | refine Run.pureG (dd := some 31) rfl rfl rfl tG (op_junk (.inl rfl)) ?_
    first | refine Run.pureG (dd := some 32) rfl rfl rfl tG (op_fld_ptr (by decide) rfl (Opd.tmp _ _ rfl)) ?_ | refine Run.pureG (dd := some 32) rfl rfl rfl tG (op_fld_fz (by decide) rfl (Opd.tmp _ _ rfl) tR) ?_
    first | refine Run.loadG (dd := some 33) rfl rfl rfl tG (op_load1_flat rfl (Opd.topt _ _ _ rfl tO) tH rfl) ?_ | refine Run.pureG (dd := some 33) rfl rfl rfl tG (op_load1_fz rfl (Opd.topt _ _ _ rfl tO) rfl) ?_ | refine Run.loadG (dd := some 33) rfl rfl rfl tG (op_load1_refs rfl (Opd.topt _ _ _ rfl tO) tH rfl) ?_
    refine Run.pureG (dd := some 34) rfl rfl rfl tG (op_leq rfl (Opd.topt _ _ _ rfl tO) (Opd.topt _ _ _ rfl tO)) ?_
    refine Run.pure (dd := some 35) rfl rfl (op_pick_and rfl (Opd.tmp _ _ rfl) (Opd.topt _ _ _ rfl tO)) ?_
    refine Run.nil (FinR.mk ?_)
    refine nK ?_
    refine n_cond _ rfl (fun hb => ?_) (fun hb => ?_)
    · have hi : r.lo ≤ p.addr ∧ p.addr + 2 ^ k ≤ r.hi := by simp at hb; omega
      rw [if_pos hi, ← hk, ← eq_blk hv]
      refine nK ?_
      refine s_reg rfl ?_
      first | refine Run.load (dd := some 36) rfl rfl (op_load1_flat rfl (Opd.tmp _ _ rfl) tH rfl) ?_ | refine Run.pure (dd := some 36) rfl rfl (op_load1_fz rfl (Opd.tmp _ _ rfl) rfl) ?_ | refine Run.load (dd := some 36) rfl rfl (op_load1_refs rfl (Opd.tmp _ _ rfl) tH rfl) ?_
      first | refine Run.load (dd := some 37) rfl rfl (op_loadw_flat rfl (Opd.tmp _ _ rfl) tH rfl) ?_ | refine Run.pure (dd := some 37) rfl rfl (op_loadw_fz rfl (Opd.tmp _ _ rfl) rfl) ?_ | refine Run.load (dd := some 37) rfl rfl (op_loadn_flat rfl (Opd.tmp _ _ rfl) tH tR tR) ?_ | refine Run.pure (dd := some 37) rfl rfl (op_loadn_fz rfl (Opd.tmp _ _ rfl) tR) ?_ | refine Run.load (dd := some 37) rfl rfl (op_loadn_refs rfl (Opd.tmp _ _ rfl) tH tR tR) ?_
      refine Run.pure (dd := some 38) rfl rfl (op_buildSlice_fz rfl (RowsF.cons _ _ _ _ _ _ (Opd.tmp _ _ rfl) tC (by rfl) (RowsF.nil _)) rfl rfl) ?_
      first | refine Run.eff (dd := some 39) rfl rfl (op_append_own0 rfl (Opd.tmp _ _ rfl) (Opd.tmp _ _ rfl) rfl (by first | rfl | simp) rfl (by first | rfl | simp) rfl rfl tB tB) ?_ | refine Run.eff (dd := some 39) rfl rfl (op_append rfl (Opd.tmp _ _ rfl) (by first | exact Opd.tmp _ _ rfl | exact Opd.nil _ _ (Opd.tmp _ _ rfl)) rfl (by first | rfl | simp) rfl rfl tB tB) ?_
      first | refine Run.eff (dd := none) rfl rfl (op_store_flat rfl (Opd.tmp _ _ rfl) (Opd.tmp _ _ rfl) tC rfl rfl (by first | rfl | assumption) tS) ?_ | refine Run.eff (dd := none) rfl rfl (op_store_refs rfl (Opd.tmp _ _ rfl) (Opd.tmp _ _ rfl) tP rfl rfl rfl tS) ?_
      refine Run.nil (FinR.mk ?_)
      refine nK ?_
      refine Next.weak [0, 1, 2, 3, 5] [] (by rfl) (keepsN hC _ rfl) (G' := []) (H' := HVo r (out ++ [p])) trivial (by repeat (first | exact trivial | refine ⟨⟨rfl, rfl, rfl, tL⟩, ?_⟩ | refine ⟨⟨rfl, rfl, rfEq rfl tU, tL⟩, ?_⟩ | refine ⟨⟨rfl, rfl, flEq rfl (by first | (simp; done) | (simp; omega) | (simp [encP]; done) | simp [maxC, minC]), trivial⟩, ?_⟩)) (fun _ h => by simp at h) (n_out0 rfl)
    · have hi : ¬ (r.lo ≤ p.addr ∧ p.addr + 2 ^ k ≤ r.hi) := by
        have : ¬ ((r.lo : Int) ≤ p.addr ∧ (lastN p : Int) ≤ ((r.hi - 1 : Nat) : Int)) := by simpa using hb
        omega
      rw [if_neg hi]
      cases k with
      | zero => simp only [Nat.pow_zero] at hd hi; omega
      | succ k =>
      have hhal := halves_eq hv hk ha
      have hdv := ((valid_iff p).1 hv).2
      rw [hs] at hdv
      obtain ⟨d1, d2⟩ := two_dvd hdv
      have hk32 : k ≤ 32 := by have := hob_le p; omega
      have hpw : 2 ^ (k + 1) = 2 ^ k + 2 ^ k := by rw [Nat.pow_succ]; omega
      have hfit := valid_fit hv ha
      rw [hs, hpw] at hfit
      have hp2 := Nat.two_pow_pos k
      have hcnt := (vis_count r k p.addr).2
      have ih1 : Meets Try.prog 51 [.fz (.agg (encP (blk p.addr k))), .ptr 0 2 0 0, .ptr 1 1 0 0, .ptr 2 1 0 0] 4 (HV r out) (.fz (.tup [])) (HVo r (out ++ vis r k p.addr)) 5 := ih k (by omega) (blk p.addr k) out (valid_blk hk32 d1) (hob_blk hk32) ha (by omega)
      have ih2 : Meets Try.prog 51 [.fz (.agg (encP (blk (p.addr + 2 ^ k) k))), .ptr 0 2 0 0, .ptr 1 1 0 0, .ptr 2 1 0 0] 4 (HV r (out ++ vis r k p.addr)) (.fz (.tup [])) (HVo r (out ++ vis r k p.addr ++ vis r k (p.addr + 2 ^ k))) 5 := ih k (by omega) (blk (p.addr + 2 ^ k) k) (out ++ vis r k p.addr) (valid_blk hk32 d2) (hob_blk hk32) (by simp only [blk]; omega) (by rw [List.length_append]; omega)
      refine nK ?_
      refine s_reg rfl ?_
      first | refine Run.load (dd := some 41) rfl rfl (op_loadw_flat rfl (Opd.tmp _ _ rfl) tH rfl) ?_ | refine Run.pure (dd := some 41) rfl rfl (op_loadw_fz rfl (Opd.tmp _ _ rfl) rfl) ?_ | refine Run.load (dd := some 41) rfl rfl (op_loadn_flat rfl (Opd.tmp _ _ rfl) tH tR tR) ?_ | refine Run.pure (dd := some 41) rfl rfl (op_loadn_fz rfl (Opd.tmp _ _ rfl) tR) ?_ | refine Run.load (dd := some 41) rfl rfl (op_loadn_refs rfl (Opd.tmp _ _ rfl) tH tR tR) ?_
      refine Run.pure (dd := some 42) rfl rfl (op_call_pure (res := .tup [.agg (encP (blk p.addr k)), .agg (encP (blk (p.addr + 2 ^ k) k)), Bf true]) (fun _ => by have := halves_any p hok; rw [hhal] at this; exact this) rfl (Opd.func _) (Opds.cons _ _ _ _ (Opd.tmp _ _ rfl) Opds.nil)) ?_
      first | refine Run.pure (dd := some 40) rfl rfl (op_move rfl (Opd.tmp _ _ rfl)) ?_ | refine Run.pure (dd := some 40) rfl rfl (op_junk (.inl rfl)) ?_
      first | refine Run.pure (dd := some 43) rfl rfl (op_extract_fz rfl (Opd.tmp _ _ rfl) rfl) ?_ | refine Run.pure (dd := some 43) rfl rfl (op_extract rfl (Opd.tmp _ _ rfl) rfl) ?_
      first | refine Run.pure (dd := some 44) rfl rfl (op_extract_fz rfl (Opd.tmp _ _ rfl) rfl) ?_ | refine Run.pure (dd := some 44) rfl rfl (op_extract rfl (Opd.tmp _ _ rfl) rfl) ?_
      first | refine Run.pure (dd := some 45) rfl rfl (op_extract_fz rfl (Opd.tmp _ _ rfl) rfl) ?_ | refine Run.pure (dd := some 45) rfl rfl (op_extract rfl (Opd.tmp _ _ rfl) rfl) ?_
      refine Run.eff (dd := some 7) rfl rfl (op_alloc rfl rfl rfl rfl) ?_
      refine Run.eff (dd := some 8) rfl rfl (op_alloc rfl rfl rfl rfl) ?_
      first | refine Run.eff (dd := none) rfl rfl (op_store_flat rfl (Opd.tmp _ _ rfl) (Opd.tmp _ _ rfl) tC rfl rfl (by first | rfl | assumption) tS) ?_ | refine Run.eff (dd := none) rfl rfl (op_store_refs rfl (Opd.tmp _ _ rfl) (Opd.tmp _ _ rfl) tP rfl rfl rfl tS) ?_
      first | refine Run.eff (dd := none) rfl rfl (op_store_flat rfl (Opd.tmp _ _ rfl) (Opd.tmp _ _ rfl) tC rfl rfl (by first | rfl | assumption) tS) ?_ | refine Run.eff (dd := none) rfl rfl (op_store_refs rfl (Opd.tmp _ _ rfl) (Opd.tmp _ _ rfl) tP rfl rfl rfl tS) ?_
      first | refine Run.pure (dd := some 9) rfl rfl (op_assign rfl (Opd.tmp _ _ rfl)) ?_ | refine Run.pure (dd := some 9) rfl rfl (op_junk (.inr rfl)) ?_
      refine Run.nil (FinR.mk ?_)
      refine nK ?_
      refine s_reg rfl ?_
      first | refine Run.load (dd := some 46) rfl rfl (op_load1_flat rfl (Opd.tmp _ _ rfl) tH rfl) ?_ | refine Run.pure (dd := some 46) rfl rfl (op_load1_fz rfl (Opd.tmp _ _ rfl) rfl) ?_ | refine Run.load (dd := some 46) rfl rfl (op_load1_refs rfl (Opd.tmp _ _ rfl) tH rfl) ?_
      first | refine Run.load (dd := some 47) rfl rfl (op_loadw_flat rfl (Opd.tmp _ _ rfl) tH rfl) ?_ | refine Run.pure (dd := some 47) rfl rfl (op_loadw_fz rfl (Opd.tmp _ _ rfl) rfl) ?_ | refine Run.load (dd := some 47) rfl rfl (op_loadn_flat rfl (Opd.tmp _ _ rfl) tH tR tR) ?_ | refine Run.pure (dd := some 47) rfl rfl (op_loadn_fz rfl (Opd.tmp _ _ rfl) tR) ?_ | refine Run.load (dd := some 47) rfl rfl (op_loadn_refs rfl (Opd.tmp _ _ rfl) tH tR tR) ?_
      refine Run.eff (dd := some 48) rfl rfl (op_call (n := 4) (n' := 5) [0, 1, 2, 3] (fun _ => ih1) rfl (Opd.tmp _ _ rfl) (Opds.cons _ _ _ _ (Opd.tmp _ _ rfl) Opds.nil) rfl rfl (Lent.of rfl rfl (by repeat (first | exact trivial | refine ⟨⟨rfl, rfl, rfl, tL⟩, ?_⟩)) rfl) rfl rfl rfl rfl rfl) ?_
      refine Run.nil (FinR.mk ?_)
      refine nK ?_
      refine s_reg rfl ?_
      first | refine Run.load (dd := some 49) rfl rfl (op_load1_flat rfl (Opd.tmp _ _ rfl) tH rfl) ?_ | refine Run.pure (dd := some 49) rfl rfl (op_load1_fz rfl (Opd.tmp _ _ rfl) rfl) ?_ | refine Run.load (dd := some 49) rfl rfl (op_load1_refs rfl (Opd.tmp _ _ rfl) tH rfl) ?_
      first | refine Run.load (dd := some 50) rfl rfl (op_loadw_flat rfl (Opd.tmp _ _ rfl) tH rfl) ?_ | refine Run.pure (dd := some 50) rfl rfl (op_loadw_fz rfl (Opd.tmp _ _ rfl) rfl) ?_ | refine Run.load (dd := some 50) rfl rfl (op_loadn_flat rfl (Opd.tmp _ _ rfl) tH tR tR) ?_ | refine Run.pure (dd := some 50) rfl rfl (op_loadn_fz rfl (Opd.tmp _ _ rfl) tR) ?_ | refine Run.load (dd := some 50) rfl rfl (op_loadn_refs rfl (Opd.tmp _ _ rfl) tH tR tR) ?_
      refine Run.eff (dd := some 51) rfl rfl (op_call (n := 4) (n' := 5) [0, 1, 2, 7] (fun _ => ih2) rfl (Opd.tmp _ _ rfl) (Opds.cons _ _ _ _ (Opd.tmp _ _ rfl) Opds.nil) rfl rfl (Lent.of rfl rfl (by repeat (first | exact trivial | refine ⟨⟨rfl, rfl, rfl, tL⟩, ?_⟩)) rfl) rfl rfl rfl rfl rfl) ?_
      refine Run.nil (FinR.mk ?_)
      refine nK ?_
      refine Next.weak [0, 1, 2, 3, 8] [] (by rfl) (keepsN hC _ rfl) (G' := []) (H' := HVo r (out ++ (vis r k p.addr ++ vis r k (p.addr + 2 ^ k)))) trivial (by repeat (first | exact trivial | refine ⟨⟨rfl, rfl, rfl, tL⟩, ?_⟩ | refine ⟨⟨rfl, rfl, rfEq rfl tU, tL⟩, ?_⟩ | refine ⟨⟨rfl, rfl, flEq rfl (by first | (simp; done) | (simp; omega) | (simp [encP]; done) | simp [maxC, minC]), trivial⟩, ?_⟩)) (fun _ h => by simp at h) (n_out0 rfl)
theorem cprefs_c (l : List Spn) (hl : okS l) (hn : l.length ≤ 1000000) : Pure Try.prog 34 [VC l] (VP (prefsF l)) := by
  refine Meets.freeze (len := (prefsF l).length) (by simp) ?_
  refine Meets.intro Try.func34 rfl (Nat.le_of_ble_eq_true rfl) fun C hC => ?_
  simp only [List.map, argEnv, Nat.reduceAdd]
  refine nK ?_
  refine s_reg rfl ?_
  first | refine Run.pure (dd := some 2) rfl rfl (op_assign rfl (Opd.const _)) ?_ | refine Run.pure (dd := some 2) rfl rfl (op_junk (.inr rfl)) ?_
  refine Run.nil (FinR.mk ?_)
  refine nK ?_
  refine s_reg rfl ?_
  refine Run.eff (dd := some 3) rfl rfl (op_alloc rfl rfl rfl rfl) ?_
  refine Run.nil (FinR.mk ?_)
  refine nK ?_
  refine s_reg rfl ?_
  first | refine Run.pure (dd := some 7) rfl rfl (op_move rfl (Opd.tmp _ _ rfl)) ?_ | refine Run.pure (dd := some 7) rfl rfl (op_junk (.inl rfl)) ?_
  first | refine Run.pure (dd := some 8) rfl rfl (op_len_fz rfl (by first | exact Opd.tmp _ _ rfl | exact Opd.nil _ _ (Opd.tmp _ _ rfl)) (by first | exact List.length_map _ | rfl)) ?_ | refine Run.pure (dd := some 8) rfl rfl (op_len_sl rfl (Opd.tmp _ _ rfl)) ?_
  first | refine Run.pure (dd := some 9) rfl rfl (op_move rfl (Opd.const _)) ?_ | refine Run.pure (dd := some 9) rfl rfl (op_junk (.inl rfl)) ?_
  refine Run.nil (FinR.mk ?_)
  refine nK ?_
  refine Next.toRefs 0 rfl rfl ?_
  refine Next.adoptCell 0 0 0 2 rfl rfl rfl rfl ?_
  refine n_loop (ι := Nat) (fun i => ([(0, .fz (VC l)), (3, .ptr 0 1 0 0), (7, .fz (VC l)), (8, IV .i64 l.length), (9, IV .i64 i)], [(0, some (.refs 1 [[.sl 1 2 0 (prefsF (l.take i)).length]])), (1, OP (prefsF (l.take i)))], 2)) (fun i => i ≤ l.length) (fun i => l.length - i) 0 (Nat.zero_le _) ?_ ?_
  · refine Next.weak [0, 1] [] (by rfl) (keeps0 hC _) (by repeat (first | exact trivial | refine ⟨⟨_, rfl, .inl ⟨rfl, rfl⟩⟩, ?_⟩ | refine ⟨⟨_, rfl, .inl ⟨slEq rfl tN, rfl⟩⟩, ?_⟩ | refine ⟨⟨_, rfl, .inl ⟨ivEq tX, rfl⟩⟩, ?_⟩)) (by repeat (first | exact trivial | refine ⟨⟨rfl, rfl, rfl, tL⟩, ?_⟩ | refine ⟨⟨rfl, rfl, rfEq rfl tU, tL⟩, ?_⟩ | refine ⟨⟨rfl, rfl, flEq rfl (by first | (simp; done) | (simp; omega) | (simp [encP]; done) | simp [maxC, minC]), trivial⟩, ?_⟩)) (fun _ h => by simp at h) rel_intro
  · intro i hi K hK
    refine nK ?_
    refine s_reg rfl ?_
    refine Run.pure (dd := some 10) rfl rfl (op_lss rfl (Opd.tmp _ _ rfl) (Opd.tmp _ _ rfl)) ?_
    refine Run.nil (FinR.mk ?_)
    refine nK ?_
    refine n_cond _ rfl (fun hb => ?_) (fun hb => ?_)
    · have hlt : i < l.length := by simp at hb; omega
      have hr1 := row_at encC l i hlt
      have hok := hl l[i] (List.getElem_mem hlt)
      have hpl := prefs_len (l.take i)
      have htl : (l.take i).length ≤ 1000000 := by simp; omega
      have hK1 := hK (i + 1) (by omega) (by omega)
      have hs : prefsF (l.take (i + 1)) = prefsF (l.take i) ++ vis l[i] 32 0 := by unfold prefsF; rw [List.take_succ_eq_append_getElem hlt, List.flatMap_append, List.flatMap_singleton]
      rw [hs] at hK1
      have hv := visit_c l[i] hok 32 ⟨0, 0⟩ (prefsF (l.take i)) (by decide) (by decide) (by decide) (by omega)
      refine nK ?_
      refine s_reg rfl ?_
      first | refine Run.pure (dd := some 11) rfl rfl (op_idx_sl0 _ rfl (Opd.tmp _ _ rfl) (Opd.tmp _ _ rfl) tD) ?_ | refine Run.pure (dd := some 11) rfl rfl (op_idx_fz _ rfl (Opd.tmp _ _ rfl) (Opd.tmp _ _ rfl) tF) ?_
      first | refine Run.load (dd := some 12) rfl rfl (op_loadw_flat rfl (Opd.tmp _ _ rfl) tH rfl) ?_ | refine Run.pure (dd := some 12) rfl rfl (op_loadw_fz rfl (Opd.tmp _ _ rfl) rfl) ?_ | refine Run.load (dd := some 12) rfl rfl (op_loadn_flat rfl (Opd.tmp _ _ rfl) tH tR tR) ?_ | refine Run.pure (dd := some 12) rfl rfl (op_loadn_fz rfl (Opd.tmp _ _ rfl) tR) ?_ | refine Run.load (dd := some 12) rfl rfl (op_loadn_refs rfl (Opd.tmp _ _ rfl) tH tR tR) ?_
      refine Run.eff (dd := some 5) rfl rfl (op_alloc rfl rfl rfl rfl) ?_
      first | refine Run.eff (dd := none) rfl rfl (op_store_flat rfl (Opd.tmp _ _ rfl) (Opd.tmp _ _ rfl) tC rfl rfl (by first | rfl | assumption) tS) ?_ | refine Run.eff (dd := none) rfl rfl (op_store_refs rfl (Opd.tmp _ _ rfl) (Opd.tmp _ _ rfl) tP rfl rfl rfl tS) ?_
      refine Run.nil (FinR.mk ?_)
      refine nK ?_
      refine s_reg rfl ?_
      refine Run.eff (dd := some 6) rfl rfl (op_alloc rfl rfl rfl rfl) ?_
      refine Run.nil (FinR.mk ?_)
      refine nK ?_
      refine Next.toRefs 3 rfl rfl ?_
      refine s_reg rfl ?_
      refine Run.pure (dd := some 13) rfl rfl (op_makeFunc rfl Opds.nil (Opds.cons _ _ _ _ (Opd.tmp _ _ rfl) (Opds.cons _ _ _ _ (Opd.tmp _ _ rfl) (Opds.cons _ _ _ _ (Opd.tmp _ _ rfl) Opds.nil)))) ?_
      first | refine Run.eff (dd := none) rfl rfl (op_store_flat rfl (Opd.tmp _ _ rfl) (Opd.tmp _ _ rfl) tC rfl rfl (by first | rfl | assumption) tS) ?_ | refine Run.eff (dd := none) rfl rfl (op_store_refs rfl (Opd.tmp _ _ rfl) (Opd.tmp _ _ rfl) tP rfl rfl rfl tS) ?_
      refine Run.nil (FinR.mk ?_)
      refine nK ?_
      refine s_reg rfl ?_
      first | refine Run.load (dd := some 14) rfl rfl (op_load1_flat rfl (Opd.tmp _ _ rfl) tH rfl) ?_ | refine Run.pure (dd := some 14) rfl rfl (op_load1_fz rfl (Opd.tmp _ _ rfl) rfl) ?_ | refine Run.load (dd := some 14) rfl rfl (op_load1_refs rfl (Opd.tmp _ _ rfl) tH rfl) ?_
      first | refine Run.pure (dd := some 15) rfl rfl (op_build rfl rfl rfl (FillF.nil _)) ?_ | refine Run.pure (dd := some 15) rfl rfl (op_buildP rfl rfl rfl rfl (FillP.nil _)) ?_
      refine Run.eff (dd := some 16) rfl rfl (op_call (n := 4) (n' := 5) [2, 0, 3, 1] (fun _ => hv) rfl (Opd.tmp _ _ rfl) (Opds.cons _ _ _ _ (Opd.tmp _ _ rfl) Opds.nil) rfl rfl (Lent.of rfl rfl (by repeat (first | exact trivial | refine ⟨⟨rfl, rfl, rfl, tL⟩, ?_⟩)) rfl) rfl rfl rfl rfl rfl) ?_
      refine Run.nil (FinR.mk ?_)
      refine nK ?_
      refine s_reg rfl ?_
      refine Run.pure (dd := some 17) rfl rfl (op_add rfl (Opd.tmp _ _ rfl) (Opd.const _) tI) ?_
      first | refine Run.pure (dd := some 9) rfl rfl (op_move rfl (Opd.tmp _ _ rfl)) ?_ | refine Run.pure (dd := some 9) rfl rfl (op_junk (.inl rfl)) ?_
      refine Run.nil (FinR.mk ?_)
      refine nK ?_
      refine Next.weak [0, 4] [] (by rfl) (keeps0 hC _) (by repeat (first | exact trivial | refine ⟨⟨_, rfl, .inl ⟨rfl, rfl⟩⟩, ?_⟩ | refine ⟨⟨_, rfl, .inl ⟨slEq rfl tN, rfl⟩⟩, ?_⟩ | refine ⟨⟨_, rfl, .inl ⟨ivEq tX, rfl⟩⟩, ?_⟩)) (by repeat (first | exact trivial | refine ⟨⟨rfl, rfl, rfl, tL⟩, ?_⟩ | refine ⟨⟨rfl, rfl, rfEq rfl tU, tL⟩, ?_⟩ | refine ⟨⟨rfl, rfl, flEq rfl (by first | (simp; done) | (simp; omega) | (simp [encP]; done) | simp [maxC, minC]), trivial⟩, ?_⟩)) (fun _ h => by simp at h) hK1
    · have hie : i = l.length := by simp at hb; omega
      rw [take_len_eq hie]
      refine nK ?_
      refine s_reg rfl ?_
      first | refine Run.load (dd := some 18) rfl rfl (op_load1_flat rfl (Opd.tmp _ _ rfl) tH rfl) ?_ | refine Run.pure (dd := some 18) rfl rfl (op_load1_fz rfl (Opd.tmp _ _ rfl) rfl) ?_ | refine Run.load (dd := some 18) rfl rfl (op_load1_refs rfl (Opd.tmp _ _ rfl) tH rfl) ?_
      first | refine Run.pure (dd := some 2) rfl rfl (op_assign rfl (Opd.tmp _ _ rfl)) ?_ | refine Run.pure (dd := some 2) rfl rfl (op_junk (.inr rfl)) ?_
      refine Run.nil (FinR.mk ?_)
      refine nK ?_
      (first | exact s_o1 hC rfl tV | exact s_o2 hC rfl tV tV | exact s_o3 hC rfl tV tV tV | exact s_out0 hC rfl | exact s_outO hC rfl rfl rfl)
end Go.Proofs.Ytdebjffddkgfbaa
namespace Go.Proofs.Ytdebjffddkgfbaa
open Go Go.RT Go.Proofs Go.Pl
set_option linter.all false
set_option maxRecDepth 20000
theorem crest_c (l : List Spn) (hl : okS l) (hn : l.length ≤ 1000000) : Pure Try.prog 45 [VC l] (VC (compS 0 l)) := by
  refine Meets.freeze (len := (compS 0 l).length) (by simp) ?_
  have hcl := compS_len l 0
  refine Meets.intro Try.func45 rfl (Nat.le_of_ble_eq_true rfl) fun C hC => ?_
  simp only [List.map, argEnv, Nat.reduceAdd]
  refine nK ?_
  refine s_reg rfl ?_
  first | refine Run.pure (dd := some 2) rfl rfl (op_assign rfl (Opd.const _)) ?_ | refine Run.pure (dd := some 2) rfl rfl (op_junk (.inr rfl)) ?_
  refine Run.nil (FinR.mk ?_)
  refine nK ?_
  refine s_reg rfl ?_
  first | refine Run.pure (dd := some 3) rfl rfl (op_assign rfl (Opd.const _)) ?_ | refine Run.pure (dd := some 3) rfl rfl (op_junk (.inr rfl)) ?_
  refine Run.nil (FinR.mk ?_)
  refine nK ?_
  refine s_reg rfl ?_
  first | refine Run.pure (dd := some 4) rfl rfl (op_assign rfl (Opd.const _)) ?_ | refine Run.pure (dd := some 4) rfl rfl (op_junk (.inr rfl)) ?_
  refine Run.nil (FinR.mk ?_)
  refine nK ?_
  refine s_reg rfl ?_
  first | refine Run.pure (dd := some 7) rfl rfl (op_move rfl (Opd.tmp _ _ rfl)) ?_ | refine Run.pure (dd := some 7) rfl rfl (op_junk (.inl rfl)) ?_
  first | refine Run.pure (dd := some 8) rfl rfl (op_len_fz rfl (by first | exact Opd.tmp _ _ rfl | exact Opd.nil _ _ (Opd.tmp _ _ rfl)) (by first | exact List.length_map _ | rfl)) ?_ | refine Run.pure (dd := some 8) rfl rfl (op_len_sl rfl (Opd.tmp _ _ rfl)) ?_
  first | refine Run.pure (dd := some 9) rfl rfl (op_move rfl (Opd.const _)) ?_ | refine Run.pure (dd := some 9) rfl rfl (op_junk (.inl rfl)) ?_
  refine Run.nil (FinR.mk ?_)
  refine nK ?_
  refine Next.adopt 3 2 rfl ?_
  refine n_loop (ι := Nat × Nat × List Spn) (fun g => ([(0, .fz (VC l)), (3, .sl 0 2 0 g.2.2.length), (4, IV .u64 g.2.1), (7, .fz (VC l)), (8, IV .i64 l.length), (9, IV .i64 g.1)], [(0, OC g.2.2)], 1)) (fun g => g.1 ≤ l.length ∧ g.2.1 ≤ 2 ^ 32 ∧ g.2.2 ++ compS g.2.1 (l.drop g.1) = compS 0 l) (fun g => l.length - g.1) (0, 0, []) ⟨Nat.zero_le _, Nat.zero_le _, rfl⟩ ?_ ?_
  · refine Next.weakS [3] [] (by rfl) (by first | exact keeps0 hC _ | exact keepsN hC _ rfl) (by repeat (first | exact trivial | refine ⟨⟨_, rfl, .inl ⟨rfl, rfl⟩⟩, ?_⟩ | refine ⟨⟨_, rfl, .inl ⟨slEq rfl tN, rfl⟩⟩, ?_⟩ | refine ⟨⟨_, rfl, .inl ⟨ivEq tX, rfl⟩⟩, ?_⟩)) (by repeat (first | exact trivial | refine ⟨⟨rfl, rfl, rfl, tL⟩, ?_⟩ | refine ⟨⟨rfl, rfl, rfEq rfl tU, tL⟩, ?_⟩ | refine ⟨⟨rfl, rfl, flEq rfl (by first | (simp; done) | (simp; omega) | (simp [encP]; done) | simp [maxC, minC]), trivial⟩, ?_⟩)) rfl (rel_intro)
  · intro ⟨i, lo, acc⟩ ⟨hi, hlo, hacc⟩ K hK
    simp only at hi hlo hacc
    have hal : acc.length ≤ l.length + 1 := by rw [← hacc] at hcl; simp at hcl; omega
    refine nK ?_
    refine s_reg rfl ?_
    refine Run.pure (dd := some 10) rfl rfl (op_lss rfl (Opd.tmp _ _ rfl) (Opd.tmp _ _ rfl)) ?_
    refine Run.nil (FinR.mk ?_)
    refine nK ?_
    refine n_cond _ rfl (fun hb => ?_) (fun hb => ?_)
    · have hlt : i < l.length := by simp at hb; omega
      have hr1 := row_at encC l i hlt
      have hs := hl l[i] (List.getElem_mem hlt)
      rw [List.drop_eq_getElem_cons hlt] at hacc
      simp only [compS] at hacc
      refine nK ?_
      refine s_reg rfl ?_
      first | refine Run.pure (dd := some 11) rfl rfl (op_idx_sl0 _ rfl (Opd.tmp _ _ rfl) (Opd.tmp _ _ rfl) tD) ?_ | refine Run.pure (dd := some 11) rfl rfl (op_idx_fz _ rfl (Opd.tmp _ _ rfl) (Opd.tmp _ _ rfl) tF) ?_
      first | refine Run.load (dd := some 12) rfl rfl (op_loadw_flat rfl (Opd.tmp _ _ rfl) tH rfl) ?_ | refine Run.pure (dd := some 12) rfl rfl (op_loadw_fz rfl (Opd.tmp _ _ rfl) rfl) ?_ | refine Run.load (dd := some 12) rfl rfl (op_loadn_flat rfl (Opd.tmp _ _ rfl) tH tR tR) ?_ | refine Run.pure (dd := some 12) rfl rfl (op_loadn_fz rfl (Opd.tmp _ _ rfl) tR) ?_ | refine Run.load (dd := some 12) rfl rfl (op_loadn_refs rfl (Opd.tmp _ _ rfl) tH tR tR) ?_
      refine Run.eff (dd := some 6) rfl rfl (op_alloc rfl rfl rfl rfl) ?_
      first | refine Run.eff (dd := none) rfl rfl (op_store_flat rfl (Opd.tmp _ _ rfl) (Opd.tmp _ _ rfl) tC rfl rfl (by first | rfl | assumption) tS) ?_ | refine Run.eff (dd := none) rfl rfl (op_store_refs rfl (Opd.tmp _ _ rfl) (Opd.tmp _ _ rfl) tP rfl rfl rfl tS) ?_
      refine Run.nil (FinR.mk ?_)
      refine nK ?_
      refine s_reg rfl ?_
      first | refine Run.pure (dd := some 13) rfl rfl (op_fld_ptr (by decide) rfl (Opd.tmp _ _ rfl)) ?_ | refine Run.pure (dd := some 13) rfl rfl (op_fld_fz (by decide) rfl (Opd.tmp _ _ rfl) tR) ?_
      first | refine Run.load (dd := some 14) rfl rfl (op_load1_flat rfl (Opd.tmp _ _ rfl) tH rfl) ?_ | refine Run.pure (dd := some 14) rfl rfl (op_load1_fz rfl (Opd.tmp _ _ rfl) rfl) ?_ | refine Run.load (dd := some 14) rfl rfl (op_load1_refs rfl (Opd.tmp _ _ rfl) tH rfl) ?_
      first | refine Run.pure (dd := some 15) rfl rfl (op_move rfl (Opd.tmp _ _ rfl)) ?_ | refine Run.pure (dd := some 15) rfl rfl (op_junk (.inl rfl)) ?_
      refine Run.pure (dd := some 16) rfl rfl (op_gtr rfl (Opd.tmp _ _ rfl) (Opd.tmp _ _ rfl)) ?_
      refine Run.nil (FinR.mk ?_)
      refine nK ?_
      refine n_cond _ rfl (fun hb => ?_) (fun hb => ?_)
      · rw [if_pos (by simp at hb; omega)] at hacc
        have hpos : lo < l[i].lo := by simp at hb; omega
        refine nK ?_
        refine s_reg rfl ?_
        first | refine Run.pure (dd := some 17) rfl rfl (op_move rfl (Opd.tmp _ _ rfl)) ?_ | refine Run.pure (dd := some 17) rfl rfl (op_junk (.inl rfl)) ?_
        first | refine Run.pure (dd := some 18) rfl rfl (op_move rfl (Opd.tmp _ _ rfl)) ?_ | refine Run.pure (dd := some 18) rfl rfl (op_junk (.inl rfl)) ?_
        first | refine Run.pure (dd := some 19) rfl rfl (op_fld_ptr (by decide) rfl (Opd.tmp _ _ rfl)) ?_ | refine Run.pure (dd := some 19) rfl rfl (op_fld_fz (by decide) rfl (Opd.tmp _ _ rfl) tR) ?_
        first | refine Run.load (dd := some 20) rfl rfl (op_load1_flat rfl (Opd.tmp _ _ rfl) tH rfl) ?_ | refine Run.pure (dd := some 20) rfl rfl (op_load1_fz rfl (Opd.tmp _ _ rfl) rfl) ?_ | refine Run.load (dd := some 20) rfl rfl (op_load1_refs rfl (Opd.tmp _ _ rfl) tH rfl) ?_
        refine Run.pure (dd := some 21) rfl rfl (op_sub rfl (Opd.tmp _ _ rfl) (Opd.const _) tI) ?_
        first | refine Run.pure (dd := some 22) rfl rfl (op_build rfl rfl rfl (FillF.cons _ _ _ _ _ _ _ _ _ _ (by rfl) (Opd.tmp _ _ rfl) tC (by rfl) tR (FillF.cons _ _ _ _ _ _ _ _ _ _ (by rfl) (Opd.tmp _ _ rfl) tC (by rfl) tR (FillF.nil _)))) ?_ | refine Run.pure (dd := some 22) rfl rfl (op_buildP rfl rfl rfl rfl (FillP.cons _ _ _ _ _ _ _ _ _ _ (by rfl) (Opd.tmp _ _ rfl) tP (by rfl) tR (FillP.cons _ _ _ _ _ _ _ _ _ _ (by rfl) (Opd.tmp _ _ rfl) tP (by rfl) tR (FillP.nil _)))) ?_
        refine Run.pure (dd := some 23) rfl rfl (op_buildSlice_fz rfl (RowsF.cons _ _ _ _ _ _ (Opd.tmp _ _ rfl) tC (by rfl) (RowsF.nil _)) rfl rfl) ?_
        first | refine Run.eff (dd := some 24) rfl rfl (op_append_own0 rfl (Opd.tmp _ _ rfl) (Opd.tmp _ _ rfl) rfl (by first | rfl | simp) rfl (by first | rfl | simp) rfl rfl tB tB) ?_ | refine Run.eff (dd := some 24) rfl rfl (op_append rfl (Opd.tmp _ _ rfl) (by first | exact Opd.tmp _ _ rfl | exact Opd.nil _ _ (Opd.tmp _ _ rfl)) rfl (by first | rfl | simp) rfl rfl tB tB) ?_
        first | refine Run.pure (dd := some 3) rfl rfl (op_assign rfl (Opd.tmp _ _ rfl)) ?_ | refine Run.pure (dd := some 3) rfl rfl (op_junk (.inr rfl)) ?_
        refine Run.nil (FinR.mk ?_)
        refine nK ?_
        refine s_reg rfl ?_
        first | refine Run.pure (dd := some 25) rfl rfl (op_fld_ptr (by decide) rfl (Opd.tmp _ _ rfl)) ?_ | refine Run.pure (dd := some 25) rfl rfl (op_fld_fz (by decide) rfl (Opd.tmp _ _ rfl) tR) ?_
        first | refine Run.load (dd := some 26) rfl rfl (op_load1_flat rfl (Opd.tmp _ _ rfl) tH rfl) ?_ | refine Run.pure (dd := some 26) rfl rfl (op_load1_fz rfl (Opd.tmp _ _ rfl) rfl) ?_ | refine Run.load (dd := some 26) rfl rfl (op_load1_refs rfl (Opd.tmp _ _ rfl) tH rfl) ?_
        refine Run.pure (dd := some 27) rfl rfl (op_add rfl (Opd.tmp _ _ rfl) (Opd.const _) tI) ?_
        first | refine Run.pure (dd := some 4) rfl rfl (op_assign rfl (Opd.tmp _ _ rfl)) ?_ | refine Run.pure (dd := some 4) rfl rfl (op_junk (.inr rfl)) ?_
        refine Run.nil (FinR.mk ?_)
        refine nK ?_
        refine s_reg rfl ?_
        refine Run.pure (dd := some 28) rfl rfl (op_add rfl (Opd.tmp _ _ rfl) (Opd.const _) tI) ?_
        first | refine Run.pure (dd := some 9) rfl rfl (op_move rfl (Opd.tmp _ _ rfl)) ?_ | refine Run.pure (dd := some 9) rfl rfl (op_junk (.inl rfl)) ?_
        refine Run.nil (FinR.mk ?_)
        refine nK ?_
        refine Next.weakS [3] [] (by rfl) (by first | exact keeps0 hC _ | exact keepsN hC _ rfl) (by repeat (first | exact trivial | refine ⟨⟨_, rfl, .inl ⟨rfl, rfl⟩⟩, ?_⟩ | refine ⟨⟨_, rfl, .inl ⟨slEq rfl tN, rfl⟩⟩, ?_⟩ | refine ⟨⟨_, rfl, .inl ⟨ivEq tX, rfl⟩⟩, ?_⟩)) (by repeat (first | exact trivial | refine ⟨⟨rfl, rfl, rfl, tL⟩, ?_⟩ | refine ⟨⟨rfl, rfl, rfEq rfl tU, tL⟩, ?_⟩ | refine ⟨⟨rfl, rfl, flEq rfl (by first | (simp; done) | (simp; omega) | (simp [encP]; done) | simp [maxC, minC]), trivial⟩, ?_⟩)) rfl (hK (i + 1, l[i].hi, acc ++ [⟨lo, l[i].lo⟩]) ⟨by omega, hs.2, by rw [← hacc]; simp⟩ (by simp; omega))
      · rw [if_neg (by simp at hb; omega)] at hacc
        refine nK ?_
        refine s_reg rfl ?_
        first | refine Run.pure (dd := some 25) rfl rfl (op_fld_ptr (by decide) rfl (Opd.tmp _ _ rfl)) ?_ | refine Run.pure (dd := some 25) rfl rfl (op_fld_fz (by decide) rfl (Opd.tmp _ _ rfl) tR) ?_
        first | refine Run.load (dd := some 26) rfl rfl (op_load1_flat rfl (Opd.tmp _ _ rfl) tH rfl) ?_ | refine Run.pure (dd := some 26) rfl rfl (op_load1_fz rfl (Opd.tmp _ _ rfl) rfl) ?_ | refine Run.load (dd := some 26) rfl rfl (op_load1_refs rfl (Opd.tmp _ _ rfl) tH rfl) ?_
        refine Run.pure (dd := some 27) rfl rfl (op_add rfl (Opd.tmp _ _ rfl) (Opd.const _) tI) ?_
        first | refine Run.pure (dd := some 4) rfl rfl (op_assign rfl (Opd.tmp _ _ rfl)) ?_ | refine Run.pure (dd := some 4) rfl rfl (op_junk (.inr rfl)) ?_
        refine Run.nil (FinR.mk ?_)
        refine nK ?_
        refine s_reg rfl ?_
        refine Run.pure (dd := some 28) rfl rfl (op_add rfl (Opd.tmp _ _ rfl) (Opd.const _) tI) ?_
        first | refine Run.pure (dd := some 9) rfl rfl (op_move rfl (Opd.tmp _ _ rfl)) ?_ | refine Run.pure (dd := some 9) rfl rfl (op_junk (.inl rfl)) ?_
        refine Run.nil (FinR.mk ?_)
        refine nK ?_
        refine Next.weakS [3] [] (by rfl) (by first | exact keeps0 hC _ | exact keepsN hC _ rfl) (by repeat (first | exact trivial | refine ⟨⟨_, rfl, .inl ⟨rfl, rfl⟩⟩, ?_⟩ | refine ⟨⟨_, rfl, .inl ⟨slEq rfl tN, rfl⟩⟩, ?_⟩ | refine ⟨⟨_, rfl, .inl ⟨ivEq tX, rfl⟩⟩, ?_⟩)) (by repeat (first | exact trivial | refine ⟨⟨rfl, rfl, rfl, tL⟩, ?_⟩ | refine ⟨⟨rfl, rfl, rfEq rfl tU, tL⟩, ?_⟩ | refine ⟨⟨rfl, rfl, flEq rfl (by first | (simp; done) | (simp; omega) | (simp [encP]; done) | simp [maxC, minC]), trivial⟩, ?_⟩)) rfl (hK (i + 1, l[i].hi, acc) ⟨by omega, hs.2, hacc⟩ (by simp; omega))
    · have hie : i = l.length := by simp at hb; omega
      rw [hie, List.drop_length] at hacc
      simp only [compS] at hacc
      refine nK ?_
      refine s_reg rfl ?_
      first | refine Run.pure (dd := some 29) rfl rfl (op_move rfl (Opd.tmp _ _ rfl)) ?_ | refine Run.pure (dd := some 29) rfl rfl (op_junk (.inl rfl)) ?_
      refine Run.pure (dd := some 30) rfl rfl (op_lss rfl (Opd.tmp _ _ rfl) (Opd.const _)) ?_
      refine Run.nil (FinR.mk ?_)
      refine nK ?_
      refine n_cond _ rfl (fun hb => ?_) (fun hb => ?_)
      · rw [if_pos (by simp at hb; omega)] at hacc
        rw [← hacc]
        refine nK ?_
        refine s_reg rfl ?_
        first | refine Run.pure (dd := some 31) rfl rfl (op_move rfl (Opd.tmp _ _ rfl)) ?_ | refine Run.pure (dd := some 31) rfl rfl (op_junk (.inl rfl)) ?_
        first | refine Run.pure (dd := some 32) rfl rfl (op_move rfl (Opd.tmp _ _ rfl)) ?_ | refine Run.pure (dd := some 32) rfl rfl (op_junk (.inl rfl)) ?_
        first | refine Run.pure (dd := some 33) rfl rfl (op_build rfl rfl rfl (FillF.cons _ _ _ _ _ _ _ _ _ _ (by rfl) (Opd.tmp _ _ rfl) tC (by rfl) tR (FillF.cons _ _ _ _ _ _ _ _ _ _ (by rfl) (Opd.const _) tC (by rfl) tR (FillF.nil _)))) ?_ | refine Run.pure (dd := some 33) rfl rfl (op_buildP rfl rfl rfl rfl (FillP.cons _ _ _ _ _ _ _ _ _ _ (by rfl) (Opd.tmp _ _ rfl) tP (by rfl) tR (FillP.cons _ _ _ _ _ _ _ _ _ _ (by rfl) (Opd.const _) tP (by rfl) tR (FillP.nil _)))) ?_
        refine Run.pure (dd := some 34) rfl rfl (op_buildSlice_fz rfl (RowsF.cons _ _ _ _ _ _ (Opd.tmp _ _ rfl) tC (by rfl) (RowsF.nil _)) rfl rfl) ?_
        first | refine Run.eff (dd := some 35) rfl rfl (op_append_own0 rfl (Opd.tmp _ _ rfl) (Opd.tmp _ _ rfl) rfl (by first | rfl | simp) rfl (by first | rfl | simp) rfl rfl tB tB) ?_ | refine Run.eff (dd := some 35) rfl rfl (op_append rfl (Opd.tmp _ _ rfl) (by first | exact Opd.tmp _ _ rfl | exact Opd.nil _ _ (Opd.tmp _ _ rfl)) rfl (by first | rfl | simp) rfl rfl tB tB) ?_
        first | refine Run.pure (dd := some 3) rfl rfl (op_assign rfl (Opd.tmp _ _ rfl)) ?_ | refine Run.pure (dd := some 3) rfl rfl (op_junk (.inr rfl)) ?_
        refine Run.nil (FinR.mk ?_)
        refine nK ?_
        refine Next.weakS [3] [] (by rfl) (keeps0 hC _) (G' := [(3, .sl 0 2 0 (acc ++ [(⟨lo, 2 ^ 32⟩ : Spn)]).length)]) (H' := [(0, OC (acc ++ [(⟨lo, 2 ^ 32⟩ : Spn)]))]) (by repeat (first | exact trivial | refine ⟨⟨_, rfl, .inl ⟨rfl, rfl⟩⟩, ?_⟩ | refine ⟨⟨_, rfl, .inl ⟨slEq rfl tN, rfl⟩⟩, ?_⟩ | refine ⟨⟨_, rfl, .inl ⟨ivEq tX, rfl⟩⟩, ?_⟩)) (by repeat (first | exact trivial | refine ⟨⟨rfl, rfl, rfl, tL⟩, ?_⟩ | refine ⟨⟨rfl, rfl, rfEq rfl tU, tL⟩, ?_⟩ | refine ⟨⟨rfl, rfl, flEq rfl (by first | (simp; done) | (simp; omega) | (simp [encP]; done) | simp [maxC, minC]), trivial⟩, ?_⟩)) rfl ?_
        refine s_reg rfl ?_
        first | refine Run.pure (dd := some 36) rfl rfl (op_move rfl (Opd.tmp _ _ rfl)) ?_ | refine Run.pure (dd := some 36) rfl rfl (op_junk (.inl rfl)) ?_
        first | refine Run.pure (dd := some 2) rfl rfl (op_assign rfl (Opd.tmp _ _ rfl)) ?_ | refine Run.pure (dd := some 2) rfl rfl (op_junk (.inr rfl)) ?_
        refine Run.nil (FinR.mk ?_)
        refine nK ?_
        (first | exact s_o1 hC rfl tV | exact s_o2 hC rfl tV tV | exact s_o3 hC rfl tV tV tV | exact s_out0 hC rfl | exact s_outO hC rfl rfl rfl)
      · rw [if_neg (by simp at hb; omega), List.append_nil] at hacc
        rw [← hacc]
        refine nK ?_
        refine s_reg rfl ?_
        first | refine Run.pure (dd := some 36) rfl rfl (op_move rfl (Opd.tmp _ _ rfl)) ?_ | refine Run.pure (dd := some 36) rfl rfl (op_junk (.inl rfl)) ?_
        first | refine Run.pure (dd := some 2) rfl rfl (op_assign rfl (Opd.tmp _ _ rfl)) ?_ | refine Run.pure (dd := some 2) rfl rfl (op_junk (.inr rfl)) ?_
        refine Run.nil (FinR.mk ?_)
        refine nK ?_
        (first | exact s_o1 hC rfl tV | exact s_o2 hC rfl tV tV | exact s_o3 hC rfl tV tV tV | exact s_out0 hC rfl | exact s_outO hC rfl rfl rfl)
end Go.Proofs.Ytdebjffddkgfbaa
namespace Go.Proofs.Ytdebjffddkgfbaa
open Go Go.RT Go.Proofs Go.Pl
set_option linter.all false
set_option maxRecDepth 20000
def idxF {α : Type} (f : α → Bool) (l : List α) : Int := match l.findIdx? f with | some i => (i : Int) | none => -1
theorem idxF_some {α : Type} (f : α → Bool) (l : List α) (i : Nat) (hi : i < l.length) (h : f l[i] = true) (hno : ∀ j (hj : j < i) (hj2 : j < l.length), f l[j] = false) : idxF f l = i := by
  have : l.findIdx? f = some i := List.findIdx?_eq_some_iff_getElem.2 ⟨hi, h, fun j hj => by simp [hno j hj (by omega)]⟩
  simp [idxF, this]
theorem idxF_none {α : Type} (f : α → Bool) (l : List α) (hno : ∀ j (hj2 : j < l.length), f l[j] = false) : idxF f l = -1 := by
  have : l.findIdx? f = none := List.findIdx?_eq_none_iff.2 fun x hx => by obtain ⟨j, hj, rfl⟩ := List.getElem_of_mem hx; exact hno j hj
  simp [idxF, this]
theorem idxF_any {α : Type} (f : α → Bool) (l : List α) : decide (0 ≤ idxF f l) = l.any f := by
  unfold idxF
  cases h : l.findIdx? f with
  | none =>
    rw [List.findIdx?_eq_none_iff] at h
    simp only [Int.reduceNeg, Int.reduceLE, decide_false]
    symm; rw [List.any_eq_false]; intro x hx; simp [h x hx]
  | some i =>
    obtain ⟨hi, h1, _⟩ := List.findIdx?_eq_some_iff_getElem.1 h
    simp only [Int.natCast_nonneg, decide_true]
    symm; exact List.any_eq_true.2 ⟨l[i], List.getElem_mem hi, h1⟩
theorem hasfn_c (p : Pfx) (x : Nat) (hp : p.ok) (hx : x < 2 ^ 32) : Meets Try.prog 48 [.fz (.agg (encP p)), .ptr 0 1 0 0] 1 [(0, some (.flat 1 [[If .u32 x]]))] (.fz (Bf (containsB p x))) [(0, some (.flat 1 [[If .u32 x]]))] 1 := by
  refine Meets.intro Try.func48 rfl (Nat.le_of_ble_eq_true rfl) fun C hC => ?_
  simp only [List.map, argEnv, Nat.reduceAdd]
  refine nK ?_
  refine s_reg rfl ?_
  first | refine Run.eff (dd := some 2) rfl rfl (op_box_flat rfl (Opd.tmp _ _ rfl) tC rfl) ?_ | refine Run.eff (dd := some 2) rfl rfl (op_box_refs rfl (Opd.tmp _ _ rfl) tP rfl) ?_
  first | refine Run.pure (dd := some 3) rfl rfl (op_assign rfl (Opd.const _)) ?_ | refine Run.pure (dd := some 3) rfl rfl (op_junk (.inr rfl)) ?_
  refine Run.nil (FinR.mk ?_)
  refine nK ?_
  refine s_reg rfl ?_
  first | refine Run.load (dd := some 4) rfl rfl (op_loadw_flat rfl (Opd.tmp _ _ rfl) tH rfl) ?_ | refine Run.pure (dd := some 4) rfl rfl (op_loadw_fz rfl (Opd.tmp _ _ rfl) rfl) ?_ | refine Run.load (dd := some 4) rfl rfl (op_loadn_flat rfl (Opd.tmp _ _ rfl) tH tR tR) ?_ | refine Run.pure (dd := some 4) rfl rfl (op_loadn_fz rfl (Opd.tmp _ _ rfl) tR) ?_ | refine Run.load (dd := some 4) rfl rfl (op_loadn_refs rfl (Opd.tmp _ _ rfl) tH tR tR) ?_
  first | refine Run.load (dd := some 5) rfl rfl (op_load1_flat rfl (Opd.tmp _ _ rfl) tH rfl) ?_ | refine Run.pure (dd := some 5) rfl rfl (op_load1_fz rfl (Opd.tmp _ _ rfl) rfl) ?_ | refine Run.load (dd := some 5) rfl rfl (op_load1_refs rfl (Opd.tmp _ _ rfl) tH rfl) ?_
  refine Run.pure (dd := some 6) rfl rfl (op_call_pure (fun _ => contains_any _ _ hp (by omega)) rfl (Opd.func _) (Opds.cons _ _ _ _ (Opd.tmp _ _ rfl) (Opds.cons _ _ _ _ (Opd.tmp _ _ rfl) Opds.nil))) ?_
  first | refine Run.pure (dd := some 3) rfl rfl (op_assign rfl (Opd.tmp _ _ rfl)) ?_ | refine Run.pure (dd := some 3) rfl rfl (op_junk (.inr rfl)) ?_
  refine Run.nil (FinR.mk ?_)
  refine nK ?_
  refine Next.weak [0] [] (by rfl) (keepsN hC _ rfl) (G' := [(3, .fz (Bf (containsB p x)))]) (H' := [(0, some (.flat 1 [[If .u32 x]]))]) (by repeat (first | exact trivial | refine ⟨⟨_, rfl, .inl ⟨rfl, rfl⟩⟩, ?_⟩ | refine ⟨⟨_, rfl, .inl ⟨slEq rfl tN, rfl⟩⟩, ?_⟩ | refine ⟨⟨_, rfl, .inl ⟨ivEq tX, rfl⟩⟩, ?_⟩)) (by repeat (first | exact trivial | refine ⟨⟨rfl, rfl, rfl, tL⟩, ?_⟩ | refine ⟨⟨rfl, rfl, rfEq rfl tU, tL⟩, ?_⟩ | refine ⟨⟨rfl, rfl, flEq rfl (by first | (simp; done) | (simp; omega) | (simp [encP]; done) | simp [maxC, minC]), trivial⟩, ?_⟩)) (fun _ h => by simp at h) (n_out1 rfl (by rfl) rfl rfl)
theorem index_c (l : List Pfx) (x : Nat) (hl : okL l) (hx : x < 2 ^ 32) (hn : l.length ≤ 1000000) : Meets Try.prog 63 [.fz (VP l), .clo 48 [] [.ptr 0 1 0 0]] 1 [(0, some (.flat 1 [[If .u32 x]]))] (.fz (If .i64 (idxF (containsB · x) l))) [(0, some (.flat 1 [[If .u32 x]]))] 1 := by
  refine Meets.intro Try.func63 rfl (Nat.le_of_ble_eq_true rfl) fun C hC => ?_
  simp only [List.map, argEnv, Nat.reduceAdd]
  refine nK ?_
  refine s_reg rfl ?_
  first | refine Run.pure (dd := some 4) rfl rfl (op_assign rfl (Opd.const _)) ?_ | refine Run.pure (dd := some 4) rfl rfl (op_junk (.inr rfl)) ?_
  refine Run.nil (FinR.mk ?_)
  refine nK ?_
  refine s_reg rfl ?_
  first | refine Run.pure (dd := some 6) rfl rfl (op_move rfl (Opd.tmp _ _ rfl)) ?_ | refine Run.pure (dd := some 6) rfl rfl (op_junk (.inl rfl)) ?_
  first | refine Run.pure (dd := some 7) rfl rfl (op_len_fz rfl (by first | exact Opd.tmp _ _ rfl | exact Opd.nil _ _ (Opd.tmp _ _ rfl)) (by first | exact List.length_map _ | rfl)) ?_ | refine Run.pure (dd := some 7) rfl rfl (op_len_sl rfl (Opd.tmp _ _ rfl)) ?_
  first | refine Run.pure (dd := some 8) rfl rfl (op_move rfl (Opd.const _)) ?_ | refine Run.pure (dd := some 8) rfl rfl (op_junk (.inl rfl)) ?_
  refine Run.nil (FinR.mk ?_)
  refine nK ?_
  refine n_loop (ι := Nat) (fun i => ([(0, .fz (VP l)), (1, .clo 48 [] [.ptr 0 1 0 0]), (7, IV .i64 l.length), (8, IV .i64 i)], [(0, some (.flat 1 [[If .u32 x]]))], 1)) (fun i => i ≤ l.length ∧ ∀ j (hj : j < i) (hj2 : j < l.length), containsB l[j] x = false) (fun i => l.length - i) 0 ⟨Nat.zero_le _, fun j hj => by omega⟩ ?_ ?_
  · refine Next.weak [0] [] (by rfl) (keepsN hC _ rfl) (by repeat (first | exact trivial | refine ⟨⟨_, rfl, .inl ⟨rfl, rfl⟩⟩, ?_⟩ | refine ⟨⟨_, rfl, .inl ⟨slEq rfl tN, rfl⟩⟩, ?_⟩ | refine ⟨⟨_, rfl, .inl ⟨ivEq tX, rfl⟩⟩, ?_⟩)) (by repeat (first | exact trivial | refine ⟨⟨rfl, rfl, rfl, tL⟩, ?_⟩ | refine ⟨⟨rfl, rfl, rfEq rfl tU, tL⟩, ?_⟩ | refine ⟨⟨rfl, rfl, flEq rfl (by first | (simp; done) | (simp; omega) | (simp [encP]; done) | simp [maxC, minC]), trivial⟩, ?_⟩)) (fun _ h => by simp at h) rel_intro
  · intro i ⟨hi, hno⟩ K hK
    refine nK ?_
    refine s_reg rfl ?_
    refine Run.pure (dd := some 9) rfl rfl (op_lss rfl (Opd.tmp _ _ rfl) (Opd.tmp _ _ rfl)) ?_
    refine Run.nil (FinR.mk ?_)
    refine nK ?_
    refine n_cond _ rfl (fun hb => ?_) (fun hb => ?_)
    · have hlt : i < l.length := by simp at hb; omega
      have hr1 := row_at encP l i hlt
      have hok := hl l[i] (List.getElem_mem hlt)
      refine nK ?_
      refine s_reg rfl ?_
      first | refine Run.pure (dd := some 10) rfl rfl (op_move rfl (Opd.tmp _ _ rfl)) ?_ | refine Run.pure (dd := some 10) rfl rfl (op_junk (.inl rfl)) ?_
      first | refine Run.pure (dd := some 5) rfl rfl (op_assign rfl (Opd.tmp _ _ rfl)) ?_ | refine Run.pure (dd := some 5) rfl rfl (op_junk (.inr rfl)) ?_
      refine Run.nil (FinR.mk ?_)
      refine nK ?_
      refine s_reg rfl ?_
      first | refine Run.pure (dd := some 11) rfl rfl (op_move rfl (Opd.tmp _ _ rfl)) ?_ | refine Run.pure (dd := some 11) rfl rfl (op_junk (.inl rfl)) ?_
      first | refine Run.pure (dd := some 12) rfl rfl (op_move rfl (Opd.tmp _ _ rfl)) ?_ | refine Run.pure (dd := some 12) rfl rfl (op_junk (.inl rfl)) ?_
      first | refine Run.pure (dd := some 13) rfl rfl (op_move rfl (Opd.tmp _ _ rfl)) ?_ | refine Run.pure (dd := some 13) rfl rfl (op_junk (.inl rfl)) ?_
      first | refine Run.pure (dd := some 14) rfl rfl (op_idx_sl0 _ rfl (Opd.tmp _ _ rfl) (Opd.tmp _ _ rfl) tD) ?_ | refine Run.pure (dd := some 14) rfl rfl (op_idx_fz _ rfl (Opd.tmp _ _ rfl) (Opd.tmp _ _ rfl) tF) ?_
      first | refine Run.load (dd := some 15) rfl rfl (op_loadw_flat rfl (Opd.tmp _ _ rfl) tH rfl) ?_ | refine Run.pure (dd := some 15) rfl rfl (op_loadw_fz rfl (Opd.tmp _ _ rfl) rfl) ?_ | refine Run.load (dd := some 15) rfl rfl (op_loadn_flat rfl (Opd.tmp _ _ rfl) tH tR tR) ?_ | refine Run.pure (dd := some 15) rfl rfl (op_loadn_fz rfl (Opd.tmp _ _ rfl) tR) ?_ | refine Run.load (dd := some 15) rfl rfl (op_loadn_refs rfl (Opd.tmp _ _ rfl) tH tR tR) ?_
      refine Run.eff (dd := some 16) rfl rfl (op_call (n := 1) (n' := 1) [0] (fun _ => hasfn_c l[i] x hok hx) rfl (Opd.tmp _ _ rfl) (Opds.cons _ _ _ _ (Opd.tmp _ _ rfl) Opds.nil) rfl rfl (Lent.of rfl rfl (by repeat (first | exact trivial | refine ⟨⟨rfl, rfl, rfl, tL⟩, ?_⟩)) rfl) rfl rfl rfl rfl rfl) ?_
      refine Run.nil (FinR.mk ?_)
      refine nK ?_
      refine n_cond _ rfl (fun hb => ?_) (fun hb => ?_)
      · rw [idxF_some _ l i hlt hb hno]
        refine nK ?_
        refine s_reg rfl ?_
        first | refine Run.pure (dd := some 17) rfl rfl (op_move rfl (Opd.tmp _ _ rfl)) ?_ | refine Run.pure (dd := some 17) rfl rfl (op_junk (.inl rfl)) ?_
        first | refine Run.pure (dd := some 4) rfl rfl (op_assign rfl (Opd.tmp _ _ rfl)) ?_ | refine Run.pure (dd := some 4) rfl rfl (op_junk (.inr rfl)) ?_
        refine Run.nil (FinR.mk ?_)
        refine nK ?_
        refine Next.weak [0] [] (by rfl) (keepsN hC _ rfl) (G' := [(4, IV .i64 i)]) (H' := [(0, some (.flat 1 [[If .u32 x]]))]) (by repeat (first | exact trivial | refine ⟨⟨_, rfl, .inl ⟨rfl, rfl⟩⟩, ?_⟩ | refine ⟨⟨_, rfl, .inl ⟨slEq rfl tN, rfl⟩⟩, ?_⟩ | refine ⟨⟨_, rfl, .inl ⟨ivEq tX, rfl⟩⟩, ?_⟩)) (by repeat (first | exact trivial | refine ⟨⟨rfl, rfl, rfl, tL⟩, ?_⟩ | refine ⟨⟨rfl, rfl, rfEq rfl tU, tL⟩, ?_⟩ | refine ⟨⟨rfl, rfl, flEq rfl (by first | (simp; done) | (simp; omega) | (simp [encP]; done) | simp [maxC, minC]), trivial⟩, ?_⟩)) (fun _ h => by simp at h) (n_out1 rfl (by rfl) rfl rfl)
      · have hno2 : ∀ j (hj : j < i + 1) (hj2 : j < l.length), containsB l[j] x = false := fun j hj hj2 => by
          rcases Nat.lt_succ_iff_lt_or_eq.1 hj with h | h
          · exact hno j h hj2
          · subst h; exact hb
        refine nK ?_
        refine s_reg rfl ?_
        refine Run.pure (dd := some 18) rfl rfl (op_add rfl (Opd.tmp _ _ rfl) (Opd.const _) tI) ?_
        first | refine Run.pure (dd := some 8) rfl rfl (op_move rfl (Opd.tmp _ _ rfl)) ?_ | refine Run.pure (dd := some 8) rfl rfl (op_junk (.inl rfl)) ?_
        refine Run.nil (FinR.mk ?_)
        refine nK ?_
        refine Next.weak [0] [] (by rfl) (keepsN hC _ rfl) (by repeat (first | exact trivial | refine ⟨⟨_, rfl, .inl ⟨rfl, rfl⟩⟩, ?_⟩ | refine ⟨⟨_, rfl, .inl ⟨slEq rfl tN, rfl⟩⟩, ?_⟩ | refine ⟨⟨_, rfl, .inl ⟨ivEq tX, rfl⟩⟩, ?_⟩)) (by repeat (first | exact trivial | refine ⟨⟨rfl, rfl, rfl, tL⟩, ?_⟩ | refine ⟨⟨rfl, rfl, rfEq rfl tU, tL⟩, ?_⟩ | refine ⟨⟨rfl, rfl, flEq rfl (by first | (simp; done) | (simp; omega) | (simp [encP]; done) | simp [maxC, minC]), trivial⟩, ?_⟩)) (fun _ h => by simp at h) (hK (i + 1) ⟨by omega, hno2⟩ (by omega))
    · have hie : i = l.length := by simp at hb; omega
      rw [idxF_none _ l (fun j hj => hno j (by omega) hj)]
      refine nK ?_
      refine s_reg rfl ?_
      first | refine Run.pure (dd := some 4) rfl rfl (op_assign rfl (Opd.const _)) ?_ | refine Run.pure (dd := some 4) rfl rfl (op_junk (.inr rfl)) ?_
      refine Run.nil (FinR.mk ?_)
      refine nK ?_
      refine Next.weak [0] [] (by rfl) (keepsN hC _ rfl) (G' := [(4, IV .i64 (-1))]) (H' := [(0, some (.flat 1 [[If .u32 x]]))]) (by repeat (first | exact trivial | refine ⟨⟨_, rfl, .inl ⟨rfl, rfl⟩⟩, ?_⟩ | refine ⟨⟨_, rfl, .inl ⟨slEq rfl tN, rfl⟩⟩, ?_⟩ | refine ⟨⟨_, rfl, .inl ⟨ivEq tX, rfl⟩⟩, ?_⟩)) (by repeat (first | exact trivial | refine ⟨⟨rfl, rfl, rfl, tL⟩, ?_⟩ | refine ⟨⟨rfl, rfl, rfEq rfl tU, tL⟩, ?_⟩ | refine ⟨⟨rfl, rfl, flEq rfl (by first | (simp; done) | (simp; omega) | (simp [encP]; done) | simp [maxC, minC]), trivial⟩, ?_⟩)) (fun _ h => by simp at h) (n_out1 rfl (by rfl) rfl rfl)
theorem containsfn_c (l : List Pfx) (x : Nat) (hl : okL l) (hx : x < 2 ^ 32) (hn : l.length ≤ 1000000) : Meets Try.prog 47 [.fz (VP l), .clo 48 [] [.ptr 0 1 0 0]] 1 [(0, some (.flat 1 [[If .u32 x]]))] (.fz (Bf (l.any (containsB · x)))) [(0, some (.flat 1 [[If .u32 x]]))] 1 := by
  rw [← idxF_any]
  refine Meets.intro Try.func47 rfl (Nat.le_of_ble_eq_true rfl) fun C hC => ?_
  simp only [List.map, argEnv, Nat.reduceAdd]
  refine nK ?_
  refine s_reg rfl ?_
  first | refine Run.pure (dd := some 4) rfl rfl (op_assign rfl (Opd.const _)) ?_ | refine Run.pure (dd := some 4) rfl rfl (op_junk (.inr rfl)) ?_
  refine Run.nil (FinR.mk ?_)
  refine nK ?_
  refine s_reg rfl ?_
  first | refine Run.pure (dd := some 5) rfl rfl (op_move rfl (Opd.tmp _ _ rfl)) ?_ | refine Run.pure (dd := some 5) rfl rfl (op_junk (.inl rfl)) ?_
  first | refine Run.pure (dd := some 6) rfl rfl (op_move rfl (Opd.tmp _ _ rfl)) ?_ | refine Run.pure (dd := some 6) rfl rfl (op_junk (.inl rfl)) ?_
  refine Run.eff (dd := some 7) rfl rfl (op_call (n := 1) (n' := 1) [0] (fun _ => index_c l x hl hx hn) rfl (Opd.func _) (Opds.cons _ _ _ _ (Opd.tmp _ _ rfl) (Opds.cons _ _ _ _ (Opd.tmp _ _ rfl) Opds.nil)) rfl rfl (Lent.of rfl rfl (by repeat (first | exact trivial | refine ⟨⟨rfl, rfl, rfl, tL⟩, ?_⟩)) rfl) rfl rfl rfl rfl rfl) ?_
  refine Run.pure (dd := some 8) rfl rfl (op_geq rfl (Opd.tmp _ _ rfl) (Opd.const _)) ?_
  first | refine Run.pure (dd := some 4) rfl rfl (op_assign rfl (Opd.tmp _ _ rfl)) ?_ | refine Run.pure (dd := some 4) rfl rfl (op_junk (.inr rfl)) ?_
  refine Run.nil (FinR.mk ?_)
  refine nK ?_
  refine Next.weak [0] [] (by rfl) (keepsN hC _ rfl) (G' := [(4, BV (decide (0 ≤ idxF (containsB · x) l)))]) (H' := [(0, some (.flat 1 [[If .u32 x]]))]) (by repeat (first | exact trivial | refine ⟨⟨_, rfl, .inl ⟨rfl, rfl⟩⟩, ?_⟩ | refine ⟨⟨_, rfl, .inl ⟨slEq rfl tN, rfl⟩⟩, ?_⟩ | refine ⟨⟨_, rfl, .inl ⟨ivEq tX, rfl⟩⟩, ?_⟩)) (by repeat (first | exact trivial | refine ⟨⟨rfl, rfl, rfl, tL⟩, ?_⟩ | refine ⟨⟨rfl, rfl, rfEq rfl tU, tL⟩, ?_⟩ | refine ⟨⟨rfl, rfl, flEq rfl (by first | (simp; done) | (simp; omega) | (simp [encP]; done) | simp [maxC, minC]), trivial⟩, ?_⟩)) (fun _ h => by simp at h) (n_out1 rfl (by rfl) rfl rfl)
theorem chas_c (l : List Pfx) (x : Nat) (hl : okL l) (hx : x < 2 ^ 32) (hn : l.length ≤ 1000000) : Pure Try.prog 24 [VP l, If .u32 x] (Bf (l.any (containsB · x))) := by
  refine Meets.intro Try.func24 rfl (Nat.le_of_ble_eq_true rfl) fun C hC => ?_
  simp only [List.map, argEnv, Nat.reduceAdd]
  refine nK ?_
  refine s_reg rfl ?_
  first | refine Run.eff (dd := some 3) rfl rfl (op_box_flat rfl (Opd.tmp _ _ rfl) tC rfl) ?_ | refine Run.eff (dd := some 3) rfl rfl (op_box_refs rfl (Opd.tmp _ _ rfl) tP rfl) ?_
  first | refine Run.pure (dd := some 4) rfl rfl (op_assign rfl (Opd.const _)) ?_ | refine Run.pure (dd := some 4) rfl rfl (op_junk (.inr rfl)) ?_
  refine Run.nil (FinR.mk ?_)
  refine nK ?_
  refine s_reg rfl ?_
  first | refine Run.pure (dd := some 5) rfl rfl (op_move rfl (Opd.tmp _ _ rfl)) ?_ | refine Run.pure (dd := some 5) rfl rfl (op_junk (.inl rfl)) ?_
  refine Run.pure (dd := some 6) rfl rfl (op_makeFunc rfl Opds.nil (Opds.cons _ _ _ _ (Opd.tmp _ _ rfl) Opds.nil)) ?_
  refine Run.eff (dd := some 7) rfl rfl (op_call (n := 1) (n' := 1) [0] (fun _ => containsfn_c l x hl hx hn) rfl (Opd.func _) (Opds.cons _ _ _ _ (Opd.tmp _ _ rfl) (Opds.cons _ _ _ _ (Opd.tmp _ _ rfl) Opds.nil)) rfl rfl (Lent.of rfl rfl (by repeat (first | exact trivial | refine ⟨⟨rfl, rfl, rfl, tL⟩, ?_⟩)) rfl) rfl rfl rfl rfl rfl) ?_
  first | refine Run.pure (dd := some 4) rfl rfl (op_assign rfl (Opd.tmp _ _ rfl)) ?_ | refine Run.pure (dd := some 4) rfl rfl (op_junk (.inr rfl)) ?_
  refine Run.nil (FinR.mk ?_)
  refine nK ?_
  (first | exact s_o1 hC rfl tV | exact s_o2 hC rfl tV tV | exact s_o3 hC rfl tV tV tV | exact s_out0 hC rfl | exact s_outO hC rfl rfl rfl)
theorem equal_c (a b : List Pfx) (ha : a.length ≤ 4611686018427387904) (hbl : b.length ≤ 4611686018427387904) : Pure Try.prog 49 [VP a, VP b] (Bf (decide (a = b))) := by
  refine Meets.intro Try.func49 rfl (Nat.le_of_ble_eq_true rfl) fun C hC => ?_
  simp only [List.map, argEnv, Nat.reduceAdd]
  refine nK ?_
  refine s_reg rfl ?_
  first | refine Run.pure (dd := some 4) rfl rfl (op_assign rfl (Opd.const _)) ?_ | refine Run.pure (dd := some 4) rfl rfl (op_junk (.inr rfl)) ?_
  refine Run.nil (FinR.mk ?_)
  refine nK ?_
  refine s_reg rfl ?_
  first | refine Run.pure (dd := some 6) rfl rfl (op_move rfl (Opd.tmp _ _ rfl)) ?_ | refine Run.pure (dd := some 6) rfl rfl (op_junk (.inl rfl)) ?_
  first | refine Run.pure (dd := some 7) rfl rfl (op_len_fz rfl (by first | exact Opd.tmp _ _ rfl | exact Opd.nil _ _ (Opd.tmp _ _ rfl)) (by first | exact List.length_map _ | rfl)) ?_ | refine Run.pure (dd := some 7) rfl rfl (op_len_sl rfl (Opd.tmp _ _ rfl)) ?_
  first | refine Run.pure (dd := some 8) rfl rfl (op_move rfl (Opd.tmp _ _ rfl)) ?_ | refine Run.pure (dd := some 8) rfl rfl (op_junk (.inl rfl)) ?_
  first | refine Run.pure (dd := some 9) rfl rfl (op_len_fz rfl (by first | exact Opd.tmp _ _ rfl | exact Opd.nil _ _ (Opd.tmp _ _ rfl)) (by first | exact List.length_map _ | rfl)) ?_ | refine Run.pure (dd := some 9) rfl rfl (op_len_sl rfl (Opd.tmp _ _ rfl)) ?_
  refine Run.pure (dd := some 10) rfl rfl (op_neq rfl (Opd.tmp _ _ rfl) (Opd.tmp _ _ rfl)) ?_
  refine Run.nil (FinR.mk ?_)
  refine nK ?_
  refine n_cond _ rfl (fun hb => ?_) (fun hb => ?_)
  · have e : decide (a = b) = false := by
      rw [decide_eq_false_iff_not]; rintro rfl; simp at hb
    rw [e]
    refine nK ?_
    refine s_reg rfl ?_
    first | refine Run.pure (dd := some 4) rfl rfl (op_assign rfl (Opd.const _)) ?_ | refine Run.pure (dd := some 4) rfl rfl (op_junk (.inr rfl)) ?_
    refine Run.nil (FinR.mk ?_)
    refine nK ?_
    (first | exact s_o1 hC rfl tV | exact s_o2 hC rfl tV tV | exact s_o3 hC rfl tV tV tV | exact s_out0 hC rfl | exact s_outO hC rfl rfl rfl)
  · have hl : a.length = b.length := by simp at hb; omega
    refine nK ?_
    refine s_reg rfl ?_
    first | refine Run.pure (dd := some 11) rfl rfl (op_move rfl (Opd.tmp _ _ rfl)) ?_ | refine Run.pure (dd := some 11) rfl rfl (op_junk (.inl rfl)) ?_
    first | refine Run.pure (dd := some 12) rfl rfl (op_len_fz rfl (by first | exact Opd.tmp _ _ rfl | exact Opd.nil _ _ (Opd.tmp _ _ rfl)) (by first | exact List.length_map _ | rfl)) ?_ | refine Run.pure (dd := some 12) rfl rfl (op_len_sl rfl (Opd.tmp _ _ rfl)) ?_
    first | refine Run.pure (dd := some 13) rfl rfl (op_move rfl (Opd.const _)) ?_ | refine Run.pure (dd := some 13) rfl rfl (op_junk (.inl rfl)) ?_
    refine Run.nil (FinR.mk ?_)
    refine nK ?_
    refine n_loop (ι := Nat) (fun i => ([(0, .fz (VP a)), (1, .fz (VP b)), (12, IV .i64 a.length), (13, IV .i64 i)], [], 0)) (fun i => i ≤ a.length ∧ a.take i = b.take i) (fun i => a.length - i) 0 ⟨Nat.zero_le _, rfl⟩ ?_ ?_
    · refine Next.weak [] [] (by rfl) (keeps0 hC _) (by repeat (first | exact trivial | refine ⟨⟨_, rfl, .inl ⟨rfl, rfl⟩⟩, ?_⟩)) (by repeat (first | exact trivial | refine ⟨⟨rfl, rfl, rfl, tL⟩, ?_⟩)) (fun _ h => by simp at h) rel_intro
    · intro i ⟨hi, hab⟩ K hK
      refine nK ?_
      refine s_reg rfl ?_
      refine Run.pure (dd := some 14) rfl rfl (op_lss rfl (Opd.tmp _ _ rfl) (Opd.tmp _ _ rfl)) ?_
      refine Run.nil (FinR.mk ?_)
      refine nK ?_
      refine n_cond _ rfl (fun hb => ?_) (fun hb => ?_)
      · have hlt : i < a.length := by simp at hb; omega
        have hr1 := row_at encP a i hlt
        have hr2 := row_at encP b i (by omega)
        refine nK ?_
        refine s_reg rfl ?_
        first | refine Run.pure (dd := some 15) rfl rfl (op_move rfl (Opd.tmp _ _ rfl)) ?_ | refine Run.pure (dd := some 15) rfl rfl (op_junk (.inl rfl)) ?_
        first | refine Run.pure (dd := some 5) rfl rfl (op_assign rfl (Opd.tmp _ _ rfl)) ?_ | refine Run.pure (dd := some 5) rfl rfl (op_junk (.inr rfl)) ?_
        refine Run.nil (FinR.mk ?_)
        refine nK ?_
        refine s_draw mixed ?_
        first | refine Run.pure (dd := some 16) rfl rfl (op_move rfl (Opd.tmp _ _ rfl)) ?_ | refine Run.pure (dd := some 16) rfl rfl (op_junk (.inl rfl)) ?_
        first | refine Run.pure (dd := some 17) rfl rfl (op_move rfl (Opd.tmp _ _ rfl)) ?_ | refine Run.pure (dd := some 17) rfl rfl (op_junk (.inl rfl)) ?_
        first | refine Run.pure (dd := some 18) rfl rfl (op_idx_sl0 _ rfl (Opd.tmp _ _ rfl) (Opd.tmp _ _ rfl) tD) ?_ | refine Run.pure (dd := some 18) rfl rfl (op_idx_fz _ rfl (Opd.tmp _ _ rfl) (Opd.tmp _ _ rfl) tF) ?_
        first | refine Run.load (dd := some 19) rfl rfl (op_loadw_flat rfl (Opd.tmp _ _ rfl) tH rfl) ?_ | refine Run.pure (dd := some 19) rfl rfl (op_loadw_fz rfl (Opd.tmp _ _ rfl) rfl) ?_ | refine Run.load (dd := some 19) rfl rfl (op_loadn_flat rfl (Opd.tmp _ _ rfl) tH tR tR) ?_ | refine Run.pure (dd := some 19) rfl rfl (op_loadn_fz rfl (Opd.tmp _ _ rfl) tR) ?_ | refine Run.load (dd := some 19) rfl rfl (op_loadn_refs rfl (Opd.tmp _ _ rfl) tH tR tR) ?_
        first | refine Run.pure (dd := some 20) rfl rfl (op_move rfl (Opd.tmp _ _ rfl)) ?_ | refine Run.pure (dd := some 20) rfl rfl (op_junk (.inl rfl)) ?_
        first | refine Run.pure (dd := some 21) rfl rfl (op_move rfl (Opd.tmp _ _ rfl)) ?_ | refine Run.pure (dd := some 21) rfl rfl (op_junk (.inl rfl)) ?_
        first | refine Run.pure (dd := some 22) rfl rfl (op_idx_sl0 _ rfl (Opd.tmp _ _ rfl) (Opd.tmp _ _ rfl) tD) ?_ | refine Run.pure (dd := some 22) rfl rfl (op_idx_fz _ rfl (Opd.tmp _ _ rfl) (Opd.tmp _ _ rfl) tF) ?_
        first | refine Run.load (dd := some 23) rfl rfl (op_loadw_flat rfl (Opd.tmp _ _ rfl) tH rfl) ?_ | refine Run.pure (dd := some 23) rfl rfl (op_loadw_fz rfl (Opd.tmp _ _ rfl) rfl) ?_ | refine Run.load (dd := some 23) rfl rfl (op_loadn_flat rfl (Opd.tmp _ _ rfl) tH tR tR) ?_ | refine Run.pure (dd := some 23) rfl rfl (op_loadn_fz rfl (Opd.tmp _ _ rfl) tR) ?_ | refine Run.load (dd := some 23) rfl rfl (op_loadn_refs rfl (Opd.tmp _ _ rfl) tH tR tR) ?_
        refine Run.pure (dd := some 24) rfl rfl (op_neS rfl (Opd.tmp _ _ rfl) (Opd.tmp _ _ rfl) (by kernel_rfl)) ?_
        refine Run.nil (FinD.mk (by kernel_rfl) ?_)
        refine nK ?_
        refine n_cond _ rfl (fun hb => ?_) (fun hb => ?_)
        · rw [eqFs_encP] at hb
          have e : decide (a = b) = false := by
            rw [decide_eq_false_iff_not]; rintro rfl; simp at hb
          rw [e]
          refine nK ?_
          refine s_reg rfl ?_
          first | refine Run.pure (dd := some 4) rfl rfl (op_assign rfl (Opd.const _)) ?_ | refine Run.pure (dd := some 4) rfl rfl (op_junk (.inr rfl)) ?_
          refine Run.nil (FinR.mk ?_)
          refine nK ?_
          (first | exact s_o1 hC rfl tV | exact s_o2 hC rfl tV tV | exact s_o3 hC rfl tV tV tV | exact s_out0 hC rfl | exact s_outO hC rfl rfl rfl)
        · rw [eqFs_encP] at hb
          have he : a[i] = b[i] := by simpa using hb
          refine nK ?_
          refine s_reg rfl ?_
          refine Run.pure (dd := some 25) rfl rfl (op_add rfl (Opd.tmp _ _ rfl) (Opd.const _) tI) ?_
          first | refine Run.pure (dd := some 13) rfl rfl (op_move rfl (Opd.tmp _ _ rfl)) ?_ | refine Run.pure (dd := some 13) rfl rfl (op_junk (.inl rfl)) ?_
          refine Run.nil (FinR.mk ?_)
          refine nK ?_
          refine Next.weak [] [] (by rfl) (keeps0 hC _) (by repeat (first | exact trivial | refine ⟨⟨_, rfl, .inl ⟨rfl, rfl⟩⟩, ?_⟩)) (by repeat (first | exact trivial | refine ⟨⟨rfl, rfl, rfl, tL⟩, ?_⟩)) (fun _ h => by simp at h) (hK (i + 1) ⟨by omega, take_eq_succ hlt (by omega) hab he⟩ (by omega))
      · have he : i = a.length := by simp at hb; omega
        have e : decide (a = b) = true := by
          rw [decide_eq_true_eq]; rw [he, List.take_length, hl, List.take_length] at hab; exact hab
        rw [e]
        refine nK ?_
        refine s_reg rfl ?_
        first | refine Run.pure (dd := some 4) rfl rfl (op_assign rfl (Opd.const _)) ?_ | refine Run.pure (dd := some 4) rfl rfl (op_junk (.inr rfl)) ?_
        refine Run.nil (FinR.mk ?_)
        refine nK ?_
        (first | exact s_o1 hC rfl tV | exact s_o2 hC rfl tV tV | exact s_o3 hC rfl tV tV tV | exact s_out0 hC rfl | exact s_outO hC rfl rfl rfl)
end Go.Proofs.Ytdebjffddkgfbaa
