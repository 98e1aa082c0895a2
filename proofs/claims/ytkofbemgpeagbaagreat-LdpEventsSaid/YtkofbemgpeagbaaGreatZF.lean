/- A part of the proof: DP17, DP22, E20, E21, DP18, DP19, DP20, LE. -/
import Derived.Test.YtkofbemgpeagbaaGreatZE
set_option linter.all false
/- What the law on labels asks. No program in sight. -/
namespace Go.Pl
open Go Go.RT
set_option linter.all false
theorem handle_ro {s : Lst} {e : Lev} (h0 : (handleF s e).2.2 = 0) : (handleF s e).1.ro = s.ro := by
  unfold handleF at h0 ⊢
  split at h0
  · next k =>
    rw [if_pos k]
    unfold upF at h0 ⊢
    split at h0
    · cases h0
    · next k1 =>
      rw [if_neg k1]
      split at h0
      · cases h0
      · next k2 => rw [if_neg k2]
  · next k =>
    rw [if_neg k]
    split at h0
    · next k1 =>
      rw [if_pos k1]
      unfold downF at h0 ⊢
      split at h0
      · cases h0
      · next k2 => rw [if_neg k2]
    · next k1 =>
      rw [if_neg k1]
      split at h0
      · next k2 =>
        rw [if_pos k2]
        unfold dataF at h0 ⊢
        split at h0
        · cases h0
        · next k3 =>
          rw [if_neg k3]
          split at h0
          · next k4 => exact absurd h0 k4
          · next k4 =>
            rw [if_neg k4]
            dsimp only
            split
            · rfl
            · split
              · split
                · rfl
                · rfl
              · split
                · cases findB s.lc (decodeF e.da).1.px s.ro <;> rfl
                · rfl
      · next k2 =>
        rw [if_neg k2]
        split at h0
        · next k3 =>
          rw [if_pos k3]
          unfold routesF at h0 ⊢
          split at h0
          · next k4 => exact absurd h0 k4
          · next k4 => rw [if_neg k4]
        · cases h0
/-- an event as an argument has it -/
structure okLx (e : Lev) : Prop where
  k : inr .i64 e.k
  da : ∀ x ∈ e.da, 0 ≤ x ∧ x < 256
  rt : ∀ x ∈ e.rt, okFe x
  nda : e.da.length ≤ 9223372036854775807
  nrt : e.rt.length ≤ 9223372036854775807
theorem okLx.small {e : Lev} (h : okLx e) (h2 : largeE e = false) : okLe e ∧ e.rt.length ≤ 40 := by
  unfold largeE at h2
  simp at h2
  exact ⟨⟨h.k, h.da, by omega, h.rt, by omega⟩, h2.1⟩
structure lbI (r : Int) (f0 : List Rg) (i : Nat) (s : Lst) : Prop where
  v : okV s
  ro : s.ro = r
  c : cD f0 s.fr s.lc
  nfr : s.fr.length ≤ 60 + 1600 * i
  nlc : s.lc.length ≤ 40 * i
  nrm : s.rm.length ≤ i
  nps : s.ps.length ≤ i
theorem lbI.all {r : Int} {f0 : List Rg} {i : Nat} {s : Lst} (h : lbI r f0 i s) (hi : i ≤ 40) : okLs s := h.v.all (by have := h.nfr; omega) (by have := h.nlc; omega) (by have := h.nrm; omega) (by have := h.nps; omega)
theorem lbI.zero {r : Int} {f0 : List Rg} (hv : vG f0) (h : f0.length ≤ 60) : lbI r f0 0 ⟨r, f0, [], [], [], []⟩ := ⟨⟨vD.nil hv, List.Pairwise.nil, by simp, by simp, List.Pairwise.nil, by simp⟩, rfl, cD.nil f0, by simpa using h, by simp, by simp, by simp⟩
theorem lbI.mono {r : Int} {f0 : List Rg} {i : Nat} {s : Lst} (h : lbI r f0 i s) : lbI r f0 (i + 1) s := ⟨h.v, h.ro, h.c, by have := h.nfr; omega, by have := h.nlc; omega, by have := h.nrm; omega, by have := h.nps; omega⟩
theorem lbI.step {r : Int} {f0 : List Rg} {i : Nat} {s : Lst} (h : lbI r f0 i s) (hi : i < 40) {e : Lev} (he : okLe e) (hr : e.rt.length ≤ 40) (h0 : (handleF s e).2.2 = 0) : lbI r f0 (i + 1) (handleF s e).1 := by
  have g := handle_gr h.v e
  have g1 := g.fr
  have g2 := g.lc
  have g3 := g.rm
  have g4 := g.ps
  have a1 := h.nfr
  have a2 := h.nlc
  have a3 := h.nrm
  have a4 := h.nps
  exact ⟨handle_okV h.v he, (handle_ro h0).trans h.ro, handle_cD h.v h.c h0, by omega, by omega, by omega, by omega⟩
theorem hasG_mG {l : List Rg} (h : vG l) (n : Int) : hasG l n = mG l n := by
  unfold hasG mG
  rw [(lblE_iff l).2 h]; simp
def usedN (l : List Bnd) (j : Nat) : Nat := ((l.take j).filter fun b => decide (b.la ≠ 3)).length
theorem grB_next {lc : List Bnd} (h : lc.Pairwise fun a b => ltPf a.px b.px) {j : Nat} (h0 : 0 < j) (hj : j < lc.length) : grB lc[j] lc[j - 1] = true := by
  have h1 := List.pairwise_iff_getElem.1 h (j - 1) j (by omega) hj (by omega)
  have h2 := (cmpP_neg lc[j - 1].px lc[j].px).2 h1
  have h3 : 0 < cmpP lc[j].px lc[j - 1].px := by
    have hne : cmpP lc[j].px lc[j - 1].px ≠ 0 := fun e => by
      rw [cmpP_zero] at e; rw [e] at h1; exact h1.irr
    have hnl : ¬ cmpP lc[j].px lc[j - 1].px < 0 := fun e => by
      rw [cmpP_neg] at e; exact (h1.trans e).irr
    omega
  unfold grB
  simp [h3]
structure lbB (r : Int) (f0 : List Rg) (s : Lst) : Prop where
  gr : ∀ j (h0 : 0 < j) (hj : j < s.lc.length), grB s.lc[j] s.lc[j - 1] = true
  pe : ∀ b ∈ s.lc, b.pe = r
  f1 : ∀ b ∈ s.lc, b.la ≠ 3 → hasG s.fr b.la = false
  f2 : ∀ b ∈ s.lc, b.la ≠ 3 → hasG f0 b.la = true
  ne : ∀ i j (hi : i < s.lc.length) (hj : j < s.lc.length), i < j → s.lc[j].la ≠ 3 → s.lc[i].la ≠ s.lc[j].la
  e : lblE s.fr = 0
  c : cntG s.fr + usedN s.lc s.lc.length = cntG f0
theorem lbI.at {r : Int} {f0 : List Rg} {i : Nat} {s : Lst} (h : lbI r f0 i s) (hv : vG f0) : lbB r f0 s := by
  refine ⟨fun j h0 hj => grB_next h.v.v.hl h0 hj, fun b hb => (h.v.v.pe b hb).trans h.ro, fun b hb h3 => ?_, fun b hb h3 => ?_, fun i j hi hj hij h3 he => ?_, (lblE_iff _).2 h.v.v.hf, ?_⟩
  · rw [hasG_mG h.v.v.hf]; exact h.v.v.out b hb h3
  · rw [hasG_mG hv]; exact (h.c.m b.la).2 (.inr ⟨b, hb, h3, rfl⟩)
  · have := h.v.v.inj _ (List.getElem_mem hj) _ (List.getElem_mem hi) he.symm h3
    have h1 := List.pairwise_iff_getElem.1 h.v.v.hl i j hi hj hij
    rw [this] at h1; exact h1.irr
  · rw [h.c.c]; unfold usedN; rw [List.take_length]
end Go.Pl
/- The reference's way to put an entry in its place; what is sent is small. No program in sight. -/
namespace Go.Pl
open Go Go.RT
set_option linter.all false
def mvE (O : List LEn) (e : LEn) (j : Nat) : List LEn := O.take j ++ e :: O.drop j
theorem mvE_len (O : List LEn) (e : LEn) (j : Nat) : (mvE O e j).length = O.length + 1 := by unfold mvE; simp; omega
theorem mvE_all (O : List LEn) (e : LEn) : mvE O e O.length = O ++ [e] := by unfold mvE; simp
theorem mvE_at {O : List LEn} {e : LEn} {j : Nat} (h : j ≤ O.length) : (mvE O e j)[j]? = some e := by
  unfold mvE
  rw [List.getElem?_append_right (by rw [List.length_take]; omega), List.length_take, Nat.min_eq_left h]; simp
theorem mvE_pre {O : List LEn} {e : LEn} {j : Nat} (h0 : 0 < j) (h : j ≤ O.length) : (mvE O e j)[j - 1]? = some (O[j - 1]'(by omega)) := by
  unfold mvE
  rw [List.getElem?_append_left (by simp; omega), List.getElem?_take_of_lt (by omega), List.getElem?_eq_getElem]
theorem set2 {α : Type} : ∀ (A B : List α) (q e : α), ((A ++ q :: e :: B).set (A.length + 1) q).set A.length e = A ++ e :: q :: B
  | [], B, q, e => rfl
  | a :: A, B, q, e => by
    have := set2 A B q e
    simp only [List.cons_append, List.length_cons, List.set_cons_succ, this]
theorem mvE_set {O : List LEn} {e : LEn} {j : Nat} (h0 : 0 < j) (h : j ≤ O.length) : ((mvE O e j).set j (O[j - 1]'(by omega))).set (j - 1) e = mvE O e (j - 1) := by
  have h1 : O.take j = O.take (j - 1) ++ [O[j - 1]'(by omega)] := by
    rw [← List.take_succ_eq_append_getElem, Nat.sub_add_cancel h0]
  have h2 : O.drop (j - 1) = O[j - 1]'(by omega) :: O.drop j := by
    rw [List.drop_eq_getElem_cons (by omega), Nat.sub_add_cancel h0]
  have h3 : (O.take (j - 1)).length = j - 1 := by simp; omega
  unfold mvE
  rw [h1, h2, List.append_assoc]
  have := set2 (O.take (j - 1)) (O.drop j) (O[j - 1]'(by omega)) e
  rw [h3, Nat.sub_add_cancel h0] at this
  exact this
theorem insE_pos {e : LEn} : ∀ {O : List LEn} {j : Nat}, j ≤ O.length → (∀ k (h : k < O.length), k < j → O[k].i ≤ e.i) → (∀ k (h : k < O.length), j ≤ k → e.i < O[k].i) → insE e O = mvE O e j
  | [], j, h, _, _ => by
    have : j = 0 := by simpa using h
    subst this; rfl
  | x :: O, 0, _, _, h2 => by
    have := h2 0 (by simp) (Nat.le_refl _)
    simp only [List.getElem_cons_zero] at this
    simp [insE, mvE, this]
  | x :: O, j + 1, h, h1, h2 => by
    have := h1 0 (by simp) (by omega)
    simp only [List.getElem_cons_zero] at this
    have ih := insE_pos (e := e) (O := O) (j := j) (by simpa using h) (fun k hk hj => by have := h1 (k + 1) (by simp; omega) (by omega); simpa using this) (fun k hk hj => by have := h2 (k + 1) (by simp; omega) (by omega); simpa using this)
    simp only [insE]
    rw [if_neg (by omega), ih]; rfl
def enG (s : Lst) (i : Nat) : List LEn := (s.lc.take i).foldl (enS s) []
theorem enG_succ (s : Lst) {i : Nat} (h : i < s.lc.length) : enG s (i + 1) = enS s (enG s i) s.lc[i] := by
  unfold enG; rw [List.take_succ_eq_append_getElem h, List.foldl_append]; rfl
theorem enG_all (s : Lst) : enG s s.lc.length = entrF s := by unfold enG; rw [List.take_length]; rfl
theorem enG_asc {s : Lst} (h : vD s.ro s.fr s.lc) (i : Nat) : (enG s i).Pairwise fun x y => x.i < y.i :=
  (enS_ok s (s.lc.take i) [] List.Pairwise.nil (by simp) (h.labels.sublist (List.take_sublist ..))).1
theorem enG_rng {s : Lst} (h : vD s.ro s.fr s.lc) (i : Nat) : ∀ x ∈ enG s i, 16 ≤ x.i ∧ x.i ≤ 1048575 := fun x hx => by
  obtain ⟨b, h1, h2, rfl⟩ := by simpa using ((enS_ok s (s.lc.take i) [] List.Pairwise.nil (by simp) (h.labels.sublist (List.take_sublist ..))).2 x).1 hx
  have := h.la b (List.mem_of_mem_take h1)
  show 16 ≤ b.la ∧ b.la ≤ _
  omega
theorem enG_len (s : Lst) (i : Nat) : (enG s i).length ≤ s.lc.length := by
  unfold enG; rw [enS_len]
  have := List.length_filter_le (fun b : Bnd => decide (b.la ≠ 3)) (s.lc.take i)
  simp at this ⊢; omega
theorem outF_len {s : Lst} (h : ∀ x ∈ s.rt, x.hs.length ≤ 64) (p : Pfx) : (outF s p).length ≤ 64 := by
  rw [outF_eq]
  refine Nat.le_trans (hopsF_len _ _ _) ?_
  cases hf : routeF s.rt p with
  | none => simp [zFe]
  | some x => exact h x (List.mem_of_find?_eq_some hf)
theorem entr_hs {s : Lst} (h : vD s.ro s.fr s.lc) (h2 : ∀ x ∈ s.rt, x.hs.length ≤ 64) : ∀ e ∈ entrF s, e.hs.length ≤ 64 := fun e he => by
  rw [entr_eq] at he
  obtain ⟨b, _, _, rfl⟩ := by simpa using ((enS_ok s s.lc [] List.Pairwise.nil (by simp) h.labels).2 e).1 he
  exact outF_len h2 _
/-! what is sent is small -/
abbrev smS (o : List Snd) : Prop := ∀ x ∈ o, x.da.length ≤ 100
theorem msgS_da (n k : Int) (p : Pfx) (la : Int) : (msgS n k p la).da.length ≤ 100 := by
  unfold msgS encodeF
  dsimp only
  split
  · simp
  · unfold encMb; simp only [be4]; split <;> simp
theorem smS.map {α : Type} {o : List Snd} (h : smS o) (l : List α) (f : α → Snd) (hf : ∀ x, (f x).da.length ≤ 100) : smS (o ++ l.map f) := fun x hx => by
  rcases List.mem_append.1 hx with h1 | h1
  · exact h x h1
  · obtain ⟨y, _, rfl⟩ := List.mem_map.1 h1; exact hf y
theorem smS.nil : smS [] := fun x h => by simp at h
theorem drG_sm (s : Lst) (l : List Fec) : ∀ i, i ≤ s.lc.length → smS (drG s l i).2.2 := by
  intro i
  induction i with
  | zero => intro _; exact smS.nil
  | succ i ih =>
    intro hi
    have := ih (by omega)
    rw [drG_succ s l (by omega)]
    unfold dropS
    split
    · exact this
    · exact this.map _ _ fun n => msgS_da _ _ _ _
theorem bdG_sm (ro : Int) (ps : List Int) (l : List Fec) (d : DSt) (h : smS d.2.2) : ∀ i, i ≤ l.length → smS (bdG ro ps l d i).2.2 := by
  intro i
  induction i with
  | zero => intro _; simpa [bdG] using h
  | succ i ih =>
    intro hi
    have := ih (by omega)
    rw [bdG_succ ro ps d (by omega)]
    unfold bindS
    split
    · exact this
    · split
      · exact this.map _ _ fun n => msgS_da _ _ _ _
      · split
        · exact this
        · exact this.map _ _ fun n => msgS_da _ _ _ _
theorem out_small {s : Lst} {e : Lev} (h : okLs s) (he : okLe e) : (handleF s e).2.1.length ≤ 2000000 ∧ smS (handleF s e).2.1 := by
  unfold handleF
  split
  · unfold upF
    split
    · exact ⟨by simp [badR], smS.nil⟩
    · split
      · exact ⟨by simp [badR], smS.nil⟩
      · refine ⟨by have := h.nlc; simp; omega, ?_⟩
        have := smS.nil.map s.lc (fun b => msgS e.pe 1 b.px b.la) fun b => msgS_da _ _ _ _
        simpa using this
  · split
    · unfold downF
      split <;> exact ⟨by simp [badR], smS.nil⟩
    · split
      · unfold dataF
        split
        · exact ⟨by simp [badR], smS.nil⟩
        · split
          · exact ⟨by simp [badR], smS.nil⟩
          · dsimp only
            split
            · exact ⟨by simp, smS.nil⟩
            · split
              · split
                · refine ⟨by simp, fun x hx => ?_⟩
                  simp at hx; subst hx; exact msgS_da _ _ _ _
                · exact ⟨by simp, smS.nil⟩
              · split
                · split
                  · refine ⟨by simp, fun x hx => ?_⟩
                    simp at hx; subst hx; exact msgS_da _ _ _ _
                  · exact ⟨by simp, smS.nil⟩
                · exact ⟨by simp, smS.nil⟩
      · split
        · unfold routesF
          split
          · exact ⟨by simp [badR], smS.nil⟩
          · next h0 =>
            obtain ⟨_, hn, _⟩ := routesE_ok (by simpa using h0)
            rw [← bdG_all, ← drG_all]
            dsimp only
            obtain ⟨a1, a2, a3⟩ := drG_len s e.rt s.lc.length (Nat.le_refl _)
            obtain ⟨b1, b2, b3⟩ := bdG_len s.ro s.ps e.rt (drG s e.rt s.lc.length) e.rt.length (Nat.le_refl _)
            have c1 : s.lc.length * s.ps.length ≤ 3000 * 100 := Nat.mul_le_mul h.nlc h.nps
            have c2 : e.rt.length * s.ps.length ≤ 2000 * 100 := Nat.mul_le_mul hn h.nps
            exact ⟨by omega, bdG_sm _ _ _ _ (drG_sm s e.rt _ (Nat.le_refl _)) _ (Nat.le_refl _)⟩
        · exact ⟨by simp [badR], smS.nil⟩
open Go Go.RT
theorem handle_zero {s : Lst} {e : Lev} (h : (handleF s e).2.2 ≠ 0) : (handleF s e).1 = zLst := by
  revert h
  unfold handleF
  split
  · unfold upF
    split
    · intro _; rfl
    · split
      · intro _; rfl
      · intro h; exact absurd rfl h
  · split
    · unfold downF
      split
      · intro _; rfl
      · intro h; exact absurd rfl h
    · split
      · unfold dataF
        split
        · intro _; rfl
        · split
          · intro _; rfl
          · dsimp only
            split
            · intro h; exact absurd rfl h
            · split
              · split <;> intro h <;> exact absurd rfl h
              · split
                · split <;> intro h <;> exact absurd rfl h
                · intro h; exact absurd rfl h
      · split
        · unfold routesF
          split
          · intro _; rfl
          · intro h; exact absurd rfl h
        · intro _; rfl
theorem newF_sz (r : Int) (l : List Rg) : (newF r l).1.fr.length ≤ l.length ∧ (newF r l).1.lc = [] ∧ (newF r l).1.rm = [] ∧ (newF r l).1.ps = [] ∧ (newF r l).1.rt = [] := by
  unfold newF
  split
  · exact ⟨Nat.zero_le _, rfl, rfl, rfl, rfl⟩
  · split
    · exact ⟨Nat.zero_le _, rfl, rfl, rfl, rfl⟩
    · exact ⟨Nat.le_refl _, rfl, rfl, rfl, rfl⟩
end Go.Pl
namespace Go.Proofs.YtkofbemgpeagbaaGreat
open Go Go.RT Go.Proofs Go.Pl
set_option linter.all false
set_option maxRecDepth 20000
set_option maxHeartbeats 2000000
theorem wHE20a {α : Prop} (h : α := by repeat (first | exact trivial | refine ⟨wS, ?_⟩ | refine ⟨ent_same rfl rfl (rfEq rfl tU) tL, ?_⟩ | refine ⟨ent_same rfl rfl (flEq rfl (by first | (simp; done) | (simp; omega) | (simp [encP, encW, encY, encMs, encBn, encSn, encFe, encLh, encLe, encRg, encEv, encLs]; done) | simp [maxC, minC])) trivial, ?_⟩)) : α := h
theorem wHE20b {α : Prop} (h : α := by repeat (first | exact trivial | refine ⟨⟨_, rfl, .inl ⟨rfl, rfl⟩⟩, ?_⟩)) : α := h
theorem rentries_c (s : Lst) (h : okLs s) : Pure Tryz.prog 15 [.agg (encLs s)] (VLe (entrF s)) := by
 have ko := fun p => rout_c s p (by have := h.nrt; omega) (by have := h.nrm; omega) (fun x hx => by have := (h.rt x hx).hs; omega)
 have hlc := h.nlc
 rw [← enG_all]
 refine Meets.intro Tryz.func15 rfl (Nat.le_of_ble_eq_true rfl) fun C hC => ?_
 simp only [List.map, argEnv, Nat.reduceAdd]
 refine nK ?_
 refine za ?_
 refine zu ?_
 refine ze ?_
 refine zb ?_
 refine nK ?_
 refine za ?_
 refine ze ?_
 refine zb ?_
 refine nK ?_
 refine Next.adopt 3 2 rfl ?_
 refine nK ?_
 refine za ?_
 refine zf ?_
 refine zh ?_
 refine zk ?_
 refine zx ?_
 refine zb ?_
 refine nK ?_
 refine n_loop (ι := Nat) (fun i => ([(1, .fz (.cellp (encLs s))), (3, .sl 0 2 0 (enG s i).length), (9, .fz (VBn s.lc)), (10, IV .i64 s.lc.length), (11, IV .i64 i)], [(0, OLe (enG s i))], 1)) (fun i => i ≤ s.lc.length) (fun i => s.lc.length - i) 0 (Nat.zero_le _) ?_ ?_
 ·refine Next.weakS [3] [1] (by rfl) (wK hC) wF wHE20a rfl (rel_intro)
 intro i hi K hK
 have hol := enG_len s i
 have hrg := enG_rng h.v i
 have has := enG_asc h.v i
 refine nK ?_
 refine za ?_
 refine zn ?_
 refine zb ?_
 refine nK ?_
 refine n_cond _ rfl (fun hb => ?_) (fun hb => ?_)
 ·have hlt : i < s.lc.length := by simp at hb; omega
  have hr1 := row_at' encBn s.lc i hlt
  have hK1 := hK (i + 1) (by omega) (by omega)
  rw [enG_succ s hlt] at hK1
  have hbl := h.v.la _ (List.getElem_mem hlt)
  generalize enG s i = O at *
  generalize s.lc[i] = b at *
  have ko1 := ko b.px
  unfold enS at hK1
  refine nK ?_
  refine za ?_
  refine zr ?_
  refine zv ?_
  refine zo ?_
  refine zg ?_
  refine zb ?_
  refine nK ?_
  refine za ?_
  refine zf ?_
  refine zh ?_
  refine zba ?_
  refine zb ?_
  refine nK ?_
  refine n_cond _ rfl (fun hb => ?_) (fun hb => ?_)
  ·rw [if_pos (by simpa using hb)] at hK1
   refine nK ?_
   refine za ?_
   refine zj ?_
   refine zc ?_
   refine zb ?_
   refine nK ?_
   refine Next.weakS [3] [] (by rfl) (wK hC) wG wHE20a rfl (hK1)
  rw [if_neg (by simpa using hb)] at hK1
  have hb3 : 16 ≤ b.la ∧ b.la ≤ 1048575 := by simp at hb; omega
  have hon := apm encLe O ⟨b.la, outF s b.px⟩
  have hln := apl O ⟨b.la, outF s b.px⟩
  generalize he : (⟨b.la, outF s b.px⟩ : LEn) = e at *
  have hei : e.i = b.la := by rw [← he]
  have hm0 := mvE_all O e
  refine nK ?_
  refine s_draw mixed ?_
  refine zc ?_
  refine zf ?_
  refine zh ?_
  refine zv ?_
  refine zf ?_
  refine zbc ?_
  refine rpZ 24 rfl (op_call_pure (fun _ => ko1) rfl (Opd.func _) (oS (oT rfl) (oS (oT rfl) Opds.nil))) ?_
  refine zbn ?_
  refine zz ?_
  refine Run.effW (dd := some 27) rfl rfl (op_append rfl (oT rfl) (oT rfl) rfl (by simp) rfl rfl tB tB) tE ?_
  refine zd ?_
  refine zq ?_
  refine nK ?_
  refine Next.weakS [3] [] (by rfl) (keeps0 hC _) (G' := [(1, .fz (.cellp (encLs s))), (3, .sl 0 2 0 (O.length + 1)), (9, .fz (VBn s.lc)), (10, IV .i64 s.lc.length), (11, IV .i64 i)]) (H' := [(0, OLe (mvE O e O.length))]) wG (by exact ⟨ent_same rfl rfl (by rw [hm0, hon, ← he]; rfl) tL, trivial⟩) rfl ?_
  refine nK ?_
  refine za ?_
  refine zc ?_
  refine zbl ?_
  refine rpZ 30 rfl (castP (fun _ => congrArg (IV .i64) (show ((O.length + 1 : Nat) : Int) - 1 = (O.length : Int) by omega)) (op_sub rfl (oT rfl) oC tI)) ?_
  refine zd ?_
  refine zb ?_
  refine nK ?_
  refine n_loop (ι := Nat) (fun j => ([(1, .fz (.cellp (encLs s))), (3, .sl 0 2 0 (O.length + 1)), (6, IV .i64 j), (9, .fz (VBn s.lc)), (10, IV .i64 s.lc.length), (11, IV .i64 i)], [(0, OLe (mvE O e j))], 1)) (fun j => j ≤ O.length ∧ ∀ k (h : k < O.length), j ≤ k → e.i < O[k].i) (fun j => j) O.length ⟨Nat.le_refl _, fun k h h2 => by omega⟩ ?_ ?_
  ·refine Next.weakS [3] [] (by rfl) (wK hC) wG wHE20a rfl (rel_intro)
  intro j ⟨hj, hjo⟩ K hKj
  have hml := mvE_len O e j
  have hat : ((mvE O e j).map encLe)[j]? = some (encLe e) := by rw [List.getElem?_map, mvE_at hj]; rfl
  have hmlen : ((mvE O e j).map encLe).length = O.length + 1 := by simp [hml]
  rcases Nat.eq_zero_or_pos j with hj0 | hj0
  ·subst hj0
   refine nK ?_
   refine s_draw mixed ?_
   refine zc ?_
   refine rpZ 32 rfl (castP (fun _ => congrArg BV (show decide ((0 : Int) < ((0 : Nat) : Int)) = false by decide)) (op_gtr rfl (oT rfl) oC)) ?_
   refine zc ?_
   refine rgZ 34 rfl rfl tG (op_never (g := (false == true)) (p := BV true) rfl) ?_
   refine rgZ 35 rfl rfl tG (op_never (g := (false == true)) (p := BV true) rfl) ?_
   refine rgZ 36 rfl rfl tG (op_never (g := (false == true)) (p := BV true) rfl) ?_
   refine rgZ 37 rfl rfl tG (op_never (g := (false == true)) (p := BV true) rfl) ?_
   refine rgZ 38 rfl rfl tG (op_never (g := (false == true)) (p := BV true) rfl) ?_
   refine rgZ 39 rfl rfl tG (op_never (g := (false == true)) (p := BV true) rfl) ?_
   refine rgZ 40 rfl rfl tG (op_never (g := (false == true)) (p := BV true) rfl) ?_
   refine rgZ 41 rfl rfl tG (op_never (g := (false == true)) (p := BV true) rfl) ?_
   refine rgZ 42 rfl rfl tG (op_never (g := (false == true)) (p := BV true) rfl) ?_
   refine rgZ 43 rfl rfl tG (op_never (g := (false == true)) (p := BV true) rfl) ?_
   refine rgZ 44 rfl rfl tG (op_never (g := (false == true)) (p := BV true) rfl) ?_
   refine rgZ 45 rfl rfl tG (op_never (g := (false == true)) (p := BV true) rfl) ?_
   refine zy ?_
   refine zq ?_
   refine nK ?_
   refine n_cond _ rfl (fun hb => ?_) (fun hb => ?_)
   ·simp at hb
   have hins := insE_pos (e := e) (O := O) (j := 0) (Nat.zero_le _) (fun k h h2 => by omega) hjo
   rw [hins, hml] at hK1
   refine nK ?_
   refine za ?_
   refine zj ?_
   refine zc ?_
   refine zb ?_
   refine nK ?_
   refine Next.weakS [3] [] (by rfl) (wK hC) wG wHE20a rfl (hK1)
  have hpre := mvE_pre (O := O) (e := e) hj0 hj
  have hset := mvE_set (O := O) (e := e) hj0 hj
  have hKj1 := fun h => hKj (j - 1) ⟨by omega, h⟩ (by omega)
  have hql : j - 1 < O.length := by omega
  have hqr := hrg _ (List.getElem_mem hql)
  have hpr : ((mvE O e j).map encLe)[j - 1]? = some (encLe (O[j - 1]'hql)) := by rw [List.getElem?_map, hpre]; rfl
  have hposk : (O[j - 1]'hql).i ≤ e.i → insE e O = mvE O e j := fun hle => insE_pos hj (fun k hk hkj => by
   by_cases hkk : k = j - 1
   ·subst hkk; exact hle
   have := List.pairwise_iff_getElem.1 has k (j - 1) hk hql (by omega)
   omega) hjo
  have hnx : e.i < (O[j - 1]'hql).i → ∀ k (h : k < O.length), j - 1 ≤ k → e.i < O[k].i := fun hlt k hk hjk => by
   by_cases hkk : k = j - 1
   ·subst hkk; exact hlt
   exact hjo k hk (by omega)
  have hoe : OLe (mvE O e (j - 1)) = some (.flat 2 ((((mvE O e j).map encLe).set j (encLe (O[j - 1]'hql))).set (j - 1) (encLe e))) := by
   rw [← hset]
   show some (Ob.flat 2 (List.map encLe _)) = _
   rw [List.map_set, List.map_set]
  have hjs : ((j - 1 : Nat) : Int) = (j : Int) - 1 := by omega
  have hat1 : (((mvE O e j).map encLe).set j (encLe (O[j - 1]'hql)))[j - 1]? = some (encLe (O[j - 1]'hql)) := by
   rw [List.getElem?_set_ne (by omega)]; exact hpr
  rw [hoe, hjs] at hKj1
  generalize O[j - 1]'hql = q at *
  generalize mvE O e j = M at *
  generalize hR : M.map encLe = R at *
  have hRO : OLe M = some (.flat 2 R) := by rw [← hR]
  rw [hRO]
  refine nK ?_
  refine s_draw mixed ?_
  refine zc ?_
  refine rpZ 32 rfl (castP (fun _ => congrArg BV (show decide ((0 : Int) < (j : Int)) = true by simp; omega)) (op_gtr rfl (oT rfl) oC)) ?_
  refine zc ?_
  refine zl ?_
  refine zl ?_
  refine zcf ?_
  refine rgZ 37 rfl rfl tG (op_idx_sl0 (j - 1) rfl (oO rfl tO) (oO rfl tO) (by intro _; refine ⟨by omega, ?_⟩; omega)) ?_
  refine zck ?_
  refine rkZ 39 rfl rfl tG (op_load1_flat rfl (oO rfl tO) (fun _ => ⟨rfl, hpr⟩) rfl) ?_
  refine zl ?_
  refine zl ?_
  refine rgZ 42 rfl rfl tG (op_idx_sl0 j rfl (oO rfl tO) (oO rfl tO) (by intro _; refine ⟨rfl, ?_⟩; omega)) ?_
  refine zck ?_
  refine rkZ 44 rfl rfl tG (op_load1_flat rfl (oO rfl tO) (fun _ => ⟨rfl, hat⟩) rfl) ?_
  refine zcj ?_
  refine zy ?_
  refine zq ?_
  refine nK ?_
  refine n_cond _ rfl (fun hb => ?_) (fun hb => ?_)
  ·have hlt : e.i < q.i := by simpa using hb
   refine nK ?_
   refine za ?_
   refine zc ?_
   refine zc ?_
   refine rpZ 51 rfl (op_idx_sl0 j rfl (oT rfl) (oT rfl) (by intro _; refine ⟨rfl, ?_⟩; omega)) ?_
   refine rlZ 52 rfl (op_loadw_flat rfl (oT rfl) (fun _ => ⟨rfl, hat⟩) rfl) ?_
   refine zo ?_
   refine zg ?_
   refine zb ?_
   refine nK ?_
   refine za ?_
   refine zc ?_
   refine zc ?_
   refine zc ?_
   refine zc ?_
   refine zbv ?_
   refine rpZ 58 rfl (op_idx_sl0 (j - 1) rfl (oT rfl) (oT rfl) (by intro _; refine ⟨by omega, ?_⟩; omega)) ?_
   refine rlZ 59 rfl (op_loadw_flat rfl (oT rfl) (fun _ => ⟨rfl, hpr⟩) rfl) ?_
   refine rpZ 60 rfl (op_idx_sl0 j rfl (oT rfl) (oT rfl) (by intro _; refine ⟨rfl, ?_⟩; omega)) ?_
   refine Run.eff (dd := none) rfl rfl (op_store_flat rfl (oT rfl) (oT rfl) tC rfl rfl hat tS) ?_
   refine zb ?_
   refine nK ?_
   refine za ?_
   refine zc ?_
   refine zc ?_
   refine zbv ?_
   refine zm ?_
   refine rpZ 65 rfl (op_idx_sl0 (j - 1) rfl (oT rfl) (oT rfl) (by intro _; refine ⟨by omega, ?_⟩; omega)) ?_
   refine Run.eff (dd := none) rfl rfl (op_store_flat rfl (oT rfl) (oT rfl) tC rfl rfl hat1 tS) ?_
   refine zb ?_
   refine nK ?_
   refine za ?_
   refine zc ?_
   refine zbv ?_
   refine zd ?_
   refine zb ?_
   refine nK ?_
   refine Next.weakS [3] [] (by rfl) (wK hC) wG wHE20a rfl ((hKj1 (hnx hlt)))
  have hle : q.i ≤ e.i := by simp at hb; omega
  rw [hposk hle, hml] at hK1
  rw [← hRO]
  refine nK ?_
  refine za ?_
  refine zj ?_
  refine zc ?_
  refine zb ?_
  refine nK ?_
  refine Next.weakS [3] [] (by rfl) (wK hC) wG wHE20a rfl (hK1)
 have hie : i = s.lc.length := by simp at hb; omega
 subst hie
 clear hK
 generalize enG s s.lc.length = O at *
 refine nK ?_
 refine za ?_
 refine zc ?_
 refine zd ?_
 refine zb ?_
 refine nK ?_
 refine Next.weakS [] [2] (by rfl) (keeps0 hC _) (G' := [(2, .fz (VLe O))]) (H' := []) wF trivial rfl ?_
 exact wO hC
theorem same_rg (l : List Rg) (hn : l.length ≤ 2000000) : Pure Tryz.prog 33 [VRg l, VRg l] (Bf true) := by
 refine Meets.intro Tryz.func33 rfl (Nat.le_of_ble_eq_true rfl) fun C hC => ?_
 simp only [List.map, argEnv, Nat.reduceAdd]
 refine nK ?_
 refine za ?_
 refine ze ?_
 refine zb ?_
 refine nK ?_
 refine za ?_
 refine zc ?_
 refine zk ?_
 refine zc ?_
 refine zk ?_
 refine zbk ?_
 refine zb ?_
 refine nK ?_
 refine n_cond _ rfl (fun hb => ?_) (fun hb => ?_)
 ·simp at hb
 refine nK ?_
 refine za ?_
 refine zc ?_
 refine zk ?_
 refine zx ?_
 refine zb ?_
 refine nK ?_
 refine n_loop (ι := Nat) (fun i => ([(1, .fz (VRg l)), (12, .fz (VRg l)), (13, IV .i64 l.length), (14, IV .i64 i)], [], 0)) (fun i => i ≤ l.length) (fun i => l.length - i) 0 (Nat.zero_le _) ?_ ?_
 ·refine Next.weak [] [] (by rfl) (keeps0 hC _) wHE20b wHE20a wN rel_intro
 intro i hi K hK
 refine nK ?_
 refine za ?_
 refine zn ?_
 refine zb ?_
 refine nK ?_
 refine n_cond _ rfl (fun hb => ?_) (fun hb => ?_)
 ·have hlt : i < l.length := by simp at hb; omega
  have hr1 := row_at' encRg l i hlt
  have hK1 := hK (i + 1) (by omega) (by omega)
  generalize l[i] = x at *
  refine nK ?_
  refine za ?_
  refine zc ?_
  refine zr ?_
  refine zv ?_
  refine zo ?_
  refine zd ?_
  refine zg ?_
  refine zb ?_
  refine nK ?_
  refine s_draw mixed ?_
  refine zm ?_
  refine zc ?_
  refine zc ?_
  refine zr ?_
  refine zv ?_
  refine zcq ?_
  refine zq ?_
  refine nK ?_
  refine n_cond _ rfl (fun hb => ?_) (fun hb => ?_)
  ·exfalso
   revert hb
   rw [eqFs_encRg]; simp
  refine nK ?_
  refine za ?_
  refine zj ?_
  refine zc ?_
  refine zb ?_
  refine nK ?_
  refine Next.weak [] [] (by rfl) (keeps0 hC _) wHE20b wHE20a wN hK1
 refine nK ?_
 refine za ?_
 refine ze ?_
 refine zb ?_
 refine nK ?_
 exact wO hC
theorem same_w (l : List Int) (hn : l.length ≤ 2000000) : Pure Tryz.prog 35 [VW l, VW l] (Bf true) := by
 refine Meets.intro Tryz.func35 rfl (Nat.le_of_ble_eq_true rfl) fun C hC => ?_
 simp only [List.map, argEnv, Nat.reduceAdd]
 refine nK ?_
 refine za ?_
 refine ze ?_
 refine zb ?_
 refine nK ?_
 refine za ?_
 refine zc ?_
 refine zk ?_
 refine zc ?_
 refine zk ?_
 refine zbk ?_
 refine zb ?_
 refine nK ?_
 refine n_cond _ rfl (fun hb => ?_) (fun hb => ?_)
 ·simp at hb
 refine nK ?_
 refine za ?_
 refine zc ?_
 refine zk ?_
 refine zx ?_
 refine zb ?_
 refine nK ?_
 refine n_loop (ι := Nat) (fun i => ([(1, .fz (VW l)), (12, .fz (VW l)), (13, IV .i64 l.length), (14, IV .i64 i)], [], 0)) (fun i => i ≤ l.length) (fun i => l.length - i) 0 (Nat.zero_le _) ?_ ?_
 ·refine Next.weak [] [] (by rfl) (keeps0 hC _) wHE20b wHE20a wN rel_intro
 intro i hi K hK
 refine nK ?_
 refine za ?_
 refine zn ?_
 refine zb ?_
 refine nK ?_
 refine n_cond _ rfl (fun hb => ?_) (fun hb => ?_)
 ·have hlt : i < l.length := by simp at hb; omega
  have hr1 := row_at' encW l i hlt
  have hK1 := hK (i + 1) (by omega) (by omega)
  generalize l[i] = x at *
  refine nK ?_
  refine za ?_
  refine zc ?_
  refine zr ?_
  refine zt ?_
  refine zd ?_
  refine zd ?_
  refine zb ?_
  refine nK ?_
  refine za ?_
  refine zc ?_
  refine zc ?_
  refine zc ?_
  refine zr ?_
  refine zt ?_
  refine zbk ?_
  refine zb ?_
  refine nK ?_
  refine n_cond _ rfl (fun hb => ?_) (fun hb => ?_)
  ·exfalso
   revert hb
   simp
  refine nK ?_
  refine za ?_
  refine zj ?_
  refine zc ?_
  refine zb ?_
  refine nK ?_
  refine Next.weak [] [] (by rfl) (keeps0 hC _) wHE20b wHE20a wN hK1
 refine nK ?_
 refine za ?_
 refine ze ?_
 refine zb ?_
 refine nK ?_
 exact wO hC
theorem same_fe (l : List Fec) (hn : l.length ≤ 2000000) (hh : ∀ x ∈ l, x.hs.length ≤ 2000000) : Pure Tryz.prog 36 [VFe l, VFe l] (Bf true) := by
 refine Meets.intro Tryz.func36 rfl (Nat.le_of_ble_eq_true rfl) fun C hC => ?_
 simp only [List.map, argEnv, Nat.reduceAdd]
 refine nK ?_
 refine za ?_
 refine ze ?_
 refine zb ?_
 refine nK ?_
 refine za ?_
 refine zc ?_
 refine zk ?_
 refine zc ?_
 refine zk ?_
 refine zbk ?_
 refine zb ?_
 refine nK ?_
 refine n_cond _ rfl (fun hb => ?_) (fun hb => ?_)
 ·simp at hb
 refine nK ?_
 refine za ?_
 refine zc ?_
 refine zk ?_
 refine zx ?_
 refine zb ?_
 refine nK ?_
 refine n_loop (ι := Nat) (fun i => ([(1, .fz (VFe l)), (12, .fz (VFe l)), (13, IV .i64 l.length), (14, IV .i64 i)], [], 0)) (fun i => i ≤ l.length) (fun i => l.length - i) 0 (Nat.zero_le _) ?_ ?_
 ·refine Next.weak [] [] (by rfl) (keeps0 hC _) wHE20b wHE20a wN rel_intro
 intro i hi K hK
 refine nK ?_
 refine za ?_
 refine zn ?_
 refine zb ?_
 refine nK ?_
 refine n_cond _ rfl (fun hb => ?_) (fun hb => ?_)
 ·have hlt : i < l.length := by simp at hb; omega
  have hr1 := row_at' encFe l i hlt
  have hK1 := hK (i + 1) (by omega) (by omega)
  have kw := same_w (l[i]).hs (hh _ (List.getElem_mem hlt))
  generalize l[i] = x at *
  refine nK ?_
  refine za ?_
  refine zc ?_
  refine zr ?_
  refine zv ?_
  refine zo ?_
  refine zd ?_
  refine zg ?_
  refine zb ?_
  refine nK ?_
  refine s_draw mixed ?_
  refine zf ?_
  refine zbc ?_
  refine zc ?_
  refine zc ?_
  refine zr ?_
  refine zbf ?_
  refine zcc ?_
  refine zcq ?_
  refine zc ?_
  refine zp ?_
  refine zs ?_
  refine zl ?_
  refine zl ?_
  refine zcu ?_
  refine zbs ?_
  refine zbt ?_
  refine rgZ 35 rfl rfl tG (op_neqB rfl (oO rfl tO) (oO rfl tO)) ?_
  refine zbd ?_
  refine zc ?_
  refine zp ?_
  refine zs ?_
  refine zl ?_
  refine zl ?_
  refine zcu ?_
  refine zbs ?_
  refine zbt ?_
  refine rgZ 45 rfl rfl tG (op_call_pure (fun _ => kw) rfl (Opd.func _) (oS (oO rfl tO) (oS (oO rfl tO) Opds.nil))) ?_
  refine zca ?_
  refine zbd ?_
  refine zq ?_
  refine nK ?_
  refine n_cond _ rfl (fun hb => ?_) (fun hb => ?_)
  ·exfalso
   revert hb
   rw [show [If .u32 x.px.addr, If .i64 x.px.len] = encP x.px from rfl, eqFs_encP]; simp
  refine nK ?_
  refine za ?_
  refine zj ?_
  refine zc ?_
  refine zb ?_
  refine nK ?_
  refine Next.weak [] [] (by rfl) (keeps0 hC _) wHE20b wHE20a wN hK1
 refine nK ?_
 refine za ?_
 refine ze ?_
 refine zb ?_
 refine nK ?_
 exact wO hC
theorem same_sn (l : List Snd) (hn : l.length ≤ 2000000) (hh : ∀ x ∈ l, x.da.length ≤ 2000000) : Pure Tryz.prog 12 [VSn l, VSn l] (Bf true) := by
 refine Meets.intro Tryz.func12 rfl (Nat.le_of_ble_eq_true rfl) fun C hC => ?_
 simp only [List.map, argEnv, Nat.reduceAdd]
 refine nK ?_
 refine za ?_
 refine ze ?_
 refine zb ?_
 refine nK ?_
 refine za ?_
 refine zc ?_
 refine zk ?_
 refine zc ?_
 refine zk ?_
 refine zbk ?_
 refine zb ?_
 refine nK ?_
 refine n_cond _ rfl (fun hb => ?_) (fun hb => ?_)
 ·simp at hb
 refine nK ?_
 refine za ?_
 refine zc ?_
 refine zk ?_
 refine zx ?_
 refine zb ?_
 refine nK ?_
 refine n_loop (ι := Nat) (fun i => ([(1, .fz (VSn l)), (12, .fz (VSn l)), (13, IV .i64 l.length), (14, IV .i64 i)], [], 0)) (fun i => i ≤ l.length) (fun i => l.length - i) 0 (Nat.zero_le _) ?_ ?_
 ·refine Next.weak [] [] (by rfl) (keeps0 hC _) wHE20b wHE20a wN rel_intro
 intro i hi K hK
 refine nK ?_
 refine za ?_
 refine zn ?_
 refine zb ?_
 refine nK ?_
 refine n_cond _ rfl (fun hb => ?_) (fun hb => ?_)
 ·have hlt : i < l.length := by simp at hb; omega
  have hr1 := row_at' encSn l i hlt
  have hK1 := hK (i + 1) (by omega) (by omega)
  have kw := sameY_c (l[i]).da (l[i]).da (hh _ (List.getElem_mem hlt)) (hh _ (List.getElem_mem hlt))
  generalize l[i] = x at *
  refine nK ?_
  refine za ?_
  refine zc ?_
  refine zr ?_
  refine zv ?_
  refine zo ?_
  refine zd ?_
  refine zg ?_
  refine zb ?_
  refine nK ?_
  refine s_draw mixed ?_
  refine zf ?_
  refine zh ?_
  refine zc ?_
  refine zc ?_
  refine zr ?_
  refine zbf ?_
  refine zt ?_
  refine zbk ?_
  refine zc ?_
  refine zp ?_
  refine zs ?_
  refine zl ?_
  refine zl ?_
  refine zcu ?_
  refine zbs ?_
  refine zbt ?_
  refine rgZ 35 rfl rfl tG (op_call_pure (fun _ => kw) rfl (Opd.func _) (oS (oO rfl tO) (oS (oO rfl tO) Opds.nil))) ?_
  refine zca ?_
  refine zbd ?_
  refine zq ?_
  refine nK ?_
  refine n_cond _ rfl (fun hb => ?_) (fun hb => ?_)
  ·exfalso
   revert hb
   simp
  refine nK ?_
  refine za ?_
  refine zj ?_
  refine zc ?_
  refine zb ?_
  refine nK ?_
  refine Next.weak [] [] (by rfl) (keeps0 hC _) wHE20b wHE20a wN hK1
 refine nK ?_
 refine za ?_
 refine ze ?_
 refine zb ?_
 refine nK ?_
 exact wO hC
theorem same_le (l : List LEn) (hn : l.length ≤ 2000000) (hh : ∀ x ∈ l, x.hs.length ≤ 2000000) : Pure Tryz.prog 13 [VLe l, VLe l] (Bf true) := by
 refine Meets.intro Tryz.func13 rfl (Nat.le_of_ble_eq_true rfl) fun C hC => ?_
 simp only [List.map, argEnv, Nat.reduceAdd]
 refine nK ?_
 refine za ?_
 refine ze ?_
 refine zb ?_
 refine nK ?_
 refine za ?_
 refine zc ?_
 refine zk ?_
 refine zc ?_
 refine zk ?_
 refine zbk ?_
 refine zb ?_
 refine nK ?_
 refine n_cond _ rfl (fun hb => ?_) (fun hb => ?_)
 ·simp at hb
 refine nK ?_
 refine za ?_
 refine zc ?_
 refine zk ?_
 refine zx ?_
 refine zb ?_
 refine nK ?_
 refine n_loop (ι := Nat) (fun i => ([(1, .fz (VLe l)), (12, .fz (VLe l)), (13, IV .i64 l.length), (14, IV .i64 i)], [], 0)) (fun i => i ≤ l.length) (fun i => l.length - i) 0 (Nat.zero_le _) ?_ ?_
 ·refine Next.weak [] [] (by rfl) (keeps0 hC _) wHE20b wHE20a wN rel_intro
 intro i hi K hK
 refine nK ?_
 refine za ?_
 refine zn ?_
 refine zb ?_
 refine nK ?_
 refine n_cond _ rfl (fun hb => ?_) (fun hb => ?_)
 ·have hlt : i < l.length := by simp at hb; omega
  have hr1 := row_at' encLe l i hlt
  have hK1 := hK (i + 1) (by omega) (by omega)
  have kw := sameLh_c (l[i]).hs (l[i]).hs (hh _ (List.getElem_mem hlt)) (hh _ (List.getElem_mem hlt))
  generalize l[i] = x at *
  refine nK ?_
  refine za ?_
  refine zc ?_
  refine zr ?_
  refine zv ?_
  refine zo ?_
  refine zd ?_
  refine zg ?_
  refine zb ?_
  refine nK ?_
  refine s_draw mixed ?_
  refine zf ?_
  refine zh ?_
  refine zc ?_
  refine zc ?_
  refine zr ?_
  refine zbf ?_
  refine zt ?_
  refine zbk ?_
  refine zc ?_
  refine zp ?_
  refine zs ?_
  refine zl ?_
  refine zl ?_
  refine zcu ?_
  refine zbs ?_
  refine zbt ?_
  refine rgZ 35 rfl rfl tG (op_call_pure (fun _ => kw) rfl (Opd.func _) (oS (oO rfl tO) (oS (oO rfl tO) Opds.nil))) ?_
  refine zca ?_
  refine zbd ?_
  refine zq ?_
  refine nK ?_
  refine n_cond _ rfl (fun hb => ?_) (fun hb => ?_)
  ·exfalso
   revert hb
   simp
  refine nK ?_
  refine za ?_
  refine zj ?_
  refine zc ?_
  refine zb ?_
  refine nK ?_
  refine Next.weak [] [] (by rfl) (keeps0 hC _) wHE20b wHE20a wN hK1
 refine nK ?_
 refine za ?_
 refine ze ?_
 refine zb ?_
 refine nK ?_
 exact wO hC
theorem same_c (s : Lst) (h1 : s.fr.length ≤ 2000000) (h2 : s.lc.length ≤ 2000000) (h3 : s.rm.length ≤ 2000000) (h4 : s.ps.length ≤ 2000000) (h5 : s.rt.length ≤ 2000000) (h6 : ∀ x ∈ s.rt, x.hs.length ≤ 2000000) : Pure Tryz.prog 9 [.agg (encLs s), .agg (encLs s)] (Bf true) := by
 have k1 := same_rg s.fr h1
 have k2 := sameBn_c s.lc s.lc h2 h2
 have k3 := sameBn_c s.rm s.rm h3 h3
 rw [decide_eq_true rfl] at k2 k3
 have k4 := same_w s.ps h4
 have k5 := same_fe s.rt h5 h6
 refine Meets.intro Tryz.func9 rfl (Nat.le_of_ble_eq_true rfl) fun C hC => ?_
 simp only [List.map, argEnv, Nat.reduceAdd]
 refine nK ?_
 refine za ?_
 refine zu ?_
 refine zu ?_
 refine ze ?_
 refine zb ?_
 refine nK ?_
 refine za ?_
 refine zf ?_
 refine zh ?_
 refine zf ?_
 refine zh ?_
 refine rpZ 9 rfl (castP (fun _ => congrArg BV (decide_eq_true rfl)) (op_eql rfl (oT rfl) (oT rfl))) ?_
 refine zc ?_
 refine zp ?_
 refine zs ?_
 refine zp ?_
 refine zs ?_
 refine rgZ 15 rfl rfl tG (op_call_pure (fun _ => k1) rfl (Opd.func _) (oS (oO rfl tO) (oS (oO rfl tO) Opds.nil))) ?_
 refine zy ?_
 refine zc ?_
 refine zp ?_
 refine zs ?_
 refine zp ?_
 refine zs ?_
 refine rgZ 22 rfl rfl tG (op_call_pure (fun _ => k2) rfl (Opd.func _) (oS (oO rfl tO) (oS (oO rfl tO) Opds.nil))) ?_
 refine zy ?_
 refine zc ?_
 refine zp ?_
 refine zs ?_
 refine zp ?_
 refine zs ?_
 refine rgZ 29 rfl rfl tG (op_call_pure (fun _ => k3) rfl (Opd.func _) (oS (oO rfl tO) (oS (oO rfl tO) Opds.nil))) ?_
 refine zy ?_
 refine zc ?_
 refine zp ?_
 refine zs ?_
 refine zp ?_
 refine zs ?_
 refine rgZ 36 rfl rfl tG (op_call_pure (fun _ => k4) rfl (Opd.func _) (oS (oO rfl tO) (oS (oO rfl tO) Opds.nil))) ?_
 refine zy ?_
 refine zc ?_
 refine zp ?_
 refine zs ?_
 refine zp ?_
 refine zs ?_
 refine rgZ 43 rfl rfl tG (op_call_pure (fun _ => k5) rfl (Opd.func _) (oS (oO rfl tO) (oS (oO rfl tO) Opds.nil))) ?_
 refine zy ?_
 refine zd ?_
 refine zb ?_
 refine nK ?_
 exact wO hC
open Go Go.RT Go.Proofs Go.Pl
set_option maxRecDepth 20000
set_option maxHeartbeats 4000000
theorem wHE21a {α : Prop} (h : α := by repeat (first | exact trivial | refine ⟨wS, ?_⟩ | refine ⟨ent_same rfl rfl (rfEq rfl tU) tL, ?_⟩ | refine ⟨ent_same rfl rfl (flEq rfl (by first | (simp; done) | (simp; omega) | (simp [encP, encW, encY, encMs, encBn, encSn, encFe, encLh, encLe, encRg, encEv, encLs]; done) | simp [maxC, minC])) trivial, ?_⟩)) : α := h
abbrev OLs (s : Lst) : Option Ob := some (.flat 6 [encLs s])
theorem same_ok {s : Lst} (h : okLs s) : Pure Tryz.prog 9 [.agg (encLs s), .agg (encLs s)] (Bf true) :=
 same_c s (by have := h.nfr; omega) (by have := h.nlc; omega) (by have := h.nrm; omega) (by have := h.nps; omega) (by have := h.nrt; omega) (fun x hx => by have := (h.rt x hx).hs; omega)
theorem events_law (r : Int) (f0 : List Rg) (l : List Lev) (p : Pfx) (he : ∀ e ∈ l, okLx e) (hf : f0.length ≤ 9223372036854775807) (hl : l.length ≤ 9223372036854775807) : Pure Tryz.prog 3 [If .u32 r, VRg f0, VEv l, .agg (encP p)] (Bf true) := by
 have k1 := new_c r f0 hf
 have k1r := rnew_c r f0 hf
 have k2 := large_c l hl
 have hnw := (new_okV (r := r) (l := f0)).2
 have hsz := newF_sz r f0
 generalize newF r f0 = nw at *
 obtain ⟨s0, e0⟩ := nw
 dsimp only at k1 k1r hnw hsz
 refine Meets.intro Tryz.func3 rfl (Nat.le_of_ble_eq_true rfl) fun C hC => ?_
 simp only [List.map, argEnv, Nat.reduceAdd]
 refine nK ?_
 refine za ?_
 refine zu ?_
 refine ze ?_
 refine zb ?_
 refine nK ?_
 refine za ?_
 refine zc ?_
 refine rpZ 22 rfl (op_call_pure (fun _ => k2) rfl (Opd.func _) (oS (oT rfl) Opds.nil)) ?_
 refine zc ?_
 refine zl ?_
 refine zci ?_
 refine zbo ?_
 refine zbd ?_
 refine zb ?_
 refine nK ?_
 refine n_cond _ rfl (fun hb => ?_) (fun hb => ?_)
 ·refine nK ?_
  refine za ?_
  refine rpZ 28 rfl (op_call_pure (fun _ => awake_c) rfl (Opd.func _) Opds.nil) ?_
  refine zd ?_
  refine zb ?_
  refine nK ?_
  exact wO hC
 have hb2 : largeF l = false ∧ f0.length ≤ 60 := by simp at hb; exact ⟨hb.1, by omega⟩
 obtain ⟨hlg, h60⟩ := hb2
 obtain ⟨z1, z2, z3, z4, z5⟩ := hsz
 have ks0 := same_c s0 (by omega) (by rw [z2]; simp) (by rw [z3]; simp) (by rw [z4]; simp) (by rw [z5]; simp) (by rw [z5]; simp)
 refine nK ?_
 refine za ?_
 refine zc ?_
 refine zc ?_
 refine rpZ 32 rfl (op_call_pure (fun _ => k1) rfl (Opd.func _) (oS (oT rfl) (oS (oT rfl) Opds.nil))) ?_
 refine zc ?_
 refine zi ?_
 refine zi ?_
 refine zo ?_
 refine zg ?_
 refine zd ?_
 refine zb ?_
 refine nK ?_
 refine za ?_
 refine zc ?_
 refine zc ?_
 refine rpZ 38 rfl (op_call_pure (fun _ => k1r) rfl (Opd.func _) (oS (oT rfl) (oS (oT rfl) Opds.nil))) ?_
 refine zc ?_
 refine zi ?_
 refine zi ?_
 refine zo ?_
 refine zg ?_
 refine zd ?_
 refine zb ?_
 refine nK ?_
 refine za ?_
 refine zc ?_
 refine zc ?_
 refine zbk ?_
 refine zc ?_
 refine zby ?_
 refine zby ?_
 refine rgZ 47 rfl rfl tG (op_call_pure (fun _ => ks0) rfl (Opd.func _) (oS (oO rfl tO) (oS (oO rfl tO) Opds.nil))) ?_
 refine zca ?_
 refine zbd ?_
 refine zb ?_
 refine nK ?_
 refine n_cond _ rfl (fun hb => ?_) (fun hb => ?_)
 ·exfalso
  revert hb
  simp
 refine nK ?_
 refine za ?_
 refine zc ?_
 refine zbe ?_
 refine zb ?_
 refine nK ?_
 refine n_cond _ rfl (fun hb => ?_) (fun hb => ?_)
 ·refine nK ?_
  refine za ?_
  refine rpZ 52 rfl (op_call_pure (fun _ => awake_c) rfl (Opd.func _) Opds.nil) ?_
  refine zd ?_
  refine zb ?_
  refine nK ?_
  exact wO hC
 have h00 : e0 = 0 := by simpa using hb
 obtain ⟨hs0, hv0, hr0⟩ := hnw h00
 subst hs0
 clear hb
 have hl40 : l.length ≤ 40 := by unfold largeF at hlg; simp at hlg; omega
 have hev : ∀ e ∈ l, okLe e ∧ e.rt.length ≤ 40 := fun e hx => (he e hx).small (by
  unfold largeF at hlg
  have := (Bool.or_eq_false_iff.1 hlg).2
  rw [List.any_eq_false] at this
  simpa using this e hx)
 refine nK ?_
 refine za ?_
 refine zc ?_
 refine zk ?_
 refine zx ?_
 refine zb ?_
 refine nK ?_
 refine n_loop (ι := Nat × Lst) (fun g => ([(7, .fz (.cellp (encP p))), (9, .ptr 0 6 0 0), (11, .ptr 1 6 0 0), (53, .fz (VEv l)), (54, IV .i64 l.length), (55, IV .i64 g.1)], [(0, OLs g.2), (1, OLs g.2)], 2)) (fun g => g.1 ≤ l.length ∧ lbI r f0 g.1 g.2) (fun g => l.length - g.1) (0, ⟨r, f0, [], [], [], []⟩) ⟨Nat.zero_le _, lbI.zero hv0 h60⟩ ?_ ?_
 ·refine Next.weakS [9, 11] [7] (by rfl) (wK hC) wF wHE21a rfl (rel_intro)
 intro ⟨i, s⟩ ⟨hi, hI⟩ K hK
 dsimp only at hi hI ⊢
 refine nK ?_
 refine za ?_
 refine zn ?_
 refine zb ?_
 refine nK ?_
 refine n_cond _ rfl (fun hb => ?_) (fun hb => ?_)
 ·have hlt : i < l.length := by simp at hb; omega
  have hr1 := row_at' encEv l i hlt
  have hK1 := fun s h => hK (i + 1, s) ⟨by dsimp only; omega, h⟩ (by dsimp only; omega)
  dsimp only at hK1
  obtain ⟨ek, el⟩ := hev _ (List.getElem_mem hlt)
  generalize l[i] = e at *
  have hsk := hI.all (by omega)
  have kh := handle_c s e hsk ek
  have krh := rhandle_c s e hsk ek
  have hst := fun h => hI.step (by omega) ek el h
  have hmn := hI.mono
  have hsm := out_small hsk ek
  have hz := handle_zero (s := s) (e := e)
  generalize handleF s e = q at *
  obtain ⟨t, o, er⟩ := q
  dsimp only at kh krh hst hsm hz
  have kst : Pure Tryz.prog 9 [.agg (encLs t), .agg (encLs t)] (Bf true) := by
   by_cases h : er = 0
   ·exact same_ok ((hst h).all (by omega))
   rw [hz h]; exact same_c zLst (by simp [zLst]) (by simp [zLst]) (by simp [zLst]) (by simp [zLst]) (by simp [zLst]) (by simp [zLst])
  have ksn := same_sn o hsm.1 (fun x hx => by have := hsm.2 x hx; omega)
  refine nK ?_
  refine za ?_
  refine zr ?_
  refine zv ?_
  refine zo ?_
  refine zg ?_
  refine zb ?_
  refine nK ?_
  refine za ?_
  refine zm ?_
  refine zm ?_
  refine rpZ 62 rfl (op_call_pure (fun _ => kh) rfl (Opd.func _) (oS (oT rfl) (oS (oT rfl) Opds.nil))) ?_
  refine zc ?_
  refine zi ?_
  refine zi ?_
  refine zi ?_
  refine zo ?_
  refine zg ?_
  refine zd ?_
  refine zd ?_
  refine zb ?_
  refine nK ?_
  refine za ?_
  refine zm ?_
  refine zm ?_
  refine rpZ 69 rfl (op_call_pure (fun _ => krh) rfl (Opd.func _) (oS (oT rfl) (oS (oT rfl) Opds.nil))) ?_
  refine zc ?_
  refine zi ?_
  refine zi ?_
  refine zi ?_
  refine zo ?_
  refine zg ?_
  refine zd ?_
  refine zd ?_
  refine zb ?_
  refine nK ?_
  refine za ?_
  refine zc ?_
  refine zc ?_
  refine zbk ?_
  refine zc ?_
  refine zby ?_
  refine zby ?_
  refine rgZ 79 rfl rfl tG (op_call_pure (fun _ => kst) rfl (Opd.func _) (oS (oO rfl tO) (oS (oO rfl tO) Opds.nil))) ?_
  refine zca ?_
  refine zbd ?_
  refine zc ?_
  refine zl ?_
  refine zl ?_
  refine rgZ 85 rfl rfl tG (op_call_pure (fun _ => ksn) rfl (Opd.func _) (oS (oO rfl tO) (oS (oO rfl tO) Opds.nil))) ?_
  refine zca ?_
  refine zbd ?_
  refine zb ?_
  refine nK ?_
  refine n_cond _ rfl (fun hb => ?_) (fun hb => ?_)
  ·exfalso
   revert hb
   simp
  clear hb
  refine nK ?_
  refine za ?_
  refine zc ?_
  refine zba ?_
  refine zb ?_
  refine nK ?_
  refine n_cond _ rfl (fun hb => ?_) (fun hb => ?_)
  ·have hN := hst (by simpa using hb)
   clear hb
   refine nK ?_
   refine s_draw mixed ?_
   refine zm ?_
   refine zm ?_
   refine zch ?_
   refine zch ?_
   refine zq ?_
   refine nK ?_
   have hok := hN.all (by omega)
   have hhs : ∀ x ∈ t.rt, x.hs.length ≤ 64 := fun x hx => (hok.rt x hx).hs
   have ke1 := entries_c t hok
   have ke2 := rentries_c t hok
   have hel : (entrF t).length ≤ 2000000 := by rw [entr_len]; have := rawE_len t t.lc; have := hok.nlc; omega
   have hes := entr_hs hok.v hhs
   have ko1 := out_c t p hok.rta (by have := hok.nrt; omega) (by have := hok.nrm; omega) (fun x hx => by have := hhs x hx; omega)
   have ko2 := rout_c t p (by have := hok.nrt; omega) (by have := hok.nrm; omega) (fun x hx => by have := hhs x hx; omega)
   have hol := outF_len hhs p
   generalize entrF t = en at *
   generalize outF t p = ou at *
   have kse := same_le en hel (fun x hx => by have := hes x hx; omega)
   have ksh := sameLh_c ou ou (by omega) (by omega)
   rw [decide_eq_true rfl] at ksh
   refine nK ?_
   refine s_draw mixed ?_
   refine zm ?_
   refine rpZ 93 rfl (op_call_pure (fun _ => ke1) rfl (Opd.func _) (oS (oT rfl) Opds.nil)) ?_
   refine zm ?_
   refine rpZ 95 rfl (op_call_pure (fun _ => ke2) rfl (Opd.func _) (oS (oT rfl) Opds.nil)) ?_
   refine rpZ 96 rfl (op_call_pure (fun _ => kse) rfl (Opd.func _) (oS (oT rfl) (oS (oT rfl) Opds.nil))) ?_
   refine zbj ?_
   refine zc ?_
   refine zby ?_
   refine zcm ?_
   refine rgZ 101 rfl rfl tG (op_call_pure (fun _ => ko1) rfl (Opd.func _) (oS (oO rfl tO) (oS (oO rfl tO) Opds.nil))) ?_
   refine zby ?_
   refine zcm ?_
   refine rgZ 104 rfl rfl tG (op_call_pure (fun _ => ko2) rfl (Opd.func _) (oS (oO rfl tO) (oS (oO rfl tO) Opds.nil))) ?_
   refine rgZ 105 rfl rfl tG (op_call_pure (fun _ => ksh) rfl (Opd.func _) (oS (oO rfl tO) (oS (oO rfl tO) Opds.nil))) ?_
   refine zca ?_
   refine zbd ?_
   refine zq ?_
   refine nK ?_
   refine n_cond _ rfl (fun hb => ?_) (fun hb => ?_)
   ·exfalso
    revert hb
    simp
   refine nK ?_
   refine za ?_
   refine zj ?_
   refine zc ?_
   refine zb ?_
   refine nK ?_
   refine Next.weakS [9, 11] [] (by rfl) (wK hC) wG wHE21a rfl ((hK1 t hN))
  clear hb
  have hok := hsk
  have hhs : ∀ x ∈ s.rt, x.hs.length ≤ 64 := fun x hx => (hok.rt x hx).hs
  have ke1 := entries_c s hok
  have ke2 := rentries_c s hok
  have hel : (entrF s).length ≤ 2000000 := by rw [entr_len]; have := rawE_len s s.lc; have := hok.nlc; omega
  have hes := entr_hs hok.v hhs
  have ko1 := out_c s p hok.rta (by have := hok.nrt; omega) (by have := hok.nrm; omega) (fun x hx => by have := hhs x hx; omega)
  have ko2 := rout_c s p (by have := hok.nrt; omega) (by have := hok.nrm; omega) (fun x hx => by have := hhs x hx; omega)
  have hol := outF_len hhs p
  generalize entrF s = en at *
  generalize outF s p = ou at *
  have kse := same_le en hel (fun x hx => by have := hes x hx; omega)
  have ksh := sameLh_c ou ou (by omega) (by omega)
  rw [decide_eq_true rfl] at ksh
  refine nK ?_
  refine s_draw mixed ?_
  refine zm ?_
  refine rpZ 93 rfl (op_call_pure (fun _ => ke1) rfl (Opd.func _) (oS (oT rfl) Opds.nil)) ?_
  refine zm ?_
  refine rpZ 95 rfl (op_call_pure (fun _ => ke2) rfl (Opd.func _) (oS (oT rfl) Opds.nil)) ?_
  refine rpZ 96 rfl (op_call_pure (fun _ => kse) rfl (Opd.func _) (oS (oT rfl) (oS (oT rfl) Opds.nil))) ?_
  refine zbj ?_
  refine zc ?_
  refine zby ?_
  refine zcm ?_
  refine rgZ 101 rfl rfl tG (op_call_pure (fun _ => ko1) rfl (Opd.func _) (oS (oO rfl tO) (oS (oO rfl tO) Opds.nil))) ?_
  refine zby ?_
  refine zcm ?_
  refine rgZ 104 rfl rfl tG (op_call_pure (fun _ => ko2) rfl (Opd.func _) (oS (oO rfl tO) (oS (oO rfl tO) Opds.nil))) ?_
  refine rgZ 105 rfl rfl tG (op_call_pure (fun _ => ksh) rfl (Opd.func _) (oS (oO rfl tO) (oS (oO rfl tO) Opds.nil))) ?_
  refine zca ?_
  refine zbd ?_
  refine zq ?_
  refine nK ?_
  refine n_cond _ rfl (fun hb => ?_) (fun hb => ?_)
  ·exfalso
   revert hb
   simp
  refine nK ?_
  refine za ?_
  refine zj ?_
  refine zc ?_
  refine zb ?_
  refine nK ?_
  refine Next.weakS [9, 11] [] (by rfl) (wK hC) wG wHE21a rfl ((hK1 s hmn))
 refine nK ?_
 refine za ?_
 refine rpZ 109 rfl (op_call_pure (fun _ => awake_c) rfl (Opd.func _) Opds.nil) ?_
 refine zd ?_
 refine zb ?_
 refine nK ?_
 exact wO hC
end Go.Proofs.YtkofbemgpeagbaaGreat
/- Routers and the messages between them. No program in sight. -/
namespace Go.Pl
open Go Go.RT
set_option linter.all false
structure Mal where
  fr : Nat
  to : Nat
  da : List Int
  deriving DecidableEq
def mkMl (i : Nat) (m : Snd) : Mal := ⟨i, (m.pe - 1).toNat, m.da⟩
def pushQ (i : Nat) (o : List Snd) : List Mal := o.map (mkMl i)
/-- what is asked of an event at a router -/
structure evOk (ss : List Lst) (i : Nat) (e : Lev) : Prop where
  lt : i < ss.length
  st : okLs (ss.getD i zLst)
  ev : okLe e
  ok : (handleF (ss.getD i zLst) e).2.2 = 0
  pe : ∀ m ∈ (handleF (ss.getD i zLst) e).2.1, 1 ≤ m.pe ∧ m.pe ≤ ss.length
def dlvE (m : Mal) : Lev := ⟨3, m.fr + 1, m.da, []⟩
def outS (ss : List Lst) (i : Nat) (e : Lev) : List Mal := pushQ i (handleF (ss.getD i zLst) e).2.1
structure dlOk (ss : List Lst) (m : Mal) (q : List Mal) : Prop where
  ev : evOk ss m.to (dlvE m)
  fr : m.fr ≤ 1000
  len : q.length + (outS ss m.to (dlvE m)).length ≤ 1000000
end Go.Pl
/- Two peers: each knows the other's labels when all messages have arrived. No program in sight. -/
namespace Go.Pl
open Go Go.RT
set_option linter.all false
/-- what a message makes of the labels of the peer n -/
def apM (n : Int) (R : List Bnd) (m : Mal) : List Bnd :=
  let x := (decodeF m.da).1
  if x.k = 1 then bindL R ⟨x.px, n, x.la⟩ else if x.k = 2 then (if findB R x.px n = some x.la then unbL R x.px n else R) else R
def wtM (m : Mal) : Nat := if (decodeF m.da).1.k = 2 then 2 else 1
def wtQ (q : List Mal) : Nat := (q.map wtM).sum
def subQ (i : Nat) (q : List Mal) : List Mal := q.filter fun m => decide (m.fr = i)
/-- a message on its way, well formed, no request -/
structure mlOk (m : Mal) : Prop where
  e : ∃ x : Msg, okM x ∧ goodM x ∧ x.k ≤ 3 ∧ m.da = (encodeF x).1 ∧ decodeF m.da = (x, 0)
theorem mlOk.mk' {i : Nat} {n : Int} {x : Msg} (h : okM x) (hg : goodM x) (h3 : x.k ≤ 3) : mlOk (mkMl i ⟨n, (encodeF x).1⟩) := by
  refine ⟨x, h, hg, h3, rfl, ?_⟩
  show decodeF (encodeF x).1 = _
  have h0 := (msgE_iff x).2 hg
  have : (encodeF x).1 = encMb x := by unfold encodeF; rw [if_neg (by simpa using h0)]
  rw [this]; exact enc_dec h h0
theorem dec_of {x : Msg} (h : okM x) (hg : goodM x) : decodeF (encodeF x).1 = (x, 0) := by
  have h0 := (msgE_iff x).2 hg
  have : (encodeF x).1 = encMb x := by unfold encodeF; rw [if_neg (by simpa using h0)]
  rw [this]; exact enc_dec h h0
/-- what bindings are sent of -/
structure gB (b : Bnd) : Prop where
  px : b.px.ok
  v : validB b.px = true
  la : b.la = 3 ∨ (16 ≤ b.la ∧ b.la ≤ 1048575)
theorem gB.msg {b : Bnd} (h : gB b) {k : Int} (h1 : 1 ≤ k) (h3 : k ≤ 3) : okM ⟨k, b.px, b.la⟩ ∧ goodM ⟨k, b.px, b.la⟩ := by
  have := h.la
  exact ⟨⟨by simp only [inr]; omega, h.px, by simp only [inr]; omega⟩, ⟨h1, by show k ≤ 4; omega, h.v, fun e => by have : k = 4 := e; omega, fun _ => h.la⟩⟩
/-! what one peer is told -/
/-- a list of messages of the router n, given to one peer only, that turns its labels from A to B -/
structure told (i : Nat) (n pe : Int) (A B : List Bnd) (o : List Snd) : Prop where
  ap : (pushQ i o).foldl (apM n) A = B
  ok : ∀ m ∈ pushQ i o, mlOk m ∧ m.to = (pe - 1).toNat ∧ m.fr = i
  pe : ∀ m ∈ o, m.pe = pe
theorem told.nil (i : Nat) (n pe : Int) (A : List Bnd) : told i n pe A A [] := ⟨rfl, by simp [pushQ], by simp⟩
theorem told.map {i : Nat} {n pe : Int} {A : List Bnd} {b : Bnd} (hb : gB b) (hn : b.pe = n) : told i n pe A (bindL A b) [msgS pe 1 b.px b.la] := by
  obtain ⟨h1, h2⟩ := hb.msg (k := 1) (by omega) (by omega)
  refine ⟨?_, fun m hm => ?_, fun m hm => ?_⟩
  · simp only [pushQ, List.map_cons, List.map_nil, List.foldl_cons, List.foldl_nil]
    unfold apM mkMl msgS
    dsimp only
    rw [dec_of h1 h2]
    dsimp only
    rw [if_pos rfl]
    subst hn; rfl
  · simp only [pushQ, List.map_cons, List.map_nil, List.mem_singleton] at hm
    subst hm
    exact ⟨mlOk.mk' h1 h2 (by show (1 : Int) ≤ 3; omega), rfl, rfl⟩
  · simp only [List.mem_singleton] at hm; subst hm; rfl
end Go.Pl
/- Two peers, event by event. No program in sight. -/
namespace Go.Pl
open Go Go.RT
set_option linter.all false
structure AG (t : Nat) (a b : Lst) (q : List Mal) : Prop where
  va : okV a
  vb : okV b
  ra : a.ro = 1
  rb : b.ro = 2
  pa : a.ps = [2]
  pb : b.ps = [1]
  ga : ∀ x ∈ a.lc, gB x
  gb : ∀ x ∈ b.lc, gB x
  la : a.lc.length ≤ 40
  lb : b.lc.length ≤ 40
  fa : a.fr.length ≤ 1 + 40 * t
  fb : b.fr.length ≤ 1 + 40 * t
  n : a.rm.length + b.rm.length + wtQ q ≤ 160 * t
  mq : ∀ m ∈ q, mlOk m ∧ (m.fr = 0 ∧ m.to = 1 ∨ m.fr = 1 ∧ m.to = 0)
  ab : (subQ 0 q).foldl (apM 1) b.rm = a.lc
  ba : (subQ 1 q).foldl (apM 2) a.rm = b.lc
theorem AG.mono {t : Nat} {a b : Lst} {q : List Mal} (h : AG t a b q) : AG (t + 1) a b q := { h with fa := by have := h.fa; omega, fb := by have := h.fb; omega, n := by have := h.n; omega }
theorem AG.done {t : Nat} {a b : Lst} (h : AG t a b []) : b.rm = a.lc ∧ a.rm = b.lc := ⟨h.ab, h.ba⟩
structure Trn where
  sc : Bool
  rt : List Fec
  dl : Bool
structure okTr (t : Trn) : Prop where
  rt : ∀ x ∈ t.rt, okFe x
  n : t.rt.length ≤ 9223372036854775807
end Go.Pl
/- How the arguments of the rows read. -/
namespace Go.Proofs.YtkofbemgpeagbaaGreat
open Go Go.RT Go.Proofs Go.Pl
set_option linter.all false
variable {H : Type} {enc : TypeId × Value → H} {W : World} {ok : DataW H → Prop} {B : Nat}
theorem rdc_n : RdC ok enc Tryz.prog W 3 (fun fs => ∃ n, inr .i64 n ∧ fs = [If .i64 n]) := rdc_int (P := Tryz.prog) (t := 3) inferInstance
theorem rdc_u : RdC ok enc Tryz.prog W 22 (fun fs => ∃ n, inr .u32 n ∧ fs = [If .u32 n]) := rdc_int (P := Tryz.prog) (t := 22) inferInstance
theorem rdc_a : RdC ok enc Tryz.prog W 25 (fun fs => ∃ n, inr .u32 n ∧ fs = [If .u32 n]) := rdc_int (P := Tryz.prog) (t := 25) inferInstance
theorem rdc_y : RdC ok enc Tryz.prog W 5 (fun fs => ∃ n, inr .u8 n ∧ fs = [If .u8 n]) := rdc_int (P := Tryz.prog) (t := 5) inferInstance
theorem rdc_b : RdC ok enc Tryz.prog W 4 (fun fs => ∃ b, fs = [Bf b]) := rdc_bool (P := Tryz.prog) (t := 4) inferInstance
theorem rdc_pfx (dn : DnOk H ok B) : RdC ok enc Tryz.prog W 27 (fun fs => ∃ p : Pfx, p.ok ∧ fs = encP p) :=
  (rdc_struct (P := Tryz.prog) (t := 27) dn Tryz.underlying27 (by kernel_rfl) (.cons _ _ _ _ rdc_a (.cons _ _ _ _ rdc_n .nil))).imp fun fs h => by
    obtain ⟨_, _, rfl, ⟨a, ha, rfl⟩, _, _, rfl, ⟨b, hb, rfl⟩, rfl⟩ := h
    have ha' : 0 ≤ a ∧ a < 4294967296 := by simp only [inr] at ha; omega
    refine ⟨⟨a.toNat, b⟩, ⟨by show a.toNat < 2 ^ 32; omega, hb⟩, ?_⟩
    simp only [encP]
    rw [Int.toNat_of_nonneg ha'.1]; rfl
theorem rdc_ws (dn : DnOk H ok B) : RdC ok enc Tryz.prog W 31 (fun fs => ∃ l : List Int, (∀ x ∈ l, inr .u32 x) ∧ l.length ≤ B ∧ fs = [VW l]) :=
  (rdc_slice (P := Tryz.prog) (t := 31) (e := 22) dn inferInstance inferInstance (by decide) rdc_u).imp fun fs h => by
    obtain ⟨rows, hr, hl, rfl⟩ := h
    obtain ⟨l, rfl, ho⟩ := rows_of (enc := encW) (ok := inr .u32) (fun fs h => h) hr
    exact ⟨l, ho, by simpa using hl, rfl⟩
theorem rdc_ys (dn : DnOk H ok B) : RdC ok enc Tryz.prog W 39 (fun fs => ∃ l : List Int, (∀ x ∈ l, inr .u8 x) ∧ l.length ≤ B ∧ fs = [VY l]) :=
  (rdc_slice (P := Tryz.prog) (t := 39) (e := 5) dn inferInstance inferInstance (by decide) rdc_y).imp fun fs h => by
    obtain ⟨rows, hr, hl, rfl⟩ := h
    obtain ⟨l, rfl, ho⟩ := rows_of (enc := encY) (ok := inr .u8) (fun fs h => h) hr
    exact ⟨l, ho, by simpa using hl, rfl⟩
theorem rdc_yb (dn : DnOk H ok B) : RdC ok enc Tryz.prog W 39 (fun fs => ∃ l : List Int, ((∀ x ∈ l, 0 ≤ x ∧ x < 256) ∧ l.length ≤ B) ∧ fs = [VY l]) :=
  (rdc_ys dn).imp fun fs ⟨l, h1, h2, h3⟩ => ⟨l, ⟨fun x hx => by have := h1 x hx; simp only [inr] at this; omega, h2⟩, h3⟩
theorem rdc_rg (dn : DnOk H ok B) : RdC ok enc Tryz.prog W 87 (fun fs => ∃ e : Rg, (inr .i64 e.f ∧ inr .i64 e.t) ∧ fs = encRg e) :=
  (rdc_struct (P := Tryz.prog) (t := 87) dn Tryz.underlying87 (by kernel_rfl) (.cons _ _ _ _ rdc_n (.cons _ _ _ _ rdc_n .nil))).imp fun fs h => by
    obtain ⟨_, _, rfl, ⟨a1, h1, rfl⟩, _, _, rfl, ⟨a2, h2, rfl⟩, rfl⟩ := h
    exact ⟨⟨a1, a2⟩, ⟨h1, h2⟩, rfl⟩
theorem rdc_rgs (dn : DnOk H ok B) : RdC ok enc Tryz.prog W 23 (fun fs => ∃ l : List Rg, l.length ≤ B ∧ fs = [VRg l]) :=
  (rdc_slice (P := Tryz.prog) (t := 23) (e := 87) dn inferInstance inferInstance (by decide) (rdc_rg dn)).imp fun fs h => by
    obtain ⟨rows, hr, hl, rfl⟩ := h
    obtain ⟨l, rfl, ho⟩ := rows_of (enc := encRg) (ok := fun e => inr .i64 e.f ∧ inr .i64 e.t) (fun fs h => h) hr
    exact ⟨l, by simpa using hl, rfl⟩
/-- a route, its hops of any number -/
theorem rdc_fe (dn : DnOk H ok B) : RdC ok enc Tryz.prog W 69 (fun fs => ∃ e : Fec, (e.px.ok ∧ e.hs.length ≤ B) ∧ fs = encFe e) :=
  (rdc_struct (P := Tryz.prog) (t := 69) dn Tryz.underlying69 (by kernel_rfl) (.cons _ _ _ _ (rdc_pfx dn) (.cons _ _ _ _ rdc_b (.cons _ _ _ _ (rdc_ws dn) .nil)))).imp fun fs h => by
    obtain ⟨_, _, rfl, ⟨a1, h1, rfl⟩, _, _, rfl, ⟨a2, rfl⟩, _, _, rfl, ⟨a3, _, h3, rfl⟩, rfl⟩ := h
    exact ⟨⟨a1, a2, a3⟩, ⟨h1, h3⟩, rfl⟩
theorem rdc_fes (dn : DnOk H ok B) : RdC ok enc Tryz.prog W 32 (fun fs => ∃ l : List Fec, ((∀ x ∈ l, x.px.ok ∧ x.hs.length ≤ B) ∧ l.length ≤ B) ∧ fs = [VFe l]) :=
  (rdc_slice (P := Tryz.prog) (t := 32) (e := 69) dn inferInstance inferInstance (by decide) (rdc_fe dn)).imp fun fs h => by
    obtain ⟨rows, hr, hl, rfl⟩ := h
    obtain ⟨l, rfl, ho⟩ := rows_of (enc := encFe) (ok := fun e => e.px.ok ∧ e.hs.length ≤ B) (fun fs h => h) hr
    exact ⟨l, ⟨ho, by simpa using hl⟩, rfl⟩
theorem rdc_ev (dn : DnOk H ok B) (hB : B ≤ 9223372036854775807) : RdC ok enc Tryz.prog W 41 (fun fs => ∃ e : Lev, okLx e ∧ fs = encEv e) :=
  (rdc_struct (P := Tryz.prog) (t := 41) dn Tryz.underlying41 (by kernel_rfl) (.cons _ _ _ _ rdc_n (.cons _ _ _ _ rdc_u (.cons _ _ _ _ (rdc_yb dn) (.cons _ _ _ _ (rdc_fes dn) .nil))))).imp fun fs h => by
    obtain ⟨_, _, rfl, ⟨a1, h1, rfl⟩, _, _, rfl, ⟨a2, h2, rfl⟩, _, _, rfl, ⟨a3, h3, rfl⟩, _, _, rfl, ⟨a4, h4, rfl⟩, rfl⟩ := h
    exact ⟨⟨a1, a2, a3, a4⟩, ⟨h1, h3.1, fun x hx => ⟨(h4.1 x hx).1, Nat.le_trans (h4.1 x hx).2 hB⟩, Nat.le_trans h3.2 hB, Nat.le_trans h4.2 hB⟩, rfl⟩
theorem rdc_evs (dn : DnOk H ok B) (hB : B ≤ 9223372036854775807) : RdC ok enc Tryz.prog W 24 (fun fs => ∃ l : List Lev, ((∀ e ∈ l, okLx e) ∧ l.length ≤ 9223372036854775807) ∧ fs = [VEv l]) :=
  (rdc_slice (P := Tryz.prog) (t := 24) (e := 41) dn inferInstance inferInstance (by decide) (rdc_ev dn hB)).imp fun fs h => by
    obtain ⟨rows, hr, hl, rfl⟩ := h
    obtain ⟨l, rfl, ho⟩ := rows_of (enc := encEv) (ok := okLx) (fun fs h => h) hr
    exact ⟨l, ⟨ho, Nat.le_trans (by simpa using hl) hB⟩, rfl⟩
end Go.Proofs.YtkofbemgpeagbaaGreat
