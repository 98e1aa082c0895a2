/- A part of the proof: HP3, GP4, GP5, HP4, HP5, X10, HP6, HP7, GP6, GP7, GP8, GP9, GP10, HP8, HP9, HP10, HP11, HP12, HP13, HP14, HP15, HP20, HP16, HP21, HP22, HP23, HF1, HF2, HF3, HF4, HP18, HP19, LF1, GP11, HP17, LF2, LF3, X40, X106, X112, X115, X116, X117. -/
import Derived.Test.YtcillieggklaaaaGreatZC
set_option linter.all false
namespace Go.Pl
open Go Go.RT
set_option linter.all false
/- heap order -/
def Hq.kk (h : Hq) (i : Nat) : Int × Nat := (h.key (h.item i), h.item i)
def le2 (a b : Int × Nat) : Prop := a.1 < b.1 ∨ a.1 = b.1 ∧ a.2 ≤ b.2
theorem le2_trans {a b c : Int × Nat} (h : le2 a b) (g : le2 b c) : le2 a c := by unfold le2 at *; omega
theorem le2_refl (a : Int × Nat) : le2 a a := by unfold le2; omega
theorem le2_total {a b : Int × Nat} (h : ¬ le2 a b) : le2 b a := by unfold le2 at *; omega
theorem lessH_iff (h : Hq) (i j : Nat) : lessH h i j = true ↔ ¬ le2 (h.kk j) (h.kk i) := by
  simp only [lessH, le2, Hq.kk, Bool.or_eq_true, Bool.and_eq_true, decide_eq_true_eq]; omega
def HOrd (h : Hq) (n : Nat) : Prop := ∀ j, 0 < j → j < n → le2 (h.kk ((j - 1) / 2)) (h.kk j)
structure UpI (h : Hq) (i n : Nat) : Prop where
  a : ∀ j, 0 < j → j < n → j ≠ i → (j - 1) / 2 ≠ i → le2 (h.kk ((j - 1) / 2)) (h.kk j)
  b : ∀ j, 0 < j → j < n → (j - 1) / 2 = i → 0 < i → le2 (h.kk ((i - 1) / 2)) (h.kk j)
structure DnI (h : Hq) (i n : Nat) : Prop where
  a : ∀ j, 0 < j → j < n → (j - 1) / 2 ≠ i → le2 (h.kk ((j - 1) / 2)) (h.kk j)
  b : ∀ j, 0 < j → j < n → (j - 1) / 2 = i → 0 < i → le2 (h.kk ((i - 1) / 2)) (h.kk j)
theorem kk_swap (h : Hq) {i j : Nat} (hi : i < h.it.length) (hj : j < h.it.length) (k : Nat) : (swapH h i j).kk k = if j = k then h.kk i else if i = k then h.kk j else h.kk k := by
  have e : ∀ v, (swapH h i j).key v = h.key v := fun v => rfl
  unfold Hq.kk
  rw [item_swap h hi hj]
  by_cases e1 : j = k
  · rw [if_pos e1, if_pos e1, e]
  · rw [if_neg e1, if_neg e1]
    by_cases e2 : i = k
    · rw [if_pos e2, if_pos e2, e]
    · rw [if_neg e2, if_neg e2, e]
theorem UpI.dn {h : Hq} {i n : Nat} (u : UpI h i n) (hp : 0 < i → le2 (h.kk ((i - 1) / 2)) (h.kk i)) : DnI h i n :=
  ⟨fun j h0 h1 h2 => by
    by_cases e : j = i
    · subst e; exact hp h0
    · exact u.a j h0 h1 e h2, u.b⟩
theorem UpI.step {h : Hq} {i n : Nat} (u : UpI h i n) (hn : n = h.it.length) (h0 : 0 < i) (hi : i < n) : UpI (swapH h i ((i - 1) / 2)) ((i - 1) / 2) n := by
  have hpi : (i - 1) / 2 < i := by omega
  generalize hp : (i - 1) / 2 = p at *
  have kk := kk_swap h (i := i) (j := p) (by omega) (by omega)
  have up : ∀ j, 0 < j → j < n → j ≠ i → (j - 1) / 2 ≠ i → le2 (h.kk ((j - 1) / 2)) (h.kk j) := u.a
  refine ⟨fun j j0 jn hjp hpp => ?_, fun j j0 jn hpp p0 => ?_⟩
  · have hji : j ≠ i := fun e => hpp (by rw [e]; exact hp)
    rw [kk ((j - 1) / 2), kk j, if_neg (show ¬ p = (j - 1) / 2 from fun e => hpp e.symm), if_neg (show ¬ p = j from fun e => hjp e.symm), if_neg (show ¬ i = j from fun e => hji e.symm)]
    by_cases e : i = (j - 1) / 2
    · rw [if_pos e]
      have := u.b j j0 jn e.symm h0
      rw [hp] at this; exact this
    · rw [if_neg e]; exact up j j0 jn hji (fun e2 => e e2.symm)
  · have q : le2 (h.kk ((p - 1) / 2)) (h.kk p) := up p p0 (by omega) (by omega) (by omega)
    rw [kk, kk, if_neg (by omega), if_neg (by omega), if_neg (by omega)]
    by_cases e : i = j
    · rw [if_pos e]; exact q
    · rw [if_neg e]
      refine le2_trans q ?_
      have := up j j0 jn (fun e2 => e e2.symm) (by omega)
      rw [hpp] at this; exact this
theorem HI.upOrd {h : Hq} : ∀ {i n : Nat}, HI h → n = h.it.length → i < n → UpI h i n → DnI (upH h i).1 (upH h i).2 n := by
  intro i
  induction i using Nat.strongRecOn generalizing h with
  | _ i ih =>
    intro n o hn hi u
    by_cases hh : 0 < i ∧ lessH h i ((i - 1) / 2) = true
    · rw [up_step hh.1 hh.2]
      have hj : (i - 1) / 2 < h.it.length := by omega
      exact ih ((i - 1) / 2) (by omega) (o.swap (by omega) hj) (by rw [(swapH_len _ _ _).1]; exact hn) (by omega) (u.step hn hh.1 hi)
    · rw [up_stop hh]
      exact u.dn fun h0 => Classical.byContradiction fun e => hh ⟨h0, (lessH_iff _ _ _).2 e⟩
theorem kid_le (h : Hq) {i n j : Nat} (hk : kidH h i n < n) (j0 : 0 < j) (jn : j < n) (hp : (j - 1) / 2 = i) : le2 (h.kk (kidH h i n)) (h.kk j) := by
  have hj : j = 2 * i + 1 ∨ j = 2 * i + 1 + 1 := by omega
  unfold kidH at *
  split at hk
  · next hc =>
    rw [if_pos hc]
    rcases hj with rfl | rfl
    · exact le2_total ((lessH_iff _ _ _).1 hc.2)
    · exact le2_refl _
  · next hc =>
    rw [if_neg hc]
    rcases hj with rfl | rfl
    · exact le2_refl _
    · exact Classical.byContradiction fun e => hc ⟨jn, (lessH_iff _ _ _).2 e⟩
theorem kid_par (h : Hq) (i n : Nat) : (kidH h i n - 1) / 2 = i := by unfold kidH; split <;> omega
theorem DnI.step {h : Hq} {i n : Nat} (u : DnI h i n) (hn : n = h.it.length) (hi : i < n) (hk : kidH h i n < n) (hl : lessH h (kidH h i n) i = true) : DnI (swapH h i (kidH h i n)) (kidH h i n) n := by
  have hkp := kid_par h i n
  have hgt := kidH_gt h i n
  have hkl := fun j j0 jn hp => kid_le h (i := i) (n := n) (j := j) hk j0 jn hp
  have hl2 := le2_total ((lessH_iff _ _ _).1 hl)
  generalize kidH h i n = k at *
  have kk := kk_swap h (i := i) (j := k) (by omega) (by omega)
  refine ⟨fun j j0 jn hpk => ?_, fun j j0 jn hpp k0 => ?_⟩
  · rw [kk, kk, if_neg (fun e => hpk e.symm)]
    by_cases e1 : k = j
    · subst e1
      rw [if_pos rfl, if_pos hkp.symm]; exact hl2
    · rw [if_neg e1]
      by_cases e2 : i = j
      · subst e2
        rw [if_pos rfl, if_neg (by omega)]
        exact u.b k (by omega) hk hkp j0
      · rw [if_neg e2]
        by_cases e3 : i = (j - 1) / 2
        · rw [if_pos e3]; exact hkl j j0 jn e3.symm
        · rw [if_neg e3]; exact u.a j j0 jn (fun e => e3 e.symm)
  · rw [hkp, kk, kk, if_neg (by omega), if_pos rfl, if_neg (by omega), if_neg (by omega)]
    have := u.a j j0 jn (by omega)
    rw [hpp] at this; exact this
theorem HI.dnOrd {h : Hq} : ∀ {k i n : Nat}, n - i ≤ k → HI h → i < h.it.length → n = h.it.length → DnI h i n → HOrd (downH h i n) n := by
  intro k
  induction k generalizing h with
  | zero => intro i n hk o hi hn; omega
  | succ k ih =>
    intro i n hk o hi hn u
    by_cases hh : kidH h i n < n ∧ lessH h (kidH h i n) i = true
    · rw [down_step hh.1 hh.2]
      have hgt := kidH_gt h i n
      exact ih (by omega) (o.swap hi (by omega)) (by rw [(swapH_len _ _ _).1]; omega) (by rw [(swapH_len _ _ _).1]; exact hn) (u.step hn (by omega) hh.1 hh.2)
    · rw [down_stop hh]
      intro j j0 jn
      by_cases e : (j - 1) / 2 = i
      · rw [e]
        by_cases hk2 : kidH h i n < n
        · exact le2_trans (Classical.byContradiction fun e2 => hh ⟨hk2, (lessH_iff _ _ _).2 e2⟩) (kid_le h hk2 j0 jn e)
        · exfalso
          apply hk2
          unfold kidH; split
          · next hc => exact hc.1
          · omega
      · exact u.a j j0 jn e
theorem HI.settleOrd {h : Hq} {i : Nat} (o : HI h) (hi : i < h.it.length) (u : UpI h i h.it.length) : HOrd (settleH h i h.it.length) h.it.length := by
  obtain ⟨a, b, c, d, e⟩ := o.up hi
  exact a.dnOrd (k := h.it.length - (upH h i).2) (Nat.le_refl _) (by omega) b.symm (o.upOrd rfl hi u)
/- which items are in it -/
theorem HI.in_swap {h : Hq} (o : HI h) {i j : Nat} (hi : i < h.it.length) (hj : j < h.it.length) (w : Nat) : 0 ≤ (swapH h i j).place w ↔ 0 ≤ h.place w := by
  have ii := o.inv i hi
  have ij := o.inv j hj
  rw [place_swap h o.ok hi hj]
  by_cases e1 : h.item i = w
  · rw [if_pos e1, ← e1, ii]; omega
  · rw [if_neg e1]
    by_cases e2 : h.item j = w
    · rw [if_pos e2, ← e2, ij]; omega
    · rw [if_neg e2]
theorem HI.in_up {h : Hq} : ∀ {i : Nat}, HI h → i < h.it.length → ∀ w, 0 ≤ (upH h i).1.place w ↔ 0 ≤ h.place w := by
  intro i
  induction i using Nat.strongRecOn generalizing h with
  | _ i ih =>
    intro o hi w
    by_cases hh : 0 < i ∧ lessH h i ((i - 1) / 2) = true
    · rw [up_step hh.1 hh.2]
      have hj : (i - 1) / 2 < h.it.length := by omega
      exact (ih ((i - 1) / 2) (by omega) (o.swap hi hj) (by rw [(swapH_len _ _ _).1]; exact hj) w).trans (o.in_swap hi hj w)
    · rw [up_stop hh]
theorem HI.in_down {h : Hq} : ∀ {k i n : Nat}, n - i ≤ k → HI h → i < h.it.length → n = h.it.length → ∀ w, 0 ≤ (downH h i n).place w ↔ 0 ≤ h.place w := by
  intro k
  induction k generalizing h with
  | zero => intro i n hk o hi hn; omega
  | succ k ih =>
    intro i n hk o hi hn w
    by_cases hh : kidH h i n < n ∧ lessH h (kidH h i n) i = true
    · rw [down_step hh.1 hh.2]
      have hgt := kidH_gt h i n
      exact (ih (by omega) (o.swap hi (by omega)) (by rw [(swapH_len _ _ _).1]; omega) (by rw [(swapH_len _ _ _).1]; exact hn) w).trans (o.in_swap hi (by omega) w)
    · rw [down_stop hh]
theorem HI.in_settle {h : Hq} {i : Nat} (o : HI h) (hi : i < h.it.length) (w : Nat) : 0 ≤ (settleH h i h.it.length).place w ↔ 0 ≤ h.place w := by
  obtain ⟨a, b, c, d, e⟩ := o.up hi
  exact (a.in_down (k := h.it.length - (upH h i).2) (Nat.le_refl _) (by omega) b.symm w).trans (o.in_up hi w)
theorem put_new {h : Hq} {v : Nat} (k : Int) (hp : h.place v < 0) : putH h v k = ⟨h.it ++ [v], h.pl.set v h.it.length, h.ky.set v k⟩ := by unfold putH insH; rw [if_pos hp]
theorem put_old {h : Hq} {v : Nat} (k : Int) (hp : ¬ h.place v < 0) : putH h v k = ⟨h.it, h.pl, h.ky.set v k⟩ := by unfold putH insH; rw [if_neg hp]
structure HG (h : Hq) : Prop where
  hi : HI h
  ord : HOrd h h.it.length
theorem HG.set {h : Hq} (o : HG h) {v : Nat} (hv : v < h.pl.length) (k : Int) : HG (setH h v k) ∧ (setH h v k).pl.length = h.pl.length ∧ (setH h v k).ky = h.ky.set v k ∧ ∀ w, 0 ≤ (setH h v k).place w ↔ w = v ∨ 0 ≤ h.place w := by
  obtain ⟨a, b, c, d⟩ := o.hi.put hv k
  obtain ⟨q1, q2, q3, q4⟩ := o.hi.set hv k
  have hi := a.lt (by rw [b]; exact hv) c
  have hol := o.hi.ok.len
  have hkey : ∀ w, (putH h v k).key w = if v = w then k else h.key w := fun w => by
    have e : (putH h v k).ky = h.ky.set v k := by unfold putH insH; split <;> rfl
    unfold Hq.key; rw [e, getD_set _ _ _ _ _ (by omega)]
  have hu : UpI (putH h v k) ((putH h v k).place v).toNat (putH h v k).it.length := by
    by_cases hp : h.place v < 0
    · have e1 : (putH h v k).it = h.it ++ [v] := by rw [put_new k hp]
      have e2 : (putH h v k).place v = h.it.length := by rw [put_new k hp]; unfold Hq.place; simp only; rw [getD_set _ _ _ _ _ hv, if_pos rfl]
      have e3 : ∀ i, i < h.it.length → (putH h v k).kk i = h.kk i := fun i hi2 => by
        have e4 : (putH h v k).item i = h.item i := by unfold Hq.item; rw [e1, getD_app, if_neg (by omega)]
        have := o.hi.inv i hi2
        unfold Hq.kk; rw [e4, hkey, if_neg (fun e => by rw [← e] at this; omega)]
      rw [e2, e1, Int.toNat_natCast]
      refine ⟨fun j j0 jn h1 h2 => ?_, fun j j0 jn h1 h2 => ?_⟩
      · simp at jn
        rw [e3 _ (by omega), e3 _ (by omega)]; exact o.ord j j0 (by omega)
      · simp at jn; omega
    · have e1 : (putH h v k).it = h.it := by rw [put_old k hp]
      have e2 : (putH h v k).place v = h.place v := by rw [put_old k hp]; rfl
      have hlt := o.hi.lt hv (by omega)
      obtain ⟨_, hiv⟩ := o.hi.at_ v hv (by omega)
      have e3 : ∀ i, i < h.it.length → i ≠ (h.place v).toNat → (putH h v k).kk i = h.kk i := fun i hi2 hne => by
        have e4 : (putH h v k).item i = h.item i := by unfold Hq.item; rw [e1]
        have := o.hi.inv i hi2
        unfold Hq.kk; rw [e4, hkey, if_neg (fun e => by rw [← e] at this; omega)]
      rw [e2, e1]
      refine ⟨fun j j0 jn h1 h2 => ?_, fun j j0 jn h1 h2 => ?_⟩
      · rw [e3 _ (by omega) h2, e3 _ jn h1]; exact o.ord j j0 jn
      · rw [e3 _ (by omega) (by omega), e3 _ jn (by omega)]
        refine le2_trans (o.ord _ h2 hlt) ?_
        have := o.ord j j0 jn
        rw [h1] at this; exact this
  refine ⟨⟨q1, ?_⟩, q3, q4, fun w => ?_⟩
  · rw [q2]; exact a.settleOrd hi hu
  · refine (a.in_settle hi w).trans ?_
    by_cases hp : h.place v < 0
    · rw [put_new k hp]; unfold Hq.place; simp only
      rw [getD_set _ _ _ _ _ hv]
      by_cases e : v = w
      · rw [if_pos e]; constructor
        · intro _; exact .inl e.symm
        · intro _; omega
      · rw [if_neg e]; constructor
        · intro h1; exact .inr h1
        · rintro (h1 | h1)
          · exact absurd h1.symm e
          · exact h1
    · rw [put_old k hp]; constructor
      · intro h1; exact .inr h1
      · rintro (rfl | h1)
        · show 0 ≤ h.place w; omega
        · exact h1
theorem HG.drop {h : Hq} (o : HG h) {v : Nat} (hv : v < h.pl.length) (hp : 0 ≤ h.place v) : HG (dropH h v) ∧ (dropH h v).it.length = h.it.length - 1 ∧ (dropH h v).pl.length = h.pl.length ∧ (dropH h v).ky = h.ky ∧ ∀ w, 0 ≤ (dropH h v).place w ↔ w ≠ v ∧ 0 ≤ h.place w := by
  obtain ⟨a, b, c, d⟩ := o.hi.cut hv hp
  obtain ⟨q1, q2, q3, q4⟩ := o.hi.drop hv hp
  have hlt := o.hi.lt hv hp
  have hlast : h.it.length - 1 < h.it.length := by omega
  have hsw := o.hi.swap hlt hlast
  have e2 : ∀ i, i < h.it.length - 1 → (cutH h v).kk i = if (h.place v).toNat = i then h.kk (h.it.length - 1) else h.kk i := fun i hi => by
    have e3 : (cutH h v).kk i = (swapH h (h.place v).toNat (h.it.length - 1)).kk i := by
      unfold Hq.kk Hq.item cutH Hq.key; simp only [List.getD_eq_getElem?_getD]; rw [List.getElem?_take, if_pos hi]; rfl
    rw [e3, kk_swap h hlt hlast, if_neg (by omega)]
  have hin : ∀ w, 0 ≤ (cutH h v).place w ↔ w ≠ v ∧ 0 ≤ h.place w := fun w => by
    have e1 : (cutH h v).place w = if v = w then (-1 : Int) else (swapH h (h.place v).toNat (h.it.length - 1)).place w := getD_set _ _ _ _ _ (by rw [(swapH_len _ _ _).2.1]; exact hv)
    rw [e1]
    by_cases e : v = w
    · rw [if_pos e]; constructor
      · intro h1; omega
      · intro h1; exact absurd e.symm h1.1
    · rw [if_neg e, o.hi.in_swap hlt hlast]
      exact ⟨fun h1 => ⟨fun e2 => e e2.symm, h1⟩, fun h1 => h1.2⟩
  by_cases hh : (h.place v).toNat < h.it.length - 1
  · have hd : dropH h v = settleH (cutH h v) (h.place v).toNat (h.it.length - 1) := by unfold dropH; rw [if_pos hh]
    have hu : UpI (cutH h v) (h.place v).toNat (cutH h v).it.length := by
      rw [b]
      refine ⟨fun j j0 jn h1 h2 => ?_, fun j j0 jn h1 h2 => ?_⟩
      · rw [e2 _ (by omega), e2 _ jn, if_neg (fun e => h2 e.symm), if_neg (fun e => h1 e.symm)]; exact o.ord j j0 (by omega)
      · rw [e2 _ (by omega), e2 _ jn, if_neg (by omega), if_neg (by omega)]
        refine le2_trans (o.ord _ h2 hlt) ?_
        have := o.ord j j0 (by omega)
        rw [h1] at this; exact this
    refine ⟨⟨q1, ?_⟩, q2, q3, q4, fun w => ?_⟩
    · rw [q2, hd]
      have := a.settleOrd (by rw [b]; exact hh) hu
      rwa [b] at this
    · rw [hd]
      have := a.in_settle (i := (h.place v).toNat) (by rw [b]; exact hh) w
      rw [b] at this
      exact this.trans (hin w)
  · have hd : dropH h v = cutH h v := by unfold dropH; rw [if_neg hh]
    refine ⟨⟨q1, ?_⟩, q2, q3, q4, fun w => by rw [hd]; exact hin w⟩
    rw [q2, hd]
    intro j j0 jn
    rw [e2 _ (by omega), e2 _ jn, if_neg (by omega), if_neg (by omega)]; exact o.ord j j0 (by omega)
theorem HG.min {h : Hq} (o : HG h) {w : Nat} (hw : w < h.pl.length) (hp : 0 ≤ h.place w) : le2 (h.kk 0) (h.key w, w) := by
  obtain ⟨_, b⟩ := o.hi.at_ w hw hp
  have hlt := o.hi.lt hw hp
  have : ∀ j, j < h.it.length → le2 (h.kk 0) (h.kk j) := by
    intro j
    induction j using Nat.strongRecOn with
    | _ j ih =>
      intro hj
      by_cases e : j = 0
      · subst e; exact le2_refl _
      · exact le2_trans (ih ((j - 1) / 2) (by omega) (by omega)) (o.ord j (by omega) hj)
  have q := this _ hlt
  unfold Hq.kk at q ⊢
  rw [b] at q; exact q
end Go.Pl
/- The valid graph of edges: sorted, of several edges between the same nodes the cheapest. -/
namespace Go.Pl
open Go.RT Go.Shelf Go.Proofs
set_option linter.all false
instance : Inhabited Edg := ⟨⟨0, 0, 0⟩⟩
theorem cmpI_neg (a b : Int) : cmpI a b < 0 ↔ a < b := by unfold cmpI; split <;> (try split) <;> omega
theorem cmpI_zero (a b : Int) : cmpI a b = 0 ↔ a = b := by unfold cmpI; split <;> (try split) <;> omega
theorem ordE_neg (a b : Edg) : ordE a b < 0 ↔ a.f < b.f ∨ a.f = b.f ∧ a.t < b.t := by
  unfold ordE
  by_cases h : cmpI a.f b.f = 0
  · rw [if_neg (by simp [h]), cmpI_neg]; have := (cmpI_zero _ _).1 h; omega
  · rw [if_pos h, cmpI_neg]; have : ¬ a.f = b.f := fun e => h ((cmpI_zero _ _).2 e); omega
theorem ordE_zero (a b : Edg) : ordE a b = 0 ↔ a.f = b.f ∧ a.t = b.t := by
  unfold ordE
  by_cases h : cmpI a.f b.f = 0
  · rw [if_neg (by simp [h]), cmpI_zero]; have := (cmpI_zero _ _).1 h; omega
  · rw [if_pos h]; have : ¬ a.f = b.f := fun e => h ((cmpI_zero _ _).2 e); omega
def zeroG : Gr := ⟨0, 0, []⟩
/-- strictly ascending by their ends -/
def ltK (a b : Edg) : Prop := a.f < b.f ∨ a.f = b.f ∧ a.t < b.t
theorem ltK_bef (a b : Edg) : befB a b = true ↔ ltK a b := by simp [befB, ltK]
def AscK (l : List Edg) : Prop := l.Pairwise ltK
theorem AscK.ext : ∀ {a b : List Edg}, AscK a → AscK b → (∀ p, p ∈ a ↔ p ∈ b) → a = b
  | [], [], _, _, _ => rfl
  | [], y :: b, _, _, h => by have := (h y).2 (List.mem_cons_self ..); cases this
  | x :: a, [], _, _, h => by have := (h x).1 (List.mem_cons_self ..); cases this
  | x :: a, y :: b, ha, hb, h => by
    obtain ⟨a1, a2⟩ := List.pairwise_cons.1 ha
    obtain ⟨b1, b2⟩ := List.pairwise_cons.1 hb
    have e : x = y := by
      rcases List.mem_cons.1 ((h x).1 (List.mem_cons_self ..)) with e | h1
      · exact e
      · rcases List.mem_cons.1 ((h y).2 (List.mem_cons_self ..)) with e | h2
        · exact e.symm
        · have := b1 x h1; have := a1 y h2; unfold ltK at *; omega
    subst e
    refine congrArg _ (AscK.ext a2 b2 fun p => ?_)
    constructor
    · intro hp
      rcases List.mem_cons.1 ((h p).1 (List.mem_cons_of_mem _ hp)) with e | h1
      · subst e; have := a1 p hp; unfold ltK at *; omega
      · exact h1
    · intro hp
      rcases List.mem_cons.1 ((h p).2 (List.mem_cons_of_mem _ hp)) with e | h1
      · subst e; have := b1 p hp; unfold ltK at *; omega
      · exact h1
/-- the cheapest edge of each pair of ends, ascending -/
structure Least (l s : List Edg) : Prop where
  asc : AscK s
  sub : ∀ e ∈ s, e ∈ l
  min : ∀ e ∈ s, ∀ e' ∈ l, e'.f = e.f → e'.t = e.t → e.c ≤ e'.c
  all : ∀ e' ∈ l, ∃ e ∈ s, e.f = e'.f ∧ e.t = e'.t
theorem Least.uniq {l a b : List Edg} (ha : Least l a) (hb : Least l b) : a = b := by
  have key : ∀ {a b : List Edg}, Least l a → Least l b → ∀ p, p ∈ a → p ∈ b := fun {a b} ha hb p hp => by
    obtain ⟨q, hq, h1, h2⟩ := hb.all p (ha.sub p hp)
    have := ha.min p hp q (hb.sub q hq) h1 h2
    have := hb.min q hq p (ha.sub p hp) h1.symm h2.symm
    have : p = q := by cases p; cases q; simp only [Edg.mk.injEq]; simp only at *; omega
    rw [this]; exact hq
  exact AscK.ext ha.asc hb.asc fun p => ⟨key ha hb p, key hb ha p⟩
end Go.Pl
/- Which nodes can be reached. -/
namespace Go.Pl
open Go.RT
set_option linter.all false
inductive Rch (l : List Edg) (a : Int) : Int → Prop where
  | here : Rch l a a
  | step (e : Edg) : e ∈ l → Rch l a e.f → Rch l a e.t
open Classical in
/-- a checked graph's edges lie between its nodes -/
theorem chkL_alw {g : Gr} : ∀ (l : List Edg) (p : Option Edg), chkL g p l = 0 → ∀ e ∈ l, alwI g e = 0
  | [], _, _, e, he => by cases he
  | x :: l, p, h, e, he => by
    simp only [chkL] at h
    by_cases h1 : alwI g x = 0
    · rw [if_neg (by simp [h1])] at h
      by_cases h2 : badP p x = true
      · rw [if_pos h2] at h; cases h
      · rw [if_neg h2] at h
        rcases List.mem_cons.1 he with rfl | he
        · exact h1
        · exact chkL_alw l _ h e he
    · rw [if_pos h1] at h; exact absurd h h1
theorem checkI_ok {g : Gr} (h : checkI g = 0) : szOk g ∧ g.es.length ≤ 1024 ∧ chkL g none g.es = 0 := by
  unfold checkI at h
  by_cases h1 : sizeI g = 0
  · rw [if_neg (by simp [h1])] at h
    exact ⟨(sizeI_ok h1).1, (sizeI_ok h1).2, h⟩
  · rw [if_pos h1] at h; exact absurd h h1
theorem alwI_node {g : Gr} {e : Edg} (h : alwI g e = 0) : (0 ≤ e.f ∧ e.f < g.r + g.n) ∧ (0 ≤ e.t ∧ e.t < g.r + g.n) := by
  unfold alwI at h
  by_cases h1 : nodeB g e.f = false ∨ nodeB g e.t = false
  · rw [if_pos h1] at h; cases h
  · simp only [not_or, Bool.not_eq_false, nodeB, Bool.and_eq_true, decide_eq_true_eq] at h1
    exact h1
/-- how many are marked -/
def cntT (l : List Bool) : Nat := l.countP (· == true)
theorem cntT_set {l : List Bool} {v : Nat} (h : l[v]? = some false) : cntT (l.set v true) = cntT l + 1 := by
  obtain ⟨hv, he⟩ := List.getElem?_eq_some_iff.1 h
  induction l generalizing v with
  | nil => simp at hv
  | cons x l ih =>
    cases v with
    | zero => simp at he; subst he; simp [cntT]
    | succ v =>
      have hv2 : v < l.length := by simpa using hv
      have := ih (by simpa using h) hv2 (by simpa using he)
      unfold cntT at *
      simp only [List.set_cons_succ, List.countP_cons, this]; omega
open Go.RT
open Classical in
/-- what the search knows -/
structure Bfs (g : Gr) (a : Int) (out : List Bool) (l : List Int) (i : Nat) : Prop where
  len : out.length = (g.r + g.n).toNat
  from_ : out[a.toNat]? = some true
  i_le : i ≤ l.length
  mem : ∀ x ∈ l, 0 ≤ x ∧ x < g.r + g.n ∧ out[x.toNat]? = some true ∧ Rch g.es a x
  all : ∀ v : Nat, out[v]? = some true → (v : Int) ∈ l
  cnt : l.length = cntT out
  done : ∀ x ∈ l.take i, ∀ e ∈ g.es, e.f = x → out[e.t.toNat]? = some true
theorem set_true {out : List Bool} {v w : Nat} (h : out[w]? = some true) : (out.set v true)[w]? = some true := by
  rw [List.getElem?_set]
  obtain ⟨h1, _⟩ := List.getElem?_eq_some_iff.1 h
  split
  · rename_i e; subst e; rw [if_pos h1]
  · exact h
theorem Bfs.next {g : Gr} {a : Int} {out : List Bool} {l : List Int} {i : Nat} (h : Bfs g a out l i) {x : Int} (hx : l[i]? = some x) (hd : ∀ y ∈ nextI x g.es, out[y.toNat]? = some true) : Bfs g a out l (i + 1) := by
  obtain ⟨hi, hxe⟩ := List.getElem?_eq_some_iff.1 hx
  refine ⟨h.len, h.from_, hi, h.mem, h.all, h.cnt, fun y hy e he1 he2 => ?_⟩
  rw [List.take_succ_eq_append_getElem hi] at hy
  rcases List.mem_append.1 hy with hy | hy
  · exact h.done y hy e he1 he2
  · have : y = x := by simpa [hxe] using hy
    exact hd e.t (((nextI_spec x g.es).2 e.t).2 ⟨e, he1, by omega, rfl⟩)
theorem Bfs.start {g : Gr} {k : Nat} (hk : (k : Int) < g.r + g.n) : Bfs g k ((List.replicate (g.r + g.n).toNat false).set k true) [(k : Int)] 0 := by
  have hf : (List.replicate (g.r + g.n).toNat false)[k]? = some false := by rw [List.getElem?_replicate, if_pos (by omega)]
  have h0 : cntT (List.replicate (g.r + g.n).toNat false) = 0 := by
    unfold cntT; rw [List.countP_eq_zero]; intro b hb; rw [List.eq_of_mem_replicate hb]; simp
  have hkk : ((List.replicate (g.r + g.n).toNat false).set k true)[k]? = some true := by rw [List.getElem?_set, if_pos rfl, if_pos (by simp; omega)]
  refine ⟨by simp, by simpa using hkk, by simp, fun x hx => ?_, fun v hv => ?_, by rw [cntT_set hf, h0]; rfl, fun x hx => by simp at hx⟩
  · have : x = k := by simpa using hx
    subst this
    exact ⟨by omega, hk, by simpa using hkk, .here⟩
  · rw [List.getElem?_set] at hv
    split at hv
    · rename_i e; subst e; simp
    · rw [List.getElem?_replicate] at hv; split at hv <;> simp at hv
open Go Go.RT
/- walks and distances -/
structure VG (es : List Edg) (r n : Nat) : Prop where
  f : ∀ e ∈ es, 0 ≤ e.f ∧ e.f < n
  t : ∀ e ∈ es, 0 ≤ e.t ∧ e.t < n
  c : ∀ e ∈ es, 0 ≤ e.c ∧ e.c ≤ 65535
  net : ∀ e ∈ es, (r : Int) ≤ e.f → e.t < r ∧ e.c = 0
  rt : ∀ e ∈ es, e.f < (r : Int) → 1 ≤ e.c
  ne : ∀ e ∈ es, e.f ≠ e.t
  asc : AscK es
  le : r ≤ n
  n128 : n ≤ 128
  e1024 : es.length ≤ 1024
inductive Wk (es : List Edg) (a : Nat) : Nat → Int → Prop where
  | nil : Wk es a a 0
  | snoc {e : Edg} {c : Int} : Wk es a e.f.toNat c → e ∈ es → Wk es a e.t.toNat (c + e.c)
theorem Wk.app {es : List Edg} {a b v : Nat} {c d : Int} (h : Wk es a b c) (g : Wk es b v d) : Wk es a v (c + d) := by
  induction g with
  | nil => simpa using h
  | snoc g he ih => have := Wk.snoc ih he; rwa [Int.add_assoc] at this
theorem Wk.nn {es : List Edg} {r n : Nat} (vg : VG es r n) {a v : Nat} {c : Int} (h : Wk es a v c) : 0 ≤ c := by
  induction h with
  | nil => exact Int.le_refl _
  | snoc h he ih => have := (vg.c _ he).1; omega
theorem Wk.lt {es : List Edg} {r n : Nat} (vg : VG es r n) {a v : Nat} {c : Int} (h : Wk es a v c) (ha : a < n) : v < n := by
  cases h with
  | nil => exact ha
  | snoc h he => have := (vg.t _ he); omega
theorem Wk.mono {es es' : List Edg} (hs : ∀ e ∈ es, e ∈ es') {a v : Nat} {c : Int} (h : Wk es a v c) : Wk es' a v c := by
  induction h with
  | nil => exact .nil
  | snoc h he ih => exact .snoc ih (hs _ he)
def IsD (es : List Edg) (a v : Nat) (d : Int) : Prop := (d = -1 ∧ ∀ c, ¬ Wk es a v c) ∨ (Wk es a v d ∧ ∀ c, Wk es a v c → d ≤ c)
theorem IsD.uniq {es : List Edg} {a v : Nat} {d d' : Int} (h : IsD es a v d) (g : IsD es a v d') : d = d' := by
  rcases h with ⟨h1, h2⟩ | ⟨h1, h2⟩ <;> rcases g with ⟨g1, g2⟩ | ⟨g1, g2⟩
  · omega
  · exact absurd g1 (h2 _)
  · exact absurd h1 (g2 _)
  · have := h2 _ g1; have := g2 _ h1; omega
theorem nodup_len : ∀ (n : Nat) (l : List Nat), l.Nodup → (∀ x ∈ l, x < n) → l.length ≤ n
  | 0, l, _, h => by cases l with
    | nil => simp
    | cons x l => have := h x (by simp); omega
  | n + 1, l, hd, h => by
    by_cases hm : n ∈ l
    · have := nodup_len n (l.erase n) (hd.erase n) (fun x hx => by
        have h1 := h x (List.mem_of_mem_erase hx)
        have h2 : x ≠ n := fun e => by rw [e] at hx; exact (List.Nodup.not_mem_erase hd) hx
        omega)
      rw [List.length_erase_of_mem hm] at this; omega
    · have := nodup_len n l hd (fun x hx => by
        have h1 := h x hx
        have h2 : x ≠ n := fun e => hm (by rw [← e]; exact hx)
        omega)
      omega
theorem HI.small {h : Hq} (o : HI h) : h.it.length ≤ h.pl.length := by
  refine nodup_len _ _ ?_ o.ok.lt
  rw [List.Nodup, List.pairwise_iff_getElem]
  intro i j hi hj hij e
  have e1 : ∀ k (hk : k < h.it.length), h.item k = h.it[k] := fun k hk => by unfold Hq.item; rw [List.getD_eq_getElem?_getD, List.getElem?_eq_getElem hk]; rfl
  have h1 := o.inv i hi
  have h2 := o.inv j hj
  rw [e1 i hi] at h1; rw [e1 j hj] at h2
  rw [e, h2] at h1; omega
abbrev gt0 (l : List Int) (v : Nat) : Int := l.getD v 0
def cntP (l : List Int) : Nat := l.countP fun x => decide (0 ≤ x)
theorem cntP_cons (x : Int) (l : List Int) : cntP (x :: l) = cntP l + if 0 ≤ x then 1 else 0 := by
  unfold cntP; rw [List.countP_cons]; simp
theorem cntP_set {l : List Int} {v : Nat} {k : Int} (hv : v < l.length) (hn : gt0 l v < 0) (hk : 0 ≤ k) : cntP (l.set v k) = cntP l + 1 := by
  induction l generalizing v with
  | nil => simp at hv
  | cons x l ih =>
    cases v with
    | zero =>
      have h1 : x < 0 := by simpa [gt0] using hn
      rw [List.set_cons_zero, cntP_cons, cntP_cons, if_pos hk, if_neg (by omega)]
    | succ v =>
      rw [List.set_cons_succ, cntP_cons, cntP_cons, ih (by simpa using hv) (by simpa [gt0] using hn)]; omega
theorem cntP_le (l : List Int) : cntP l ≤ l.length := List.countP_le_length
structure DJ (es : List Edg) (n : Nat) (a : Nat) (dist : List Int) (h : Hq) (todo : List Edg) : Prop where
  hg : HG h
  hl : h.pl.length = n
  dl : dist.length = n
  fin : ∀ v, v < n → 0 ≤ gt0 dist v → Wk es a v (gt0 dist v) ∧ ∀ c, Wk es a v c → gt0 dist v ≤ c
  neg : ∀ v, v < n → gt0 dist v < 0 → gt0 dist v = -1
  q : ∀ v, v < n → 0 ≤ h.place v → gt0 dist v < 0 ∧ Wk es a v (h.key v) ∧ h.key v ≤ 65535 * cntP dist
  rel : ∀ e ∈ es, 0 ≤ gt0 dist e.f.toNat → e ∈ todo ∨ 0 ≤ gt0 dist e.t.toNat ∨ (0 ≤ h.place e.t.toNat ∧ h.key e.t.toNat ≤ gt0 dist e.f.toNat + e.c)
  root : 0 ≤ gt0 dist a ∨ (0 ≤ h.place a ∧ h.key a ≤ 0)
theorem DJ.low {es : List Edg} {r n a : Nat} (vg : VG es r n) (ha : a < n) {dist : List Int} {h : Hq} (o : DJ es n a dist h []) {v : Nat} {c : Int} (w : Wk es a v c) : 0 ≤ gt0 dist v ∨ ∃ y, y < n ∧ 0 ≤ h.place y ∧ h.key y ≤ c := by
  induction w with
  | nil => rcases o.root with h1 | ⟨h1, h2⟩
           · exact .inl h1
           · exact .inr ⟨a, ha, h1, h2⟩
  | @snoc e c w he ih =>
    have hc := vg.c _ he
    rcases ih with h1 | ⟨y, y1, y2, y3⟩
    · have hfl : e.f.toNat < n := w.lt vg ha
      have h2 := (o.fin _ hfl h1).2 _ w
      rcases o.rel e he h1 with h3 | h3 | ⟨h3, h4⟩
      · cases h3
      · exact .inl h3
      · exact .inr ⟨_, by have := vg.t _ he; omega, h3, by omega⟩
    · exact .inr ⟨y, y1, y2, by omega⟩
theorem key_set {h : Hq} {v : Nat} {k : Int} (hv : v < h.ky.length) {h' : Hq} (e : h'.ky = h.ky.set v k) (w : Nat) : h'.key w = if v = w then k else h.key w := by
  unfold Hq.key; rw [e, getD_set _ _ _ _ _ hv]
theorem DJ.pop {es : List Edg} {r n a : Nat} (vg : VG es r n) (ha : a < n) {dist : List Int} {h : Hq} (o : DJ es n a dist h []) (hne : 0 < h.it.length) :
    h.item 0 < n ∧ gt0 dist (h.item 0) < 0 ∧ 0 ≤ h.key (h.item 0) ∧ h.key (h.item 0) ≤ 65535 * cntP dist ∧ cntP (dist.set (h.item 0) (h.key (h.item 0))) = cntP dist + 1 ∧
    DJ es n a (dist.set (h.item 0) (h.key (h.item 0))) (dropH h (h.item 0)) (es.filter fun e => decide (e.f = (h.item 0 : Nat))) := by
  have hx : h.item 0 < n := by rw [← o.hl]; exact o.hg.hi.ok.item hne
  have hp : 0 ≤ h.place (h.item 0) := by rw [o.hg.hi.inv 0 hne]; decide
  have hmin := fun w hw hp => o.hg.min (w := w) (by rw [o.hl]; exact hw) hp
  obtain ⟨d1, d2, d3, d4, d5⟩ := o.hg.drop (by rw [o.hl]; exact hx) hp
  obtain ⟨q1, q2, q3⟩ := o.q _ hx hp
  have hk0 := q2.nn vg
  have hbest : ∀ c, Wk es a (h.item 0) c → h.key (h.item 0) ≤ c := fun c w => by
    rcases o.low vg ha w with h1 | ⟨y, y1, y2, y3⟩
    · omega
    · have := hmin y y1 y2; unfold le2 Hq.kk at this; simp only at this; omega
  unfold Hq.kk at hmin
  generalize h.item 0 = x at *
  generalize h.key x = k at *
  have hkey : ∀ w, (dropH h x).key w = h.key w := fun w => by unfold Hq.key; rw [d4]
  have hget : ∀ v, gt0 (dist.set x k) v = if x = v then k else gt0 dist v := fun v => getD_set _ _ _ _ _ (by rw [o.dl]; exact hx)
  have hcnt := cntP_set (l := dist) (k := k) (by rw [o.dl]; exact hx) q1 hk0
  refine ⟨hx, q1, hk0, q3, hcnt, d1, by rw [d3, o.hl], by rw [List.length_set, o.dl], fun v hv h0 => ?_, fun v hv h0 => ?_, fun v hv h0 => ?_, fun e he h0 => ?_, ?_⟩
  · rw [hget] at h0 ⊢
    by_cases e : x = v
    · subst e; rw [if_pos rfl]; exact ⟨q2, hbest⟩
    · rw [if_neg e] at h0 ⊢; exact o.fin v hv h0
  · rw [hget] at h0 ⊢
    by_cases e : x = v
    · rw [if_pos e] at h0; omega
    · rw [if_neg e] at h0 ⊢; exact o.neg v hv h0
  · obtain ⟨e1, e2⟩ := (d5 v).1 h0
    obtain ⟨s1, s2, s3⟩ := o.q v hv e2
    rw [hget, if_neg (fun e => e1 e.symm), hkey, hcnt]
    exact ⟨s1, s2, by omega⟩
  · rw [hget] at h0
    have hef := vg.f e he
    by_cases e1 : x = e.f.toNat
    · refine .inl (List.mem_filter.2 ⟨he, ?_⟩)
      rw [decide_eq_true_eq]; omega
    · rw [if_neg e1] at h0
      rcases o.rel e he h0 with h3 | h3 | ⟨h3, h4⟩
      · cases h3
      · refine .inr (.inl ?_)
        rw [hget]; split
        · exact hk0
        · exact h3
      · by_cases e2 : x = e.t.toNat
        · refine .inr (.inl ?_)
          rw [hget, if_pos e2]; exact hk0
        · refine .inr (.inr ⟨(d5 _).2 ⟨fun e => e2 e.symm, h3⟩, ?_⟩)
          rw [hkey, hget, if_neg e1]; exact h4
  · by_cases e2 : x = a
    · rw [hget, if_pos e2]; exact .inl hk0
    · rw [hget, if_neg e2, hkey]
      rcases o.root with h1 | ⟨h1, h2⟩
      · exact .inl h1
      · exact .inr ⟨(d5 _).2 ⟨fun e => e2 e.symm, h1⟩, h2⟩
theorem DJ.skip {es : List Edg} {r n a : Nat} (vg : VG es r n) {dist : List Int} {h : Hq} {e : Edg} {todo : List Edg} (o : DJ es n a dist h (e :: todo))
    (hc : ¬ (gt0 dist e.t.toNat < 0 ∧ (h.place e.t.toNat < 0 ∨ gt0 dist e.f.toNat + e.c < h.key e.t.toNat))) : DJ es n a dist h todo := by
  refine ⟨o.hg, o.hl, o.dl, o.fin, o.neg, o.q, fun e' he' h0 => ?_, o.root⟩
  rcases o.rel e' he' h0 with h3 | h3
  · rcases List.mem_cons.1 h3 with rfl | h3
    · refine .inr ?_
      by_cases h4 : 0 ≤ gt0 dist e'.t.toNat
      · exact .inl h4
      · refine .inr ⟨?_, ?_⟩
        · exact Int.not_lt.1 fun h5 => hc ⟨by omega, .inl h5⟩
        · exact Int.not_lt.1 fun h5 => hc ⟨by omega, .inr h5⟩
    · exact .inl h3
  · exact .inr h3
theorem DJ.put {es : List Edg} {r n a : Nat} (vg : VG es r n) {dist : List Int} {h : Hq} {e : Edg} {todo : List Edg} (he : e ∈ es) (o : DJ es n a dist h (e :: todo)) (hf : 0 ≤ gt0 dist e.f.toNat) (hb : gt0 dist e.f.toNat + 65535 ≤ 65535 * cntP dist)
    (hc : gt0 dist e.t.toNat < 0 ∧ (h.place e.t.toNat < 0 ∨ gt0 dist e.f.toNat + e.c < h.key e.t.toNat)) : DJ es n a dist (setH h e.t.toNat (gt0 dist e.f.toNat + e.c)) todo := by
  have hef := vg.f e he
  have het := vg.t e he
  have hec := vg.c e he
  have htl : e.t.toNat < h.pl.length := by rw [o.hl]; omega
  obtain ⟨s1, s2, s3, s4⟩ := o.hg.set htl (gt0 dist e.f.toNat + e.c)
  have hkey := key_set (by rw [← o.hg.hi.ok.len]; exact htl) s3
  have hw : Wk es a e.t.toNat (gt0 dist e.f.toNat + e.c) := .snoc (o.fin _ (by omega) hf).1 he
  refine ⟨s1, by rw [s2, o.hl], o.dl, o.fin, o.neg, fun v hv h0 => ?_, fun e' he' h0 => ?_, ?_⟩
  · rw [hkey]
    by_cases e1 : e.t.toNat = v
    · rw [if_pos e1]; subst e1; exact ⟨hc.1, hw, by omega⟩
    · rw [if_neg e1]
      rcases (s4 v).1 h0 with h1 | h1
      · exact absurd h1.symm e1
      · exact o.q v hv h1
  · rcases o.rel e' he' h0 with h3 | h3 | ⟨h3, h4⟩
    · rcases List.mem_cons.1 h3 with rfl | h3
      · refine .inr (.inr ⟨(s4 _).2 (.inl rfl), ?_⟩)
        rw [hkey, if_pos rfl]; exact Int.le_refl _
      · exact .inl h3
    · exact .inr (.inl h3)
    · refine .inr (.inr ⟨(s4 _).2 (.inr h3), ?_⟩)
      rw [hkey]
      by_cases e1 : e.t.toNat = e'.t.toNat
      · rw [if_pos e1]
        rcases hc.2 with h5 | h5
        · rw [← e1] at h3; omega
        · rw [← e1] at h4; omega
      · rw [if_neg e1]; exact h4
  · rcases o.root with h1 | ⟨h1, h2⟩
    · exact .inl h1
    · refine .inr ⟨(s4 _).2 (.inr h1), ?_⟩
      rw [hkey]
      by_cases e1 : e.t.toNat = a
      · rw [if_pos e1]
        rcases hc.2 with h5 | h5
        · rw [← e1] at h1; omega
        · rw [← e1] at h2; omega
      · rw [if_neg e1]; exact h2
theorem DJ.done {es : List Edg} {r n a : Nat} (vg : VG es r n) (ha : a < n) {dist : List Int} {h : Hq} (o : DJ es n a dist h []) (he : h.it = []) {v : Nat} (hv : v < n) : IsD es a v (gt0 dist v) := by
  by_cases h0 : 0 ≤ gt0 dist v
  · exact .inr (o.fin v hv h0)
  · refine .inl ⟨o.neg v hv (by omega), fun c w => ?_⟩
    rcases o.low vg ha w with h1 | ⟨y, y1, y2, y3⟩
    · exact h0 h1
    · have := (o.hg.hi.at_ y (by rw [o.hl]; exact y1) y2).1
      rw [he] at this; simp at this; omega
theorem checkI_vg {g : Gr} (h : checkI g = 0) : VG g.es g.r.toNat (g.r + g.n).toNat ∧ 0 ≤ g.r ∧ 0 ≤ g.n := by
  obtain ⟨⟨h1, h2, h3⟩, h4, h5⟩ := checkI_ok h
  have hal := chkL_alw _ _ h5
  have hn := fun e he => alwI_node (hal e he)
  have hx : ∀ e ∈ g.es, ¬ (e.f = e.t ∨ (g.r ≤ e.f ∧ g.r ≤ e.t) ∨ (g.r ≤ e.f ∧ e.c ≠ 0) ∨ (e.f < g.r ∧ (e.c < 1 ∨ 65535 < e.c))) := fun e he hh => by
    have h6 := hal e he
    unfold alwI at h6
    split at h6
    · cases h6
    · first | (rw [if_pos hh] at h6; cases h6) | cases h6
  have hasc : ∀ (l : List Edg) (p : Option Edg), chkL g p l = 0 → AscK l ∧ ∀ q, p = some q → ∀ e ∈ l, ltK q e := by
    intro l
    induction l with
    | nil => exact fun p _ => ⟨.nil, fun q _ e he => by cases he⟩
    | cons x l ih =>
      intro p hp
      simp only [chkL] at hp
      split at hp
      · next h7 => exact absurd hp h7
      · split at hp
        · cases hp
        · next h8 =>
          obtain ⟨i1, i2⟩ := ih _ hp
          refine ⟨List.pairwise_cons.2 ⟨fun y hy => i2 x rfl y hy, i1⟩, fun q hq e he => ?_⟩
          subst hq
          have h9 : ltK q x := by rw [← ltK_bef]; simpa [badP] using h8
          rcases List.mem_cons.1 he with rfl | he
          · exact h9
          · have := i2 x rfl e he; unfold ltK at *; omega
  refine ⟨⟨fun e he => ?_, fun e he => ?_, fun e he => ?_, fun e he hr => ?_, fun e he hr => ?_, fun e he hr => ?_, (hasc _ _ h5).1, by omega, by omega, h4⟩, h1, h2⟩
  · have := hn e he; omega
  · have := hn e he; omega
  · have := hx e he; omega
  · have := hx e he; omega
  · have := hx e he; omega
  · have := hx e he; omega
open Go Go.RT
def newH (n : Nat) : Hq := ⟨[], List.replicate n (-1), List.replicate n 0⟩
def fillN (n k : Nat) : List Int := List.replicate k (-1) ++ List.replicate (n - k) 0
theorem fillN_len (n k : Nat) (h : k ≤ n) : (fillN n k).length = n := by simp [fillN]; omega
theorem fillN_set (n k : Nat) (h : k < n) : (fillN n k).set k (-1) = fillN n (k + 1) := by
  unfold fillN
  rw [List.set_append_right _ _ (by simp), List.length_replicate, Nat.sub_self, show n - k = (n - (k + 1)) + 1 by omega, List.replicate_succ, List.set_cons_zero, List.replicate_succ', List.append_assoc]; rfl
theorem fillN_0 (n : Nat) : fillN n 0 = List.replicate n 0 := by simp [fillN]
theorem fillN_n (n : Nat) : fillN n n = List.replicate n (-1) := by simp [fillN]
theorem getD_rep {α : Type} (n v : Nat) (x d : α) (h : v < n) : (List.replicate n x).getD v d = x := by
  rw [List.getD_eq_getElem?_getD, List.getElem?_replicate, if_pos h]; rfl
theorem HG.new (n : Nat) : HG (newH n) :=
  ⟨⟨⟨by simp [newH], fun v h => by simp [newH] at h⟩, fun v hv h0 => by
    have : (newH n).place v = -1 := getD_rep _ _ _ _ (by simpa [newH] using hv)
    rw [this] at h0; omega, fun i hi => by simp [newH] at hi⟩, fun j _ hj => by simp [newH] at hj⟩
theorem DJ.start {es : List Edg} {r n a : Nat} (vg : VG es r n) (ha : a < n) : DJ es n a (List.replicate n (-1)) (setH (newH n) a 0) [] ∧ cntP (List.replicate n (-1)) = 0 := by
  obtain ⟨s1, s2, s3, s4⟩ := (HG.new n).set (v := a) (by simpa [newH] using ha) 0
  have hg : ∀ v, v < n → gt0 (List.replicate n (-1)) v = -1 := fun v hv => getD_rep _ _ _ _ hv
  have hkey := key_set (h := newH n) (v := a) (by simpa [newH] using ha) s3
  have hp : ∀ v, v < n → (newH n).place v = -1 := fun v hv => getD_rep _ _ _ _ hv
  have hc : cntP (List.replicate n (-1)) = 0 := by unfold cntP; rw [List.countP_replicate]; simp
  refine ⟨⟨s1, by rw [s2]; simp [newH], by simp, fun v hv h0 => ?_, fun v hv _ => hg v hv, fun v hv h0 => ?_, fun e he h0 => ?_, .inr ⟨(s4 a).2 (.inl rfl), ?_⟩⟩, hc⟩
  · rw [hg v hv] at h0; omega
  · rw [hg v hv, hc]
    rcases (s4 v).1 h0 with rfl | h1
    · rw [hkey, if_pos rfl]; exact ⟨by omega, .nil, by omega⟩
    · rw [hp v hv] at h1; omega
  · have := vg.f e he
    rw [hg _ (by omega)] at h0; omega
  · rw [hkey, if_pos rfl]; exact Int.le_refl _
/- rows of own slices -/
theorem rng_len {β : Type} (n : Nat) (f : Nat → β) : ((List.range n).map f).length = n := by simp
theorem rng_get {β : Type} (n : Nat) (f : Nat → β) (v : Nat) (h : v < n) : ((List.range n).map f)[v]? = some (f v) := by simp [h]
theorem rng_set {β : Type} (n : Nat) (f f' : Nat → β) (v : Nat) (x : β) (hx : f' v = x) (h : ∀ w, w ≠ v → f' w = f w) : ((List.range n).map f).set v x = (List.range n).map f' := by
  apply List.ext_getElem?
  intro i
  rw [List.getElem?_set]
  by_cases e : v = i
  · subst e
    by_cases hv : v < n
    · simp [hv, hx]
    · simp [hv]
  · rw [if_neg e]
    by_cases hi : i < n
    · simp [hi, h i (fun e2 => e e2.symm)]
    · simp [hi]
theorem rng_const {β : Type} (n : Nat) (x : β) : List.replicate n x = (List.range n).map fun _ => x := by
  apply List.ext_getElem?
  intro i
  by_cases hi : i < n
  · simp [hi]
  · simp [hi]
def outE (es : List Edg) (v : Nat) : List Edg := es.filter fun e => decide (e.f = (v : Nat))
def rowsE (es : List Edg) (n : Nat) : List (List (List FV)) := (List.range n).map fun v => (outE es v).map encE
theorem outE_succ {es : List Edg} {i : Nat} (h : i < es.length) (v : Nat) : outE (es.take (i + 1)) v = outE (es.take i) v ++ if es[i].f = (v : Nat) then [es[i]] else [] := by
  unfold outE
  rw [← List.take_append_getElem h, List.filter_append]
  congr 1
  by_cases e : es[i].f = (v : Nat)
  · simp [e]
  · simp [e]
theorem rowsE_succ {es : List Edg} {i n : Nat} (h : i < es.length) (h0 : 0 ≤ es[i].f) : (rowsE (es.take i) n).set es[i].f.toNat ((outE (es.take i) es[i].f.toNat).map encE ++ [encE es[i]]) = rowsE (es.take (i + 1)) n := by
  refine rng_set n _ _ _ _ ?_ fun w hw => ?_
  · rw [outE_succ h, if_pos (by omega), List.map_append]; rfl
  · rw [outE_succ h, if_neg (by omega), List.append_nil]
theorem rowsE_get (es : List Edg) {n v : Nat} (h : v < n) : (rowsE es n)[v]? = some ((outE es v).map encE) := rng_get n _ v h
theorem rowsE_nil (n : Nat) : rowsE [] n = List.replicate n [] := (rng_const n _).symm
theorem rowsE_len (es : List Edg) (n : Nat) : (rowsE es n).length = n := rng_len n _
end Go.Pl
namespace Go.Proofs.YtcillieggklaaaaGreat
open Go Go.RT Go.Proofs Go.Pl
set_option linter.all false
set_option maxRecDepth 20000
set_option maxHeartbeats 4000000
abbrev HN (n k : Nat) : Hp := [(0, some (.refs 3 [[.sl 1 1 0 0, .sl 2 1 0 n, .sl 3 1 0 n]])), (1, OT []), (2, OI (fillN n k)), (3, OI (List.replicate n 0))]
theorem new_c (n : Nat) (hn : n ≤ 65536) : Meets Tryz.prog 56 [IV .i64 n] 0 [] (.ptr 0 3 0 0) (HH (newH n)) 4 := by
 refine Meets.intro Tryz.func56 rfl (Nat.le_of_ble_eq_true rfl) fun C hC => ?_
 simp only [List.map, argEnv, Nat.reduceAdd]
 refine nK2 ?_
 refine zb ?_
 refine ze ?_
 refine zc ?_
 refine nK2 ?_
 refine zb ?_
 refine za ?_
 refine rpZ 6 rfl (op_max rfl (oT rfl) oC) ?_
 refine rpZ 7 rfl (op_min rfl (oT rfl) oC) ?_
 refine zd ?_
 refine zc ?_
 refine nK2 ?_
 refine Next.weak [] [] (by rfl) (keepsN hC _ rfl) (G' := [(0, IV .i64 n)]) (H' := []) (by exact ⟨⟨_, rfl, .inl ⟨ivEq (by omega), rfl⟩⟩, trivial⟩) trivial wN ?_
 refine nK2 ?_
 refine draw_tree2 [(3, .ptr 0 3 0 0)] (HN n 0) 4 mixed (fun hK => ?_) ?_
 ·skip
  refine AnyN.two 0 2 (by kernel_rfl) (StepN.mk rfl (op_move rfl (oT rfl) _ _) rfl rfl (by kernel_rfl) ?_) (StepN.mk rfl (op_move rfl (oT rfl) _ _) rfl rfl (by kernel_rfl) ?_)
  ·skip
   refine AnyN.two 1 2 (by kernel_rfl) (StepN.mk rfl (op_make (l := n) (c := n) rfl (oT rfl) (oT rfl) rfl rfl rfl rfl (by intro _; refine ⟨rfl, rfl, ?_⟩; omega)) rfl rfl (by kernel_rfl) ?_) (StepN.mk rfl (op_move rfl (oT rfl) _ _) rfl rfl (by kernel_rfl) ?_)
   ·skip
    refine AnyN.one 2 (by kernel_rfl) (StepN.mk rfl (op_move rfl (oT rfl) _ _) rfl rfl (by kernel_rfl) ?_)
    refine AnyN.one 3 (by kernel_rfl) (StepN.mk rfl (op_make (l := n) (c := n) rfl (oT rfl) (oT rfl) rfl rfl rfl rfl (by intro _; refine ⟨rfl, rfl, ?_⟩; omega)) rfl rfl (by kernel_rfl) ?_)
    refine AnyN.one 4 (by kernel_rfl) (StepN.mk rfl (op_buildP rfl rfl rfl rfl (FillP.cons _ _ _ _ _ _ _ _ _ _ (by rfl) (oT rfl) tP (by rfl) tR (FillP.cons _ _ _ _ _ _ _ _ _ _ (by rfl) (oT rfl) tP (by rfl) tR (FillP.nil _))) _ _) rfl rfl (by kernel_rfl) ?_)
    refine AnyN.one 5 (by kernel_rfl) (StepN.mk rfl (op_box_refs rfl (oT rfl) tP rfl) rfl rfl (by kernel_rfl) ?_)
    refine AnyN.one 6 (by kernel_rfl) (StepN.mk rfl (op_assign rfl (oT rfl) _ _) rfl rfl (by kernel_rfl) ?_)
    refine AnyN.nil rfl ?_
    refine Next.adoptCell 2 0 0 1 rfl rfl rfl rfl (Next.weak [2, 3, 0, 1] [] (by rfl) (keepsN hC _ rfl) wG (by exact ⟨wS, ⟨wS, ⟨ent_same rfl rfl (flEq rfl (by rw [fillN_0, List.map_replicate]; rfl)) trivial, ⟨ent_same rfl rfl (flEq rfl (by rw [List.map_replicate]; rfl)) trivial, trivial⟩⟩⟩⟩) wN hK)
   skip
   refine AnyN.two 1 3 (by kernel_rfl) (StepN.mk rfl (op_make (l := n) (c := n) rfl (oT rfl) (oT rfl) rfl rfl rfl rfl (by intro _; refine ⟨rfl, rfl, ?_⟩; omega)) rfl rfl (by kernel_rfl) ?_) (StepN.mk rfl (op_make (l := n) (c := n) rfl (oT rfl) (oT rfl) rfl rfl rfl rfl (by intro _; refine ⟨rfl, rfl, ?_⟩; omega)) rfl rfl (by kernel_rfl) ?_)
   ·skip
    refine AnyN.one 3 (by kernel_rfl) (StepN.mk rfl (op_make (l := n) (c := n) rfl (oT rfl) (oT rfl) rfl rfl rfl rfl (by intro _; refine ⟨rfl, rfl, ?_⟩; omega)) rfl rfl (by kernel_rfl) ?_)
    refine AnyN.one 4 (by kernel_rfl) (StepN.mk rfl (op_buildP rfl rfl rfl rfl (FillP.cons _ _ _ _ _ _ _ _ _ _ (by rfl) (oT rfl) tP (by rfl) tR (FillP.cons _ _ _ _ _ _ _ _ _ _ (by rfl) (oT rfl) tP (by rfl) tR (FillP.nil _))) _ _) rfl rfl (by kernel_rfl) ?_)
    refine AnyN.one 5 (by kernel_rfl) (StepN.mk rfl (op_box_refs rfl (oT rfl) tP rfl) rfl rfl (by kernel_rfl) ?_)
    refine AnyN.one 6 (by kernel_rfl) (StepN.mk rfl (op_assign rfl (oT rfl) _ _) rfl rfl (by kernel_rfl) ?_)
    refine AnyN.nil rfl ?_
    refine Next.adoptCell 2 0 0 1 rfl rfl rfl rfl (Next.weak [2, 3, 0, 1] [] (by rfl) (keepsN hC _ rfl) wG (by exact ⟨wS, ⟨wS, ⟨ent_same rfl rfl (flEq rfl (by rw [fillN_0, List.map_replicate]; rfl)) trivial, ⟨ent_same rfl rfl (flEq rfl (by rw [List.map_replicate]; rfl)) trivial, trivial⟩⟩⟩⟩) wN hK)
   skip
   refine AnyN.one 1 (by kernel_rfl) (StepN.mk rfl (op_make (l := n) (c := n) rfl (oT rfl) (oT rfl) rfl rfl rfl rfl (by intro _; refine ⟨rfl, rfl, ?_⟩; omega)) rfl rfl (by kernel_rfl) ?_)
   refine AnyN.one 4 (by kernel_rfl) (StepN.mk rfl (op_buildP rfl rfl rfl rfl (FillP.cons _ _ _ _ _ _ _ _ _ _ (by rfl) (oT rfl) tP (by rfl) tR (FillP.cons _ _ _ _ _ _ _ _ _ _ (by rfl) (oT rfl) tP (by rfl) tR (FillP.nil _))) _ _) rfl rfl (by kernel_rfl) ?_)
   refine AnyN.one 5 (by kernel_rfl) (StepN.mk rfl (op_box_refs rfl (oT rfl) tP rfl) rfl rfl (by kernel_rfl) ?_)
   refine AnyN.one 6 (by kernel_rfl) (StepN.mk rfl (op_assign rfl (oT rfl) _ _) rfl rfl (by kernel_rfl) ?_)
   refine AnyN.nil rfl ?_
   refine Next.adoptCell 2 0 0 1 rfl rfl rfl rfl (Next.weak [2, 3, 1, 0] [] (by rfl) (keepsN hC _ rfl) wG (by exact ⟨wS, ⟨wS, ⟨ent_same rfl rfl (flEq rfl (by rw [fillN_0, List.map_replicate]; rfl)) trivial, ⟨ent_same rfl rfl (flEq rfl (by rw [List.map_replicate]; rfl)) trivial, trivial⟩⟩⟩⟩) wN hK)
  skip
  refine AnyN.two 0 3 (by kernel_rfl) (StepN.mk rfl (op_move rfl (oT rfl) _ _) rfl rfl (by kernel_rfl) ?_) (StepN.mk rfl (op_make (l := n) (c := n) rfl (oT rfl) (oT rfl) rfl rfl rfl rfl (by intro _; refine ⟨rfl, rfl, ?_⟩; omega)) rfl rfl (by kernel_rfl) ?_)
  ·skip
   refine AnyN.two 1 3 (by kernel_rfl) (StepN.mk rfl (op_make (l := n) (c := n) rfl (oT rfl) (oT rfl) rfl rfl rfl rfl (by intro _; refine ⟨rfl, rfl, ?_⟩; omega)) rfl rfl (by kernel_rfl) ?_) (StepN.mk rfl (op_make (l := n) (c := n) rfl (oT rfl) (oT rfl) rfl rfl rfl rfl (by intro _; refine ⟨rfl, rfl, ?_⟩; omega)) rfl rfl (by kernel_rfl) ?_)
   ·skip
    refine AnyN.one 3 (by kernel_rfl) (StepN.mk rfl (op_make (l := n) (c := n) rfl (oT rfl) (oT rfl) rfl rfl rfl rfl (by intro _; refine ⟨rfl, rfl, ?_⟩; omega)) rfl rfl (by kernel_rfl) ?_)
    refine AnyN.one 4 (by kernel_rfl) (StepN.mk rfl (op_buildP rfl rfl rfl rfl (FillP.cons _ _ _ _ _ _ _ _ _ _ (by rfl) (oT rfl) tP (by rfl) tR (FillP.cons _ _ _ _ _ _ _ _ _ _ (by rfl) (oT rfl) tP (by rfl) tR (FillP.nil _))) _ _) rfl rfl (by kernel_rfl) ?_)
    refine AnyN.one 5 (by kernel_rfl) (StepN.mk rfl (op_box_refs rfl (oT rfl) tP rfl) rfl rfl (by kernel_rfl) ?_)
    refine AnyN.one 6 (by kernel_rfl) (StepN.mk rfl (op_assign rfl (oT rfl) _ _) rfl rfl (by kernel_rfl) ?_)
    refine AnyN.nil rfl ?_
    refine Next.adoptCell 2 0 0 1 rfl rfl rfl rfl (Next.weak [2, 3, 0, 1] [] (by rfl) (keepsN hC _ rfl) wG (by exact ⟨wS, ⟨wS, ⟨ent_same rfl rfl (flEq rfl (by rw [fillN_0, List.map_replicate]; rfl)) trivial, ⟨ent_same rfl rfl (flEq rfl (by rw [List.map_replicate]; rfl)) trivial, trivial⟩⟩⟩⟩) wN hK)
   skip
   refine AnyN.one 1 (by kernel_rfl) (StepN.mk rfl (op_make (l := n) (c := n) rfl (oT rfl) (oT rfl) rfl rfl rfl rfl (by intro _; refine ⟨rfl, rfl, ?_⟩; omega)) rfl rfl (by kernel_rfl) ?_)
   refine AnyN.one 4 (by kernel_rfl) (StepN.mk rfl (op_buildP rfl rfl rfl rfl (FillP.cons _ _ _ _ _ _ _ _ _ _ (by rfl) (oT rfl) tP (by rfl) tR (FillP.cons _ _ _ _ _ _ _ _ _ _ (by rfl) (oT rfl) tP (by rfl) tR (FillP.nil _))) _ _) rfl rfl (by kernel_rfl) ?_)
   refine AnyN.one 5 (by kernel_rfl) (StepN.mk rfl (op_box_refs rfl (oT rfl) tP rfl) rfl rfl (by kernel_rfl) ?_)
   refine AnyN.one 6 (by kernel_rfl) (StepN.mk rfl (op_assign rfl (oT rfl) _ _) rfl rfl (by kernel_rfl) ?_)
   refine AnyN.nil rfl ?_
   refine Next.adoptCell 2 0 0 1 rfl rfl rfl rfl (Next.weak [2, 3, 1, 0] [] (by rfl) (keepsN hC _ rfl) wG (by exact ⟨wS, ⟨wS, ⟨ent_same rfl rfl (flEq rfl (by rw [fillN_0, List.map_replicate]; rfl)) trivial, ⟨ent_same rfl rfl (flEq rfl (by rw [List.map_replicate]; rfl)) trivial, trivial⟩⟩⟩⟩) wN hK)
  skip
  refine AnyN.one 0 (by kernel_rfl) (StepN.mk rfl (op_move rfl (oT rfl) _ _) rfl rfl (by kernel_rfl) ?_)
  refine AnyN.one 1 (by kernel_rfl) (StepN.mk rfl (op_make (l := n) (c := n) rfl (oT rfl) (oT rfl) rfl rfl rfl rfl (by intro _; refine ⟨rfl, rfl, ?_⟩; omega)) rfl rfl (by kernel_rfl) ?_)
  refine AnyN.one 4 (by kernel_rfl) (StepN.mk rfl (op_buildP rfl rfl rfl rfl (FillP.cons _ _ _ _ _ _ _ _ _ _ (by rfl) (oT rfl) tP (by rfl) tR (FillP.cons _ _ _ _ _ _ _ _ _ _ (by rfl) (oT rfl) tP (by rfl) tR (FillP.nil _))) _ _) rfl rfl (by kernel_rfl) ?_)
  refine AnyN.one 5 (by kernel_rfl) (StepN.mk rfl (op_box_refs rfl (oT rfl) tP rfl) rfl rfl (by kernel_rfl) ?_)
  refine AnyN.one 6 (by kernel_rfl) (StepN.mk rfl (op_assign rfl (oT rfl) _ _) rfl rfl (by kernel_rfl) ?_)
  refine AnyN.nil rfl ?_
  refine Next.adoptCell 2 0 0 1 rfl rfl rfl rfl (Next.weak [2, 3, 1, 0] [] (by rfl) (keepsN hC _ rfl) wG (by exact ⟨wS, ⟨wS, ⟨ent_same rfl rfl (flEq rfl (by rw [fillN_0, List.map_replicate]; rfl)) trivial, ⟨ent_same rfl rfl (flEq rfl (by rw [List.map_replicate]; rfl)) trivial, trivial⟩⟩⟩⟩) wN hK)
 refine nK2 ?_
 refine zb ?_
 refine za ?_
 refine zba ?_
 refine zg ?_
 refine zy ?_
 refine zbi ?_
 refine zbb ?_
 refine zc ?_
 refine nK2 ?_
 refine n_loop (ι := Nat) (fun k => ([(3, .ptr 0 3 0 0), (18, IV .i64 n), (19, IV .i64 k)], HN n k, 4)) (fun k => k ≤ n) (fun k => n - k) 0 (Nat.zero_le _) ?_ ?_
 ·refine Next.weak [0, 1, 2, 3] [] (by rfl) (keepsN hC _ rfl) wG wR wN rel_intro
 intro k hk K hK
 try dsimp only at hk ⊢
 refine nK2 ?_
 refine zb ?_
 refine zp ?_
 refine zc ?_
 refine nK2 ?_
 refine n_cond _ rfl (fun hb => ?_) (fun hb => ?_)
 ·have hlt : k < n := by simpa using hb
  have hrow := row_of encN (fillN n k) k 0 (by rw [fillN_len _ _ hk]; exact hlt)
  refine nK2 ?_
  refine zb ?_
  refine za ?_
  refine zd ?_
  refine zc ?_
  refine nK2 ?_
  refine zb ?_
  refine za ?_
  refine zba ?_
  refine zg ?_
  refine zy ?_
  refine za ?_
  refine rpZ 27 rfl (op_idx_sl0 k rfl (oT rfl) (oT rfl) (by intro _; exact ⟨rfl, hlt⟩)) ?_
  refine Run.eff (dd := none) rfl rfl (op_store_flat rfl (oT rfl) oC tC rfl rfl hrow tS) ?_
  refine zc ?_
  refine nK2 ?_
  refine zb ?_
  refine zl ?_
  refine za ?_
  refine zc ?_
  refine nK2 ?_
  refine Next.weak [0, 1, 2, 3] [] (by rfl) (keepsN hC _ rfl) wG (by exact ⟨wS, ⟨wS, ⟨ent_same rfl rfl (flEq rfl (by rw [← fillN_set n k hlt, List.map_set]; rfl)) trivial, ⟨wS, trivial⟩⟩⟩⟩) wN (hK (k + 1) hlt (by omega))
 have hge : k = n := by simp at hb; omega
 subst hge
 refine nK2 ?_
 refine zb ?_
 refine za ?_
 refine zd ?_
 refine zc ?_
 refine nK2 ?_
 refine Next.weak [0, 1, 2, 3] [] (by rfl) (keepsN hC _ rfl) (G' := [(2, .ptr 0 3 0 0)]) (H' := HH (newH k)) wG (by exact ⟨ent_same rfl rfl (by simp only [newH, List.length_replicate]; rfl) tL, ⟨ent_same rfl rfl rfl trivial, ⟨ent_same rfl rfl (flEq rfl (by rw [fillN_n]; rfl)) trivial, ⟨ent_same rfl rfl rfl trivial, trivial⟩⟩⟩⟩) wN ?_
 exact n_out1 rfl (by rfl) rfl rfl
end Go.Proofs.YtcillieggklaaaaGreat
namespace Go.Pl
open Go Go.RT
set_option linter.all false
def encL (l : List Int) : List FV := [VI l]
abbrev VLL (ll : List (List Int)) : FV := .vals 1 (ll.map encL)
def rowsI (ll : List (List Int)) : List (List (List FV)) := ll.map fun l => l.map encN
theorem fz_rowsI (ll : List (List Int)) : fzL 1 (rowsI ll) = ll.map encL := by simp [fzL, rowsI, encL]
theorem rowsI_len (ll : List (List Int)) : (rowsI ll).length = ll.length := by simp [rowsI]
theorem rowsI_set (ll : List (List Int)) (v : Nat) (l : List Int) : (rowsI ll).set v (l.map encN) = rowsI (ll.set v l) := by unfold rowsI; rw [List.map_set]
theorem rowsI_get {ll : List (List Int)} {v : Nat} (h : v < ll.length) : (rowsI ll)[v]? = some ((ll.getD v []).map encN) := by
  unfold rowsI; rw [List.getElem?_map, List.getD_eq_getElem?_getD, List.getElem?_eq_getElem h]; rfl
theorem rowsI_nil (n : Nat) : rowsI (List.replicate n []) = List.replicate n [] := by simp [rowsI]
def parC (a : Nat) (d : List Int) (e : Edg) : Bool := decide (e.t ≠ (a : Int)) && decide (gt0 d e.f.toNat ≠ -1) && decide (gt0 d e.f.toNat + e.c = gt0 d e.t.toNat)
def parE (es : List Edg) (a : Nat) (d : List Int) (v : Nat) : List Int := (es.filter fun e => parC a d e && decide (e.t = (v : Int))).map (·.f)
def parL (es : List Edg) (a : Nat) (d : List Int) (n : Nat) : List (List Int) := (List.range n).map (parE es a d)
theorem parE_succ {es : List Edg} {i a : Nat} {d : List Int} (h : i < es.length) (v : Nat) : parE (es.take (i + 1)) a d v = parE (es.take i) a d v ++ if parC a d es[i] = true ∧ es[i].t = (v : Int) then [es[i].f] else [] := by
  unfold parE
  rw [← List.take_append_getElem h, List.filter_append, List.map_append]
  congr 1
  by_cases e : parC a d es[i] = true ∧ es[i].t = (v : Int)
  · rw [if_pos e]; simp [e.1, e.2]
  · rw [if_neg e]
    have : (parC a d es[i] && decide (es[i].t = (v : Int))) = false := by
      rw [Bool.eq_false_iff]; intro h; exact e (by simpa using h)
    simp [this]
theorem parL_len (es : List Edg) (a : Nat) (d : List Int) (n : Nat) : (parL es a d n).length = n := rng_len n _
theorem parL_get (es : List Edg) (a : Nat) (d : List Int) {n v : Nat} (h : v < n) : (parL es a d n).getD v [] = parE es a d v := by
  rw [List.getD_eq_getElem?_getD]; unfold parL; rw [rng_get n _ v h]; rfl
theorem parL_yes {es : List Edg} {i a n : Nat} {d : List Int} (h : i < es.length) (h0 : 0 ≤ es[i].t) (hc : parC a d es[i] = true) : (parL (es.take i) a d n).set es[i].t.toNat (parE (es.take i) a d es[i].t.toNat ++ [es[i].f]) = parL (es.take (i + 1)) a d n := by
  refine rng_set n _ _ _ _ ?_ fun w hw => ?_
  · rw [parE_succ h, if_pos ⟨hc, by omega⟩]
  · rw [parE_succ h, if_neg (by omega), List.append_nil]
theorem parL_no {es : List Edg} {i a n : Nat} {d : List Int} (h : i < es.length) (hc : ¬ parC a d es[i] = true) : parL (es.take i) a d n = parL (es.take (i + 1)) a d n := by
  unfold parL
  refine List.map_congr_left fun v _ => ?_
  rw [parE_succ h, if_neg (fun e => hc e.1), List.append_nil]
theorem parL_nil (a : Nat) (d : List Int) (n : Nat) : parL [] a d n = List.replicate n [] := (rng_const n _).symm
open Go Go.RT
/- the order of the nodes in hops -/
theorem perm_sorted_eq {α : Type} {le : α → α → Prop} (anti : ∀ a b, le a b → le b a → a = b) : ∀ (l1 l2 : List α), l1.Perm l2 → l1.Pairwise le → l2.Pairwise le → l1 = l2
  | [], l2, h, _, _ => (List.nil_perm.1 h).symm
  | x :: a, [], h, _, _ => by have := h.length_eq; simp at this
  | x :: a, y :: b, h, h1, h2 => by
    obtain ⟨a1, a2⟩ := List.pairwise_cons.1 h1
    obtain ⟨b1, b2⟩ := List.pairwise_cons.1 h2
    have e : x = y := by
      rcases List.mem_cons.1 (h.mem_iff.1 (List.mem_cons_self ..)) with e | q1
      · exact e
      · rcases List.mem_cons.1 (h.mem_iff.2 (List.mem_cons_self ..)) with e | q2
        · exact e.symm
        · exact anti _ _ (a1 _ q2) (b1 _ q1)
    subst e
    exact congrArg _ (perm_sorted_eq anti a b ((List.perm_cons x).1 h) a2 b2)
def ordH (d : List Int) (x y : Nat) : Int := orI [cmpI (gt0 d x) (gt0 d y), cmpI (y : Int) (x : Int)]
theorem ordH_neg (d : List Int) (x y : Nat) : ordH d x y < 0 ↔ gt0 d x < gt0 d y ∨ gt0 d x = gt0 d y ∧ y < x := by
  have h1 := cmpI_neg (gt0 d x) (gt0 d y)
  have h2 := cmpI_neg (y : Int) (x : Int)
  have h3 := cmpI_zero (gt0 d x) (gt0 d y)
  unfold ordH
  simp only [orI]
  by_cases e : cmpI (gt0 d x) (gt0 d y) ≠ 0
  · rw [if_pos e, h1]; rw [ne_eq, h3] at e; omega
  · rw [if_neg e]
    have e2 : gt0 d x = gt0 d y := h3.1 (by omega)
    by_cases e3 : cmpI (y : Int) (x : Int) ≠ 0
    · rw [if_pos e3, h2]; omega
    · rw [if_neg e3]
      have := (cmpI_zero (y : Int) (x : Int)).1 (by omega)
      omega
def ltHd (d : List Int) (x y : Nat) : Prop := gt0 d x < gt0 d y ∨ gt0 d x = gt0 d y ∧ y < x
end Go.Pl
/- The reference's search: passes over all edges. -/
namespace Go.Pl
open Go.RT
set_option linter.all false
/-- one edge of a pass -/
def passE (out : List Bool) (e : Edg) : List Bool := if out[e.f.toNat]? = some true then out.set e.t.toNat true else out
def pass (es : List Edg) (out : List Bool) : List Bool := es.foldl passE out
theorem passE_len (out : List Bool) (e : Edg) : (passE out e).length = out.length := by unfold passE; split <;> simp
theorem pass_len : ∀ (es : List Edg) (out : List Bool), (pass es out).length = out.length
  | [], out => rfl
  | e :: es, out => by
    show (pass es (passE out e)).length = _
    rw [pass_len es, passE_len]
theorem passE_mono {out : List Bool} {e : Edg} {v : Nat} (h : out[v]? = some true) : (passE out e)[v]? = some true := by
  unfold passE; split
  · exact set_true h
  · exact h
theorem pass_mono : ∀ {es : List Edg} {out : List Bool} {v : Nat}, out[v]? = some true → (pass es out)[v]? = some true
  | [], out, v, h => h
  | e :: es, out, v, h => pass_mono (es := es) (passE_mono h)
theorem cntT_cons (x : Bool) (l : List Bool) : cntT (x :: l) = cntT l + if x = true then 1 else 0 := by
  unfold cntT; rw [List.countP_cons]; cases x <;> rfl
theorem cnt_mono : ∀ {a b : List Bool}, a.length = b.length → (∀ v : Nat, a[v]? = some true → b[v]? = some true) → cntT a ≤ cntT b ∧ (cntT a = cntT b → a = b)
  | [], [], _, _ => ⟨Nat.le_refl _, fun _ => rfl⟩
  | [], _ :: _, h, _ => by simp at h
  | _ :: _, [], h, _ => by simp at h
  | x :: a, y :: b, hl, h => by
    obtain ⟨i1, i2⟩ := cnt_mono (a := a) (b := b) (by simpa using hl) (fun v hv => by simpa using h (v + 1) (by simpa using hv))
    have h0 := h 0
    simp only [List.getElem?_cons_zero, Option.some.injEq] at h0
    rw [cntT_cons, cntT_cons]
    cases x <;> cases y
    · exact ⟨by simpa using i1, fun hh => by rw [i2 (by simpa using hh)]⟩
    · exact ⟨by simp; omega, fun hh => by simp at hh; omega⟩
    · simp at h0
    · exact ⟨by simpa using i1, fun hh => by rw [i2 (by simpa using hh)]⟩
/-- a pass that changes nothing: closed under the edges -/
theorem pass_fix : ∀ {es : List Edg} {out : List Bool}, pass es out = out → (∀ e ∈ es, 0 ≤ e.t ∧ e.t.toNat < out.length) → ∀ e ∈ es, out[e.f.toNat]? = some true → out[e.t.toNat]? = some true := by
  intro es out h hin
  -- every prefix of the pass leaves the list as it is
  have key : ∀ (es : List Edg) (out o : List Bool), o.length = out.length → (∀ v : Nat, out[v]? = some true → o[v]? = some true) → pass es o = out → (∀ e ∈ es, 0 ≤ e.t ∧ e.t.toNat < out.length) → o = out ∧ ∀ e ∈ es, out[e.f.toNat]? = some true → out[e.t.toNat]? = some true := by
    intro es
    induction es with
    | nil => intro out o _ _ h _; exact ⟨h, fun e he => by cases he⟩
    | cons e es ih =>
      intro out o hl hm hp hin
      have hp' : pass es (passE o e) = out := hp
      obtain ⟨i1, i2⟩ := ih out (passE o e) (by rw [passE_len]; exact hl) (fun v hv => passE_mono (hm v hv)) hp' (fun e' he' => hin e' (List.mem_cons_of_mem _ he'))
      have hle : ∀ v : Nat, o[v]? = some true → out[v]? = some true := fun v hv => by rw [← i1]; exact passE_mono hv
      have hoe : o = out := by
        have c1 := (cnt_mono hl hle)
        have c2 := (cnt_mono hl.symm hm)
        exact c1.2 (Nat.le_antisymm c1.1 c2.1)
      refine ⟨hoe, fun e' he' hf => ?_⟩
      rcases List.mem_cons.1 he' with rfl | he'
      · subst hoe
        unfold passE at i1
        rw [if_pos hf] at i1
        have := hin e' (List.mem_cons_self ..)
        rw [← i1, List.getElem?_set, if_pos rfl, if_pos this.2]
      · exact i2 e' he' hf
  exact (key es out out rfl (fun v h => h) h hin).2
/-- what the passes keep -/
structure Pas (g : Gr) (a : Int) (out : List Bool) : Prop where
  len : out.length = (g.r + g.n).toNat
  from_ : out[a.toNat]? = some true
  sound : ∀ v : Nat, out[v]? = some true → Rch g.es a (v : Int)
theorem Pas.stepE {g : Gr} {a : Int} {out : List Bool} {e : Edg} (h : Pas g a out) (he : e ∈ g.es) (h0 : 0 ≤ e.f ∧ 0 ≤ e.t) : Pas g a (passE out e) := by
  refine ⟨by rw [passE_len]; exact h.len, passE_mono h.from_, fun v hv => ?_⟩
  unfold passE at hv
  split at hv
  · rename_i hf
    rw [List.getElem?_set] at hv
    split at hv
    · rename_i e2
      have := h.sound _ hf
      rw [Int.toNat_of_nonneg h0.1] at this
      rw [← e2, Int.toNat_of_nonneg h0.2]
      exact .step e he this
    · exact h.sound v hv
  · exact h.sound v hv
theorem Pas.pass {g : Gr} {a : Int} : ∀ {es : List Edg} {out : List Bool}, Pas g a out → (∀ e ∈ es, e ∈ g.es ∧ 0 ≤ e.f ∧ 0 ≤ e.t) → Pas g a (Pl.pass es out)
  | [], out, h, _ => h
  | e :: es, out, h, he => Pas.pass (es := es) (h.stepE (he e (List.mem_cons_self ..)).1 (he e (List.mem_cons_self ..)).2) (fun e' h' => he e' (List.mem_cons_of_mem _ h'))
/-- after k passes: closed, or more than k nodes marked -/
def Far (g : Gr) (out : List Bool) (k : Nat) : Prop := (∀ e ∈ g.es, out[e.f.toNat]? = some true → out[e.t.toNat]? = some true) ∨ k + 1 ≤ cntT out
theorem Far.next {g : Gr} {out : List Bool} {k : Nat} (h : Far g out k) (hin : ∀ e ∈ g.es, 0 ≤ e.t ∧ e.t.toNat < out.length) : Far g (pass g.es out) (k + 1) := by
  by_cases hf : pass g.es out = out
  · rw [hf]; exact .inl (pass_fix hf hin)
  · have hc := cnt_mono (a := out) (b := pass g.es out) (pass_len _ _).symm (fun v => pass_mono)
    have hlt : cntT out < cntT (pass g.es out) := by
      rcases Nat.lt_or_ge (cntT out) (cntT (pass g.es out)) with h1 | h1
      · exact h1
      · exact absurd (hc.2 (by omega)).symm hf
    rcases h with h | h
    · -- closed already: a pass changes nothing
      exfalso
      apply hf
      have : ∀ (es : List Edg), (∀ e ∈ es, e ∈ g.es) → pass es out = out := by
        intro es
        induction es with
        | nil => exact fun _ => rfl
        | cons e es ih =>
          intro hes
          have hee := hes e (List.mem_cons_self ..)
          have he : passE out e = out := by
            unfold passE
            split
            · rename_i ht
              have hh := h e hee ht
              obtain ⟨q1, q2⟩ := List.getElem?_eq_some_iff.1 hh
              rw [← q2]; exact List.set_getElem_self q1
            · rfl
          show pass es (passE out e) = out
          rw [he]; exact ih fun e' h' => hes e' (List.mem_cons_of_mem _ h')
      exact this g.es fun e h => h
    · exact .inr (by omega)
end Go.Pl
/- The valid graph of edges, as the reference puts it together. -/
namespace Go.Pl
open Go.RT
set_option linter.all false
theorem putR_true (e : Edg) : ∀ l, putR e true l = l
  | [] => rfl
  | x :: l => by simp [putR, putR_true e l]
theorem putR_spec (e : Edg) : ∀ (l : List Edg), AscK l → (∀ x ∈ l, ¬ (x.f = e.f ∧ x.t = e.t)) → AscK (putR e false l) ∧ ∀ x, x ∈ putR e false l ↔ x = e ∨ x ∈ l
  | [], _, _ => by simp [putR, AscK]
  | y :: l, h, hn => by
    obtain ⟨h1, h2⟩ := List.pairwise_cons.1 h
    have hy := hn y (List.mem_cons_self ..)
    by_cases hb : befB e y = true
    · have e1 : putR e false (y :: l) = e :: y :: l := by simp [putR, hb, putR_true]
      rw [e1]
      have hlt := (ltK_bef e y).1 hb
      refine ⟨List.pairwise_cons.2 ⟨fun x hx => ?_, h⟩, fun x => by simp⟩
      rcases List.mem_cons.1 hx with rfl | hx
      · exact hlt
      · have := h1 x hx; unfold ltK at *; omega
    · have hb2 : befB e y = false := by simpa using hb
      have e1 : putR e false (y :: l) = y :: putR e false l := by simp [putR, hb2]
      obtain ⟨i1, i2⟩ := putR_spec e l h2 (fun x hx => hn x (List.mem_cons_of_mem _ hx))
      rw [e1]
      have hlt : ltK y e := by
        have : ¬ ltK e y := fun hh => hb ((ltK_bef e y).2 hh)
        unfold ltK at *; omega
      refine ⟨List.pairwise_cons.2 ⟨fun x hx => ?_, i1⟩, fun x => by rw [List.mem_cons, i2, List.mem_cons]; constructor <;> (intro h; rcases h with h | h | h <;> simp [h])⟩
      rcases (i2 x).1 hx with rfl | hx
      · exact hlt
      · exact h1 x hx
end Go.Pl
/- Elements that a test holds for are dropped. -/
namespace Go.Pl
set_option linter.all false
def keepL {α : Type} (p : α → Bool) (l : List α) : List α := l.filter fun x => !p x
def idxAt {α : Type} (p : α → Bool) : Nat → List α → Int
  | _, [] => -1
  | k, x :: l => bif p x then (k : Int) else idxAt p (k + 1) l
theorem idxAt_spec {α : Type} (p : α → Bool) : ∀ (l : List α) (k : Nat), (idxAt p k l = -1 ∧ keepL p l = l) ∨ ∃ j : Nat, ∃ h : j < l.length, idxAt p k l = ((k + j : Nat) : Int) ∧ p l[j] = true ∧ keepL p (l.take j) = l.take j
  | [], k => .inl ⟨rfl, rfl⟩
  | x :: l, k => by
    cases hx : p x with
    | true => exact .inr ⟨0, by simp, by simp [idxAt, hx], by simpa using hx, by simp [keepL]⟩
    | false =>
      have e : idxAt p k (x :: l) = idxAt p (k + 1) l := by simp [idxAt, hx]
      rw [e]
      rcases idxAt_spec p l (k + 1) with ⟨h1, h2⟩ | ⟨j, hj, h1, h2, h3⟩
      · refine .inl ⟨h1, ?_⟩
        unfold keepL at *; simp [hx, h2]
      · refine .inr ⟨j + 1, by simpa using hj, by rw [h1]; omega, by simpa using h2, ?_⟩
        unfold keepL at *; simp [hx, h3]
end Go.Pl
namespace Go.Pl
set_option linter.all false
/-- binary search: the least place in [i, j) whose element is not below -/
def bsGo {α : Type} (p : α → Bool) (l : List α) (i j : Nat) : Nat :=
  if h : i < j then
    (if h2 : (i + j) / 2 < l.length then
      (bif p l[(i + j) / 2] then bsGo p l ((i + j) / 2 + 1) j else bsGo p l i ((i + j) / 2))
    else i)
  else i
termination_by j - i
theorem bsGo_end {α : Type} (p : α → Bool) (l : List α) (i : Nat) : bsGo p l i i = i := by
  rw [bsGo]; simp
theorem bsGo_step {α : Type} (p : α → Bool) (l : List α) (i j : Nat) (h : i < j) (hj : j ≤ l.length) :
    bsGo p l i j = (bif p (l[(i + j) / 2]'(by omega)) then bsGo p l ((i + j) / 2 + 1) j else bsGo p l i ((i + j) / 2)) := by
  rw [bsGo]; simp [h, show (i + j) / 2 < l.length by omega]
def hitAt {α : Type} (p : α → Bool) (l : List α) (i : Nat) : Bool := match l[i]? with | some e => p e | none => false
theorem bsGo_le {α : Type} (p : α → Bool) (l : List α) : ∀ (n i j : Nat), j - i ≤ n → i ≤ j → j ≤ l.length → i ≤ bsGo p l i j ∧ bsGo p l i j ≤ j
  | n, i, j, hn, hi, hj => by
    rw [bsGo]
    by_cases h : i < j
    · have hm : (i + j) / 2 < l.length := by omega
      simp only [h, hm, dif_pos]
      cases n with
      | zero => omega
      | succ n =>
        cases p l[(i + j) / 2] with
        | true => have := bsGo_le p l n ((i + j) / 2 + 1) j (by omega) (by omega) hj; simp only [cond_true]; omega
        | false => have := bsGo_le p l n i ((i + j) / 2) (by omega) (by omega) (by omega); simp only [cond_false]; omega
    · simp only [h, dif_neg, not_false_eq_true]; omega
/-- over a list on which p is first true and then false -/
theorem bsGo_spec {α : Type} (p : α → Bool) (l : List α) (hm : ∀ a b (ha : a < b) (hb : b < l.length), p l[b] = true → p (l[a]'(by omega)) = true) :
    ∀ (n i j : Nat), j - i ≤ n → (hi : i ≤ j) → (hj : j ≤ l.length) →
      (∀ k (hk : k < i), p (l[k]'(by omega)) = true) → (∀ k (hk : j ≤ k) (hl : k < l.length), p l[k] = false) →
      (∀ k (hk : k < bsGo p l i j) (hl : k < l.length), p l[k] = true) ∧ (∀ k (hk : bsGo p l i j ≤ k) (hl : k < l.length), p l[k] = false)
  | n, i, j, hn, hi, hj, h1, h2 => by
    rw [bsGo]
    by_cases h : i < j
    · have hmm : (i + j) / 2 < l.length := by omega
      simp only [h, hmm, dif_pos]
      cases n with
      | zero => omega
      | succ n =>
        cases hp : p l[(i + j) / 2] with
        | true =>
          simp only [cond_true]
          refine bsGo_spec p l hm n ((i + j) / 2 + 1) j (by omega) (by omega) hj ?_ h2
          intro k hk
          by_cases e : k = (i + j) / 2
          · subst e; exact hp
          · exact hm k ((i + j) / 2) (by omega) hmm hp
        | false =>
          simp only [cond_false]
          refine bsGo_spec p l hm n i ((i + j) / 2) (by omega) (by omega) (by omega) h1 ?_
          intro k hk hl
          by_cases e : k = (i + j) / 2
          · subst e; exact hp
          · cases hq : p l[k] with
            | false => rfl
            | true => have := hm ((i + j) / 2) k (by omega) hl hq; rw [hp] at this; exact absurd this (by simp)
    · simp only [h, dif_neg, not_false_eq_true]
      have : i = j := by omega
      exact ⟨fun k hk _ => h1 k hk, fun k hk hl => h2 k (by omega) hl⟩
end Go.Pl
namespace Go.Pl
theorem hitAt_eq {α : Type} [Inhabited α] (l : List α) (i : Nat) (p : α → Bool) : ∃ q, (i < l.length → l[i]? = some q) ∧ hitAt p l i = (decide ((i : Int) < (l.length : Int)) && p q) := by
  by_cases h : i < l.length
  · exact ⟨l[i], fun _ => List.getElem?_eq_getElem h, by simp [hitAt, h]⟩
  · exact ⟨default, fun h' => absurd h' h, by simp [hitAt, h]⟩
open Go.RT
def zE : Edg := ⟨0, 0, 0⟩
/-- what Delete leaves in the room -/
def delL (l : List Edg) (i j : Nat) : List Edg := l.take i ++ l.drop j
theorem delL_len (l : List Edg) (i j : Nat) (h1 : i ≤ j) (h2 : j ≤ l.length) : (delL l i j).length = l.length - (j - i) := by simp [delL]; omega
theorem del_rows (l : List Edg) (k i j : Nat) (h1 : i ≤ j) (h2 : j ≤ l.length) :
    ((l ++ List.replicate k zE).take i ++ l.drop j ++ (l ++ List.replicate k zE).drop (i + (l.length - j))).take (i + (l.length - j)) ++ List.replicate (l.length - (i + (l.length - j))) zE
      ++ ((l ++ List.replicate k zE).take i ++ l.drop j ++ (l ++ List.replicate k zE).drop (i + (l.length - j))).drop (i + (l.length - j) + (l.length - (i + (l.length - j))))
      = delL l i j ++ List.replicate (k + (j - i)) zE := by
  have e1 : (l ++ List.replicate k zE).take i = l.take i := by rw [List.take_append_of_le_length (by omega)]
  have e2 : (l.take i ++ l.drop j).length = i + (l.length - j) := by simp; omega
  rw [e1]
  rw [show i + (l.length - j) + (l.length - (i + (l.length - j))) = l.length by omega]
  have e3 : ((l ++ List.replicate k zE).drop (i + (l.length - j))).drop (l.length - (i + (l.length - j))) = List.replicate k zE := by
    rw [List.drop_drop, show i + (l.length - j) + (l.length - (i + (l.length - j))) = l.length by omega, List.drop_left]
  have e4 : List.replicate (l.length - (i + (l.length - j))) zE ++ List.replicate k zE = List.replicate (k + (j - i)) zE := by
    rw [List.replicate_append_replicate]; congr 1; omega
  show _ = (l.take i ++ l.drop j) ++ _
  generalize hA : l.take i ++ l.drop j = A at *
  generalize hB : (l ++ List.replicate k zE).drop (i + (l.length - j)) = B at *
  rw [List.take_left' e2, List.append_assoc, ← e4, ← e3]
  congr 2
  rw [List.drop_append, e2, List.drop_of_length_le (by omega), List.nil_append]
end Go.Pl
namespace Go.Pl
set_option linter.all false
/-- x put in ahead of place i -/
def insL {α : Type} (l : List α) (i : Nat) (x : α) : List α := l.take i ++ x :: l.drop i
theorem insL_len {α : Type} (l : List α) (i : Nat) (x : α) (h : i ≤ l.length) : (insL l i x).length = l.length + 1 := by simp [insL]; omega
theorem insL_map {α β : Type} (f : α → β) (l : List α) (i : Nat) (x : α) : (insL l i x).map f = insL (l.map f) i (f x) := by simp [insL]
/-- the rows behind the copies of slices.Insert, where it grows -/
theorem ins_grow {β : Type} (l : List β) (i : Nat) (x z : β) (h : i < l.length) :
    (((l.take i ++ List.replicate (l.length + 1 - i) z).take i ++ [x] ++ (l.take i ++ List.replicate (l.length + 1 - i) z).drop (i + 1)).take (i + 1) ++ l.drop i ++
      ((l.take i ++ List.replicate (l.length + 1 - i) z).take i ++ [x] ++ (l.take i ++ List.replicate (l.length + 1 - i) z).drop (i + 1)).drop (i + 1 + (l.length - i))) = insL l i x := by
  have h1 : (l.take i).length = i := by simp; omega
  have e1 : (l.take i ++ List.replicate (l.length + 1 - i) z).take i = l.take i := by rw [List.take_append_of_le_length (by omega), List.take_take]; simp
  rw [e1]
  generalize hd : (l.take i ++ List.replicate (l.length + 1 - i) z).drop (i + 1) = d
  have hdl : d.length = l.length - i := by rw [← hd]; simp; omega
  have h2 : (l.take i ++ [x]).length = i + 1 := by simp; omega
  have e2 : (l.take i ++ [x] ++ d).take (i + 1) = l.take i ++ [x] := by rw [List.take_append_of_le_length (by omega), List.take_of_length_le (by omega)]
  have e3 : (l.take i ++ [x] ++ d).drop (i + 1 + (l.length - i)) = [] := List.drop_of_length_le (by rw [List.length_append, h2, hdl]; omega)
  rw [e2, e3]
  simp [insL]
/-- .. where there is room -/
theorem ins_room {β : Type} (l : List β) (i : Nat) (x : β) (h : i < l.length) :
    ((l.take (i + 1) ++ l.drop i ++ l.drop (i + 1 + (l.length - i))).take i ++ [x] ++ (l.take (i + 1) ++ l.drop i ++ l.drop (i + 1 + (l.length - i))).drop (i + 1)) = insL l i x := by
  have e0 : l.drop (i + 1 + (l.length - i)) = [] := List.drop_of_length_le (by omega)
  have h1 : (l.take (i + 1)).length = i + 1 := by simp; omega
  rw [e0, List.append_nil]
  have e1 : (l.take (i + 1) ++ l.drop i).take i = l.take i := by rw [List.take_append_of_le_length (by omega), List.take_take, Nat.min_eq_left (by omega)]
  have e2 : (l.take (i + 1) ++ l.drop i).drop (i + 1) = l.drop i := by rw [List.drop_append_of_le_length (by omega), List.drop_of_length_le (by omega)]; rfl
  rw [e1, e2]
  simp [insL]
abbrev bsAt (l : List Edg) (x : Edg) : Nat := bsGo (fun e => decide (ordE e x < 0)) l 0 l.length
abbrev bsHit (l : List Edg) (x : Edg) : Bool := hitAt (fun e => decide (ordE e x = 0)) l (bsAt l x)
/-- one change, as the program makes it -/
def chgF (g : Gr) (c : Edg) : Gr × Int :=
  if nodeB g c.f = false ∨ nodeB g c.t = false then (g, 5)
  else if c.c < 0 then (if bsHit g.es c = false then (g, 6) else (⟨g.r, g.n, delL g.es (bsAt g.es c) (bsAt g.es c + 1)⟩, 0))
  else if alwI g c ≠ 0 then (g, alwI g c)
  else if bsHit g.es c = true then (⟨g.r, g.n, g.es.set (bsAt g.es c) c⟩, 0)
  else if g.es.length = 1024 then (g, 4)
  else (⟨g.r, g.n, insL g.es (bsAt g.es c) c⟩, 0)
theorem hitAt_lt {α : Type} {p : α → Bool} {l : List α} {i : Nat} (h : hitAt p l i = true) : ∃ h : i < l.length, p l[i] = true := by
  unfold hitAt at h
  cases hi : l[i]? with
  | none => rw [hi] at h; cases h
  | some e =>
    rw [hi] at h
    obtain ⟨h1, h2⟩ := List.getElem?_eq_some_iff.1 hi
    exact ⟨h1, by rw [h2]; exact h⟩
open Go Go.RT
/- merge: a number put into an ascending list, once -/
def bsI (l : List Int) (x : Int) : Nat := bsGo (fun e => decide (e < x)) l 0 l.length
def hitI (l : List Int) (x : Int) : Bool := hitAt (fun e => decide (e = x)) l (bsI l x)
def insU (l : List Int) (x : Int) : List Int := if hitI l x = true then l else insL l (bsI l x) x
theorem bsI_le (l : List Int) (x : Int) : bsI l x ≤ l.length := (bsGo_le (fun e => decide (e < x)) l (l.length) 0 l.length (by omega) (Nat.zero_le _) (Nat.le_refl _)).2
def capV (r : Int) (v : Nat) (h : Int) : Int := if r ≤ h then (v : Int) else h
open Go Go.RT
/- hops, as the program makes them -/
theorem insU_spec {l : List Int} (h : Asc l) (x : Int) : Asc (insU l x) ∧ ∀ y, y ∈ insU l x ↔ y = x ∨ y ∈ l := by
  have hle := bsI_le l x
  have hg : ∀ a b (ha : a < b) (hb : b < l.length), l[a] < l[b] := fun a b ha hb => List.pairwise_iff_getElem.1 h a b (by omega) hb ha
  have h2 := bsGo_spec (fun e => decide (e < x)) l (fun a b ha hb hp => by
    have := hg a b ha hb
    simp only [decide_eq_true_eq] at hp ⊢; omega) l.length 0 l.length (by omega) (Nat.zero_le _) (Nat.le_refl _) (fun k hk => absurd hk (Nat.not_lt_zero _)) (fun k hk hl => absurd hl (by omega))
  have h3 : ∀ k (hk : k < bsI l x) (hl : k < l.length), l[k] < x := fun k hk hl => by simpa using h2.1 k hk hl
  have h4 : ∀ k (hk : bsI l x ≤ k) (hl : k < l.length), x ≤ l[k] := fun k hk hl => by simpa using h2.2 k hk hl
  unfold insU hitI hitAt
  by_cases hb : bsI l x < l.length
  · rw [List.getElem?_eq_getElem hb]
    simp only [decide_eq_true_eq]
    by_cases he : l[bsI l x] = x
    · rw [if_pos he]
      refine ⟨h, fun y => ⟨fun hy => .inr hy, fun hy => ?_⟩⟩
      rcases hy with h5 | hy
      · rw [h5, ← he]; exact List.getElem_mem hb
      · exact hy
    · rw [if_neg he]
      refine ⟨?_, fun y => ?_⟩
      · unfold insL
        refine List.pairwise_append.2 ⟨h.sublist (List.take_sublist _ _), List.pairwise_cons.2 ⟨fun y hy => ?_, h.sublist (List.drop_sublist _ _)⟩, fun a ha b hb2 => ?_⟩
        · obtain ⟨k, hk, rfl⟩ := List.mem_iff_getElem.1 hy
          rw [List.getElem_drop]
          have q1 := h4 (bsI l x + k) (by omega) (by simp at hk; omega)
          by_cases e : k = 0
          · subst e; simp only [Nat.add_zero] at q1 ⊢; omega
          · have := hg (bsI l x) (bsI l x + k) (by omega) (by simp at hk; omega)
            have := h4 (bsI l x) (Nat.le_refl _) hb
            omega
        · obtain ⟨k, hk, rfl⟩ := List.mem_iff_getElem.1 ha
          rw [List.getElem_take]
          rw [List.length_take] at hk
          have q1 := h3 k (by omega) (by omega)
          rcases List.mem_cons.1 hb2 with rfl | hb2
          · exact q1
          · obtain ⟨k2, hk2, rfl⟩ := List.mem_iff_getElem.1 hb2
            rw [List.getElem_drop]
            simp at hk2
            exact hg k (bsI l x + k2) (by omega) (by omega)
      · unfold insL
        rw [List.mem_append, List.mem_cons]
        have : y ∈ l ↔ y ∈ l.take (bsI l x) ∨ y ∈ l.drop (bsI l x) := by rw [← List.mem_append, List.take_append_drop]
        rw [this]; constructor
        · rintro (h | h | h)
          · exact .inr (.inl h)
          · exact .inl h
          · exact .inr (.inr h)
        · rintro (h | h | h)
          · exact .inr (.inl h)
          · exact .inl h
          · exact .inr (.inr h)
  · have hbe : bsI l x = l.length := by omega
    rw [List.getElem?_eq_none (by omega)]
    rw [if_neg (by simp), hbe]
    unfold insL
    rw [List.take_length, List.drop_length]
    refine ⟨List.pairwise_append.2 ⟨h, by simp, fun a ha b hb2 => ?_⟩, fun y => by simp [or_comm]⟩
    have : b = x := by simpa using hb2
    subst this
    obtain ⟨k, hk, rfl⟩ := List.mem_iff_getElem.1 ha
    exact h3 k (by omega) hk
/-- ascending, all of them nodes -/
def RowOk (n : Nat) (l : List Int) : Prop := Asc l ∧ ∀ x ∈ l, 0 ≤ x ∧ x < n
theorem RowOk.len {n : Nat} {l : List Int} (h : RowOk n l) : l.length ≤ n := by
  have := nodup_len n (l.map Int.toNat) (by
    rw [List.Nodup, List.pairwise_map]
    refine h.1.imp_of_mem fun ha hb hab e => ?_
    have := h.2 _ ha; have := h.2 _ hb; omega) (fun x hx => by
      obtain ⟨y, hy, rfl⟩ := List.mem_map.1 hx
      have := h.2 y hy; omega)
  simpa using this
theorem RowOk.ins {n : Nat} {l : List Int} (h : RowOk n l) {x : Int} (hx : 0 ≤ x ∧ x < n) : RowOk n (insU l x) :=
  ⟨(insU_spec h.1 x).1, fun y hy => by
    rcases ((insU_spec h.1 x).2 y).1 hy with rfl | hy
    · exact hx
    · exact h.2 y hy⟩
abbrev rowAt' (ll : List (List Int)) (v : Nat) : List Int := ll.getD v []
def mergeL (r : Int) (v : Nat) (ll : List (List Int)) (h : Int) : List (List Int) := ll.set v (insU (rowAt' ll v) (capV r v h))
def stepU (r : Int) (a v : Nat) (ll : List (List Int)) (u : Int) : List (List Int) :=
  (rowAt' ll u.toNat).foldl (mergeL r v) (if u = (a : Int) then mergeL r v ll (v : Int) else ll)
def hopsV (r : Int) (a : Nat) (up : List (List Int)) (ll : List (List Int)) (v : Nat) : List (List Int) := (rowAt' up v).foldl (stepU r a v) ll
def hopsL (r : Int) (a n : Nat) (up : List (List Int)) (order : List Nat) : List (List Int) := order.foldl (hopsV r a up) (List.replicate n [])
structure LLok (n : Nat) (ll : List (List Int)) : Prop where
  len : ll.length = n
  row : ∀ v, v < n → RowOk n (rowAt' ll v)
theorem LLok.merge {n : Nat} {ll : List (List Int)} (h : LLok n ll) (r : Int) {v : Nat} (hv : v < n) {x : Int} (hx : 0 ≤ x ∧ x < n) : LLok n (mergeL r v ll x) := by
  refine ⟨by rw [mergeL, List.length_set, h.len], fun w hw => ?_⟩
  unfold mergeL rowAt'
  rw [getD_set _ _ _ _ _ (by rw [h.len]; exact hv)]
  by_cases e : v = w
  · rw [if_pos e]; exact (h.row v hv).ins (by unfold capV; split <;> omega)
  · rw [if_neg e]; exact h.row w hw
theorem merge_other (r : Int) (v : Nat) (ll : List (List Int)) (x : Int) {u : Nat} (h : u ≠ v) : rowAt' (mergeL r v ll x) u = rowAt' ll u := by
  unfold mergeL rowAt'
  rw [List.getD_eq_getElem?_getD, List.getElem?_set_ne (fun e => h e.symm), ← List.getD_eq_getElem?_getD]
theorem foldl_take_succ {α β : Type} (f : β → α → β) (b : β) (l : List α) (i : Nat) (h : i < l.length) : (l.take (i + 1)).foldl f b = f ((l.take i).foldl f b) l[i] := by
  rw [← List.take_append_getElem h, List.foldl_append]; rfl
/-- rows with one cell taken -/
def tkL (irs : List (List (List FV))) (u k : Nat) : List (List PV) := (ownL 1 irs).set u [PV.sl 2 1 0 k]
theorem renO_tk {L : List Nat} (h : renI L 2 = 2) (irs : List (List (List FV))) (u k : Nat) : renO L (.refs 1 (tkL irs u k)) = .refs 1 (tkL irs u k) := by
  have h1 := renO_own L 1 irs
  simp only [renO, Ob.refs.injEq, true_and] at h1 ⊢
  unfold tkL
  rw [List.map_set, h1]
  simp [renPs, renP, h]
theorem ltO_tk {n : Nat} (h : 2 < n) (irs : List (List (List FV))) (u k : Nat) : ltO n (.refs 1 (tkL irs u k)) := fun r hr => by
  rcases List.mem_or_eq_of_mem_set hr with h1 | rfl
  · exact ltO_own n 1 irs r h1
  · simp [ltPs, ltP, Nat.blt_eq, h]
theorem ent_tk {L F : List Nat} {H : Hp} {id : Nat} {irs : List (List (List FV))} {u k : Nat} (h1 : Nat.blt id L.length = true) (h2 : F.contains (renI L id) = false) (hr : renI L 2 = 2) (hl : 2 < L.length) (h3 : hlook H (renI L id) = some (.refs 1 (tkL irs u k))) : Nat.blt id L.length = true ∧ F.contains (renI L id) = false ∧ EntO L F H (renI L id) (.refs 1 (tkL irs u k)) :=
  ent_same h1 h2 (by rw [renO_tk hr]; exact h3) (ltO_tk hl _ _ _)
theorem tk_get {irs : List (List (List FV))} {u v k : Nat} {r : List (List FV)} (hne : u ≠ v) (h : irs[v]? = some r) : (tkL irs u k)[v]? = some [PV.own 1 r] := by
  unfold tkL; rw [List.getElem?_set_ne hne]; exact ownL_get h
theorem tk_len (irs : List (List (List FV))) (u k : Nat) : (tkL irs u k).length = irs.length := by unfold tkL; rw [List.length_set, ownL_len]
theorem tk_back {irs : List (List (List FV))} {u v k : Nat} {x y : List PV} {r : List (List FV)} (hne : u ≠ v) : (((tkL irs u k).set v x).set v y).set v [PV.own 1 r] = tkL (irs.set v r) u k := by
  rw [List.set_set, List.set_set]; unfold tkL
  rw [List.set_comm _ _ (by omega), ownL_set]
theorem tk_back2 {irs : List (List (List FV))} {u v k : Nat} {x : List PV} {r : List (List FV)} (hne : u ≠ v) : ((tkL irs u k).set v x).set v [PV.own 1 r] = tkL (irs.set v r) u k := by
  rw [List.set_set]; unfold tkL
  rw [List.set_comm _ _ (by omega), ownL_set]
theorem tk_put {irs : List (List (List FV))} {u k : Nat} {r : List (List FV)} (h : irs[u]? = some r) : (tkL irs u k).set u [PV.own 1 r] = ownL 1 irs := by
  unfold tkL
  rw [List.set_set, ownL_set]
  congr 1
  apply List.ext_getElem?
  intro i
  rw [List.getElem?_set]
  by_cases e : u = i
  · subst e
    have hlt := (List.getElem?_eq_some_iff.1 h).1
    rw [if_pos rfl, if_pos hlt, h]
  · rw [if_neg e]
open Go Go.RT
def ordP (d : List Int) (a : Nat) (v : Nat) : Bool := decide (gt0 d v ≠ -1) && decide ((v : Int) ≠ (a : Int))
def ordA (d : List Int) (a i : Nat) : List Nat := (List.range i).filter (ordP d a)
theorem ordA_succ (d : List Int) (a i : Nat) : ordA d a (i + 1) = ordA d a i ++ if ordP d a i = true then [i] else [] := by
  unfold ordA
  rw [List.range_succ, List.filter_append]
  congr 1
  by_cases h : ordP d a i = true
  · simp [h]
  · simp [h]
theorem ordA_len (d : List Int) (a i : Nat) : (ordA d a i).length ≤ i := by
  have := List.length_filter_le (ordP d a) (List.range i)
  simpa [ordA] using this
theorem ordA_lt {d : List Int} {a i v : Nat} (h : v ∈ ordA d a i) : v < i := by
  have := (List.mem_filter.1 h).1; simpa using this
theorem LLok.nil (n : Nat) : LLok n (List.replicate n []) := ⟨by simp, fun v hv => by
  have : rowAt' (List.replicate n []) v = [] := getD_rep _ _ _ _ hv
  rw [this]; exact ⟨.nil, fun x h => by cases h⟩⟩
/-- parents: nodes, and others than the node itself -/
structure UpOk (n : Nat) (up : List (List Int)) : Prop where
  len : up.length = n
  row : ∀ v, v < n → (rowAt' up v).length ≤ 2000 ∧ ∀ u ∈ rowAt' up v, 0 ≤ u ∧ u < n ∧ u ≠ (v : Int)
theorem LLok.fold {n : Nat} {r : Int} {v : Nat} (hv : v < n) : ∀ (l : List Int) {ll : List (List Int)}, LLok n ll → (∀ x ∈ l, 0 ≤ x ∧ x < n) → LLok n (l.foldl (mergeL r v) ll)
  | [], _, h, _ => h
  | x :: l, _, h, hx => LLok.fold hv l (h.merge r hv (hx x (by simp))) fun y hy => hx y (by simp [hy])
theorem fold_other {r : Int} {v u : Nat} (huv : u ≠ v) : ∀ (l : List Int) (ll : List (List Int)), rowAt' (l.foldl (mergeL r v) ll) u = rowAt' ll u
  | [], _ => rfl
  | x :: l, ll => (fold_other huv l (mergeL r v ll x)).trans (merge_other r v ll x huv)
theorem LLok.step {n : Nat} {ll : List (List Int)} (h : LLok n ll) (r : Int) {a v : Nat} (hv : v < n) {u : Int} (hu : 0 ≤ u ∧ u < n) : LLok n (stepU r a v ll u) := by
  unfold stepU
  refine LLok.fold hv _ ?_ (h.row u.toNat (by omega)).2
  split
  · exact h.merge r hv (by omega)
  · exact h
theorem LLok.steps {n : Nat} {r : Int} {a v : Nat} (hv : v < n) : ∀ (l : List Int) {ll : List (List Int)}, LLok n ll → (∀ x ∈ l, 0 ≤ x ∧ x < n) → LLok n (l.foldl (stepU r a v) ll)
  | [], _, h, _ => h
  | x :: l, _, h, hx => LLok.steps hv l (h.step r hv (hx x (by simp))) fun y hy => hx y (by simp [hy])
theorem LLok.hops {n : Nat} {r : Int} {a : Nat} {up : List (List Int)} (hu : UpOk n up) : ∀ (l : List Nat) {ll : List (List Int)}, LLok n ll → (∀ x ∈ l, x < n) → LLok n (l.foldl (hopsV r a up) ll)
  | [], _, h, _ => h
  | x :: l, _, h, hx => LLok.hops hu l (LLok.steps (hx x (by simp)) _ h fun y hy => by have := (hu.row x (hx x (by simp))).2 y hy; omega) fun y hy => hx y (by simp [hy])
open Go Go.RT
structure Tr where
  root : Int
  dist : List Int
  hops : List (List Int)
  par : List (List Int)
  deriving DecidableEq
def encTr (t : Tr) : List FV := [If .i64 t.root, VI t.dist, VLL t.hops, VLL t.par]
abbrev OTr (t : Tr) : Option Ob := some (.flat 4 [encTr t])
def zeroT : Tr := ⟨0, [], [], []⟩
/-- what a shortest-path run makes -/
structure RunOk (g : Gr) (a : Nat) (t : Tr) : Prop where
  ok : checkI g = 0
  lt : (a : Int) < g.r
  root : t.root = a
  dl : t.dist.length = (g.r + g.n).toNat
  dist : ∀ v, v < (g.r + g.n).toNat → IsD g.es a v (gt0 t.dist v)
  par : t.par = parL g.es a t.dist (g.r + g.n).toNat
  hops : ∃ l2 : List Nat, l2.Perm (ordA t.dist a (g.r + g.n).toNat) ∧ l2.Pairwise (ltHd t.dist) ∧ t.hops = hopsL g.r a (g.r + g.n).toNat t.par l2
theorem IsD.ge {es : List Edg} {r n a v : Nat} {d : Int} (vg : VG es r n) (h : IsD es a v d) : -1 ≤ d := by
  rcases h with ⟨h, _⟩ | ⟨h, _⟩
  · omega
  · have := h.nn vg; omega
theorem parE_len (es : List Edg) (a : Nat) (d : List Int) (v : Nat) : (parE es a d v).length ≤ es.length := by unfold parE; rw [List.length_map]; exact List.length_filter_le _ _
theorem parL_ok {es : List Edg} {r n : Nat} (vg : VG es r n) (a : Nat) (d : List Int) : UpOk n (parL es a d n) := by
  refine ⟨parL_len _ _ _ _, fun v hv => ?_⟩
  have e : rowAt' (parL es a d n) v = parE es a d v := parL_get es a d hv
  rw [e]
  refine ⟨by have := parE_len es a d v; have := vg.e1024; omega, fun u hu => ?_⟩
  obtain ⟨x, hx, rfl⟩ := List.mem_map.1 hu
  obtain ⟨h1, h2⟩ := List.mem_filter.1 hx
  simp only [Bool.and_eq_true, decide_eq_true_eq] at h2
  have := vg.f x h1; have := vg.ne x h1
  exact ⟨by omega, by omega, fun e => by omega⟩
/-- a bound on distances -/
theorem IsD.le {es : List Edg} {r n a v : Nat} {d : Int} (vg : VG es r n) (ha : a < n) (h : IsD es a v d) {D : List Int} (hl : D.length = n) (hD : ∀ v, v < n → IsD es a v (gt0 D v)) (hk : ∀ v, v < n → gt0 D v ≤ 10000000) (hv : v < n) : d ≤ 10000000 := by
  rw [h.uniq (hD v hv)]; exact hk v hv
open Go Go.RT
theorem relax_ex {es : List Edg} {r n a x : Nat} {kx : Int} {dist : List Int} (vg : VG es r n) (hx : gt0 dist x = kx) (h0 : 0 ≤ kx) (hb : kx + 65535 ≤ 65535 * cntP dist) : ∀ (todo : List Edg) (h : Hq), (∀ e ∈ todo, e ∈ es ∧ e.f = (x : Int)) → DJ es n a dist h todo → ∃ h', DJ es n a dist h' []
  | [], h, _, o => ⟨h, o⟩
  | e :: todo, h, ht, o => by
    obtain ⟨he, hef⟩ := ht e (by simp)
    have hfx : gt0 dist e.f.toNat = kx := by rw [hef, Int.toNat_natCast]; exact hx
    by_cases hc : gt0 dist e.t.toNat < 0 ∧ (h.place e.t.toNat < 0 ∨ gt0 dist e.f.toNat + e.c < h.key e.t.toNat)
    · exact relax_ex vg hx h0 hb todo _ (fun e' h' => ht e' (by simp [h'])) (o.put vg he (by omega) (by omega) hc)
    · exact relax_ex vg hx h0 hb todo _ (fun e' h' => ht e' (by simp [h'])) (o.skip vg hc)
theorem run_ex {es : List Edg} {r n a : Nat} (vg : VG es r n) (ha : a < n) : ∀ (m : Nat) (dist : List Int) (h : Hq), n - cntP dist ≤ m → DJ es n a dist h [] → (∀ v, v < n → gt0 dist v ≤ 65535 * cntP dist) → ∃ D : List Int, D.length = n ∧ (∀ v, v < n → IsD es a v (gt0 D v)) ∧ ∀ v, v < n → gt0 D v ≤ 8388480
  | m, dist, h, hm, o, hb => by
    by_cases he : h.it = []
    · refine ⟨dist, o.dl, fun v hv => o.done vg ha he hv, fun v hv => ?_⟩
      have h1 := hb v hv
      have h2 := cntP_le dist
      have h3 := vg.n128
      rw [o.dl] at h2; omega
    · have hne : 0 < h.it.length := Nat.pos_of_ne_zero fun e => he (List.length_eq_zero_iff.1 e)
      obtain ⟨x1, x2, x3, x4, x5, x6⟩ := o.pop vg ha hne
      have hcl := cntP_le (dist.set (h.item 0) (h.key (h.item 0)))
      rw [List.length_set, o.dl] at hcl
      have hget : ∀ v, gt0 (dist.set (h.item 0) (h.key (h.item 0))) v = if h.item 0 = v then h.key (h.item 0) else gt0 dist v := fun v => getD_set _ _ _ _ _ (by rw [o.dl]; exact x1)
      obtain ⟨h', o'⟩ := relax_ex vg (by rw [hget, if_pos rfl]) x3 (by rw [x5]; omega) _ _ (fun e he => by simpa using he) x6
      match m with
      | 0 => omega
      | m + 1 =>
        refine run_ex vg ha m _ h' (by omega) o' fun v hv => ?_
        rw [hget, x5]
        have := hb v hv
        split <;> omega
theorem dist_ex {es : List Edg} {r n a : Nat} (vg : VG es r n) (ha : a < n) : ∃ D : List Int, D.length = n ∧ (∀ v, v < n → IsD es a v (gt0 D v)) ∧ ∀ v, v < n → gt0 D v ≤ 8388480 := by
  obtain ⟨o, h0⟩ := DJ.start vg ha
  refine run_ex vg ha n _ _ (by omega) o fun v hv => ?_
  rw [h0]
  have : gt0 (List.replicate n (-1)) v = -1 := getD_rep _ _ _ _ hv
  rw [this]; omega
theorem IsD.small {es : List Edg} {r n a v : Nat} {d : Int} (vg : VG es r n) (ha : a < n) (hv : v < n) (h : IsD es a v d) : -1 ≤ d ∧ d ≤ 8388480 := by
  obtain ⟨D, h1, h2, h3⟩ := dist_ex vg ha
  rw [h.uniq (h2 v hv)]
  exact ⟨(h2 v hv).ge vg, h3 v hv⟩
theorem srt_ex (d : List Int) : ∀ (l : List Nat), l.Nodup → ∃ l2 : List Nat, l2.Perm l ∧ l2.Pairwise (ltHd d)
  | [], _ => ⟨[], .nil, .nil⟩
  | x :: l, h => by
    obtain ⟨h1, h2⟩ := List.nodup_cons.1 h
    obtain ⟨l2, p, q⟩ := srt_ex d l h2
    have : ∀ (l2 : List Nat), x ∉ l2 → l2.Pairwise (ltHd d) → ∃ l3 : List Nat, l3.Perm (x :: l2) ∧ l3.Pairwise (ltHd d) := by
      intro l2
      induction l2 with
      | nil => exact fun _ _ => ⟨[x], .refl _, by simp⟩
      | cons y l2 ih =>
        intro hx hq
        obtain ⟨q1, q2⟩ := List.pairwise_cons.1 hq
        by_cases hxy : ltHd d x y
        · refine ⟨x :: y :: l2, .refl _, List.pairwise_cons.2 ⟨fun z hz => ?_, hq⟩⟩
          rcases List.mem_cons.1 hz with rfl | hz
          · exact hxy
          · have := q1 z hz; unfold ltHd at *; omega
        · obtain ⟨l3, p3, q3⟩ := ih (fun e => hx (by simp [e])) q2
          refine ⟨y :: l3, (p3.cons y).trans (List.Perm.swap x y l2), List.pairwise_cons.2 ⟨fun z hz => ?_, q3⟩⟩
          rcases List.mem_cons.1 (p3.mem_iff.1 hz) with rfl | hz
          · have hne : z ≠ y := fun e => hx (by simp [e])
            unfold ltHd at *; omega
          · exact q1 z hz
    obtain ⟨l3, p3, q3⟩ := this l2 (fun e => h1 (p.mem_iff.1 e)) q
    exact ⟨l3, p3.trans (p.cons x), q3⟩
theorem run_exists {g : Gr} {a : Nat} (h : checkI g = 0) (ha : (a : Int) < g.r) : ∃ t, RunOk g a t := by
  obtain ⟨vg, h0, h1⟩ := checkI_vg h
  obtain ⟨D, d1, d2, d3⟩ := dist_ex vg (a := a) (by omega)
  obtain ⟨l2, p, q⟩ := srt_ex D (ordA D a (g.r + g.n).toNat) (List.nodup_range.filter _)
  exact ⟨⟨a, D, hopsL g.r a (g.r + g.n).toNat (parL g.es a D (g.r + g.n).toNat) l2, parL g.es a D (g.r + g.n).toNat⟩, h, ha, rfl, d1, d2, rfl, l2, p, q, rfl⟩
open Go Go.RT
/- the path, as the program finds it -/
def aboveL (par : List (List Int)) (v : Int) : List Int := if v < 0 ∨ (par.length : Int) ≤ v then [] else rowAt' par v.toNat
def push (l : List Int) (u : Int) : List Int := if u ∈ l then l else l ++ [u]
def bfsGo (ab : Int → List Int) : Nat → Nat → List Int → List Int
  | 0, _, l => l
  | f + 1, i, l => match l[i]? with
    | some x => bfsGo ab f (i + 1) ((ab x).foldl push l)
    | none => l
def needL (par : List (List Int)) (n : Nat) (to : Int) : List Int := bfsGo (aboveL par) (n + 1) 0 [to]
def nextAt (par : List (List Int)) (nd : List Int) (at_ : Int) (v : Nat) : Bool := decide ((v : Int) ∈ nd) && decide (at_ ∈ aboveL par v)
def nextG (par : List (List Int)) (nd : List Int) (at_ : Int) (n : Nat) : Nat → Nat → Int
  | 0, _ => -1
  | f + 1, v => if v < n then (if nextAt par nd at_ v = true then (v : Int) else nextG par nd at_ n f (v + 1)) else -1
def pathG (par : List (List Int)) (nd : List Int) (n : Nat) (to : Int) : Nat → Int → List Int → List Int
  | 0, _, out => out
  | f + 1, at_, out => if at_ = to then out else
    if nextG par nd at_ n n 0 < 0 ∨ (n : Int) < (out.length : Int) then [] else pathG par nd n to f (nextG par nd at_ n n 0) (out ++ [nextG par nd at_ n n 0])
def pathL (t : Tr) (to : Int) : List Int :=
  if to < 0 ∨ (t.dist.length : Int) ≤ to ∨ gt0 t.dist to.toNat < 0 then [] else
  pathG t.par (needL t.par t.dist.length to) t.dist.length to (t.dist.length + 2) t.root [t.root]
/-- a list of nodes, each once -/
def NdL (n : Nat) (l : List Int) : Prop := l.Nodup ∧ ∀ x ∈ l, 0 ≤ x ∧ x < n
theorem NdL.len {n : Nat} {l : List Int} (h : NdL n l) : l.length ≤ n := by
  have := nodup_len n (l.map Int.toNat) (by
    rw [List.Nodup, List.pairwise_map]
    refine h.1.imp_of_mem fun ha hb hab e => hab ?_
    have := h.2 _ ha; have := h.2 _ hb; omega) (fun x hx => by
      obtain ⟨y, hy, rfl⟩ := List.mem_map.1 hx
      have := h.2 y hy; omega)
  simpa using this
theorem NdL.push {n : Nat} {l : List Int} (h : NdL n l) {u : Int} (hu : 0 ≤ u ∧ u < n) : NdL n (push l u) := by
  unfold Pl.push
  split
  · exact h
  · next hm =>
    refine ⟨List.nodup_append.2 ⟨h.1, by simp, fun a ha b hb e => hm ?_⟩, fun x hx => ?_⟩
    · have : b = u := by simpa using hb
      rw [← this, ← e]; exact ha
    · rcases List.mem_append.1 hx with h1 | h1
      · exact h.2 x h1
      · have : x = u := by simpa using h1
        rw [this]; exact hu
theorem NdL.pushs {n : Nat} : ∀ (k : List Int) {l : List Int}, NdL n l → (∀ u ∈ k, 0 ≤ u ∧ u < n) → NdL n (k.foldl Pl.push l)
  | [], _, h, _ => h
  | x :: k, _, h, hk => NdL.pushs k (h.push (hk x (by simp))) fun u hu => hk u (by simp [hu])
theorem aboveL_ok {n : Nat} {par : List (List Int)} (hup : UpOk n par) (v : Int) : (aboveL par v).length ≤ 2000 ∧ ∀ u ∈ aboveL par v, 0 ≤ u ∧ u < n := by
  unfold aboveL
  split
  · simp
  · next h =>
    have := hup.row v.toNat (by rw [← hup.len]; omega)
    exact ⟨this.1, fun u hu => by have := this.2 u hu; omega⟩
end Go.Pl
namespace Go.Pl
theorem push_le1 (l : List Int) (u : Int) : l.length ≤ (push l u).length := by unfold push; split <;> simp
theorem push_le : ∀ (k l : List Int), l.length ≤ (k.foldl push l).length
  | [], _ => Nat.le_refl _
  | x :: k, l => Nat.le_trans (push_le1 l x) (push_le k _)
open Go Go.RT
theorem isD_low {es : List Edg} {a : Nat} {D : List Int} (h0 : gt0 D a = 0) (he : ∀ e ∈ es, 0 ≤ gt0 D e.f.toNat → 0 ≤ gt0 D e.t.toNat ∧ gt0 D e.t.toNat ≤ gt0 D e.f.toNat + e.c) {v : Nat} {c : Int} (w : Wk es a v c) : 0 ≤ gt0 D v ∧ gt0 D v ≤ c := by
  induction w with
  | nil => omega
  | snoc w h ih => have := he _ h ih.1; omega
theorem isD_cert {es : List Edg} {a n : Nat} {D : List Int} (h0 : gt0 D a = 0) (he : ∀ e ∈ es, 0 ≤ gt0 D e.f.toNat → 0 ≤ gt0 D e.t.toNat ∧ gt0 D e.t.toNat ≤ gt0 D e.f.toNat + e.c) (hw : ∀ v, v < n → gt0 D v = -1 ∨ Wk es a v (gt0 D v)) : ∀ v, v < n → IsD es a v (gt0 D v) := fun v hv => by
  rcases hw v hv with h | h
  · exact .inl ⟨h, fun c w => by have := isD_low h0 he w; omega⟩
  · exact .inr ⟨h, fun c w => (isD_low h0 he w).2⟩
def tr2 : Tr := ⟨0, [0, 3, 3], [[], [1], [2]], [[], [2], [0]]⟩
theorem Wk.one {es : List Edg} {a u v : Nat} {c k : Int} (w : Wk es a u c) (f t : Int) (hf : f.toNat = u) (ht : t.toNat = v) (h : ⟨f, t, k⟩ ∈ es) : Wk es a v (c + k) := by
  subst hf; subst ht; exact .snoc w h
open Go Go.RT
theorem merge_mem {n : Nat} {ll : List (List Int)} (h : LLok n ll) (r : Int) {v : Nat} (hv : v < n) (y x : Int) : x ∈ rowAt' (mergeL r v ll y) v ↔ x = capV r v y ∨ x ∈ rowAt' ll v := by
  have e : rowAt' (mergeL r v ll y) v = insU (rowAt' ll v) (capV r v y) := by
    unfold mergeL
    show (ll.set v _).getD v [] = _
    rw [getD_set _ _ _ _ _ (by rw [h.len]; exact hv), if_pos rfl]
  rw [e]; exact (insU_spec (h.row v hv).1 _).2 x
theorem fold_mem {n : Nat} {r : Int} {v : Nat} (hv : v < n) : ∀ (l : List Int) {ll : List (List Int)}, LLok n ll → (∀ x ∈ l, 0 ≤ x ∧ x < n) → ∀ x, x ∈ rowAt' (l.foldl (mergeL r v) ll) v ↔ (∃ h ∈ l, x = capV r v h) ∨ x ∈ rowAt' ll v
  | [], _, _, _, x => by simp
  | y :: l, ll, h, hl, x => by
    have := fold_mem (r := r) hv l (h.merge r hv (hl y (by simp))) (fun z hz => hl z (by simp [hz])) x
    rw [List.foldl_cons, this, merge_mem h r hv]
    constructor
    · rintro (⟨z, hz, e⟩ | e | e)
      · exact .inl ⟨z, by simp [hz], e⟩
      · exact .inl ⟨y, by simp, e⟩
      · exact .inr e
    · rintro (⟨z, hz, e⟩ | e)
      · rcases List.mem_cons.1 hz with rfl | hz
        · exact .inr (.inl e)
        · exact .inl ⟨z, hz, e⟩
      · exact .inr (.inr e)
def Src (r : Int) (a v : Nat) (ll : List (List Int)) (u x : Int) : Prop := (u = (a : Int) ∧ x = capV r v (v : Int)) ∨ ∃ h ∈ rowAt' ll u.toNat, x = capV r v h
theorem step_mem {n : Nat} {r : Int} {a v : Nat} (hv : v < n) {ll : List (List Int)} (h : LLok n ll) {u : Int} (hu : 0 ≤ u ∧ u < n) (x : Int) : x ∈ rowAt' (stepU r a v ll u) v ↔ Src r a v ll u x ∨ x ∈ rowAt' ll v := by
  unfold stepU Src
  by_cases e : u = (a : Int)
  · rw [if_pos e, fold_mem hv _ (h.merge r hv (by omega)) (h.row u.toNat (by omega)).2, merge_mem h r hv]
    constructor
    · rintro (h1 | h1 | h1)
      · exact .inl (.inr h1)
      · exact .inl (.inl ⟨e, h1⟩)
      · exact .inr h1
    · rintro ((⟨_, h1⟩ | h1) | h1)
      · exact .inr (.inl h1)
      · exact .inl h1
      · exact .inr (.inr h1)
  · rw [if_neg e, fold_mem hv _ h (h.row u.toNat (by omega)).2]
    constructor
    · rintro (h1 | h1)
      · exact .inl (.inr h1)
      · exact .inr h1
    · rintro ((⟨h1, _⟩ | h1) | h1)
      · exact absurd h1 e
      · exact .inl h1
      · exact .inr h1
theorem step_other {r : Int} {a v : Nat} {ll : List (List Int)} {u : Int} {w : Nat} (hw : w ≠ v) : rowAt' (stepU r a v ll u) w = rowAt' ll w := by
  unfold stepU
  rw [fold_other hw]
  split
  · exact merge_other _ _ _ _ hw
  · rfl
theorem steps_mem {n : Nat} {r : Int} {a v : Nat} (hv : v < n) : ∀ (l : List Int) {ll : List (List Int)}, LLok n ll → (∀ u ∈ l, 0 ≤ u ∧ u < n ∧ u ≠ (v : Int)) → (∀ x, x ∈ rowAt' (l.foldl (stepU r a v) ll) v ↔ (∃ u ∈ l, Src r a v ll u x) ∨ x ∈ rowAt' ll v) ∧ ∀ w, w ≠ v → rowAt' (l.foldl (stepU r a v) ll) w = rowAt' ll w
  | [], _, _, _ => ⟨fun x => by simp, fun w _ => rfl⟩
  | y :: l, ll, h, hl => by
    have hy := hl y (by simp)
    obtain ⟨i1, i2⟩ := steps_mem (r := r) (a := a) hv l (h.step r hv (u := y) (a := a) (by omega)) (fun z hz => hl z (by simp [hz]))
    refine ⟨fun x => ?_, fun w hw => (i2 w hw).trans (step_other hw)⟩
    have hs : ∀ u ∈ l, ∀ x, Src r a v (stepU r a v ll y) u x ↔ Src r a v ll u x := fun u hu x => by
      unfold Src
      rw [step_other (by have := hl u (by simp [hu]); omega)]
    rw [List.foldl_cons, i1, step_mem hv h (by omega)]
    constructor
    · rintro (⟨z, hz, e⟩ | e | e)
      · exact .inl ⟨z, by simp [hz], (hs z hz x).1 e⟩
      · exact .inl ⟨y, by simp, e⟩
      · exact .inr e
    · rintro (⟨z, hz, e⟩ | e)
      · rcases List.mem_cons.1 hz with rfl | hz
        · exact .inr (.inl e)
        · exact .inl ⟨z, hz, (hs z hz x).2 e⟩
      · exact .inr (.inr e)
structure HopInv (r : Int) (a n : Nat) (up : List (List Int)) (done : List Nat) (ll : List (List Int)) : Prop where
  ok : LLok n ll
  off : ∀ v, v < n → v ∉ done → rowAt' ll v = []
  on : ∀ v ∈ done, ∀ x, x ∈ rowAt' ll v ↔ ∃ u ∈ rowAt' up v, Src r a v ll u x
theorem hops_inv {r : Int} {a n : Nat} {up : List (List Int)} (hup : UpOk n up) : ∀ (l done : List Nat) {ll : List (List Int)}, HopInv r a n up done ll → (∀ v ∈ done, ∀ u ∈ rowAt' up v, u = (a : Int) ∨ u.toNat ∈ done) → a ∉ done → a ∉ l → (∀ v ∈ l, v < n) → (done ++ l).Nodup →
    (∀ p v q, l = p ++ v :: q → ∀ u ∈ rowAt' up v, u = (a : Int) ∨ u.toNat ∈ done ++ p) → HopInv r a n up (done ++ l) (l.foldl (hopsV r a up) ll)
  | [], done, ll, h, _, _, _, _, _, _ => by simpa using h
  | v :: l, done, ll, h, hcl, had, hal, hlt, hnd, htop => by
    have hv := hlt v (by simp)
    have hvd : v ∉ done := fun e => (List.nodup_append.1 hnd).2.2 v e v (by simp) rfl
    have hva : a ≠ v := fun e => hal (by rw [e]; simp)
    obtain ⟨q1, q2⟩ := steps_mem (r := r) (a := a) hv (rowAt' up v) h.ok (fun u hu => (hup.row v hv).2 u hu)
    have hok : LLok n (hopsV r a up ll v) := LLok.steps hv _ h.ok fun x hx => by have := (hup.row v hv).2 x hx; omega
    have hnew : HopInv r a n up (done ++ [v]) (hopsV r a up ll v) := by
      refine ⟨hok, fun w hw hwd => ?_, fun w hw x => ?_⟩
      · have hne : w ≠ v := fun e => hwd (by simp [e])
        exact (q2 w hne).trans (h.off w hw fun e => hwd (by simp [e]))
      · rcases List.mem_append.1 hw with hw | hw
        · have hne : w ≠ v := fun e => hvd (by rw [← e]; exact hw)
          show x ∈ rowAt' (hopsV r a up ll v) w ↔ _
          rw [show rowAt' (hopsV r a up ll v) w = rowAt' ll w from q2 w hne, h.on w hw x]
          refine exists_congr fun u => and_congr_right fun hu => ?_
          unfold Src
          have hut : u.toNat ≠ v := by
            rcases hcl w hw u hu with e | e
            · omega
            · exact fun e2 => hvd (by rw [← e2]; exact e)
          rw [show rowAt' (hopsV r a up ll v) u.toNat = rowAt' ll u.toNat from q2 _ hut]
        · have : w = v := by simpa using hw
          subst this
          show x ∈ rowAt' ((rowAt' up w).foldl (stepU r a w) ll) w ↔ _
          rw [q1 x, h.off w hv hvd]
          simp only [List.not_mem_nil, or_false]
          refine exists_congr fun u => and_congr_right fun hu => ?_
          unfold Src
          have hut : u.toNat ≠ w := by have := (hup.row w hv).2 u hu; omega
          rw [show rowAt' (hopsV r a up ll w) u.toNat = rowAt' ll u.toNat from q2 _ hut]
    have := hops_inv hup l (done ++ [v]) hnew (fun w hw u hu => by
      rcases List.mem_append.1 hw with hw | hw
      · rcases hcl w hw u hu with e | e
        · exact .inl e
        · exact .inr (by simp [e])
      · have : w = v := by simpa using hw
        subst this
        rcases htop [] w l rfl u hu with e | e
        · exact .inl e
        · exact .inr (by simp at e; simp [e])) (by simp [had, hva]) (fun e => hal (by simp [e])) (fun w hw => hlt w (by simp [hw])) (by simpa using hnd) (fun p w q e u hu => by
        rcases htop (v :: p) w q (by rw [e]; rfl) u hu with e2 | e2
        · exact .inl e2
        · exact .inr (by simpa using e2))
    simpa using this
open Go Go.RT
abbrev Gr.m (g : Gr) : Nat := (g.r + g.n).toNat
theorem IsD.cases {es : List Edg} {r n a v : Nat} {d : Int} (vg : VG es r n) (h : IsD es a v d) : (d = -1 ∧ ∀ c, ¬ Wk es a v c) ∨ (0 ≤ d ∧ Wk es a v d ∧ ∀ c, Wk es a v c → d ≤ c) := by
  rcases h with h | h
  · exact .inl h
  · exact .inr ⟨h.1.nn vg, h⟩
open Go Go.RT
theorem RunOk.vg {g : Gr} {a : Nat} {t : Tr} (h : RunOk g a t) : VG g.es g.r.toNat g.m := (checkI_vg h.ok).1
theorem RunOk.am {g : Gr} {a : Nat} {t : Tr} (h : RunOk g a t) : a < g.m := by have := (checkI_vg h.ok).2; have := h.lt; unfold Gr.m; omega
theorem RunOk.parl {g : Gr} {a : Nat} {t : Tr} (h : RunOk g a t) : t.par.length = g.m := by rw [h.par, parL_len]
theorem RunOk.up {g : Gr} {a : Nat} {t : Tr} (h : RunOk g a t) : UpOk g.m t.par := by rw [h.par]; exact parL_ok h.vg _ _
theorem RunOk.edge {g : Gr} {a : Nat} {t : Tr} (h : RunOk g a t) {e : Edg} (he : e ∈ g.es) (h0 : 0 ≤ gt0 t.dist e.f.toNat) : 0 ≤ gt0 t.dist e.t.toNat ∧ gt0 t.dist e.t.toNat ≤ gt0 t.dist e.f.toNat + e.c := by
  have vg := h.vg
  have hf := vg.f e he; have ht := vg.t e he
  rcases (h.dist e.f.toNat (by show _ < g.m; omega)).cases vg with ⟨h1, _⟩ | ⟨_, h2, _⟩
  · omega
  · have w := Wk.snoc h2 he
    rcases (h.dist e.t.toNat (by show _ < g.m; omega)).cases vg with ⟨_, h4⟩ | ⟨h3, _, h5⟩
    · exact absurd w (h4 _)
    · exact ⟨h3, h5 _ w⟩
theorem RunOk.par_mem {g : Gr} {a : Nat} {t : Tr} (h : RunOk g a t) {v : Nat} (hv : v < g.m) (u : Int) : u ∈ rowAt' t.par v ↔ v ≠ a ∧ ∃ e ∈ g.es, e.f = u ∧ e.t = (v : Int) ∧ gt0 t.dist e.f.toNat ≠ -1 ∧ gt0 t.dist e.f.toNat + e.c = gt0 t.dist v := by
  have e0 : rowAt' t.par v = parE g.es a t.dist v := by rw [h.par]; exact parL_get _ _ _ hv
  rw [e0]
  unfold parE
  simp only [List.mem_map, List.mem_filter, Bool.and_eq_true, decide_eq_true_eq, parC]
  constructor
  · rintro ⟨e, ⟨he, ⟨⟨h1, h2⟩, h3⟩, h4⟩, h5⟩
    refine ⟨by omega, e, he, h5, h4, h2, ?_⟩
    rw [h4, Int.toNat_natCast] at h3; exact h3
  · rintro ⟨hne, e, he, h5, h4, h2, h3⟩
    refine ⟨e, ⟨he, ⟨⟨by omega, h2⟩, ?_⟩, h4⟩, h5⟩
    rw [h4, Int.toNat_natCast]; exact h3
theorem RunOk.dge {g : Gr} {a : Nat} {t : Tr} (h : RunOk g a t) {v : Nat} (hv : v < g.m) : -1 ≤ gt0 t.dist v := (h.dist v hv).ge h.vg
theorem RunOk.par_ex {g : Gr} {a : Nat} {t : Tr} (h : RunOk g a t) {v : Nat} (hv : v < g.m) (hne : v ≠ a) (h0 : 0 ≤ gt0 t.dist v) : ∃ u, u ∈ rowAt' t.par v := by
  have vg := h.vg
  rcases (h.dist v hv).cases vg with ⟨h1, _⟩ | ⟨_, w, hm⟩
  · omega
  · generalize hd : gt0 t.dist v = d at w hm
    have key : ∀ {v' : Nat} {d' : Int}, Wk g.es a v' d' → v' = v → d' = d → ∃ u, u ∈ rowAt' t.par v := fun {v' d'} w' hv' hd' => by
      cases w' with
      | nil => exact absurd hv'.symm hne
      | @snoc e c w2 he =>
        have hf := vg.f e he; have ht := vg.t e he
        rcases (h.dist e.f.toNat (by show _ < g.m; omega)).cases vg with ⟨_, h4⟩ | ⟨h3, _, h5⟩
        · exact absurd w2 (h4 _)
        · have h6 := h5 _ w2
          have h7 := (h.edge he h3).2
          rw [hv'] at h7
          exact ⟨e.f, (h.par_mem hv _).2 ⟨hne, e, he, rfl, by omega, by omega, by omega⟩⟩
    exact key w rfl rfl
theorem split_before {d : List Int} {l p q : List Nat} {v u : Nat} (hs : l.Pairwise (ltHd d)) (e : l = p ++ v :: q) (hu : u ∈ l) (hlt : ltHd d u v) : u ∈ p := by
  subst e
  rcases List.mem_append.1 hu with h | h
  · exact h
  · exfalso
    have h2 := (List.pairwise_append.1 hs).2.1
    rcases List.mem_cons.1 h with rfl | h
    · unfold ltHd at hlt; omega
    · have := (List.pairwise_cons.1 h2).1 u h
      unfold ltHd at *; omega
theorem ordA_mem {d : List Int} {a i v : Nat} : v ∈ ordA d a i ↔ v < i ∧ gt0 d v ≠ -1 ∧ v ≠ a := by
  unfold ordA ordP
  simp only [List.mem_filter, List.mem_range, Bool.and_eq_true, decide_eq_true_eq]
  omega
theorem RunOk.hopInv {g : Gr} {a : Nat} {t : Tr} (h : RunOk g a t) : HopInv g.r a g.m t.par (ordA t.dist a g.m) t.hops := by
  have vg := h.vg
  obtain ⟨l2, p, q, hh⟩ := h.hops
  have hmem : ∀ v, v ∈ l2 ↔ v < g.m ∧ gt0 t.dist v ≠ -1 ∧ v ≠ a := fun v => p.mem_iff.trans ordA_mem
  have hnd : l2.Nodup := p.nodup_iff.2 (List.nodup_range.filter _)
  have hbase : HopInv g.r a g.m t.par [] (List.replicate g.m []) := ⟨LLok.nil _, fun v hv _ => getD_rep _ _ _ _ hv, fun v hv => by cases hv⟩
  have := hops_inv (r := g.r) h.up l2 [] hbase (fun v hv => by cases hv) (by simp) (fun e => ((hmem a).1 e).2.2 rfl) (fun v hv => ((hmem v).1 hv).1) (by simpa using hnd) (fun pre v suf e u hu => by
    have hv : v ∈ l2 := by rw [e]; simp
    obtain ⟨hv1, hv2, hv3⟩ := (hmem v).1 hv
    obtain ⟨_, ed, he, hf, ht, h1, h2⟩ := (h.par_mem hv1 u).1 hu
    have hfn := vg.f ed he
    have hc := vg.c ed he
    by_cases hua : u = (a : Int)
    · exact .inl hua
    · refine .inr ?_
      rw [hf] at h1 h2 hfn
      simp only [List.nil_append]
      refine split_before q e ((hmem u.toNat).2 ⟨by omega, h1, by omega⟩) ?_
      unfold ltHd
      by_cases hc0 : ed.c = 0
      · refine .inr ⟨by omega, ?_⟩
        have hr : (g.r.toNat : Int) ≤ ed.f := by
          by_cases hlt : ed.f < (g.r.toNat : Int)
          · have := vg.rt ed he hlt; omega
          · omega
        have := (vg.net ed he hr).1
        omega
      · left; omega)
  rw [hh]
  refine ⟨this.ok, fun v hv hn => this.off v hv (fun e => hn (p.mem_iff.1 (by simpa using e))), fun v hv => this.on v (by simpa using p.mem_iff.2 hv)⟩
theorem RunOk.hop_ex {g : Gr} {a : Nat} {t : Tr} (h : RunOk g a t) {v : Nat} (hv : v < g.m) (hne : v ≠ a) (h0 : 0 ≤ gt0 t.dist v) : ∃ x, x ∈ rowAt' t.hops v := by
  have hi := h.hopInv
  obtain ⟨l2, p, q, hh⟩ := h.hops
  have vg := h.vg
  -- by the order
  have key : ∀ (k : Nat) (v : Nat), v < g.m → v ≠ a → 0 ≤ gt0 t.dist v → (gt0 t.dist v).toNat * 129 + (g.m - v) ≤ k → ∃ x, x ∈ rowAt' t.hops v := by
    intro k
    induction k with
    | zero => intro v hv _ _ hk; omega
    | succ k ih =>
      intro v hv hne h0 hk
      obtain ⟨u, hu⟩ := h.par_ex hv hne h0
      obtain ⟨_, ed, he, hf, ht, h1, h2⟩ := (h.par_mem hv u).1 hu
      have hfn := vg.f ed he
      have hc := vg.c ed he
      have hon := hi.on v (ordA_mem.2 ⟨hv, by omega, hne⟩)
      by_cases hua : u = (a : Int)
      · exact ⟨_, (hon _).2 ⟨u, hu, .inl ⟨hua, rfl⟩⟩⟩
      · rw [hf] at h1 h2 hfn
        have hdu := h.dge (v := u.toNat) (by omega)
        have hm := vg.n128
        obtain ⟨x, hx⟩ := ih u.toNat (by omega) (by omega) (by omega) (by
          by_cases hc0 : ed.c = 0
          · have hr : (g.r.toNat : Int) ≤ ed.f := by
              by_cases hlt : ed.f < (g.r.toNat : Int)
              · have := vg.rt ed he hlt; omega
              · omega
            have := (vg.net ed he hr).1
            have e1 : gt0 t.dist u.toNat = gt0 t.dist v := by omega
            rw [e1]; omega
          · have e1 : (gt0 t.dist u.toNat).toNat + 1 ≤ (gt0 t.dist v).toNat := by omega
            have e2 := Nat.mul_le_mul_right 129 e1
            omega)
        exact ⟨_, (hon _).2 ⟨u, hu, .inr ⟨x, hx, rfl⟩⟩⟩
  exact key _ v hv hne h0 (Nat.le_refl _)
theorem RunOk.par_len {g : Gr} {a : Nat} {t : Tr} (h : RunOk g a t) {v : Nat} (hv : v < g.m) : 0 < (rowAt' t.par v).length ↔ v ≠ a ∧ 0 ≤ gt0 t.dist v := by
  constructor
  · intro hl
    obtain ⟨u, hu⟩ := List.exists_mem_of_length_pos hl
    obtain ⟨h1, ed, he, hf, ht, h2, h3⟩ := (h.par_mem hv u).1 hu
    have := h.vg.f ed he; have := h.vg.c ed he
    have := h.dge (v := ed.f.toNat) (by omega)
    exact ⟨h1, by omega⟩
  · rintro ⟨h1, h2⟩
    obtain ⟨u, hu⟩ := h.par_ex hv h1 h2
    exact List.length_pos_of_mem hu
theorem RunOk.hop_len {g : Gr} {a : Nat} {t : Tr} (h : RunOk g a t) {v : Nat} (hv : v < g.m) : 0 < (rowAt' t.hops v).length ↔ v ≠ a ∧ 0 ≤ gt0 t.dist v := by
  have hd := h.dge hv
  constructor
  · intro hl
    refine Classical.byContradiction fun hn => ?_
    have := h.hopInv.off v hv (fun e => by have := ordA_mem.1 e; exact hn ⟨this.2.2, by omega⟩)
    rw [this] at hl; simp at hl
  · rintro ⟨h1, h2⟩
    obtain ⟨u, hu⟩ := h.hop_ex hv h1 h2
    exact List.length_pos_of_mem hu
open Go Go.RT
/- the nodes that lead to an end -/
theorem push_mem (l : List Int) (u x : Int) : x ∈ push l u ↔ x ∈ l ∨ x = u := by
  unfold push
  split
  · next h => constructor
              · exact .inl
              · rintro (h1 | rfl)
                · exact h1
                · exact h
  · simp
theorem pushs_mem : ∀ (k l : List Int) (x : Int), x ∈ k.foldl push l ↔ x ∈ l ∨ x ∈ k
  | [], l, x => by simp
  | u :: k, l, x => by rw [List.foldl_cons, pushs_mem k, push_mem, List.mem_cons, or_assoc]
theorem pushs_pre : ∀ (k l : List Int), ∃ r, k.foldl push l = l ++ r
  | [], l => ⟨[], by simp⟩
  | u :: k, l => by
    obtain ⟨r, hr⟩ := pushs_pre k (push l u)
    rw [List.foldl_cons, hr]
    unfold push
    split
    · exact ⟨r, rfl⟩
    · exact ⟨[u] ++ r, by rw [List.append_assoc]⟩
inductive Anc2 (par : List (List Int)) (to : Int) : Int → Prop where
  | here : Anc2 par to to
  | up {x u : Int} : Anc2 par to x → u ∈ aboveL par x → Anc2 par to u
theorem bfs_spec {n : Nat} {par : List (List Int)} (hup : UpOk n par) {to : Int} : ∀ (f i : Nat) (l : List Int), NdL n l → n + 1 ≤ f + i → i ≤ l.length → (∀ x ∈ l, Anc2 par to x) → (∀ k (h : k < l.length), k < i → ∀ u ∈ aboveL par l[k], u ∈ l) →
    (∀ x ∈ l, x ∈ bfsGo (aboveL par) f i l) ∧ (∀ x ∈ bfsGo (aboveL par) f i l, Anc2 par to x ∧ ∀ u ∈ aboveL par x, u ∈ bfsGo (aboveL par) f i l) ∧ NdL n (bfsGo (aboveL par) f i l)
  | 0, i, l, h, hf, hi, ha, hc => by have := h.len; omega
  | f + 1, i, l, h, hf, hi, ha, hc => by
    simp only [bfsGo]
    by_cases hlt : i < l.length
    · rw [List.getElem?_eq_getElem hlt]
      obtain ⟨r, hr⟩ := pushs_pre (aboveL par l[i]) l
      have hm := pushs_mem (aboveL par l[i]) l
      have hnd : NdL n ((aboveL par l[i]).foldl push l) := NdL.pushs _ h (aboveL_ok hup _).2
      obtain ⟨q1, q2, q3⟩ := bfs_spec hup f (i + 1) ((aboveL par l[i]).foldl push l) hnd (by omega) (by have := push_le (aboveL par l[i]) l; omega) (fun x hx => by
        rcases (hm x).1 hx with h1 | h1
        · exact ha x h1
        · exact .up (ha _ (List.getElem_mem hlt)) h1) (fun k hk hki u hu => by
        have hkl : k < l.length := by omega
        have e : ((aboveL par l[i]).foldl push l)[k] = l[k] := by
          simp only [hr]; rw [List.getElem_append_left hkl]
        rw [e] at hu
        by_cases hki2 : k = i
        · subst hki2; exact (hm u).2 (.inr hu)
        · exact (hm u).2 (.inl (hc k hkl (by omega) u hu)))
      exact ⟨fun x hx => q1 x ((hm x).2 (.inl hx)), q2, q3⟩
    · rw [List.getElem?_eq_none (by omega)]
      dsimp only
      refine ⟨fun x hx => hx, fun x hx => ⟨ha x hx, fun u hu => ?_⟩, h⟩
      obtain ⟨k, hk, rfl⟩ := List.mem_iff_getElem.1 hx
      exact hc k hk (by omega) u hu
theorem need_spec {n : Nat} {par : List (List Int)} (hup : UpOk n par) {to : Int} (ht : 0 ≤ to ∧ to < n) : (∀ x, x ∈ needL par n to ↔ Anc2 par to x) ∧ NdL n (needL par n to) := by
  obtain ⟨q1, q2, q3⟩ := bfs_spec hup (to := to) (n + 1) 0 [to] ⟨by simp, by simp; exact ht⟩ (by omega) (by simp) (fun x hx => by
    have : x = to := by simpa using hx
    rw [this]; exact .here) (fun k _ hk => by omega)
  refine ⟨fun x => ⟨fun h => (q2 x h).1, fun h => ?_⟩, q3⟩
  induction h with
  | here => exact q1 to (by simp)
  | up h hu ih => exact (q2 _ ih).2 _ hu
theorem next_spec (par : List (List Int)) (nd : List Int) (at_ : Int) (n : Nat) : ∀ (f v : Nat), n ≤ f + v → v ≤ n →
    (nextG par nd at_ n f v = -1 ∧ ∀ w, v ≤ w → w < n → nextAt par nd at_ w = false) ∨ ∃ w, v ≤ w ∧ w < n ∧ nextG par nd at_ n f v = (w : Int) ∧ nextAt par nd at_ w = true ∧ ∀ w', v ≤ w' → w' < w → nextAt par nd at_ w' = false
  | 0, v, h, hv => .inl ⟨rfl, fun w h1 h2 => by omega⟩
  | f + 1, v, h, hv => by
    simp only [nextG]
    by_cases hvn : v < n
    · rw [if_pos hvn]
      by_cases hx : nextAt par nd at_ v = true
      · rw [if_pos hx]; exact .inr ⟨v, Nat.le_refl _, hvn, rfl, hx, fun w' h1 h2 => by omega⟩
      · rw [if_neg hx]
        have hx' : nextAt par nd at_ v = false := by simpa using hx
        rcases next_spec par nd at_ n f (v + 1) (by omega) hvn with ⟨h1, h2⟩ | ⟨w, h1, h2, h3, h4, h5⟩
        · refine .inl ⟨h1, fun w h3 h4 => ?_⟩
          by_cases e : w = v
          · rw [e]; exact hx'
          · exact h2 w (by omega) h4
        · refine .inr ⟨w, by omega, h2, h3, h4, fun w' h6 h7 => ?_⟩
          by_cases e : w' = v
          · rw [e]; exact hx'
          · exact h5 w' (by omega) h7
    · rw [if_neg hvn]; exact .inl ⟨rfl, fun w h1 h2 => by omega⟩
theorem anc_next {par : List (List Int)} {to x : Int} (h : Anc2 par to x) (hne : x ≠ to) : ∃ v, Anc2 par to v ∧ x ∈ aboveL par v := by
  cases h with
  | here => exact absurd rfl hne
  | up h hu => exact ⟨_, h, hu⟩
open Go Go.RT
theorem cost_of {es : List Edg} (ha : AscK es) {e : Edg} (he : e ∈ es) : costL e.f e.t es = (e.c, true) := by
  induction es with
  | nil => cases he
  | cons x l ih =>
    obtain ⟨a1, a2⟩ := List.pairwise_cons.1 ha
    simp only [costL]
    rcases List.mem_cons.1 he with rfl | he
    · rw [if_pos (by simp [isB])]
    · rw [if_neg ?_]
      · exact ih a2 he
      · have := a1 e he
        simp only [isB, Bool.and_eq_true, decide_eq_true_eq]
        unfold ltK at this; omega
theorem RunOk.above {g : Gr} {a : Nat} {t : Tr} (h : RunOk g a t) {v : Nat} (hv : v < g.m) : aboveL t.par v = rowAt' t.par v := by
  unfold aboveL
  rw [if_neg (by rw [h.parl]; omega), Int.toNat_natCast]
/-- a step of a path -/
theorem RunOk.stp {g : Gr} {a : Nat} {t : Tr} (h : RunOk g a t) {v : Nat} (hv : v < g.m) {u : Int} (hu : u ∈ rowAt' t.par v) :
    v ≠ a ∧ 0 ≤ u ∧ u < g.m ∧ 0 ≤ gt0 t.dist u.toNat ∧ (∃ c, costL u v g.es = (c, true) ∧ gt0 t.dist u.toNat + c = gt0 t.dist v ∧ 0 ≤ c ∧ c ≤ 65535) ∧ ltHd t.dist u.toNat v ∧ (g.r ≤ u → (v : Int) < g.r) := by
  have vg := h.vg
  obtain ⟨h1, e, he, hf, ht, h2, h3⟩ := (h.par_mem hv u).1 hu
  have hfn := vg.f e he
  have hc := vg.c e he
  have hg0 := (checkI_vg h.ok).2.1
  rw [hf] at hfn h2 h3
  have hd := h.dge (v := u.toNat) (by omega)
  refine ⟨h1, hfn.1, hfn.2, by omega, ⟨e.c, by rw [← hf, ← ht]; exact cost_of vg.asc he, h3, hc.1, hc.2⟩, ?_, fun hr => by have := (vg.net e he (by omega)).1; omega⟩
  unfold ltHd
  by_cases hc0 : e.c = 0
  · refine .inr ⟨by omega, ?_⟩
    have hr : (g.r.toNat : Int) ≤ e.f := by
      by_cases hlt : e.f < (g.r.toNat : Int)
      · have := vg.rt e he hlt; omega
      · omega
    have := (vg.net e he hr).1
    omega
  · left; omega
/-- the first router on the way -/
def Fst (g : Gr) (a : Nat) (t : Tr) (v : Nat) (first : Int) : Prop :=
  (first = -1 ∧ (v = a ∨ (g.r ≤ (v : Int) ∧ (v : Int) ∈ rowAt' t.hops v))) ∨ (0 ≤ first ∧ first < g.r ∧ first ∈ rowAt' t.hops v)
theorem RunOk.fst {g : Gr} {a : Nat} {t : Tr} (h : RunOk g a t) {v : Nat} (hv : v < g.m) {u : Int} (hu : u ∈ rowAt' t.par v) {first : Int} (hF : Fst g a t u.toNat first) :
    Fst g a t v (if first < 0 ∧ (v : Int) < g.r then (v : Int) else first) := by
  obtain ⟨hva, hu0, hum, hdu, ⟨c, hc1, hc2, hc3, hc4⟩, hlt, hnet⟩ := h.stp hv hu
  have hon := h.hopInv.on v (ordA_mem.2 ⟨hv, by omega, hva⟩)
  have hlr := h.lt
  rcases hF with ⟨h1, h2⟩ | ⟨h1, h2, h3⟩
  · subst h1
    have hin : capV g.r v (v : Int) ∈ rowAt' t.hops v ∨ True := .inr trivial
    have hv2 : (v : Int) ∈ rowAt' t.hops v := by
      rcases h2 with h2 | ⟨h2, h3⟩
      · refine (hon _).2 ⟨u, hu, .inl ⟨by omega, ?_⟩⟩
        unfold capV; split <;> rfl
      · refine (hon _).2 ⟨u, hu, .inr ⟨u, ?_, ?_⟩⟩
        · have e : ((u.toNat : Nat) : Int) = u := by omega
          rw [e] at h3; exact h3
        · unfold capV; rw [if_pos (by omega)]
    by_cases hr : (v : Int) < g.r
    · rw [if_pos ⟨by omega, hr⟩]; exact .inr ⟨by omega, hr, hv2⟩
    · rw [if_neg (fun e => hr e.2)]; exact .inl ⟨rfl, .inr ⟨by omega, hv2⟩⟩
  · rw [if_neg (fun e => by omega)]
    refine .inr ⟨h1, h2, (hon _).2 ⟨u, hu, .inr ⟨first, h3, ?_⟩⟩⟩
    unfold capV; rw [if_neg (by omega)]
open Go Go.RT
structure GoodP (g : Gr) (a to : Nat) (t : Tr) (nd : List Int) (p : List Int) : Prop where
  pos : 0 < p.length
  head : p[0]? = some (a : Int)
  last : p[p.length - 1]? = some (to : Int)
  stp : ∀ i x y, p[i]? = some x → p[i + 1]? = some y → ∃ v : Nat, y = (v : Int) ∧ v < g.m ∧ x ∈ rowAt' t.par v ∧ ∀ w : Nat, w < v → ¬ ((w : Int) ∈ nd ∧ x ∈ aboveL t.par w)
  no : NdL g.m p
structure PInv (g : Gr) (a : Nat) (t : Tr) (nd : List Int) (at_ : Nat) (pre : List Int) : Prop where
  head : (pre ++ [(at_ : Int)])[0]? = some (a : Int)
  stp : ∀ i x y, (pre ++ [(at_ : Int)])[i]? = some x → (pre ++ [(at_ : Int)])[i + 1]? = some y → ∃ v : Nat, y = (v : Int) ∧ v < g.m ∧ x ∈ rowAt' t.par v ∧ ∀ w : Nat, w < v → ¬ ((w : Int) ∈ nd ∧ x ∈ aboveL t.par w)
  no : NdL g.m (pre ++ [(at_ : Int)])
  lt : ∀ x ∈ pre, ltHd t.dist x.toNat at_
  mem : (at_ : Int) ∈ nd
theorem path_go {g : Gr} {a to : Nat} {t : Tr} (h : RunOk g a t) (hto : to < g.m) : ∀ (f : Nat) (at_ : Nat) (pre : List Int), g.m + 2 ≤ f + (pre.length + 1) → PInv g a t (needL t.par g.m to) at_ pre → GoodP g a to t (needL t.par g.m to) (pathG t.par (needL t.par g.m to) g.m to f at_ (pre ++ [(at_ : Int)]))
  | 0, at_, pre, hf, hi => by have := hi.no.len; simp at this; omega
  | f + 1, at_, pre, hf, hi => by
    have hlen := hi.no.len
    simp only [pathG]
    by_cases he : (at_ : Int) = (to : Int)
    · rw [if_pos he]
      refine ⟨by simp, hi.head, ?_, hi.stp, hi.no⟩
      rw [← he]; simp
    · rw [if_neg he]
      obtain ⟨ns1, ns2⟩ := need_spec h.up (to := (to : Int)) (by omega)
      obtain ⟨v0, hv0, hx0⟩ := anc_next ((ns1 _).1 hi.mem) he
      have hv0n := ns2.2 _ ((ns1 _).2 hv0)
      rcases next_spec t.par (needL t.par g.m to) at_ g.m g.m 0 (by omega) (Nat.zero_le _) with ⟨_, h2⟩ | ⟨w, _, hw, h3, h4, h5⟩
      · exfalso
        have := h2 v0.toNat (Nat.zero_le _) (by omega)
        have e : ((v0.toNat : Nat) : Int) = v0 := by omega
        unfold nextAt at this
        rw [e] at this
        simp [(ns1 v0).2 hv0, hx0] at this
      · rw [h3, if_neg (by omega)]
        have h4' : (w : Int) ∈ needL t.par g.m to ∧ (at_ : Int) ∈ aboveL t.par w := by simpa [nextAt] using h4
        have hat : (at_ : Int) ∈ rowAt' t.par w := by rw [← h.above hw]; exact h4'.2
        have hs := h.stp hw hat
        have hlt : ltHd t.dist at_ w := by have := hs.2.2.2.2.2.1; rwa [Int.toNat_natCast] at this
        have hlts : ∀ x ∈ pre ++ [(at_ : Int)], ltHd t.dist x.toNat w := fun x hx => by
          rcases List.mem_append.1 hx with h6 | h6
          · have := hi.lt x h6; unfold ltHd at *; omega
          · have : x = (at_ : Int) := by simpa using h6
            rw [this, Int.toNat_natCast]; exact hlt
        refine path_go h hto f w (pre ++ [(at_ : Int)]) (by simp; omega) ⟨?_, fun i x y hx hy => ?_, ⟨?_, fun x hx => ?_⟩, hlts, h4'.1⟩
        · rw [List.getElem?_append_left (by simp)]; exact hi.head
        · by_cases hil : i + 1 < (pre ++ [(at_ : Int)]).length
          · rw [List.getElem?_append_left (by omega)] at hx
            rw [List.getElem?_append_left hil] at hy
            exact hi.stp i x y hx hy
          · have hle := (List.getElem?_eq_some_iff.1 hy).1
            have hie : i = pre.length := by simp at hil hle; omega
            subst hie
            have ey : y = (w : Int) := by simpa [List.getElem?_append] using hy.symm
            have ex : x = (at_ : Int) := by
              rw [List.getElem?_append_left (by simp)] at hx
              simpa using hx.symm
            subst ey; subst ex
            refine ⟨w, rfl, hw, hat, fun w' hw' hc => ?_⟩
            have := h5 w' (Nat.zero_le _) hw'
            simp [nextAt, hc.1, hc.2] at this
        · refine List.nodup_append.2 ⟨hi.no.1, by simp, fun x hx y hy e => ?_⟩
          have : y = (w : Int) := by simpa using hy
          have h7 := hlts x hx
          rw [e, this, Int.toNat_natCast] at h7
          unfold ltHd at h7; omega
        · rcases List.mem_append.1 hx with h6 | h6
          · exact hi.no.2 x h6
          · have : x = (w : Int) := by simpa using h6
            rw [this]; omega
/-- every node that is reached leads back to the root -/
theorem RunOk.anc {g : Gr} {a to : Nat} {t : Tr} (h : RunOk g a t) (hto : to < g.m) (h0 : 0 ≤ gt0 t.dist to) : Anc2 t.par to (a : Int) := by
  have key : ∀ (k : Nat) (v : Nat), v < g.m → 0 ≤ gt0 t.dist v → (gt0 t.dist v).toNat * 129 + (g.m - v) ≤ k → Anc2 t.par to (v : Int) → Anc2 t.par to (a : Int) := by
    intro k
    induction k with
    | zero => intro v hv _ hk _; omega
    | succ k ih =>
      intro v hv h0 hk han
      by_cases hva : v = a
      · rw [← hva]; exact han
      · obtain ⟨u, hu⟩ := h.par_ex hv hva h0
        obtain ⟨_, hu0, hum, hdu, _, hlt, _⟩ := h.stp hv hu
        have hm := h.vg.n128
        change g.m ≤ 128 at hm
        have e : ((u.toNat : Nat) : Int) = u := by omega
        refine ih u.toNat (by omega) hdu ?_ (by rw [e]; exact .up han (by rw [h.above hv]; exact hu))
        unfold ltHd at hlt
        rcases hlt with h1 | ⟨h1, h2⟩
        · have e1 : (gt0 t.dist u.toNat).toNat + 1 ≤ (gt0 t.dist v).toNat := by omega
          have e2 := Nat.mul_le_mul_right 129 e1
          omega
        · rw [h1]; omega
  exact key _ to hto h0 (Nat.le_refl _) .here
theorem RunOk.path {g : Gr} {a to : Nat} {t : Tr} (h : RunOk g a t) (hto : to < g.m) (h0 : 0 ≤ gt0 t.dist to) : GoodP g a to t (needL t.par g.m to) (pathL t to) := by
  have hdl : t.dist.length = g.m := h.dl
  unfold pathL
  have hc : ¬ ((to : Int) < 0 ∨ (g.m : Int) ≤ (to : Int) ∨ gt0 t.dist (to : Int).toNat < 0) := by
    rw [Int.toNat_natCast]
    rintro (h1 | h1 | h1)
    · omega
    · exact absurd hto (Nat.not_lt.2 (Int.ofNat_le.1 h1))
    · exact absurd h0 (Int.not_le.2 h1)
  rw [hdl, if_neg hc, h.root]
  have hmem := (need_spec h.up (to := (to : Int)) (by omega)).1 (a : Int) |>.2 (h.anc hto h0)
  have ham := h.am
  exact path_go h hto (g.m + 2) a [] (by simp) ⟨rfl, fun i x y hx hy => by simp at hy, ⟨by simp, fun x hx => by
    have e : x = (a : Int) := by simpa using hx
    rw [e]; exact ⟨Int.natCast_nonneg _, Int.ofNat_lt.2 ham⟩⟩, by simp, hmem⟩
end Go.Pl
/- The reference's table of distances: passes over all nodes. -/
namespace Go.Pl
open Go Go.RT
set_option linter.all false
def fwE (es : List Edg) (i M : Nat) : List Edg := es.filter fun e => decide (e.f = (i : Int)) || decide (e.f < (M : Int))
theorem fwE_mem {es : List Edg} {i M : Nat} {e : Edg} : e ∈ fwE es i M ↔ e ∈ es ∧ (e.f = (i : Int) ∨ e.f < (M : Int)) := by
  simp [fwE]
theorem VG.sub {es es' : List Edg} {r n : Nat} (vg : VG es r n) (h : es'.Sublist es) : VG es' r n :=
  have hs : ∀ e ∈ es', e ∈ es := fun e he => h.subset he
  ⟨fun e he => vg.f e (hs e he), fun e he => vg.t e (hs e he), fun e he => vg.c e (hs e he), fun e he => vg.net e (hs e he), fun e he => vg.rt e (hs e he), fun e he => vg.ne e (hs e he),
    List.Pairwise.sublist h vg.asc, vg.le, vg.n128, Nat.le_trans h.length_le vg.e1024⟩
theorem VG.fw {es : List Edg} {r n : Nat} (vg : VG es r n) (i M : Nat) : VG (fwE es i M) r n := vg.sub List.filter_sublist
theorem wk_split {es : List Edg} {r n : Nat} (vg : VG es r n) {i M k : Nat} {c : Int} (h : Wk (fwE es i (M + 1)) i k c) :
    (∃ c', c' ≤ c ∧ Wk (fwE es i M) i k c') ∨ ∃ c1 c2, c1 + c2 ≤ c ∧ Wk (fwE es i M) i M c1 ∧ Wk (fwE es M M) M k c2 := by
  induction h with
  | nil => exact .inl ⟨0, Int.le_refl _, .nil⟩
  | @snoc e c h he ih =>
    have hc := h.nn (vg.fw _ _)
    obtain ⟨h1, h2⟩ := fwE_mem.1 he
    have hf := vg.f e h1
    by_cases hm : e.f = (i : Int) ∨ e.f < (M : Int)
    · have he' : e ∈ fwE es i M := fwE_mem.2 ⟨h1, hm⟩
      rcases ih with ⟨c', k1, k2⟩ | ⟨c1, c2, k1, k2, k3⟩
      · exact .inl ⟨c' + e.c, by omega, k2.snoc he'⟩
      · by_cases hl : e.f < (M : Int)
        · exact .inr ⟨c1, c2 + e.c, by omega, k2, k3.snoc (fwE_mem.2 ⟨h1, .inr hl⟩)⟩
        · have hi : e.f.toNat = i := by omega
          refine .inl ⟨0 + e.c, by omega, Wk.snoc ?_ he'⟩
          rw [hi]; exact .nil
    · have hM : e.f.toNat = M := by omega
      have he' : e ∈ fwE es M M := fwE_mem.2 ⟨h1, .inl (by omega)⟩
      have hw : Wk (fwE es M M) M e.t.toNat (0 + e.c) := Wk.snoc (by rw [hM]; exact .nil) he'
      rcases ih with ⟨c', k1, k2⟩ | ⟨c1, c2, k1, k2, k3⟩
      · rw [hM] at k2
        exact .inr ⟨c', 0 + e.c, by omega, k2, hw⟩
      · have := k3.nn (vg.fw _ _)
        exact .inr ⟨c1, 0 + e.c, by omega, k2, hw⟩
theorem wk_join {es : List Edg} {i M k : Nat} {c1 c2 : Int} (h : Wk (fwE es i M) i M c1) (g : Wk (fwE es M M) M k c2) : Wk (fwE es i (M + 1)) i k (c1 + c2) :=
  (h.mono fun e he => by rw [fwE_mem] at *; exact ⟨he.1, he.2.imp id fun h => by omega⟩).app (g.mono fun e he => by rw [fwE_mem] at *; exact ⟨he.1, .inr (by omega)⟩)
theorem wk_up {es : List Edg} {i M k : Nat} {c : Int} (h : Wk (fwE es i M) i k c) : Wk (fwE es i (M + 1)) i k c :=
  h.mono fun e he => by rw [fwE_mem] at *; exact ⟨he.1, he.2.imp id fun h => by omega⟩
def FwI (es : List Edg) (n M : Nat) (D : Nat → Nat → Int) : Prop := ∀ i k, i < n → k < n → IsD (fwE es i M) i k (D i k)
def fwP (m : Nat) (D : Nat → Nat → Int) : Nat → Nat → Int := fun i k => if 0 ≤ D i m ∧ 0 ≤ D m k ∧ (D i k < 0 ∨ D i m + D m k < D i k) then D i m + D m k else D i k
theorem FwI.pass {es : List Edg} {r n M : Nat} {D : Nat → Nat → Int} (vg : VG es r n) (hM : M < n) (h : FwI es n M D) : FwI es n (M + 1) (fwP M D) := by
  intro i k hi hk
  have hik := (h i k hi hk).cases (vg.fw _ _)
  have him := (h i M hi hM).cases (vg.fw _ _)
  have hmk := (h M k hM hk).cases (vg.fw _ _)
  unfold fwP
  split
  · rename_i hc
    obtain ⟨h1, h2, h3⟩ := hc
    obtain ⟨_, b1, b2⟩ := him.resolve_left (fun e => by omega)
    obtain ⟨_, c1, c2⟩ := hmk.resolve_left (fun e => by omega)
    refine .inr ⟨wk_join b1 c1, fun c w => ?_⟩
    rcases wk_split vg w with ⟨c', k1, k2⟩ | ⟨d1, d2, k1, k2, k3⟩
    · rcases hik with ⟨_, a2⟩ | ⟨a1, a2, a3⟩
      · exact absurd k2 (a2 _)
      · have := a3 _ k2; omega
    · have := b2 _ k2; have := c2 _ k3; omega
  · rename_i hc
    rcases hik with ⟨a1, a2⟩ | ⟨a1, a2, a3⟩
    · refine .inl ⟨a1, fun c w => ?_⟩
      rcases wk_split vg w with ⟨c', k1, k2⟩ | ⟨d1, d2, k1, k2, k3⟩
      · exact a2 _ k2
      · rcases him with ⟨_, b2⟩ | ⟨b0, _⟩
        · exact b2 _ k2
        · rcases hmk with ⟨_, c2⟩ | ⟨c0, _⟩
          · exact c2 _ k3
          · exact hc ⟨b0, c0, .inl (by omega)⟩
    · refine .inr ⟨wk_up a2, fun c w => ?_⟩
      rcases wk_split vg w with ⟨c', k1, k2⟩ | ⟨d1, d2, k1, k2, k3⟩
      · have := a3 _ k2; omega
      · obtain ⟨b0, _, b2⟩ := him.resolve_left (fun e => e.2 _ k2)
        obtain ⟨c0, _, c2⟩ := hmk.resolve_left (fun e => e.2 _ k3)
        have := b2 _ k2; have := c2 _ k3
        by_cases hx : D i M + D M k < D i k
        · exact absurd ⟨b0, c0, .inr hx⟩ hc
        · omega
theorem FwI.diag {es : List Edg} {r n M : Nat} {D : Nat → Nat → Int} (vg : VG es r n) (h : FwI es n M D) {i : Nat} (hi : i < n) : D i i = 0 := by
  rcases (h i i hi hi).cases (vg.fw _ _) with ⟨_, h2⟩ | ⟨h1, _, h3⟩
  · exact absurd .nil (h2 0)
  · have := h3 0 .nil; omega
theorem FwI.bnd {es : List Edg} {r n M : Nat} {D : Nat → Nat → Int} (vg : VG es r n) (h : FwI es n M D) {i k : Nat} (hi : i < n) (hk : k < n) : -1 ≤ D i k ∧ D i k ≤ 8388480 :=
  (h i k hi hk).small (vg.fw i M) hi hk
theorem FwI.done {es : List Edg} {r n : Nat} {D : Nat → Nat → Int} (vg : VG es r n) (h : FwI es n n D) {i k : Nat} (hi : i < n) (hk : k < n) : IsD es i k (D i k) := by
  have := h i k hi hk
  rwa [show fwE es i n = es by
    unfold fwE
    rw [List.filter_eq_self]
    intro e he
    have := (vg.f e he).2
    simp [this]] at this
/- the beginning -/
def iniD (es : List Edg) (i k : Nat) : Int := if i = k then 0 else if (costL i k es).2 = true then (costL i k es).1 else -1
theorem cost_mem {f t c : Int} : ∀ {es : List Edg}, costL f t es = (c, true) → ∃ e ∈ es, e.f = f ∧ e.t = t ∧ e.c = c
  | [], h => by simp [costL] at h
  | e :: l, h => by
    simp only [costL] at h
    split at h
    · rename_i hb
      simp [isB] at hb
      exact ⟨e, by simp, hb.1, hb.2, by simpa using h⟩
    · obtain ⟨x, h1, h2⟩ := cost_mem h
      exact ⟨x, by simp [h1], h2⟩
theorem cost_none {f t : Int} : ∀ {es : List Edg}, (costL f t es).2 = false ↔ ∀ e ∈ es, ¬ (e.f = f ∧ e.t = t)
  | [] => by simp [costL]
  | e :: l => by
    simp only [costL]
    split
    · rename_i hb
      simp [isB] at hb
      simp [hb]
    · rename_i hb
      simp only [isB, Bool.and_eq_true, decide_eq_true_eq] at hb
      rw [cost_none]
      constructor
      · intro h x hx
        rcases List.mem_cons.1 hx with rfl | hx
        · exact hb
        · exact h x hx
      · exact fun h x hx => h x (List.mem_cons_of_mem _ hx)
theorem cost_yes {f t : Int} {es : List Edg} (ha : AscK es) : (costL f t es).2 = true ↔ ∃ e ∈ es, e.f = f ∧ e.t = t ∧ e.c = (costL f t es).1 := by
  constructor
  · intro h
    exact cost_mem (c := (costL f t es).1) (by rw [← h])
  · rintro ⟨e, he, h1, h2, _⟩
    have := cost_of ha he
    rw [h1, h2] at this
    rw [this]
theorem wk_0 {es : List Edg} {r n : Nat} (vg : VG es r n) {i k : Nat} {c : Int} (h : Wk (fwE es i 0) i k c) : k = i ∨ ∃ e ∈ es, e.f = (i : Int) ∧ e.t = (k : Int) ∧ e.c ≤ c := by
  cases h with
  | nil => exact .inl rfl
  | @snoc e c h he =>
    obtain ⟨h1, h2⟩ := fwE_mem.1 he
    have := vg.f e h1; have := vg.t e h1
    have := h.nn (vg.fw _ _)
    exact .inr ⟨e, h1, by omega, by omega, by omega⟩
theorem FwI.ini {es : List Edg} {r n : Nat} (vg : VG es r n) : FwI es n 0 (iniD es) := by
  intro i k hi hk
  unfold iniD
  by_cases hik : i = k
  · subst hik
    rw [if_pos rfl]
    exact .inr ⟨.nil, fun c w => w.nn (vg.fw _ _)⟩
  · rw [if_neg hik]
    by_cases hc : (costL (i : Int) (k : Int) es).2 = true
    · rw [if_pos hc]
      obtain ⟨e, he, h1, h2, h3⟩ := (cost_yes vg.asc).1 hc
      have hw : Wk (fwE es i 0) i e.t.toNat (0 + e.c) := Wk.snoc (by rw [h1, Int.toNat_natCast]; exact .nil) (fwE_mem.2 ⟨he, .inl h1⟩)
      rw [h2, Int.toNat_natCast, h3, Int.zero_add] at hw
      refine .inr ⟨hw, fun c w => ?_⟩
      rcases wk_0 vg w with h | ⟨e', he', g1, g2, g3⟩
      · exact absurd h.symm hik
      · have := cost_of vg.asc he'
        rw [g1, g2] at this
        rw [this]; exact g3
    · rw [if_neg hc]
      refine .inl ⟨rfl, fun c w => ?_⟩
      rcases wk_0 vg w with h | ⟨e', he', g1, g2, g3⟩
      · exact absurd h.symm hik
      · exact hc (by rw [← g1, ← g2, cost_of vg.asc he'])
def fwN (es : List Edg) : Nat → Nat → Nat → Int
  | 0 => iniD es
  | M + 1 => fwP M (fwN es M)
theorem fwN_ok {es : List Edg} {r n : Nat} (vg : VG es r n) : ∀ M, M ≤ n → FwI es n M (fwN es M)
  | 0, _ => FwI.ini vg
  | M + 1, h => (fwN_ok vg M (by omega)).pass vg h
/- rows of numbers by functions -/
abbrev rowF (n : Nat) (f : Nat → Int) : List Int := (List.range n).map f
theorem rowF_get (n : Nat) (f : Nat → Int) {k : Nat} (h : k < n) : gt0 (rowF n f) k = f k := by
  simp [gt0, rowF, List.getD_eq_getElem?_getD, h]
abbrev disF (es : List Edg) (n : Nat) : Nat → Nat → Int := fwN es n
theorem disF_ok {es : List Edg} {r n : Nat} (vg : VG es r n) {i k : Nat} (hi : i < n) (hk : k < n) : IsD es i k (disF es n i k) := (fwN_ok vg n (Nat.le_refl _)).done vg hi hk
end Go.Pl
/- Rows of the table of distances while it is filled. -/
namespace Go.Pl
open Go Go.RT
set_option linter.all false
theorem rng_same {β : Type} (n : Nat) (f f' : Nat → β) (h : ∀ w, w < n → f' w = f w) : (List.range n).map f = (List.range n).map f' :=
  List.map_congr_left fun w hw => (h w (List.mem_range.1 hw)).symm
theorem rowF_len (n : Nat) (f : Nat → Int) : (rowF n f).length = n := rng_len n _
end Go.Pl
namespace Go.Pl
end Go.Pl
/- The reference's trees are those of Run. -/
namespace Go.Pl
open Go Go.RT
set_option linter.all false
def fil (p : Nat → Bool) (k : Nat) : List Int := ((List.range k).filter p).map fun v : Nat => (v : Int)
theorem fil_succ (p : Nat → Bool) (k : Nat) : fil p (k + 1) = fil p k ++ if p k = true then [(k : Int)] else [] := by
  unfold fil
  rw [List.range_succ, List.filter_append, List.map_append]
  congr 1
  by_cases h : p k = true <;> simp [h]
theorem fil_mem {p : Nat → Bool} {k : Nat} {x : Int} : x ∈ fil p k ↔ ∃ v : Nat, x = v ∧ v < k ∧ p v = true := by
  unfold fil
  simp only [List.mem_map, List.mem_filter, List.mem_range]
  constructor
  · rintro ⟨v, ⟨h1, h2⟩, rfl⟩; exact ⟨v, rfl, h1, h2⟩
  · rintro ⟨v, rfl, h1, h2⟩; exact ⟨v, ⟨h1, h2⟩, rfl⟩
theorem fil_len (p : Nat → Bool) (k : Nat) : (fil p k).length ≤ k := by
  unfold fil; rw [List.length_map]
  have := List.length_filter_le p (List.range k)
  rwa [List.length_range] at this
theorem fil_asc (p : Nat → Bool) (k : Nat) : Asc (fil p k) := by
  unfold fil
  refine List.Pairwise.map _ (R := fun a b : Nat => a < b) (fun a b h => Int.ofNat_lt.2 h) (List.Pairwise.filter _ List.pairwise_lt_range)
theorem asc_ext : ∀ {l l' : List Int}, Asc l → Asc l' → (∀ x, x ∈ l ↔ x ∈ l') → l = l'
  | [], l', _, _, h => by
    cases l' with
    | nil => rfl
    | cons y l' => have := (h y).2 (by simp); cases this
  | x :: l, [], _, _, h => by have := (h x).1 (by simp); cases this
  | x :: l, y :: l', h1, h2, h => by
    obtain ⟨a1, a2⟩ := List.pairwise_cons.1 h1
    obtain ⟨b1, b2⟩ := List.pairwise_cons.1 h2
    have e : x = y := by
      rcases List.mem_cons.1 ((h x).1 (by simp)) with e | e
      · exact e
      · rcases List.mem_cons.1 ((h y).2 (by simp)) with f | f
        · exact f.symm
        · have := b1 x e; have := a1 y f; omega
    subst e
    rw [asc_ext a2 b2 fun z => ?_]
    constructor
    · intro hz
      rcases List.mem_cons.1 ((h z).1 (by simp [hz])) with e | e
      · have := a1 z hz; omega
      · exact e
    · intro hz
      rcases List.mem_cons.1 ((h z).2 (by simp [hz])) with e | e
      · have := b1 z hz; omega
      · exact e
theorem rows_ext {n : Nat} {ll ll' : List (List Int)} (h : ll.length = n) (h' : ll'.length = n) (hr : ∀ v, v < n → rowAt' ll v = rowAt' ll' v) : ll = ll' := by
  apply List.ext_getElem (by omega)
  intro v h1 h2
  have := hr v (by omega)
  simpa [rowAt', List.getD_eq_getElem?_getD, h1, h2] using this
/- a table of distances -/
structure Dst (g : Gr) (D : Nat → Nat → Int) : Prop where
  vg : VG g.es g.r.toNat g.m
  r0 : 0 ≤ g.r
  ok : ∀ i k, i < g.m → k < g.m → IsD g.es i k (D i k)
theorem dst_of {g : Gr} (h : checkI g = 0) : Dst g (disF g.es g.m) := ⟨(checkI_vg h).1, (checkI_vg h).2.1, fun i k hi hk => disF_ok (checkI_vg h).1 hi hk⟩
variable {g : Gr} {D : Nat → Nat → Int} {a : Nat} {t : Tr}
theorem Dst.zero (d : Dst g D) {i : Nat} (hi : i < g.m) : D i i = 0 := by
  rcases (d.ok i i hi hi).cases d.vg with ⟨_, h2⟩ | ⟨h1, _, h3⟩
  · exact absurd .nil (h2 0)
  · have := h3 0 .nil; omega
theorem Dst.tri (d : Dst g D) {i j k : Nat} (hi : i < g.m) (hj : j < g.m) (hk : k < g.m) (h1 : 0 ≤ D i j) (h2 : 0 ≤ D j k) : 0 ≤ D i k ∧ D i k ≤ D i j + D j k := by
  obtain ⟨_, a1, _⟩ := ((d.ok i j hi hj).cases d.vg).resolve_left (fun e => by omega)
  obtain ⟨_, b1, _⟩ := ((d.ok j k hj hk).cases d.vg).resolve_left (fun e => by omega)
  rcases (d.ok i k hi hk).cases d.vg with ⟨_, h⟩ | ⟨h1, _, h3⟩
  · exact absurd (a1.app b1) (h _)
  · exact ⟨h1, h3 _ (a1.app b1)⟩
theorem Dst.edge (d : Dst g D) {i : Nat} {e : Edg} (hi : i < g.m) (he : e ∈ g.es) (h : 0 ≤ D i e.f.toNat) : 0 ≤ D i e.t.toNat ∧ D i e.t.toNat ≤ D i e.f.toNat + e.c := by
  have hf := d.vg.f e he; have ht := d.vg.t e he
  obtain ⟨_, a1, _⟩ := ((d.ok i e.f.toNat hi (by omega)).cases d.vg).resolve_left (fun e => by omega)
  rcases (d.ok i e.t.toNat hi (by omega)).cases d.vg with ⟨_, h⟩ | ⟨h1, _, h3⟩
  · exact absurd (a1.snoc he) (h _)
  · exact ⟨h1, h3 _ (a1.snoc he)⟩
theorem Dst.ge (d : Dst g D) {i k : Nat} (hi : i < g.m) (hk : k < g.m) : -1 ≤ D i k := (d.ok i k hi hk).ge d.vg
theorem Dst.bnd (d : Dst g D) {i k : Nat} (hi : i < g.m) (hk : k < g.m) : -1 ≤ D i k ∧ D i k ≤ 8388480 := (d.ok i k hi hk).small d.vg hi hk
theorem Dst.last (d : Dst g D) {i k : Nat} (hi : i < g.m) (hk : k < g.m) (hne : i ≠ k) (h : 0 ≤ D i k) : ∃ e ∈ g.es, e.t = (k : Int) ∧ 0 ≤ D i e.f.toNat ∧ D i e.f.toNat + e.c = D i k := by
  obtain ⟨_, a1, a2⟩ := ((d.ok i k hi hk).cases d.vg).resolve_left (fun e => by omega)
  generalize hc : D i k = c at a1 a2
  cases a1 with
  | nil => exact absurd rfl hne
  | @snoc e c' w he =>
    have hf := d.vg.f e he; have ht := d.vg.t e he
    rcases (d.ok i e.f.toNat hi (by omega)).cases d.vg with ⟨_, h3⟩ | ⟨h3, h4, h5⟩
    · exact absurd w (h3 _)
    · refine ⟨e, he, by omega, h3, ?_⟩
      have := h5 _ w
      have := a2 _ (h4.snoc he)
      omega
theorem Dst.pos (d : Dst g D) {x : Nat} (ha : (a : Int) < g.r) (ham : a < g.m) (hx : x < g.m) (h : D a x = 0) : x = a := by
  by_cases hne : a = x
  · exact hne.symm
  · obtain ⟨e, he, h1, h2, h3⟩ := d.last ham hx hne (by omega)
    have hc := d.vg.c e he; have hf := d.vg.f e he
    have hr0 := d.r0
    have hfr : ¬ e.f < (g.r.toNat : Int) := fun hl => by have := d.vg.rt e he hl; omega
    have hne2 : a ≠ e.f.toNat := by omega
    obtain ⟨e', he', k1, k2, k3⟩ := d.last ham (k := e.f.toNat) (by omega) hne2 h2
    have hc' := d.vg.c e' he'
    have : e'.f < (g.r.toNat : Int) := by
      rcases Int.lt_or_le e'.f (g.r.toNat : Int) with h | h
      · exact h
      · have := (d.vg.net e' he' h).1; omega
    have := d.vg.rt e' he' this
    omega
theorem RunOk.dD (h : RunOk g a t) (d : Dst g D) {v : Nat} (hv : v < g.m) : gt0 t.dist v = D a v := (h.dist v hv).uniq (d.ok a v h.am hv)
/- parents -/
def parB (g : Gr) (D : Nat → Nat → Int) (a v u : Nat) : Bool := (costL u v g.es).2 && decide (0 ≤ D a u) && decide (D a u + (costL u v g.es).1 = D a v)
def offB (D : Nat → Nat → Int) (a v : Nat) : Bool := decide (v = a) || decide (D a v < 0)
def parR (g : Gr) (D : Nat → Nat → Int) (a v : Nat) : List Int := if offB D a v = true then [] else fil (parB g D a v) g.m
theorem parE_asc {es : List Edg} (ha : AscK es) (a : Nat) (d : List Int) (v : Nat) : Asc (parE es a d v) := by
  unfold parE
  have h1 := List.Pairwise.filter (fun e => parC a d e && decide (e.t = (v : Int))) ha
  refine List.pairwise_map.2 (List.Pairwise.imp_of_mem (fun {x y} hx hy hxy => ?_) h1)
  have hx2 := (List.mem_filter.1 hx).2
  have hy2 := (List.mem_filter.1 hy).2
  simp only [Bool.and_eq_true, decide_eq_true_eq] at hx2 hy2
  unfold ltK at hxy; omega
theorem RunOk.parR (h : RunOk g a t) (d : Dst g D) {v : Nat} (hv : v < g.m) : rowAt' t.par v = Pl.parR g D a v := by
  unfold Pl.parR
  have hda := h.dD d hv
  by_cases hc : offB D a v = true
  · rw [if_pos hc]
    have hl := h.par_len hv
    have : ¬ 0 < (rowAt' t.par v).length := fun hp => by
      have := hl.1 hp
      simp [offB] at hc
      rw [hda] at this
      omega
    exact List.length_eq_zero_iff.1 (by omega)
  · rw [if_neg hc]
    simp [offB] at hc
    refine asc_ext ?_ (fil_asc _ _) fun x => ?_
    · have := h.par
      rw [this]
      have : rowAt' (parL g.es a t.dist (g.r + g.n).toNat) v = parE g.es a t.dist v := parL_get _ _ _ hv
      rw [this]
      exact parE_asc h.vg.asc _ _ _
    · rw [h.par_mem hv, fil_mem]
      constructor
      · rintro ⟨h1, e, he, hf, ht, h2, h3⟩
        have hfn := h.vg.f e he
        have hdu := h.dD d (v := e.f.toNat) (by omega)
        have hge := d.ge h.am (k := e.f.toNat) (by omega)
        have hco := cost_of h.vg.asc he
        rw [show e.f = ((e.f.toNat : Nat) : Int) by omega, ht] at hco
        refine ⟨e.f.toNat, by omega, by omega, ?_⟩
        unfold parB
        rw [hco]
        simp
        omega
      · rintro ⟨u, rfl, hu, hp⟩
        unfold parB at hp
        simp only [Bool.and_eq_true, decide_eq_true_eq] at hp
        obtain ⟨e, he, h1, h2, h3⟩ := (cost_yes h.vg.asc).1 hp.1.1
        have hdu := h.dD d hu
        refine ⟨hc.1, e, he, h1, h2, ?_, ?_⟩
        · rw [h1, Int.toNat_natCast]; omega
        · rw [h1, Int.toNat_natCast]; omega
/- first hops -/
def dirB (g : Gr) (D : Nat → Nat → Int) (a v : Nat) : Bool := ((costL a v g.es).2 && decide ((costL a v g.es).1 = D a v)) || (decide ((v : Int) < g.r) && (List.range g.m).any fun w => decide (g.r ≤ (w : Int)) && ((costL a w g.es).2 && (costL w v g.es).2 && decide ((costL a w g.es).1 = D a w) && decide ((costL a w g.es).1 = D a v)))
def fstB (g : Gr) (D : Nat → Nat → Int) (a v : Nat) : Bool := decide (v ≠ a) && decide (0 ≤ D a v) && dirB g D a v
def hopB (g : Gr) (D : Nat → Nat → Int) (a v y : Nat) : Bool := decide (y = v) || (decide ((y : Int) < g.r) && decide (0 ≤ D y v) && decide (D a y + D y v = D a v))
def hopR (g : Gr) (D : Nat → Nat → Int) (a v : Nat) : List Int := if offB D a v = true then [] else (fil (fstB g D a) g.m).filter fun y => hopB g D a v y.toNat
theorem dir_iff (d : Dst g D) {v : Nat} : dirB g D a v = true ↔ (∃ e ∈ g.es, e.f = (a : Int) ∧ e.t = (v : Int) ∧ e.c = D a v) ∨
    ((v : Int) < g.r ∧ ∃ e ∈ g.es, ∃ e' ∈ g.es, e.f = (a : Int) ∧ g.r ≤ e.t ∧ e'.f = e.t ∧ e'.t = (v : Int) ∧ e.c = D a e.t.toNat ∧ e.c = D a v) := by
  unfold dirB
  simp only [Bool.or_eq_true, Bool.and_eq_true, decide_eq_true_eq, List.any_eq_true, List.mem_range]
  refine or_congr ?_ (and_congr Iff.rfl ?_)
  · constructor
    · rintro ⟨h1, h2⟩
      obtain ⟨e, he, k1, k2, k3⟩ := (cost_yes d.vg.asc).1 h1
      exact ⟨e, he, k1, k2, k3.trans h2⟩
    · rintro ⟨e, he, k1, k2, k3⟩
      have := cost_of d.vg.asc he
      rw [k1, k2] at this
      rw [this]; exact ⟨rfl, k3⟩
  · constructor
    · rintro ⟨w, hw, h0, ⟨⟨h1, h2⟩, h3⟩, h4⟩
      obtain ⟨e, he, k1, k2, k3⟩ := (cost_yes d.vg.asc).1 h1
      obtain ⟨e', he', l1, l2, l3⟩ := (cost_yes d.vg.asc).1 h2
      refine ⟨e, he, e', he', k1, by omega, by omega, l2, ?_, k3.trans h4⟩
      rw [k2, Int.toNat_natCast, k3, h3]
    · rintro ⟨e, he, e', he', h1, h2, h3, h4, h5, h6⟩
      have ht := d.vg.t e he
      have hr0 := d.r0
      have c1 := cost_of d.vg.asc he
      have c2 := cost_of d.vg.asc he'
      rw [h1, show e.t = ((e.t.toNat : Nat) : Int) by omega] at c1
      rw [h3, h4, show e.t = ((e.t.toNat : Nat) : Int) by omega] at c2
      refine ⟨e.t.toNat, by omega, by omega, ?_⟩
      rw [c1, c2]
      exact ⟨⟨⟨rfl, rfl⟩, h5⟩, h6⟩
def muD (g : Gr) (D : Nat → Nat → Int) (a v : Nat) : Nat := (2 * D a v).toNat + if (v : Int) < g.r then 1 else 0
theorem mu_edge (d : Dst g D) {e : Edg} {v : Nat} (he : e ∈ g.es) (ht : e.t = (v : Int)) (h0 : 0 ≤ D a e.f.toNat) (h : D a e.f.toNat + e.c = D a v) : muD g D a e.f.toNat < muD g D a v := by
  have hf := d.vg.f e he; have hc := d.vg.c e he; have hr0 := d.r0
  unfold muD
  by_cases hr : e.f < (g.r.toNat : Int)
  · have := d.vg.rt e he hr
    have h1 : ((e.f.toNat : Nat) : Int) < g.r := by omega
    rw [if_pos h1]
    split <;> omega
  · have := d.vg.net e he (by omega)
    have h1 : ¬ ((e.f.toNat : Nat) : Int) < g.r := by omega
    have h2 : (v : Int) < g.r := by omega
    rw [if_neg h1, if_pos h2]
    omega
theorem hop_iff (h : RunOk g a t) (d : Dst g D) : ∀ (k v : Nat), muD g D a v < k → v < g.m → v ≠ a → 0 ≤ D a v → ∀ x : Int, x ∈ rowAt' t.hops v ↔ ∃ y : Nat, x = y ∧ y < g.m ∧ fstB g D a y = true ∧ hopB g D a v y = true
  | 0, v, hk, _, _, _, _ => by omega
  | k + 1, v, hk, hv, hva, hv0, x => by
    have ham := h.am
    have hlr := h.lt
    have hr0 := d.r0
    have hda := fun {w : Nat} (hw : w < g.m) => h.dD d hw
    have d00 := d.zero ham
    have hon := h.hopInv.on
    have onv : ∀ {w : Nat}, w < g.m → w ≠ a → 0 ≤ D a w → ∀ x, x ∈ rowAt' t.hops w ↔ ∃ u ∈ rowAt' t.par w, Src g.r a w t.hops u x := fun {w} hw h1 h2 => hon w (ordA_mem.2 ⟨hw, by rw [hda hw]; omega, h1⟩)
    have hoff : rowAt' t.hops a = [] := h.hopInv.off a ham (fun hm => (ordA_mem.1 hm).2.2 rfl)
    have hcap : ∀ w : Nat, capV g.r w (w : Int) = w := fun w => by unfold capV; split <;> rfl
    have parI : ∀ {e : Edg} {w : Nat}, e ∈ g.es → e.t = (w : Int) → w < g.m → w ≠ a → 0 ≤ D a e.f.toNat → D a e.f.toNat + e.c = D a w → e.f ∈ rowAt' t.par w := fun {e w} he ht hw hwa h1 h2 => by
      have hf := d.vg.f e he
      refine (h.par_mem hw _).2 ⟨hwa, e, he, rfl, ht, ?_, ?_⟩
      · rw [hda (by omega)]; omega
      · rw [hda (by omega), hda hw]; exact h2
    rw [onv hv hva hv0]
    constructor
    · rintro ⟨u, hu, hsrc⟩
      obtain ⟨_, e, he, hf, ht, h2, h3⟩ := (h.par_mem hv u).1 hu
      have hfn := d.vg.f e he
      have hcn := d.vg.c e he
      rw [hda (by omega)] at h2 h3
      rw [hda hv] at h3
      have hge := d.ge ham (k := e.f.toNat) (by omega)
      rcases hsrc with ⟨e1, e2⟩ | ⟨hh, hm, e2⟩
      · rw [hcap] at e2
        refine ⟨v, e2, hv, ?_, by simp [hopB]⟩
        have : dirB g D a v = true := (dir_iff d).2 (.inl ⟨e, he, by omega, ht, by
          rw [hf, e1, Int.toNat_natCast, d00] at h3; omega⟩)
        simp [fstB, hva, hv0, this]
      · rw [← hf] at hm
        have hua : e.f.toNat ≠ a := fun e3 => by rw [e3, hoff] at hm; cases hm
        have hmu := mu_edge (a := a) d he ht (by omega) h3
        obtain ⟨y, rfl, hy, hy1, hy2⟩ := (hop_iff h d k e.f.toNat (by omega) (by omega) hua (by omega) hh).1 hm
        simp only [hopB, Bool.or_eq_true, Bool.and_eq_true, decide_eq_true_eq] at hy2
        unfold capV at e2
        by_cases hyr : g.r ≤ (y : Int)
        · rw [if_pos hyr] at e2
          have hyu : y = e.f.toNat := by
            rcases hy2 with h | h
            · exact h
            · omega
          refine ⟨v, e2, hv, ?_, by simp [hopB]⟩
          have hnet := d.vg.net e he (by omega)
          simp only [fstB, Bool.and_eq_true, decide_eq_true_eq] at hy1
          have hdir := (dir_iff d).1 hy1.2
          have : dirB g D a v = true := by
            rcases hdir with ⟨e1, he1, k1, k2, k3⟩ | ⟨k1, _⟩
            · refine (dir_iff d).2 (.inr ⟨by omega, e1, he1, e, he, k1, by omega, by omega, ht, ?_, ?_⟩)
              · rw [k2, Int.toNat_natCast]; exact k3
              · rw [k3, hyu]; omega
            · omega
          simp [fstB, hva, hv0, this]
        · rw [if_neg hyr] at e2
          refine ⟨y, e2, hy, hy1, ?_⟩
          simp only [fstB, Bool.and_eq_true, decide_eq_true_eq] at hy1
          have hyb : 0 ≤ D y e.f.toNat ∧ D a y + D y e.f.toNat = D a e.f.toNat := by
            rcases hy2 with h | h
            · rw [h, d.zero (by omega)]; omega
            · exact ⟨h.1.2, h.2⟩
          have e4 := d.edge hy he hyb.1
          rw [ht, Int.toNat_natCast] at e4
          have e5 := d.tri ham hy hv hy1.1.2 e4.1
          simp only [hopB, Bool.or_eq_true, Bool.and_eq_true, decide_eq_true_eq]
          exact .inr ⟨⟨by omega, e4.1⟩, by omega⟩
    · rintro ⟨y, rfl, hy, hy1, hy2⟩
      simp only [fstB, Bool.and_eq_true, decide_eq_true_eq] at hy1
      simp only [hopB, Bool.or_eq_true, Bool.and_eq_true, decide_eq_true_eq] at hy2
      by_cases hyv : y = v
      · subst hyv
        rcases (dir_iff d).1 hy1.2 with ⟨e, he, k1, k2, k3⟩ | ⟨k0, e, he, e', he', k1, k2, k3, k4, k5, k6⟩
        · refine ⟨e.f, parI he k2 hv hva (by rw [k1, Int.toNat_natCast]; omega) (by rw [k1, Int.toNat_natCast]; omega), .inl ⟨k1, (hcap _).symm⟩⟩
        · have htn := d.vg.t e he
          have hcn := d.vg.c e he
          have hnet := d.vg.net e' he' (by omega)
          have hw0 : 0 ≤ D a e'.f.toNat := by rw [k3, ← k5]; exact hcn.1
          refine ⟨e'.f, parI he' k4 hv hva hw0 (by rw [k3, ← k5, hnet.2]; omega), .inr ⟨e'.f, ?_, ?_⟩⟩
          · rw [k3]
            refine (onv (w := e.t.toNat) (by omega) (by omega) (by omega) _).2 ⟨e.f, parI he (by omega) (by omega) (by omega) (by rw [k1, Int.toNat_natCast]; omega) (by rw [k1, Int.toNat_natCast]; omega), .inl ⟨k1, ?_⟩⟩
            rw [hcap]; omega
          · unfold capV; rw [if_pos (by omega)]
      · obtain ⟨⟨hyr, hyv0⟩, hsum⟩ := hy2.resolve_left hyv
        obtain ⟨e, he, k1, k2, k3⟩ := d.last hy hv hyv hyv0
        have hfn := d.vg.f e he
        have e1 := d.tri ham hy (k := e.f.toNat) (by omega) hy1.1.2 k2
        have e2 := d.edge ham he e1.1
        rw [k1, Int.toNat_natCast] at e2
        have heq : D a e.f.toNat + e.c = D a v := by omega
        have hua : e.f.toNat ≠ a := fun e3 => by
          rw [e3, d00] at heq
          rw [e3] at e1 k2 k3
          have : D a y = 0 := by omega
          exact hy1.1.1 (d.pos hlr ham hy this)
        have hmu := mu_edge (a := a) d he k1 e1.1 heq
        refine ⟨e.f, parI he k1 hv hva e1.1 heq, .inr ⟨y, ?_, ?_⟩⟩
        · refine (hop_iff h d k e.f.toNat (by omega) (by omega) hua e1.1 _).2 ⟨y, rfl, hy, by simp [fstB, hy1], ?_⟩
          simp only [hopB, Bool.or_eq_true, Bool.and_eq_true, decide_eq_true_eq]
          exact .inr ⟨⟨hyr, k2⟩, by omega⟩
        · unfold capV; rw [if_neg (by omega)]
theorem RunOk.hopR (h : RunOk g a t) (d : Dst g D) {v : Nat} (hv : v < g.m) : rowAt' t.hops v = Pl.hopR g D a v := by
  unfold Pl.hopR
  have hda := h.dD d hv
  by_cases hc : offB D a v = true
  · rw [if_pos hc]
    have hl := h.hop_len hv
    have : ¬ 0 < (rowAt' t.hops v).length := fun hp => by
      have := hl.1 hp
      simp [offB] at hc
      rw [hda] at this
      omega
    exact List.length_eq_zero_iff.1 (by omega)
  · rw [if_neg hc]
    simp [offB] at hc
    refine asc_ext (h.hopInv.ok.row v hv).1 ((fil_asc _ _).filter _) fun x => ?_
    rw [hop_iff h d _ v (Nat.lt_succ_self _) hv hc.1 hc.2, List.mem_filter, fil_mem]
    constructor
    · rintro ⟨y, rfl, h1, h2, h3⟩
      exact ⟨⟨y, rfl, h1, h2⟩, by rw [Int.toNat_natCast]; exact h3⟩
    · rintro ⟨⟨y, rfl, h1, h2⟩, h3⟩
      rw [Int.toNat_natCast] at h3
      exact ⟨y, rfl, h1, h2, h3⟩
def refT (g : Gr) (D : Nat → Nat → Int) (a : Nat) : Tr := ⟨a, rowF g.m (D a), (List.range g.m).map (hopR g D a), (List.range g.m).map (parR g D a)⟩
theorem RunOk.refT (h : RunOk g a t) (d : Dst g D) : t = Pl.refT g D a := by
  have h1 : t.root = a := h.root
  have h2 : t.dist = rowF g.m (D a) := by
    have hl := h.dl
    change t.dist.length = g.m at hl
    apply List.ext_getElem (by rw [rowF_len]; exact hl)
    intro v k1 k2
    have e1 := h.dD d (v := v) (by omega)
    have e2 := rowF_get g.m (D a) (k := v) (by omega)
    rw [gt0, List.getD_eq_getElem?_getD, List.getElem?_eq_getElem k1] at e1
    rw [gt0, List.getD_eq_getElem?_getD, List.getElem?_eq_getElem k2] at e2
    exact e1.trans e2.symm
  have h3 : t.hops = (List.range g.m).map (Pl.hopR g D a) := rows_ext h.hopInv.ok.len (rng_len _ _) fun v hv => by
    rw [h.hopR d hv]; simp [rowAt', List.getD_eq_getElem?_getD, hv]
  have h4 : t.par = (List.range g.m).map (Pl.parR g D a) := rows_ext h.parl (rng_len _ _) fun v hv => by
    rw [h.parR d hv]; simp [rowAt', List.getD_eq_getElem?_getD, hv]
  cases t
  simp only at h1 h2 h3 h4
  subst h1; subst h2; subst h3; subst h4
  rfl
end Go.Pl
/- The reference's paths are those of Path. -/
namespace Go.Pl
open Go Go.RT
set_option linter.all false
variable {g : Gr} {D : Nat → Nat → Int} {a to : Nat} {t : Tr}
open Go Go.RT
/-- the rows of distances of the routers -/
structure AllOk (g : Gr) (D : Nat → List Int) : Prop where
  len : ∀ i, i < g.r.toNat → (D i).length = g.m
  dist : ∀ i, i < g.r.toNat → ∀ v, v < g.m → IsD g.es i v (gt0 (D i) v)
open Go Go.RT
structure MatOk (R : Nat) (ll : List (List Int)) : Prop where
  len : ll.length = R
  row : ∀ i, i < R → (rowAt' ll i).length = R
  diag : ∀ i, i < R → gt0 (rowAt' ll i) i = 0
  bnd : ∀ i j, i < R → j < R → -1 ≤ gt0 (rowAt' ll i) j ∧ gt0 (rowAt' ll i) j ≤ 8388480
  tri : ∀ i j k, i < R → j < R → k < R → 0 ≤ gt0 (rowAt' ll i) j → 0 ≤ gt0 (rowAt' ll j) k → 0 ≤ gt0 (rowAt' ll i) k ∧ gt0 (rowAt' ll i) k ≤ gt0 (rowAt' ll i) j + gt0 (rowAt' ll j) k
end Go.Pl
/- Loop-free alternates: what the functions compute. -/
namespace Go.Pl
open Go Go.RT
set_option linter.all false
def inT (ll : List (List Int)) (x y : Int) : Prop := ¬ (x < 0 ∨ (ll.length : Int) ≤ x) ∧ ¬ (y < 0 ∨ ((rowAt' ll x.toNat).length : Int) ≤ y)
instance (ll : List (List Int)) (x y : Int) : Decidable (inT ll x y) := by unfold inT; infer_instance
def getL (ll : List (List Int)) (x y : Int) : Int × Bool := if inT ll x y then (gt0 (rowAt' ll x.toNat) y.toNat, true) else (0, false)
def avdL (ll : List (List Int)) (n x d : Int) : Bool := (getL ll n d).2 && (getL ll n x).2 && (getL ll x d).2 && decide (0 ≤ (getL ll n d).1) && (decide ((getL ll n x).1 < 0) || decide ((getL ll x d).1 < 0) || decide ((getL ll n d).1 - (getL ll n x).1 < (getL ll x d).1))
def dwnL (ll : List (List Int)) (s n d : Int) : Bool := (getL ll n d).2 && (getL ll s d).2 && decide (0 ≤ (getL ll n d).1) && (decide ((getL ll s d).1 < 0) || decide ((getL ll n d).1 < (getL ll s d).1))
structure Alt where
  dest : Int
  prim : Int
  via : Int
  kind : Int
  down : Bool
  deriving DecidableEq
def zeroA : Alt := ⟨0, 0, 0, 0, false⟩
structure BSt where
  found : Bool
  best : Alt
  least : Int
def skipA (ll : List (List Int)) (a d p n : Int) : Bool := decide (n = p) || !avdL ll n a d
def newA (ll : List (List Int)) (a d p n : Int) : Alt := ⟨d, p, n, if (decide (p ≠ d) && avdL ll n p d) = true then 2 else 1, dwnL ll a n d⟩
def cstA (g : Gr) (ll : List (List Int)) (a d n : Int) : Int := (costL a n g.es).1 + gt0 (rowAt' ll n.toNat) d.toNat
def betA (x : Alt) (c : Int) (s : BSt) : Bool := !s.found || (decide (s.best.kind < x.kind) || (decide (x.kind = s.best.kind) && decide (c < s.least)))
def stepA (g : Gr) (ll : List (List Int)) (a d p : Int) (s : BSt) (n : Int) : BSt :=
  if skipA ll a d p n = true then s else if betA (newA ll a d p n) (cstA g ll a d n) s = true then ⟨true, newA ll a d p n, cstA g ll a d n⟩ else s
def foldA (g : Gr) (ll : List (List Int)) (a d p : Int) (ns : List Int) : BSt := ns.foldl (stepA g ll a d p) ⟨false, zeroA, 0⟩
theorem foldA_succ (g : Gr) (ll : List (List Int)) (a d p : Int) (ns : List Int) (i : Nat) (h : i < ns.length) : foldA g ll a d p (ns.take (i + 1)) = stepA g ll a d p (foldA g ll a d p (ns.take i)) ns[i] := foldl_take_succ _ _ _ _ h
/-- what holds of the state -/
def StA (ns : List Int) (s : BSt) : Prop := (s.found = false ∧ s.best = zeroA ∧ s.least = 0) ∨ (s.found = true ∧ (s.best.kind = 1 ∨ s.best.kind = 2) ∧ s.best.via ∈ ns)
theorem newA_kind (ll : List (List Int)) (a d p n : Int) : (newA ll a d p n).kind = 1 ∨ (newA ll a d p n).kind = 2 := by
  unfold newA; dsimp only; split <;> simp
theorem StA.step {g : Gr} {ll : List (List Int)} {a d p : Int} {ns : List Int} {s : BSt} (h : StA ns s) (n : Int) : StA (ns ++ [n]) (stepA g ll a d p s n) := by
  have h' : StA (ns ++ [n]) s := by
    rcases h with h | ⟨h1, h2, h3⟩
    · exact .inl h
    · exact .inr ⟨h1, h2, by simp [h3]⟩
  unfold stepA
  split
  · exact h'
  · split
    · exact .inr ⟨rfl, newA_kind _ _ _ _ _, by simp [newA]⟩
    · exact h'
theorem StA.fold (g : Gr) (ll : List (List Int)) (a d p : Int) (ns : List Int) : ∀ i, i ≤ ns.length → StA (ns.take i) (foldA g ll a d p (ns.take i))
  | 0, _ => .inl ⟨rfl, rfl, rfl⟩
  | i + 1, h => by
    rw [foldA_succ _ _ _ _ _ _ _ (by omega), List.take_succ_eq_append_getElem (by omega)]
    exact (StA.fold g ll a d p ns i (by omega)).step _
open Go.RT
theorem chkL_asc {g : Gr} : ∀ (l : List Edg) (p : Option Edg), chkL g p l = 0 → AscK l ∧ ∀ q, p = some q → ∀ e ∈ l, ltK q e
  | [], _, _ => ⟨List.Pairwise.nil, fun _ _ e he => by cases he⟩
  | x :: l, p, h => by
    simp only [chkL] at h
    by_cases h1 : alwI g x = 0
    · rw [if_neg (by simp [h1])] at h
      by_cases h2 : badP p x = true
      · rw [if_pos h2] at h; cases h
      · rw [if_neg h2] at h
        obtain ⟨i1, i2⟩ := chkL_asc l (some x) h
        refine ⟨List.pairwise_cons.2 ⟨i2 x rfl, i1⟩, fun q hq e he => ?_⟩
        subst hq
        have hqx : ltK q x := by
          simp only [badP] at h2
          exact (ltK_bef q x).1 (by simpa using h2)
        rcases List.mem_cons.1 he with rfl | he
        · exact hqx
        · have := i2 x rfl e he; unfold ltK at *; omega
    · rw [if_pos h1] at h; exact absurd h h1
theorem check_asc {g : Gr} (h : checkI g = 0) : AscK g.es := (chkL_asc _ _ (checkI_ok h).2.2).1
theorem asc_get {l : List Edg} (h : AscK l) {a b : Nat} (hab : a < b) (hb : b < l.length) : ltK (l[a]'(by omega)) l[b] := List.pairwise_iff_getElem.1 h a b (by omega) hb hab
/-- where the binary search comes to, on an ascending list -/
theorem bsAt_spec {l : List Edg} (h : AscK l) (x : Edg) : bsAt l x ≤ l.length ∧ (∀ k (hk : k < bsAt l x) (hl : k < l.length), ltK l[k] x) ∧ (∀ k (hk : bsAt l x ≤ k) (hl : k < l.length), ¬ ltK l[k] x) := by
  have h1 := (bsGo_le (fun e => decide (ordE e x < 0)) l l.length 0 l.length (by omega) (Nat.zero_le _) (Nat.le_refl _)).2
  have h2 := bsGo_spec (fun e => decide (ordE e x < 0)) l (fun a b ha hb hp => by
    have := asc_get h ha hb
    simp only [decide_eq_true_eq, ordE_neg] at hp ⊢
    unfold ltK at this; omega) l.length 0 l.length (by omega) (Nat.zero_le _) (Nat.le_refl _) (fun k hk => absurd hk (Nat.not_lt_zero _)) (fun k hk hl => absurd hl (by omega))
  refine ⟨h1, fun k hk hl => ?_, fun k hk hl => ?_⟩
  · have := h2.1 k hk hl
    simp only [decide_eq_true_eq, ordE_neg] at this; exact this
  · have := h2.2 k hk hl
    simp only [decide_eq_false_iff_not, ordE_neg] at this; exact this
/-- found: there is an edge with these ends, at the place -/
theorem bsHit_true {l : List Edg} (x : Edg) (hh : bsHit l x = true) : ∃ h : bsAt l x < l.length, l[bsAt l x].f = x.f ∧ l[bsAt l x].t = x.t := by
  obtain ⟨h1, h2⟩ := hitAt_lt hh
  exact ⟨h1, by simpa [ordE_zero] using h2⟩
theorem bsHit_false {l : List Edg} (h : AscK l) (x : Edg) (hh : bsHit l x = false) : ∀ e ∈ l, ¬ (e.f = x.f ∧ e.t = x.t) := by
  intro e he hc
  obtain ⟨j, hj, rfl⟩ := List.getElem_of_mem he
  obtain ⟨h1, h2, h3⟩ := bsAt_spec h x
  rcases Nat.lt_trichotomy j (bsAt l x) with h4 | h4 | h4
  · have := h2 j h4 hj; unfold ltK at this; omega
  · have h5 : l[bsAt l x]? = some l[j] := by rw [← h4]; exact List.getElem?_eq_getElem hj
    unfold bsHit hitAt at hh
    rw [h5] at hh
    simp only [decide_eq_false_iff_not, ordE_zero] at hh
    exact hh hc
  · have h5 := asc_get h h4 hj
    have := h3 (bsAt l x) (Nat.le_refl _) (by omega)
    unfold ltK at *; omega
theorem fnd_idx {f t : Int} : ∀ (l : List Edg) (k j : Nat), (hj : j < l.length) → l[j].f = f ∧ l[j].t = t → (∀ i (hi : i < j), ¬ ((l[i]'(by omega)).f = f ∧ (l[i]'(by omega)).t = t)) → fndAt f t k l = ((k + j : Nat) : Int)
  | e :: l, k, 0, hj, h, _ => by
    have : isB f t e = true := by simpa [isB] using h
    simp [fndAt, this]
  | e :: l, k, j + 1, hj, h, hn => by
    have : ¬ isB f t e = true := by have := hn 0 (by omega); simpa [isB] using this
    simp only [fndAt, if_neg this]
    rw [fnd_idx l (k + 1) j (by simpa using hj) (by simpa using h) (fun i hi => by have := hn (i + 1) (by omega); simpa using this)]
    congr 1; omega
theorem fnd_no {f t : Int} : ∀ (l : List Edg) (k : Nat), (∀ e ∈ l, ¬ (e.f = f ∧ e.t = t)) → fndAt f t k l = -1
  | [], _, _ => rfl
  | e :: l, k, h => by
    have : ¬ isB f t e = true := by have := h e (List.mem_cons_self ..); simpa [isB] using this
    simp only [fndAt, if_neg this]
    exact fnd_no l (k + 1) fun x hx => h x (List.mem_cons_of_mem _ hx)
theorem fnd_hit {l : List Edg} (h : AscK l) (x : Edg) (hh : bsHit l x = true) : fndI l x.f x.t = (bsAt l x : Int) := by
  obtain ⟨h1, h2⟩ := bsHit_true x hh
  have := fnd_idx l 0 (bsAt l x) h1 h2 (fun i hi hc => by have := (bsAt_spec h x).2.1 i hi (by omega); unfold ltK at this; omega)
  simpa using this
theorem fnd_miss {l : List Edg} (h : AscK l) (x : Edg) (hh : bsHit l x = false) : fndI l x.f x.t = -1 := fnd_no l 0 (bsHit_false h x hh)
theorem butR_neg (a : Int) : ∀ (l : List Edg) (k : Nat), a < k → butR a k l = l
  | [], _, _ => rfl
  | e :: l, k, h => by simp only [butR]; rw [if_pos (by omega), butR_neg a l (k + 1) (by omega)]; rfl
theorem butR_at : ∀ (l : List Edg) (k j : Nat), butR ((k + j : Nat) : Int) k l = l.take j ++ l.drop (j + 1)
  | [], _, _ => by simp [butR]
  | e :: l, k, 0 => by
    simp only [butR]
    rw [if_neg (by simp), butR_neg _ l (k + 1) (by omega)]; simp
  | e :: l, k, j + 1 => by
    simp only [butR]
    rw [if_pos (by omega), show k + (j + 1) = (k + 1) + j by omega, butR_at l (k + 1) j]; simp
theorem but_del (l : List Edg) (j : Nat) : butR (j : Int) 0 l = delL l j (j + 1) := by
  have := butR_at l 0 j
  simpa [delL] using this
theorem putR_split (e : Edg) : ∀ (a b : List Edg), (∀ x ∈ a, befB e x = false) → (∀ x ∈ b, befB e x = true) → putR e false (a ++ b) = a ++ e :: b
  | [], [], _, _ => by simp [putR]
  | [], y :: b, _, h => by
    have := h y (List.mem_cons_self ..)
    simp [putR, this, putR_true]
  | x :: a, b, h1, h2 => by
    have := h1 x (List.mem_cons_self ..)
    have ih := putR_split e a b (fun y hy => h1 y (List.mem_cons_of_mem _ hy)) h2
    simp [putR, this, ih]
theorem befF {e x : Edg} (h : ¬ ltK e x) : befB e x = false := by
  cases hb : befB e x with
  | false => rfl
  | true => exact absurd ((ltK_bef e x).1 hb) h
theorem put_ins {l : List Edg} (h : AscK l) (c : Edg) (hh : bsHit l c = false) : putR c false l = insL l (bsAt l c) c := by
  obtain ⟨h1, h2, h3⟩ := bsAt_spec h c
  have hno := bsHit_false h c hh
  have := putR_split c (l.take (bsAt l c)) (l.drop (bsAt l c)) (fun x hx => by
    obtain ⟨i, hi, rfl⟩ := List.getElem_of_mem hx
    simp only [List.length_take] at hi
    rw [List.getElem_take]
    have := h2 i (by omega) (by omega)
    exact befF (by unfold ltK at *; omega)) (fun x hx => by
    obtain ⟨i, hi, rfl⟩ := List.getElem_of_mem hx
    simp only [List.length_drop] at hi
    rw [List.getElem_drop]
    have a := h3 (bsAt l c + i) (by omega) (by omega)
    have b := hno l[bsAt l c + i] (List.getElem_mem _)
    exact (ltK_bef _ _).2 (by unfold ltK at *; omega))
  rw [List.take_append_drop] at this
  exact this
theorem put_set {l : List Edg} (h : AscK l) (c : Edg) (hh : bsHit l c = true) : putR c false (delL l (bsAt l c) (bsAt l c + 1)) = l.set (bsAt l c) c := by
  obtain ⟨h1, h2, h3⟩ := bsAt_spec h c
  obtain ⟨hk, hf, ht⟩ := bsHit_true c hh
  have := putR_split c (l.take (bsAt l c)) (l.drop (bsAt l c + 1)) (fun x hx => by
    obtain ⟨i, hi, rfl⟩ := List.getElem_of_mem hx
    simp only [List.length_take] at hi
    rw [List.getElem_take]
    have := h2 i (by omega) (by omega)
    exact befF (by unfold ltK at *; omega)) (fun x hx => by
    obtain ⟨i, hi, rfl⟩ := List.getElem_of_mem hx
    simp only [List.length_drop] at hi
    rw [List.getElem_drop]
    have a := asc_get h (show bsAt l c < bsAt l c + 1 + i by omega) (by omega)
    exact (ltK_bef _ _).2 (by unfold ltK at *; omega))
  unfold delL
  rw [this, List.set_eq_take_append_cons_drop, if_pos hk]
/-- one change, as the reference makes it -/
def rchgF (g : Gr) (c : Edg) : Gr × Int :=
  if nodeB g c.f = false ∨ nodeB g c.t = false then (zeroG, 5)
  else if c.c < 0 ∧ fndI g.es c.f c.t < 0 then (zeroG, 6)
  else if 0 ≤ c.c ∧ alwI g c ≠ 0 then (zeroG, alwI g c)
  else if 0 ≤ c.c ∧ fndI g.es c.f c.t < 0 ∧ 1024 ≤ g.es.length then (zeroG, 4)
  else (⟨g.r, g.n, if 0 ≤ c.c then putR c false (butR (fndI g.es c.f c.t) 0 g.es) else butR (fndI g.es c.f c.t) 0 g.es⟩, 0)
theorem delL_asc {l : List Edg} (h : AscK l) (i j : Nat) (hij : i ≤ j) : AscK (delL l i j) := by
  unfold delL AscK
  refine List.pairwise_append.2 ⟨h.sublist (List.take_sublist _ _), h.sublist (List.drop_sublist _ _), fun a ha b hb => ?_⟩
  obtain ⟨x, hx, rfl⟩ := List.getElem_of_mem ha
  obtain ⟨y, hy, rfl⟩ := List.getElem_of_mem hb
  simp only [List.length_take] at hx
  simp only [List.length_drop] at hy
  rw [List.getElem_take, List.getElem_drop]
  exact asc_get h (by omega) (by omega)
/-- a step of the program keeps the order, and is the reference's -/
theorem chg_eq {g : Gr} {c : Edg} (h : AscK g.es) (hl : g.es.length ≤ 1024) :
    (chgF g c).2 = (rchgF g c).2 ∧ ((chgF g c).2 = 0 → (chgF g c).1 = (rchgF g c).1 ∧ AscK (chgF g c).1.es ∧ (chgF g c).1.es.length ≤ 1024 ∧ (chgF g c).1.r = g.r ∧ (chgF g c).1.n = g.n) := by
  unfold chgF rchgF
  by_cases h1 : nodeB g c.f = false ∨ nodeB g c.t = false
  · rw [if_pos h1, if_pos h1]; exact ⟨rfl, fun h => by simp at h⟩
  · rw [if_neg h1, if_neg h1]
    by_cases h2 : c.c < 0
    · rw [if_pos h2]
      cases hh : bsHit g.es c with
      | false =>
        have := fnd_miss h c hh
        rw [if_pos rfl, if_pos ⟨h2, by rw [this]; decide⟩]; exact ⟨rfl, fun h => by simp at h⟩
      | true =>
        have hf := fnd_hit h c hh
        obtain ⟨hk, _⟩ := bsHit_true c hh
        rw [if_neg (by simp), if_neg (by rw [hf]; omega), if_neg (by omega), if_neg (by omega), if_neg (by omega), hf, but_del]
        refine ⟨rfl, fun _ => ⟨rfl, delL_asc h _ _ (by omega), ?_, rfl, rfl⟩⟩
        have := delL_len g.es (bsAt g.es c) (bsAt g.es c + 1) (by omega) (by omega)
        dsimp only; omega
    · rw [if_neg h2, if_neg (show ¬ (c.c < 0 ∧ fndI g.es c.f c.t < 0) from fun h => h2 h.1)]
      by_cases h3 : alwI g c ≠ 0
      · rw [if_pos h3, if_pos ⟨by omega, h3⟩]; exact ⟨rfl, fun h => absurd h h3⟩
      · rw [if_neg h3, if_neg (show ¬ (0 ≤ c.c ∧ alwI g c ≠ 0) from fun h => h3 h.2)]
        cases hh : bsHit g.es c with
        | true =>
          have hf := fnd_hit h c hh
          obtain ⟨hk, hkf, hkt⟩ := bsHit_true c hh
          rw [if_pos rfl, if_neg (show ¬ (0 ≤ c.c ∧ fndI g.es c.f c.t < 0 ∧ 1024 ≤ g.es.length) by rw [hf]; omega), if_pos (show 0 ≤ c.c by omega), hf, but_del, put_set h c hh]
          refine ⟨rfl, fun _ => ⟨rfl, ?_, by simpa using hl, rfl, rfl⟩⟩
          rw [List.set_eq_take_append_cons_drop, if_pos hk]
          unfold AscK
          refine List.pairwise_append.2 ⟨h.sublist (List.take_sublist _ _), List.pairwise_cons.2 ⟨fun y hy => ?_, h.sublist (List.drop_sublist _ _)⟩, fun a ha b hb => ?_⟩
          · obtain ⟨j, hj, rfl⟩ := List.getElem_of_mem hy
            simp only [List.length_drop] at hj
            rw [List.getElem_drop]
            have := asc_get h (show bsAt g.es c < bsAt g.es c + 1 + j by omega) (by omega)
            unfold ltK at *; omega
          · obtain ⟨i, hi, rfl⟩ := List.getElem_of_mem ha
            simp only [List.length_take] at hi
            rw [List.getElem_take]
            rcases List.mem_cons.1 hb with rfl | hb
            · have := asc_get h (show i < bsAt g.es b by omega) hk
              unfold ltK at *; omega
            · obtain ⟨j, hj, rfl⟩ := List.getElem_of_mem hb
              simp only [List.length_drop] at hj
              rw [List.getElem_drop]
              exact asc_get h (by omega) (by omega)
        | false =>
          have hf := fnd_miss h c hh
          have hno := bsHit_false h c hh
          have hp := put_ins h c hh
          obtain ⟨q1, q2⟩ := putR_spec c g.es h hno
          rw [if_neg (by simp)]
          by_cases h4 : g.es.length = 1024
          · rw [if_pos h4, if_pos ⟨by omega, by rw [hf]; decide, by omega⟩]; exact ⟨rfl, fun h => by simp at h⟩
          · rw [if_neg h4, if_neg (show ¬ (0 ≤ c.c ∧ fndI g.es c.f c.t < 0 ∧ 1024 ≤ g.es.length) from fun h => by omega), if_pos (show 0 ≤ c.c by omega), hf, butR_neg _ _ _ (by decide), hp]
            refine ⟨rfl, fun _ => ⟨rfl, by rw [hp] at q1; exact q1, ?_, rfl, rfl⟩⟩
            have := insL_len g.es (bsAt g.es c) c (bsAt_spec h c).1
            dsimp only; omega
def appL (g : Gr) : List Edg → Gr × Int
  | [] => (g, 0)
  | c :: cs => if (chgF g c).2 ≠ 0 then (zeroG, (chgF g c).2) else appL (chgF g c).1 cs
def applyF (g : Gr) (cs : List Edg) : Gr × Int := if checkI g ≠ 0 then (zeroG, checkI g) else appL g cs
open Go Go.RT
theorem chkL_of {g : Gr} : ∀ (l : List Edg) (p : Option Edg), (∀ e ∈ l, alwI g e = 0) → AscK l → (∀ q, p = some q → ∀ e ∈ l, ltK q e) → chkL g p l = 0
  | [], _, _, _, _ => rfl
  | x :: l, p, h, ha, hp => by
    obtain ⟨a1, a2⟩ := List.pairwise_cons.1 ha
    simp only [chkL]
    rw [if_neg (by rw [h x (by simp)]; simp), if_neg ?_]
    · exact chkL_of l _ (fun e he => h e (by simp [he])) a2 fun q hq e he => by cases hq; exact a1 e he
    · cases p with
      | none => simp [badP]
      | some q =>
        have := (ltK_bef q x).2 (hp q rfl x (by simp))
        simp [badP, this]
end Go.Pl
/- Loop-free alternates: why packets that are sent to one arrive. -/
namespace Go.Pl
open Go Go.RT
set_option linter.all false
variable {g : Gr} {D : Nat → Nat → Int}
/- lists of what can be reached, by steps -/
inductive RchA (ab : Int → List Int) (s : Int) : Int → Prop where
  | here : RchA ab s s
  | up {x u : Int} : RchA ab s x → u ∈ ab x → RchA ab s u
/- graphs without networks -/
theorem plain_m (hN : g.n = 0) : g.m = g.r.toNat := by unfold Gr.m; rw [hN]; simp
theorem hop_spec (d : Dst g D) (hN : g.n = 0) {x z : Nat} (hx : x < g.m) (hz : z < g.m) {h : Int} (hh : h ∈ hopR g D x z) :
    ∃ y : Nat, h = y ∧ y < g.m ∧ 1 ≤ D x y ∧ 0 ≤ D y z ∧ D x y + D y z = D x z ∧ x ≠ z ∧ ∃ e ∈ g.es, e.f = (x : Int) ∧ e.t = (y : Int) := by
  have hm := plain_m hN
  have hr0 := d.r0
  unfold hopR at hh
  split at hh
  · cases hh
  · rename_i hoff
    simp [offB] at hoff
    obtain ⟨h1, h2⟩ := List.mem_filter.1 hh
    obtain ⟨y, rfl, hy, hf⟩ := fil_mem.1 h1
    rw [Int.toNat_natCast] at h2
    simp only [fstB, Bool.and_eq_true, decide_eq_true_eq] at hf
    simp only [hopB, Bool.or_eq_true, Bool.and_eq_true, decide_eq_true_eq] at h2
    rcases (dir_iff d).1 hf.2 with ⟨e, he, k1, k2, k3⟩ | ⟨_, e, he, _, _, _, k2, _⟩
    · have hrt := d.vg.rt e he (by omega)
      refine ⟨y, rfl, hy, by omega, ?_, ?_, by omega, e, he, k1, k2⟩
      · rcases h2 with h2 | h2
        · rw [h2, d.zero hz]; omega
        · exact h2.1.2
      · rcases h2 with h2 | h2
        · rw [h2, d.zero hz]; omega
        · exact h2.2
    · have := d.vg.t e he; omega
/-- the nodes on shortest paths from n to z -/
def OnW (g : Gr) (D : Nat → Nat → Int) (n z x : Nat) : Prop := x < g.m ∧ 0 ≤ D n x ∧ 0 ≤ D x z ∧ D n x + D x z = D n z
theorem OnW.hop (d : Dst g D) (hN : g.n = 0) {n z x : Nat} (hn : n < g.m) (hz : z < g.m) (h : OnW g D n z x) {u : Int} (hu : u ∈ hopR g D x z) : ∃ y : Nat, u = y ∧ OnW g D n z y ∧ D y z < D x z ∧ x ≠ z := by
  obtain ⟨h1, h2, h3, h4⟩ := h
  obtain ⟨y, rfl, hy, k1, k2, k3, k4, _⟩ := hop_spec d hN h1 hz hu
  have e1 := d.tri hn h1 hy h2 (by omega)
  have e2 := d.tri hn hy hz e1.1 k2
  exact ⟨y, rfl, ⟨hy, e1.1, k2, by omega⟩, by omega, k4⟩
/-- what an alternate of the list is -/
structure GoodA (g : Gr) (D : Nat → Nat → Int) (a : Nat) (x : Alt) : Prop where
  ex : ∃ d p n : Nat, x.dest = d ∧ x.prim = p ∧ x.via = n ∧ d < g.m ∧ p < g.m ∧ n < g.m ∧ (p : Int) ∈ hopR g D a d ∧ n ≠ p ∧ (∃ e ∈ g.es, e.f = (a : Int) ∧ e.t = (n : Int)) ∧ 0 ≤ D n d ∧ ¬ OnW g D n d a ∧ (x.kind = 2 → ¬ OnW g D n d p) ∧ x.down = decide (D n d < D a d) ∧ 0 ≤ D a d
end Go.Pl
/- Tunnel ends: distances that a cut leaves as they are. -/
namespace Go.Pl
open Go Go.RT
set_option linter.all false
variable {g : Gr} {D : Nat → Nat → Int}
end Go.Pl
namespace Go.Proofs.YtcillieggklaaaaGreat
open Go Go.RT Go.Proofs Go.Pl
set_option linter.all false
set_option maxRecDepth 20000
set_option maxHeartbeats 4000000
theorem wHX40a {α : Prop} (h : α := by repeat (first | exact trivial | refine ⟨⟨_, rfl, .inl ⟨rfl, rfl⟩⟩, ?_⟩)) : α := h
theorem wHX40b {α : Prop} (h : α := by repeat (first | exact trivial | refine ⟨wS, ?_⟩ | refine ⟨ent_same rfl rfl (rfEq rfl tU) tL, ?_⟩ | refine ⟨ent_same rfl rfl (flEq rfl (by first | (simp; done) | (simp; omega) | (simp [encE, encN, encB, encT, encL]; done) | simp [maxC, minC])) trivial, ?_⟩)) : α := h
theorem wHX40c {α : Prop} (h : α := by repeat (first | exact trivial | refine ⟨⟨rfl, rfl, rfl, tL⟩, ?_⟩)) : α := h
theorem cost_c (g : Gr) (f t : Int) (hn : g.es.length ≤ 2000000) : Pure Tryz.prog 28 [.agg (encG g), If .i64 f, If .i64 t] (.tup [If .i64 (costL f t g.es).1, Bf (costL f t g.es).2]) := by
 refine Meets.intro Tryz.func28 rfl (Nat.le_of_ble_eq_true rfl) fun C hC => ?_
 simp only [List.map, argEnv, Nat.reduceAdd]
 refine nK ?_
 refine zb ?_
 refine zq ?_
 refine ze ?_
 refine ze ?_
 refine zc ?_
 refine nK ?_
 refine zb ?_
 refine zg ?_
 refine zh ?_
 refine zo ?_
 refine zbb ?_
 refine zc ?_
 refine nK ?_
 refine n_loop (ι := Nat) (fun i => ([(1, IV .i64 f), (2, IV .i64 t), (11, .fz (VE g.es)), (12, IV .i64 g.es.length), (13, IV .i64 i)], [], 0)) (fun i => i ≤ g.es.length ∧ costL f t (g.es.drop i) = costL f t g.es) (fun i => g.es.length - i) 0 ⟨Nat.zero_le _, rfl⟩ ?_ ?_
 ·refine Next.weak [] [] (by rfl) (keeps0 hC _) wHX40a wHX40b wN rel_intro
 intro i ⟨hi, ho⟩ K hK
 refine nK ?_
 refine zb ?_
 refine zp ?_
 refine zc ?_
 refine nK ?_
 refine n_cond _ rfl (fun hb => ?_) (fun hb => ?_)
 ·have hlt : i < g.es.length := by simp at hb; omega
  have hr1 := row_at' encE g.es i hlt
  rw [List.drop_eq_getElem_cons hlt] at ho
  simp only [costL] at ho
  have hK1 := fun h => hK (i + 1) ⟨by omega, h⟩ (by omega)
  generalize g.es[i] = e at *
  refine nK ?_
  refine zb ?_
  refine zz ?_
  refine zbf ?_
  refine zu ?_
  refine zr ?_
  refine zc ?_
  refine nK ?_
  refine zb ?_
  refine zg ?_
  refine zh ?_
  refine za ?_
  refine zbr ?_
  refine za ?_
  refine zn ?_
  refine zm ?_
  refine zf ?_
  refine zbo ?_
  refine zt ?_
  refine zc ?_
  refine nK ?_
  refine n_cond _ rfl (fun hb => ?_) (fun hb => ?_)
  ·rw [if_pos (by simpa [isB] using hb)] at ho
   rw [← ho]
   refine nK ?_
   refine zb ?_
   refine zg ?_
   refine zh ?_
   refine zd ?_
   refine ze ?_
   refine zc ?_
   refine nK ?_
   exact wO hC
  rw [if_neg (by simpa [isB] using hb)] at ho
  refine nK ?_
  refine zb ?_
  refine zl ?_
  refine za ?_
  refine zc ?_
  refine nK ?_
  refine Next.weak [] [] (by rfl) (keeps0 hC _) wHX40a wHX40b wN (hK1 ho)
 have hie : i = g.es.length := by simp at hb; omega
 rw [hie, List.drop_length] at ho
 rw [← ho]
 refine nK ?_
 refine zb ?_
 refine ze ?_
 refine ze ?_
 refine zc ?_
 refine nK ?_
 exact wO hC
theorem kept_row {α β : Type} (f : α → β) (c l : List α) (j : Nat) (h : c.length ≤ j) (hj : j < l.length) : ((c ++ l.drop c.length).map f)[j]? = some (f l[j]) := by
 rw [List.getElem?_map, kept_get c l j h, List.getElem?_eq_getElem hj]; rfl
theorem compact_c (l : List Int) (hn : l.length ≤ 2000000) : Meets Tryz.prog 65 [.sl 0 1 0 l.length] 1 [(0, OI l)] (.fz (VI (compL eqI l))) [] 1 := by
 refine Meets.intro Tryz.func65 rfl (Nat.le_of_ble_eq_true rfl) fun C hC => ?_
 simp only [List.map, argEnv, Nat.reduceAdd]
 refine nK ?_
 refine zb ?_
 refine ze ?_
 refine zc ?_
 refine nK ?_
 refine zb ?_
 refine za ?_
 refine zbi ?_
 refine zbn ?_
 refine zc ?_
 refine nK ?_
 refine n_cond _ rfl (fun hb => ?_) (fun hb => ?_)
 ·have h2 : l.length < 2 := by simp at hb; omega
  have e : compL eqI l = l := by
   match l, h2 with
   | [], _ => rfl
   | [x], _ => rfl
  rw [e]
  refine nK ?_
  refine zb ?_
  refine za ?_
  refine zd ?_
  refine zc ?_
  refine nK ?_
  refine Next.weakS [2] [2] (by rfl) (keepsN hC _ rfl) (G' := [(2, .fz (VI l))]) (H' := []) wF trivial rfl ?_
  exact n_out1 rfl (by rfl) rfl rfl
 have h2 : 2 ≤ l.length := by simp at hb; omega
 refine nK ?_
 refine zb ?_
 refine ze ?_
 refine zc ?_
 refine nK ?_
 refine n_loop (ι := Nat) (fun k => ([(0, .sl 0 1 0 l.length), (3, IV .i64 k)], [(0, OI l)], 1)) (fun k => 1 ≤ k ∧ k ≤ l.length ∧ compL eqI (l.take k) = l.take k) (fun k => l.length - k) 1 ⟨Nat.le_refl _, by omega, compL_one eqI l (by omega)⟩ ?_ ?_
 ·refine Next.weakS [0] [] (by rfl) (wK hC) wG wHX40b rfl (rel_intro)
 intro k ⟨hk1, hk2, hc⟩ K hK
 refine nK ?_
 refine zb ?_
 refine za ?_
 refine za ?_
 refine zbi ?_
 refine zp ?_
 refine zc ?_
 refine nK ?_
 refine n_cond _ rfl (fun hb => ?_) (fun hb => ?_)
 ·have hlt : k < l.length := by simp at hb; omega
  have hr1 := row_at' encN l k hlt
  have hr2 := row_at' encN l (k - 1) (by omega)
  have hst := compL_take eqI l k (by omega) hlt
  refine nK ?_
  refine s_draw mixed ?_
  refine za ?_
  refine za ?_
  refine rpZ 18 rfl (op_idx_sl0 k rfl (oT rfl) (oT rfl) (by intro _; constructor <;> omega)) ?_
  refine zh ?_
  refine za ?_
  refine za ?_
  refine zbx ?_
  refine rpZ 23 rfl (op_idx_sl0 (k - 1) rfl (oT rfl) (oT rfl) (by intro _; constructor <;> omega)) ?_
  refine zh ?_
  refine zbr ?_
  refine zs ?_
  refine nK ?_
  refine n_cond _ rfl (fun hb => ?_) (fun hb => ?_)
  ·have he : eqI l[k] l[k - 1] = true := hb
   rw [he, cond_true, List.append_nil, hc] at hst
   refine nK ?_
   refine zb ?_
   refine za ?_
   refine za ?_
   refine rlZ 28 rfl (op_slice_view rfl (oT rfl) (Bnd.yes _ _ _ _ _ (oT rfl) tQ) (Bnd.no _) tT) ?_
   refine zd ?_
   refine zc ?_
   refine nK ?_
   refine zb ?_
   refine ze ?_
   refine zc ?_
   refine nK ?_
   refine n_loop (ι := Nat × List Int) (fun g => ([(0, .sl 0 1 0 l.length), (3, IV .i64 g.2.length), (4, .sl 0 1 k (l.length - k)), (5, IV .i64 g.1)], [(0, OI (g.2 ++ l.drop g.2.length))], 1)) (fun g => 1 ≤ g.1 ∧ k + g.1 ≤ l.length ∧ g.2 = compL eqI (l.take (k + g.1))) (fun g => l.length - (k + g.1)) (1, l.take k) ⟨Nat.le_refl _, by dsimp only; omega, hst.symm⟩ ?_ ?_
   ·have e1 : (l.take k).length = k := by simp; omega
    simp only [e1, List.take_append_drop, Nat.zero_add]
    refine Next.weakS [0] [] (by rfl) (wK hC) wG wHX40b rfl (rel_intro)
   intro ⟨j, c⟩ ⟨hj1, hj2, hcd⟩ K2 hK2
   simp only at hj1 hj2 hcd
   dsimp only
   have hcl := compL_len_lt eqI l k (by omega) hlt he (k + j) (by omega) hj2
   rw [← hcd] at hcl
   have hkl := kept_len c l (by omega)
   refine nK ?_
   refine zb ?_
   refine za ?_
   refine za ?_
   refine zbi ?_
   refine zp ?_
   refine zc ?_
   refine nK ?_
   refine n_cond _ rfl (fun hb => ?_) (fun hb => ?_)
   ·have hjl : k + j < l.length := by simp at hb; omega
    have hst2 := compL_take eqI l (k + j) (by omega) hjl
    rw [← hcd] at hst2
    have hK3 := fun c' h => hK2 (j + 1, c') ⟨by dsimp only; omega, by dsimp only; omega, h⟩ (by dsimp only; omega)
    have g1 := kept_row encN c l (k + j) (by omega) hjl
    have g2 := kept_row encN c l (k + j - 1) (by omega) (by omega)
    have g3 := kept_row encN c l c.length (Nat.le_refl _) (by omega)
    have hset := set_kept c l l[k + j] (by omega)
    refine nK ?_
    refine s_draw mixed ?_
    refine za ?_
    refine za ?_
    refine rpZ 37 rfl (op_idx_sl j rfl (oT rfl) (oT rfl) (by intro _; constructor <;> omega)) ?_
    refine rlZ 38 rfl (op_load1_flat rfl (oT rfl) (by intro _; exact ⟨rfl, g1⟩) rfl) ?_
    refine za ?_
    refine za ?_
    refine zbx ?_
    refine rpZ 42 rfl (op_idx_sl (j - 1) rfl (oT rfl) (oT rfl) (by intro _; constructor <;> omega)) ?_
    refine rlZ 43 rfl (op_load1_flat rfl (oT rfl) (by intro _; exact ⟨rfl, by rw [← Nat.add_sub_assoc hj1]; exact g2⟩) rfl) ?_
    refine zbg ?_
    refine zs ?_
    refine nK ?_
    refine n_cond _ rfl (fun hb => ?_) (fun hb => ?_)
    ·have hne : eqI l[k + j] l[k + j - 1] = false := by simpa using hb
     rw [hne, cond_false] at hst2
     have hK4 := hK3 (c ++ [l[k + j]]) hst2.symm
     have e4 : (c ++ [l[k + j]]).length = c.length + 1 := by simp
     rw [← hset, e4] at hK4
     refine nK ?_
     refine zb ?_
     refine za ?_
     refine za ?_
     refine za ?_
     refine za ?_
     refine rpZ 49 rfl (op_idx_sl j rfl (oT rfl) (oT rfl) (by intro _; constructor <;> omega)) ?_
     refine rlZ 50 rfl (op_load1_flat rfl (oT rfl) (by intro _; exact ⟨rfl, g1⟩) rfl) ?_
     refine rpZ 51 rfl (op_idx_sl0 c.length rfl (oT rfl) (oT rfl) (by intro _; constructor <;> omega)) ?_
     refine Run.eff (dd := none) rfl rfl (op_store_flat rfl (oT rfl) (oT rfl) tC rfl rfl g3 tS) ?_
     refine zc ?_
     refine nK ?_
     refine zb ?_
     refine za ?_
     refine zl ?_
     refine zd ?_
     refine zc ?_
     refine nK ?_
     refine zb ?_
     refine za ?_
     refine zl ?_
     refine zd ?_
     refine zc ?_
     refine nK ?_
     refine Next.weakS [0] [] (by rfl) (wK hC) wG wHX40b rfl (hK4)
    have hne : eqI l[k + j] l[k + j - 1] = true := by simpa using hb
    rw [hne, cond_true, List.append_nil] at hst2
    refine nK ?_
    refine zb ?_
    refine za ?_
    refine zl ?_
    refine zd ?_
    refine zc ?_
    refine nK ?_
    refine Next.weakS [0] [] (by rfl) (wK hC) wG wHX40b rfl ((hK3 c hst2.symm))
   have hje : k + j = l.length := by simp at hb; omega
   rw [hje, List.take_length] at hcd
   rw [← hcd]
   refine nK ?_
   refine zb ?_
   refine za ?_
   refine za ?_
   refine rlZ 56 rfl (op_slice_view rfl (oT rfl) (Bnd.yes _ _ _ _ _ (oT rfl) tQ) (Bnd.no _) (by intro _; refine ⟨rfl, ?_⟩; rw [List.length_map, hkl]; omega)) ?_
   refine Run.eff (dd := none) rfl rfl (op_clear rfl (oT rfl) rfl rfl rfl rfl (by rw [List.length_map, hkl] <;> omega)) ?_
   refine zc ?_
   refine nK ?_
   refine zb ?_
   refine za ?_
   refine za ?_
   refine rlZ 59 rfl (op_slice_view rfl (oT rfl) (Bnd.no _) (Bnd.yes _ _ _ _ _ (oT rfl) tQ) (by intro _; refine ⟨rfl, ?_⟩; simp; try omega)) ?_
   refine zd ?_
   refine zc ?_
   refine nK ?_
   refine Next.weakS [2] [2] (by rfl) (keepsN hC _ rfl) (G' := [(2, .fz (VI c))]) (H' := []) ⟨⟨_, rfl, .inr ⟨_, rfl, .sl _ _ _ _ _ _ rfl rfl (by simp) (by simp)⟩⟩, trivial⟩ trivial rfl ?_
   exact n_out1 rfl (by rfl) rfl rfl
  have he : eqI l[k] l[k - 1] = false := hb
  rw [he, cond_false, hc, ← List.take_succ_eq_append_getElem hlt] at hst
  refine nK ?_
  refine zb ?_
  refine za ?_
  refine zl ?_
  refine zd ?_
  refine zc ?_
  refine nK ?_
  refine Next.weakS [0] [] (by rfl) (wK hC) wG wHX40b rfl ((hK (k + 1) ⟨by omega, by omega, hst⟩ (by omega)))
 have hie : k = l.length := by simp at hb; omega
 rw [take_len_eq' hie] at hc
 rw [hc]
 refine nK ?_
 refine zb ?_
 refine za ?_
 refine zd ?_
 refine zc ?_
 refine nK ?_
 refine Next.weakS [2] [2] (by rfl) (keepsN hC _ rfl) (G' := [(2, .fz (VI l))]) (H' := []) wF trivial rfl ?_
 exact n_out1 rfl (by rfl) rfl rfl
theorem sorti_c (l : List Int) (hn : l.length ≤ 2000000) : Meets Tryz.prog 64 [.sl 0 1 0 l.length] 1 [(0, OI l)] (.fz (.tup [])) [(0, OI (srtI l))] 1 := sortI_meets (ρ := Tryz.sortInt_ren) Tryz.sortInt (l := l) (by omega)
theorem tos_succ (n : Int) (l : List Edg) (i : Nat) (h : i < l.length) : tosL n (l.take (i + 1)) = tosL n (l.take i) ++ if l[i].f = n then [l[i].t] else [] := by
 unfold tosL
 rw [List.take_succ_eq_append_getElem h, List.filter_append, List.map_append]
 congr 1
 by_cases e : l[i].f = n <;> simp [e]
theorem tos_len (n : Int) (l : List Edg) : (tosL n l).length ≤ l.length := by simp [tosL]; exact List.length_filter_le _ _
theorem next_c (g : Gr) (n : Int) (hn : g.es.length ≤ 2000000) : Pure Tryz.prog 84 [.agg (encG g), If .i64 n] (VI (nextI n g.es)) := by
 refine Meets.intro Tryz.func84 rfl (Nat.le_of_ble_eq_true rfl) fun C hC => ?_
 simp only [List.map, argEnv, Nat.reduceAdd]
 refine nK ?_
 refine zb ?_
 refine zq ?_
 refine ze ?_
 refine zc ?_
 refine nK ?_
 refine zb ?_
 refine ze ?_
 refine zc ?_
 refine nK ?_
 refine zb ?_
 refine zg ?_
 refine zh ?_
 refine zo ?_
 refine zbb ?_
 refine zc ?_
 refine nK ?_
 refine Next.adopt 5 1 rfl ?_
 refine n_loop (ι := Nat) (fun i => ([(1, IV .i64 n), (5, .sl 0 1 0 (tosL n (g.es.take i)).length), (9, .fz (VE g.es)), (10, IV .i64 g.es.length), (11, IV .i64 i)], [(0, OI (tosL n (g.es.take i)))], 1)) (fun i => i ≤ g.es.length) (fun i => g.es.length - i) 0 (Nat.zero_le _) ?_ ?_
 ·refine Next.weakS [5] [] (by rfl) (wK hC) wG wHX40b rfl (rel_intro)
 intro i hi K hK
 have htl := tos_len n (g.es.take i)
 have htl2 : (g.es.take i).length ≤ g.es.length := List.length_take_le' _ _
 refine nK ?_
 refine zb ?_
 refine zp ?_
 refine zc ?_
 refine nK ?_
 refine n_cond _ rfl (fun hb => ?_) (fun hb => ?_)
 ·have hlt : i < g.es.length := by simp at hb; omega
  have hst := tos_succ n g.es i hlt
  have hr1 := row_at' encE g.es i hlt
  have hK1 := hK (i + 1) (by omega) (by omega)
  rw [hst] at hK1
  generalize g.es[i] = e at *
  refine nK ?_
  refine zb ?_
  refine zz ?_
  refine zbf ?_
  refine zu ?_
  refine zr ?_
  refine zc ?_
  refine nK ?_
  refine zb ?_
  refine zg ?_
  refine zh ?_
  refine za ?_
  refine zbr ?_
  refine zc ?_
  refine nK ?_
  refine n_cond _ rfl (fun hb => ?_) (fun hb => ?_)
  ·rw [if_pos (by simpa using hb)] at hK1
   refine nK ?_
   refine zb ?_
   refine za ?_
   refine zg ?_
   refine zh ?_
   refine zbh ?_
   refine zbu ?_
   refine zd ?_
   refine zc ?_
   refine nK ?_
   refine zb ?_
   refine zl ?_
   refine za ?_
   refine zc ?_
   refine nK ?_
   refine Next.weakS [5] [] (by rfl) (wK hC) wG wHX40b rfl (hK1)
  rw [if_neg (by simpa using hb), List.append_nil] at hK1
  refine nK ?_
  refine zb ?_
  refine zl ?_
  refine za ?_
  refine zc ?_
  refine nK ?_
  refine Next.weakS [5] [] (by rfl) (wK hC) wG wHX40b rfl (hK1)
 have hie : i = g.es.length := by simp at hb; omega
 rw [take_len_eq' hie]
 rw [take_len_eq' hie] at htl
 have hso := sorti_c (tosL n g.es) (by omega)
 have hsl := srtI_len (tosL n g.es)
 have hco := compact_c (srtI (tosL n g.es)) (by omega)
 rw [hsl] at hco
 refine nK ?_
 refine zb ?_
 refine za ?_
 refine Run.eff (dd := some 26) rfl rfl (op_call (n := 1) (n' := 1) [0] (fun _ => hso) rfl (Opd.func _) (oS (oT rfl) Opds.nil) rfl rfl (Lent.of rfl rfl wHX40c rfl) rfl rfl rfl rfl rfl) ?_
 refine zc ?_
 refine nK ?_
 refine zb ?_
 refine za ?_
 refine Run.eff (dd := some 28) rfl rfl (op_call (n := 1) (n' := 1) [0] (fun _ => hco) rfl (Opd.func _) (oS (oT rfl) Opds.nil) rfl rfl (Lent.of rfl rfl wHX40c rfl) rfl rfl rfl rfl rfl) ?_
 refine zd ?_
 refine zc ?_
 refine nK ?_
 exact wO hC
open Go Go.RT Go.Proofs Go.Pl
set_option maxRecDepth 20000
set_option maxHeartbeats 4000000
theorem clone_c (l : List Edg) (hn : l.length ≤ 2000000) : Meets Tryz.prog 54 ([VE l].map PV.fz) 0 [] (.sl 0 3 0 l.length) [(0, OE l)] 1 := by
 refine Meets.intro Tryz.func54 rfl (Nat.le_of_ble_eq_true rfl) fun C hC => ?_
 simp only [List.map, argEnv, Nat.reduceAdd]
 refine nK ?_
 refine zb ?_
 refine ze ?_
 refine zc ?_
 refine nK ?_
 refine zb ?_
 refine za ?_
 refine rpZ 4 rfl (op_eqnil rfl (oT rfl)) ?_
 refine zc ?_
 refine nK ?_
 refine Next.abool 4 rfl (fun b hb0 => ?_)
 refine nK ?_
 refine n_cond _ rfl (fun hb => ?_) (fun hb => ?_)
 ·have he : l = [] := by have := hb0 hb; simpa using this
  subst he
  refine nK ?_
  refine zb ?_
  refine ze ?_
  refine zc ?_
  refine nK ?_
  refine Next.adopt 2 3 rfl ?_
  exact wO hC
 refine nK ?_
 refine zb ?_
 refine zct ?_
 refine za ?_
 refine Run.eff (dd := some 7) rfl rfl (op_append rfl (oT rfl) (oT rfl) rfl rfl rfl rfl tB tB) ?_
 refine zd ?_
 refine zc ?_
 refine nK ?_
 refine Next.weakS [2] [] (by rfl) (keeps0 hC _) (G' := [(2, .sl 0 3 0 l.length)]) (H' := [(0, OE l)]) wG (by repeat (first | exact trivial | refine ⟨wS, ?_⟩ | refine ⟨ent_same rfl rfl (rfEq rfl tU) tL, ?_⟩ | refine ⟨ent_same rfl rfl (flEq rfl (by first | (simp; done) | (simp; omega) | (simp [encE, encN, encB]; done) | simp [maxC, minC])) trivial, ?_⟩)) rfl ?_
 exact wO hC
open Go Go.RT Go.Proofs Go.Pl
set_option maxRecDepth 20000
set_option maxHeartbeats 4000000
open Go Go.RT Go.Proofs Go.Pl
set_option maxRecDepth 20000
set_option maxHeartbeats 4000000
theorem wHX115a {α : Prop} (h : α := by repeat (first | exact trivial | refine ⟨wS, ?_⟩ | refine ⟨ent_same rfl rfl (rfEq rfl tU) tL, ?_⟩ | refine ⟨ent_same rfl rfl (flEq rfl (by first | (simp; done) | (simp; omega) | (simp [encE, encN, encB]; done) | simp [maxC, minC])) trivial, ?_⟩)) : α := h
theorem bsearch_c (l : List Edg) (x : Edg) (hn : l.length ≤ 2000000) (gf : Nat) [FnB Tryz.prog gf] (caps : List FV) (c : Edg → Edg → Int) (hp : ∀ a b, Pure Tryz.prog gf ([.agg (encE a), .agg (encE b)] ++ caps) (If .i64 (c a b))) : Pure Tryz.prog 75 [VE l, .agg (encE x), .clo gf caps] (.tup [If .i64 (bsGo (fun e => decide (c e x < 0)) l 0 l.length : Nat), Bf (hitAt (fun e => decide (c e x = 0)) l (bsGo (fun e => decide (c e x < 0)) l 0 l.length))]) := by
 refine Meets.intro Tryz.func75 rfl (Nat.le_of_ble_eq_true rfl) fun C hC => ?_
 simp only [List.map, argEnv, Nat.reduceAdd]
 refine nK ?_
 refine zb ?_
 refine zq ?_
 refine ze ?_
 refine ze ?_
 refine zc ?_
 refine nK ?_
 refine zb ?_
 refine za ?_
 refine zo ?_
 refine zd ?_
 refine zc ?_
 refine nK ?_
 refine zb ?_
 refine za ?_
 refine ze ?_
 refine zd ?_
 refine zc ?_
 refine nK ?_
 refine n_loop (ι := Nat × Nat) (fun g => ([(0, .fz (VE l)), (2, .fz (.clo gf caps)), (4, .ptr 0 3 0 0), (8, IV .i64 l.length), (9, IV .i64 g.1), (10, IV .i64 g.2)], [(0, some (.flat 3 [encE x]))], 1)) (fun g => g.1 ≤ g.2 ∧ g.2 ≤ l.length ∧ bsGo (fun e => decide (c e x < 0)) l g.1 g.2 = bsGo (fun e => decide (c e x < 0)) l 0 l.length) (fun g => g.2 - g.1) (0, l.length) ⟨Nat.zero_le _, Nat.le_refl _, rfl⟩ ?_ ?_
 ·refine Next.weakS [0] [] (by rfl) (wK hC) wG wHX115a rfl (rel_intro)
 intro ⟨i, j⟩ ⟨hi, hj, ho⟩ K hK
 dsimp only at hi hj ho ⊢
 refine nK ?_
 refine zb ?_
 refine za ?_
 refine za ?_
 refine zp ?_
 refine zc ?_
 refine nK ?_
 refine n_cond _ rfl (fun hb => ?_) (fun hb => ?_)
 ·have hlt : i < j := by simp at hb; omega
  have hm : (i + j) / 2 < l.length := by omega
  have hr1 := row_at' encE l ((i + j) / 2) hm
  have hst := bsGo_step (fun e => decide (c e x < 0)) l i j hlt hj
  rw [ho] at hst
  have hKl := fun h => hK (((i + j) / 2) + 1, j) ⟨by dsimp only; omega, by dsimp only; omega, h⟩ (by dsimp only; omega)
  have hKr := fun h => hK (i, (i + j) / 2) ⟨by dsimp only; omega, by dsimp only; omega, h⟩ (by dsimp only; omega)
  generalize l[(i + j) / 2] = e at *
  refine nK ?_
  refine zb ?_
  refine za ?_
  refine za ?_
  refine zbc ?_
  refine zca ?_
  refine rpZ 22 rfl (op_shr (n := 1) rfl (oT rfl) oC (by intro _; simp only [IntKind.bits]; omega)) ?_
  refine zca ?_
  refine zd ?_
  refine zc ?_
  refine nK ?_
  refine s_draw mixed ?_
  refine za ?_
  refine za ?_
  refine za ?_
  refine rpZ 27 rfl (op_idx_fz ((i + j) / 2) rfl (oT rfl) (oT rfl) (by intro _; exact ⟨by omega, hr1⟩)) ?_
  refine zbf ?_
  refine zk ?_
  refine rpZ 30 rfl (op_call_pureC (fun _ => hp e x) rfl (oT rfl) (oS (oT rfl) (oS (oT rfl) Opds.nil))) ?_
  refine zbn ?_
  refine zs ?_
  refine nK ?_
  refine n_cond _ rfl (fun hb => ?_) (fun hb => ?_)
  ·simp only [hb, cond_true] at hst
   refine nK ?_
   refine zb ?_
   refine za ?_
   refine zl ?_
   refine zd ?_
   refine zc ?_
   refine nK ?_
   refine Next.weakS [0] [] (by rfl) (wK hC) wG wHX115a rfl ((hKl hst.symm))
  simp only [hb, cond_false] at hst
  refine nK ?_
  refine zb ?_
  refine za ?_
  refine zd ?_
  refine zc ?_
  refine nK ?_
  refine Next.weakS [0] [] (by rfl) (wK hC) wG wHX115a rfl ((hKr hst.symm))
 have hie : i = j := by simp at hb; omega
 rw [hie, bsGo_end] at ho
 rw [← ho]
 rw [hie] at hi ⊢
 obtain ⟨q, hq, hh⟩ := hitAt_eq l j (fun e => decide (c e x = 0))
 rw [hh]
 have hr : j < l.length → (l.map encE)[j]? = some (encE q) := fun h => by rw [List.getElem?_map, hq h]; rfl
 refine nK ?_
 refine s_draw mixed ?_
 refine za ?_
 refine za ?_
 refine za ?_
 refine zp ?_
 refine za ?_
 refine zf ?_
 refine zf ?_
 refine zf ?_
 refine rgZ 43 rfl rfl tG (op_idx_fz j rfl (oO rfl tO) (oO rfl tO) (by intro hg; exact ⟨rfl, hr (by simp at hg; omega)⟩)) ?_
 refine zcx ?_
 refine zbe ?_
 refine rgZ 46 rfl rfl tG (op_call_pureC (fun _ => hp q x) rfl (oO rfl tO) (oS (oO rfl tO) (oS (oO rfl tO) Opds.nil))) ?_
 refine zce ?_
 refine zt ?_
 refine zd ?_
 refine zd ?_
 refine zs ?_
 refine nK ?_
 exact wO hC
open Go Go.RT Go.Proofs Go.Pl
set_option maxRecDepth 20000
set_option maxHeartbeats 4000000
theorem delete_c (l : List Edg) (k i j : Nat) (hn : l.length ≤ 2000000) (hij : i < j) (hj : j ≤ l.length) : Meets Tryz.prog 76 [.sl 0 3 0 l.length, IV .i64 i, IV .i64 j] 1 [(0, OE (l ++ List.replicate k zE))] (.sl 0 3 0 (l.length - (j - i))) [(0, OE (delL l i j ++ List.replicate (k + (j - i)) zE))] 1 := by
 have hrl : (l ++ List.replicate k zE).length = l.length + k := by simp
 have hrows := del_rows l k i j (by omega) hj
 have e0 : ∀ xs ys : List Edg, List.map encE (xs ++ ys) = xs.map encE ++ ys.map encE := fun xs ys => List.map_append
 have hcl : l.length - (j - i) = i + (l.length - j) := by omega
 refine Meets.intro Tryz.func76 rfl (Nat.le_of_ble_eq_true rfl) fun C hC => ?_
 simp only [List.map, argEnv, Nat.reduceAdd]
 refine nK ?_
 refine zb ?_
 refine ze ?_
 refine zc ?_
 refine nK ?_
 refine zb ?_
 refine za ?_
 refine za ?_
 refine za ?_
 refine za ?_
 refine zbi ?_
 refine rlZ 13 rfl (op_slice_any (l := i) (h := j) (mx := l.length) rfl (oT rfl) (Bnd.yes _ _ _ _ _ (oT rfl) tQ) (Bnd.yes _ _ _ _ _ (oT rfl) tQ) (Bnd.yes _ _ _ _ _ (oT rfl) tQ) (by intro _; refine ⟨rfl, ?_⟩; rw [List.length_map, hrl]; omega)) ?_
 refine zc ?_
 refine nK ?_
 refine nK ?_
 refine zb ?_
 refine za ?_
 refine za ?_
 refine zbr ?_
 refine zc ?_
 refine nK ?_
 refine n_cond _ rfl (fun hb => ?_) (fun hb => ?_)
 ·simp at hb; omega
 have hxl : ((l ++ List.replicate k zE).take i ++ l.drop j ++ (l ++ List.replicate k zE).drop (i + (l.length - j))).length = l.length + k := by simp; omega
 by_cases hje : j = l.length
 ·refine nK ?_
  refine zb ?_
  refine za ?_
  refine zbi ?_
  refine zd ?_
  refine zc ?_
  refine nK ?_
  refine s_draw mixed ?_
  refine za ?_
  refine za ?_
  refine rlZ 22 rfl (op_slice_view rfl (oT rfl) (Bnd.no _) (Bnd.yes _ _ _ _ _ (oT rfl) tQ) (by intro _; refine ⟨rfl, ?_⟩; rw [List.length_map, hrl]; omega)) ?_
  refine za ?_
  refine za ?_
  refine rlZ 25 rfl (op_slice_end (l := j) (h := l.length) rfl (oT rfl) (Bnd.yes _ _ _ _ _ (oT rfl) tQ) (Bnd.no _) (by intro _; refine ⟨rfl, ?_⟩; rw [List.length_map, hrl]; omega)) ?_
  refine Run.effW (dd := some 26) rfl rfl (op_append_inF rfl (oT rfl) (oT rfl) rfl (by rw [List.length_map, hrl]; simp; omega) rfl) tE ?_
  refine zd ?_
  refine zs ?_
  refine nK ?_
  refine Next.weakS [0] [] (by rfl) (keepsN hC _ rfl) (G' := [(0, .sl 0 3 0 (i + (l.length - j))), (7, IV .i64 l.length)]) (H' := [(0, OE ((l ++ List.replicate k zE).take i ++ l.drop j ++ (l ++ List.replicate k zE).drop (i + (l.length - j))))]) (by exact ⟨⟨_, rfl, .inl ⟨slEq rfl (by simp; omega), rfl⟩⟩, ⟨_, rfl, .inl ⟨rfl, rfl⟩⟩, trivial⟩) (by exact ⟨ent_same rfl rfl (by refine congrArg (fun r => some (Ob.flat 3 r)) ?_; subst hje; simp) trivial, trivial⟩) rfl ?_
  refine nK ?_
  refine zb ?_
  refine za ?_
  refine za ?_
  refine zbi ?_
  refine za ?_
  refine rlZ 31 rfl (op_slice_view (l := i + (l.length - j)) (h := l.length) rfl (oT rfl) (Bnd.yes _ _ _ _ _ (oT rfl) tQ) (Bnd.yes _ _ _ _ _ (oT rfl) tQ) (by intro _; refine ⟨rfl, ?_⟩; rw [List.length_map, hxl]; omega)) ?_
  refine Run.eff (dd := none) rfl rfl (op_clear rfl (oT rfl) rfl rfl rfl rfl (by rw [List.length_map, hxl]; omega)) ?_
  refine zc ?_
  refine nK ?_
  refine zb ?_
  refine za ?_
  refine zd ?_
  refine zc ?_
  refine nK ?_
  refine Next.weakS [6] [] (by rfl) (keepsN hC _ rfl) (G' := [(6, .sl 0 3 0 (l.length - (j - i)))]) (H' := [(0, OE (delL l i j ++ List.replicate (k + (j - i)) zE))]) (by exact ⟨⟨_, rfl, .inl ⟨slEq rfl (by omega), rfl⟩⟩, trivial⟩) (by exact ⟨ent_same rfl rfl (by refine congrArg (fun r => some (Ob.flat 3 r)) ?_; rw [← hrows]; simp [zE]; exact .inr rfl) trivial, trivial⟩) rfl ?_
  exact n_out1 rfl (by rfl) rfl rfl
 refine nK ?_
 refine zb ?_
 refine za ?_
 refine zbi ?_
 refine zd ?_
 refine zc ?_
 refine nK ?_
 refine s_draw mixed ?_
 refine za ?_
 refine za ?_
 refine rlZ 22 rfl (op_slice_view rfl (oT rfl) (Bnd.no _) (Bnd.yes _ _ _ _ _ (oT rfl) tQ) (by intro _; refine ⟨rfl, ?_⟩; rw [List.length_map, hrl]; omega)) ?_
 refine za ?_
 refine za ?_
 refine rlZ 25 rfl (op_slice_view (l := j) (h := l.length) rfl (oT rfl) (Bnd.yes _ _ _ _ _ (oT rfl) tQ) (Bnd.no _) (by intro _; refine ⟨rfl, ?_⟩; rw [List.length_map, hrl]; omega)) ?_
 refine Run.effW (dd := some 26) rfl rfl (op_append_in (rs := (l.drop j).map encE) rfl (oT rfl) (oT rfl) rfl rfl (by simp [List.drop_append, List.take_append]; try omega) (by simp) (by rw [List.length_map, hrl]; omega) rfl) tE ?_
 refine zd ?_
 refine zs ?_
 refine nK ?_
 refine Next.weakS [0] [] (by rfl) (keepsN hC _ rfl) (G' := [(0, .sl 0 3 0 (i + (l.length - j))), (7, IV .i64 l.length)]) (H' := [(0, OE ((l ++ List.replicate k zE).take i ++ l.drop j ++ (l ++ List.replicate k zE).drop (i + (l.length - j))))]) (by exact ⟨⟨_, rfl, .inl ⟨slEq rfl (by simp), rfl⟩⟩, ⟨_, rfl, .inl ⟨rfl, rfl⟩⟩, trivial⟩) (by exact ⟨ent_same rfl rfl (by refine congrArg (fun r => some (Ob.flat 3 r)) ?_; simp) trivial, trivial⟩) rfl ?_
 refine nK ?_
 refine zb ?_
 refine za ?_
 refine za ?_
 refine zbi ?_
 refine za ?_
 refine rlZ 31 rfl (op_slice_view (l := i + (l.length - j)) (h := l.length) rfl (oT rfl) (Bnd.yes _ _ _ _ _ (oT rfl) tQ) (Bnd.yes _ _ _ _ _ (oT rfl) tQ) (by intro _; refine ⟨rfl, ?_⟩; rw [List.length_map, hxl]; omega)) ?_
 refine Run.eff (dd := none) rfl rfl (op_clear rfl (oT rfl) rfl rfl rfl rfl (by rw [List.length_map, hxl]; omega)) ?_
 refine zc ?_
 refine nK ?_
 refine zb ?_
 refine za ?_
 refine zd ?_
 refine zc ?_
 refine nK ?_
 refine Next.weakS [6] [] (by rfl) (keepsN hC _ rfl) (G' := [(6, .sl 0 3 0 (l.length - (j - i)))]) (H' := [(0, OE (delL l i j ++ List.replicate (k + (j - i)) zE))]) (by exact ⟨⟨_, rfl, .inl ⟨slEq rfl (by omega), rfl⟩⟩, trivial⟩) (by exact ⟨ent_same rfl rfl (by refine congrArg (fun r => some (Ob.flat 3 r)) ?_; rw [← hrows]; simp [zE]; exact .inr rfl) trivial, trivial⟩) rfl ?_
 exact n_out1 rfl (by rfl) rfl rfl
open Go Go.RT Go.Proofs Go.Pl
set_option maxRecDepth 20000
set_option maxHeartbeats 4000000
instance : FnOv Tryz.prog 94 22   := ⟨_, 4, Tryz.func94, by decide +kernel, rfl, by kernel_rfl, by kernel_rfl⟩
theorem insert_c (l : List Edg) (x : Edg) (i : Nat) (hn : l.length ≤ 2000000) (hi : i ≤ l.length) : Meets Tryz.prog 77 [.sl 0 3 0 l.length, IV .i64 i, .sl 1 3 0 1] 2 [(0, OE l), (1, OE [x])] (.sl 2 3 0 (l.length + 1)) [(2, OE (insL l i x))] 3 := by
 have hil := insL_len l i x hi
 have e0 : ∀ xs ys : List Edg, List.map encE (xs ++ ys) = xs.map encE ++ ys.map encE := fun xs ys => List.map_append
 refine Meets.intro Tryz.func77 rfl (Nat.le_of_ble_eq_true rfl) fun C hC => ?_
 simp only [List.map, argEnv, Nat.reduceAdd]
 by_cases hie : i = l.length
 ·refine nK ?_
  refine zb ?_
  refine ze ?_
  refine zc ?_
  refine nK ?_
  refine zb ?_
  refine za ?_
  refine za ?_
  refine rlZ 12 rfl (op_slice_end (l := i) (h := l.length) rfl (oT rfl) (Bnd.yes _ _ _ _ _ (oT rfl) tQ) (Bnd.no _) (by intro _; refine ⟨rfl, ?_⟩; rw [List.length_map]; omega)) ?_
  refine zc ?_
  refine nK ?_
  refine zb ?_
  refine za ?_
  refine zbi ?_
  refine zd ?_
  refine zc ?_
  refine nK ?_
  refine zb ?_
  refine za ?_
  refine zci ?_
  refine zc ?_
  refine nK ?_
  refine n_cond _ rfl (fun hb => ?_) (fun hb => ?_)
  ·simp at hb
  refine nK ?_
  refine zb ?_
  refine za ?_
  refine zbi ?_
  refine zd ?_
  refine zc ?_
  refine nK ?_
  refine zb ?_
  refine za ?_
  refine za ?_
  refine zbr ?_
  refine zc ?_
  refine nK ?_
  refine n_cond _ rfl (fun hb => ?_) (fun hb => ?_)
  ·have e4 : insL l i x = l ++ [x] := by rw [hie]; simp [insL]
   refine nK ?_
   refine zb ?_
   refine za ?_
   refine za ?_
   refine zdi ?_
   refine zd ?_
   refine zc ?_
   refine nK ?_
   refine Next.weakS [0, 2, 6] [] (by rfl) (keepsN hC _ rfl) (G' := [(6, .sl 2 3 0 (l.length + 1))]) (H' := [(2, OE (insL l i x))]) (by exact ⟨⟨_, rfl, .inl ⟨rfl, rfl⟩⟩, trivial⟩) (by exact ⟨ent_same rfl rfl (by rw [e4, e0]; rfl) trivial, trivial⟩) rfl ?_
   exact n_out1 rfl (by rfl) rfl rfl
  exfalso; simp at hb; omega
 refine nK ?_
 refine zb ?_
 refine ze ?_
 refine zc ?_
 refine nK ?_
 refine zb ?_
 refine za ?_
 refine za ?_
 refine rlZ 12 rfl (op_slice_view (l := i) (h := l.length) rfl (oT rfl) (Bnd.yes _ _ _ _ _ (oT rfl) tQ) (Bnd.no _) (by intro _; refine ⟨rfl, ?_⟩; rw [List.length_map]; omega)) ?_
 refine zc ?_
 refine nK ?_
 refine zb ?_
 refine za ?_
 refine zbi ?_
 refine zd ?_
 refine zc ?_
 refine nK ?_
 refine zb ?_
 refine za ?_
 refine zci ?_
 refine zc ?_
 refine nK ?_
 refine n_cond _ rfl (fun hb => ?_) (fun hb => ?_)
 ·simp at hb
 refine nK ?_
 refine zb ?_
 refine za ?_
 refine zbi ?_
 refine zd ?_
 refine zc ?_
 refine nK ?_
 refine zb ?_
 refine za ?_
 refine za ?_
 refine zbr ?_
 refine zc ?_
 refine nK ?_
 refine n_cond _ rfl (fun hb => ?_) (fun hb => ?_)
 ·exfalso; simp at hb; omega
 refine Next.capE 0 rfl rfl rfl (Nat.zero_le _) fun cap hc1 hc2 hc3 => ?_
 unfold maxLen at hc3
 refine nK ?_
 refine zb ?_
 refine za ?_
 refine za ?_
 refine zbc ?_
 refine za ?_
 refine rpZ 30 rfl (op_cap rfl (oT rfl)) ?_
 refine zcn ?_
 refine zc ?_
 refine nK ?_
 refine n_cond _ rfl (fun hb => ?_) (fun hb => ?_)
 ·have hc4 : cap < l.length + 1 := by simp at hb; omega
  have hlen2 : ((l.map encE).take i ++ List.replicate (l.length + 1 - i) (encE zE)).length = l.length + 1 := by simp; omega
  refine nK ?_
  refine zb ?_
  refine za ?_
  refine za ?_
  refine rpZ 34 rfl (op_slice_room (h := i) rfl (oT rfl) (Bnd.yes _ _ _ _ _ (oT rfl) tQ) (by intro _; omega)) ?_
  refine za ?_
  refine za ?_
  refine zbc ?_
  refine za ?_
  refine zbw ?_
  refine Run.eff (dd := some 40) rfl rfl (op_append_zg (k := l.length + 1 - i) (zs := encE zE) rfl (oT rfl) (opdI (oT rfl) (by omega)) rfl rfl rfl rfl rfl (by rw [List.length_map]; omega) (by omega) (by omega) (by omega) (by omega)) ?_
  refine zd ?_
  refine zc ?_
  refine nK ?_
  have hz : ∀ k : Nat, (some (Ob.flat 3 ((l.map encE).take i ++ List.replicate k [If .i64 0, If .i64 0, If .i64 0]))) = some (.flat 3 ((l.map encE).take i ++ List.replicate k (encE zE))) := fun _ => rfl
  refine nK ?_
  refine zb ?_
  refine za ?_
  refine za ?_
  refine rlZ 43 rfl (op_slice_view (l := i) (h := i + (l.length + 1 - i)) rfl (oT rfl) (Bnd.yes _ _ _ _ _ (oT rfl) tQ) (Bnd.no _) (by intro _; refine ⟨rfl, ?_⟩; rw [hlen2]; omega)) ?_
  refine za ?_
  refine Run.eff (dd := some 45) rfl rfl (op_copy (n := 1) (rs := [x].map encE) rfl (oT rfl) (oT rfl) rfl rfl (by show min _ _ = _; omega) rfl rfl (by rw [hlen2]; omega)) ?_
  refine zc ?_
  refine nK ?_
  have hlen3 : (((l.map encE).take i ++ List.replicate (l.length + 1 - i) (encE zE)).take (0 + i) ++ [x].map encE ++ ((l.map encE).take i ++ List.replicate (l.length + 1 - i) (encE zE)).drop (0 + i + 1)).length = l.length + 1 := by simp; omega
  refine nK ?_
  refine s_draw mixed ?_
  refine za ?_
  refine za ?_
  refine za ?_
  refine zbc ?_
  refine rlZ 50 rfl (op_slice_view (l := i + 1) (h := i + (l.length + 1 - i)) rfl (oT rfl) (Bnd.yes _ _ _ _ _ (oT rfl) tQ) (Bnd.no _) (by intro _; refine ⟨rfl, ?_⟩; rw [hlen3]; omega)) ?_
  refine za ?_
  refine za ?_
  refine rlZ 53 rfl (op_slice_view (l := i) (h := l.length) rfl (Opd.wc _ _ _ (oT rfl)) (Bnd.yes _ _ _ _ _ (oT rfl) tQ) (Bnd.no _) (by intro _; refine ⟨rfl, ?_⟩; rw [List.length_map]; omega)) ?_
  refine Run.effW (dd := some 54) rfl rfl (op_copy (n := l.length - i) (rs := (l.map encE).drop i) rfl (oT rfl) (oT rfl) rfl rfl (by show min _ _ = _; omega) (by rw [Nat.zero_add, List.take_of_length_le (by simp)]) (by simp) (by rw [hlen3]; omega)) tE ?_
  refine zs ?_
  refine nK ?_
  have hgr := ins_grow (l.map encE) i (encE x) (encE zE) (by rw [List.length_map]; omega)
  rw [List.length_map, ← insL_map] at hgr
  refine nK ?_
  refine zb ?_
  refine za ?_
  refine zd ?_
  refine zc ?_
  refine nK ?_
  refine Next.weakS [0, 2, 6] [] (by rfl) (keepsN hC _ rfl) (G' := [(6, .sl 2 3 0 (l.length + 1))]) (H' := [(2, OE (insL l i x))]) (by exact ⟨⟨_, rfl, .inl ⟨slEq rfl (by omega), rfl⟩⟩, trivial⟩) (by exact ⟨ent_same rfl rfl (by rw [← hgr]; simp only [Nat.zero_add]; rfl) trivial, trivial⟩) rfl ?_
  exact n_out1 rfl (by rfl) rfl rfl
 have hc4 : l.length + 1 ≤ cap := by simp at hb; omega
 refine nK ?_
 refine zb ?_
 refine za ?_
 refine za ?_
 refine za ?_
 refine zbc ?_
 refine rpZ 60 rfl (op_slice_room (h := l.length + 1) rfl (oT rfl) (Bnd.yes _ _ _ _ _ (oT rfl) (by intro _; simp)) (by intro _; omega)) ?_
 refine zd ?_
 refine zc ?_
 refine nK ?_
 refine nK ?_
 refine zb ?_
 refine za ?_
 refine za ?_
 refine za ?_
 refine za ?_
 refine zbc ?_
 refine rpZ 66 rfl (op_slice_fromR (l := i + 1) rfl (oT rfl) (Bnd.yes _ _ _ _ _ (oT rfl) tQ) (by intro _; omega)) ?_
 refine rlZ 67 rfl (op_overlaps rfl (oT rfl) (oT rfl) rfl rfl rfl (by rw [List.length_map]; omega) rfl) ?_
 refine zbj ?_
 refine zc ?_
 refine nK ?_
 refine n_cond _ rfl (fun hb => ?_) (fun hb => ?_)
 ·refine nK ?_
  refine s_draw mixed ?_
  refine za ?_
  refine za ?_
  refine za ?_
  refine zbc ?_
  refine rpZ 73 rfl (op_slice_fromR (l := i + 1) rfl (oT rfl) (Bnd.yes _ _ _ _ _ (oT rfl) tQ) (by intro _; omega)) ?_
  refine za ?_
  refine za ?_
  refine rpZ 76 rfl (op_slice_fromR (l := i) rfl (oT rfl) (Bnd.yes _ _ _ _ _ (oT rfl) tQ) (by intro _; omega)) ?_
  refine Run.effW (dd := some 77) rfl rfl (op_copy (n := l.length - i) (rs := (l.map encE).drop i) rfl (oT rfl) (oT rfl) rfl rfl (by show min _ _ = _; omega) (by rw [Nat.zero_add, List.take_of_length_le (by simp)]) (by simp) (by rw [List.length_map]; omega)) tE ?_
  refine zs ?_
  refine nK ?_
  have hl5 : ((l.map encE).take (0 + (i + 1)) ++ (l.map encE).drop i ++ (l.map encE).drop (0 + (i + 1) + (l.length - i))).length = l.length + 1 := by simp; omega
  have hgr := ins_room (l.map encE) i (encE x) (by rw [List.length_map]; omega)
  rw [List.length_map, ← insL_map] at hgr
  refine nK ?_
  refine zb ?_
  refine za ?_
  refine za ?_
  refine rlZ 80 rfl (op_slice_view (l := i) (h := l.length + 1) rfl (Opd.wc _ _ _ (oT rfl)) (Bnd.yes _ _ _ _ _ (oT rfl) tQ) (Bnd.no _) (by intro _; refine ⟨rfl, ?_⟩; rw [hl5]; omega)) ?_
  refine za ?_
  refine Run.eff (dd := some 82) rfl rfl (op_copy (n := 1) (rs := [x].map encE) rfl (oT rfl) (oT rfl) rfl rfl (by show min _ _ = _; omega) rfl rfl (by rw [hl5]; omega)) ?_
  refine zc ?_
  refine nK ?_
  refine zb ?_
  refine za ?_
  refine zd ?_
  refine zc ?_
  refine nK ?_
  refine Next.unwc 6 rfl ?_
  refine Next.retag 6 rfl rfl ?_
  refine Next.weakS [0, 2, 6] [] (by rfl) (keepsN hC _ rfl) (G' := [(6, .sl 2 3 0 (l.length + 1))]) (H' := [(2, OE (insL l i x))]) (by exact ⟨⟨_, rfl, .inl ⟨rfl, rfl⟩⟩, trivial⟩) (by exact ⟨ent_same rfl rfl (by rw [← hgr]; simp only [Nat.zero_add]; rfl) trivial, trivial⟩) rfl ?_
  exact n_out1 rfl (by rfl) rfl rfl
 exfalso; simp at hb
end Go.Proofs.YtcillieggklaaaaGreat
