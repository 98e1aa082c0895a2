/- A part of the proof: ST3, HP1, HP2, HP3, HP4, HP5, HP6, HP0, HP7, GP9, GP10, HP8, HP9, HP10, HP11, HP12, HP13, HP14, HP15, HP20, HP16, GP11, HP17, ST4, V15, V16, LV. -/
import Derived.Test.YtdbdajokdipmlaaZE
set_option linter.all false
/- The reference's Put is a merge with one edge. -/
namespace Go.Pl
set_option linter.all false
theorem sw_bef : SW befB := ⟨fun x y h => by
    simp only [befB, Bool.or_eq_true, Bool.and_eq_true, decide_eq_true_eq] at h
    simp only [befB, Bool.or_eq_false_iff, Bool.and_eq_false_iff, decide_eq_false_iff_not]
    omega, fun x y z h1 h2 => by
    simp only [befB, Bool.or_eq_false_iff, Bool.and_eq_false_iff, decide_eq_false_iff_not] at h1 h2 ⊢
    omega⟩
theorem putR_done (e : Edg) : ∀ l, putR e true l = l
  | [] => rfl
  | x :: l => by simp [putR, putR_done e l]
theorem putR_mrg (e : Edg) : ∀ l, putR e false l = mrg befB l [e]
  | [] => by simp [putR, mrg]
  | x :: l => by
    rw [mrg]
    by_cases h : befB e x = true
    · rw [if_pos h, mrg_nil]; simp [putR, h, putR_done]
    · rw [if_neg h, ← putR_mrg e l]; simp [putR, h]
def turnE (e : Edg) : Edg := ⟨e.t, e.f, e.c⟩
def revL (l : List Edg) : List Edg := srtS befB (l.map turnE)
theorem revL_fold (l : List Edg) : l.foldl (fun acc e => putR (turnE e) false acc) [] = revL l := by
  unfold revL srtS
  rw [List.foldl_map]
  congr 1
  funext acc e
  exact putR_mrg _ _
theorem srtS_mem {α : Type} {lt : α → α → Bool} : ∀ (l : List α) (x : α), x ∈ srtS lt l ↔ x ∈ l := fun l x => by
  revert l
  refine rev_ind (by simp [srtS]) fun l y ih => ?_
  rw [srtS_snoc, mrg_mem _ _ _ (Nat.le_refl _), ih]; simp
end Go.Pl
/- The heap, on lists: what the program's loops make. -/
namespace Go.Pl
open Go Go.RT
set_option linter.all false
abbrev encT (x : Nat) : List FV := [If .i64 (x : Int)]
structure Hq where
  it : List Nat
  pl : List Int
  ky : List Int
def Hq.item (h : Hq) (i : Nat) : Nat := h.it.getD i 0
def Hq.key (h : Hq) (v : Nat) : Int := h.ky.getD v 0
/-- items are nodes -/
structure Hq.Ok (h : Hq) : Prop where
  len : h.pl.length = h.ky.length
  lt : ∀ v ∈ h.it, v < h.pl.length
theorem Hq.Ok.item {h : Hq} (o : h.Ok) {i : Nat} (hi : i < h.it.length) : h.item i < h.pl.length := by
  unfold Hq.item; rw [List.getD_eq_getElem?_getD, List.getElem?_eq_getElem hi]; exact o.lt _ (List.getElem_mem hi)
def lessH (h : Hq) (i j : Nat) : Bool := decide (h.key (h.item i) < h.key (h.item j)) || decide (h.key (h.item i) = h.key (h.item j)) && decide ((h.item i : Int) < (h.item j : Int))
def swapH (h : Hq) (i j : Nat) : Hq := ⟨(h.it.set i (h.item j)).set j (h.item i), (h.pl.set (h.item j) i).set (h.item i) j, h.ky⟩
theorem swapH_len (h : Hq) (i j : Nat) : (swapH h i j).it.length = h.it.length ∧ (swapH h i j).pl.length = h.pl.length ∧ (swapH h i j).ky = h.ky := by simp [swapH]
theorem Hq.Ok.swap {h : Hq} (o : h.Ok) {i j : Nat} (hi : i < h.it.length) (hj : j < h.it.length) : (swapH h i j).Ok := by
  refine ⟨by simp [swapH, o.len], fun v hv => ?_⟩
  simp only [swapH, List.length_set]
  rcases List.mem_or_eq_of_mem_set hv with h1 | rfl
  · rcases List.mem_or_eq_of_mem_set h1 with h2 | rfl
    · exact o.lt v h2
    · exact o.item hj
  · exact o.item hi
def upH (h : Hq) (i : Nat) : Hq × Nat :=
  if hi : 0 < i then (if lessH h i ((i - 1) / 2) = true then upH (swapH h i ((i - 1) / 2)) ((i - 1) / 2) else (h, i)) else (h, i)
termination_by i
decreasing_by omega
/-- the child that comes first -/
def kidH (h : Hq) (i n : Nat) : Nat := if 2 * i + 1 + 1 < n ∧ lessH h (2 * i + 1 + 1) (2 * i + 1) = true then 2 * i + 1 + 1 else 2 * i + 1
theorem kidH_gt (h : Hq) (i n : Nat) : i < kidH h i n := by unfold kidH; split <;> omega
def downH (h : Hq) (i n : Nat) : Hq :=
  if hk : kidH h i n < n then (if lessH h (kidH h i n) i = true then downH (swapH h i (kidH h i n)) (kidH h i n) n else h) else h
termination_by n - i
decreasing_by have := kidH_gt h i n; omega
def settleH (h : Hq) (i n : Nat) : Hq := downH (upH h i).1 (upH h i).2 n
end Go.Pl
namespace Go.Pl
theorem up_step {h : Hq} {i : Nat} (hi : 0 < i) (hl : lessH h i ((i - 1) / 2) = true) : upH h i = upH (swapH h i ((i - 1) / 2)) ((i - 1) / 2) := by
  rw [upH, dif_pos hi, if_pos hl]
theorem up_stop {h : Hq} {i : Nat} (hh : ¬ (0 < i ∧ lessH h i ((i - 1) / 2) = true)) : upH h i = (h, i) := by
  rw [upH]
  by_cases hi : 0 < i
  · rw [dif_pos hi, if_neg (fun e => hh ⟨hi, e⟩)]
  · rw [dif_neg hi]
theorem down_step {h : Hq} {i n : Nat} (hk : kidH h i n < n) (hl : lessH h (kidH h i n) i = true) : downH h i n = downH (swapH h i (kidH h i n)) (kidH h i n) n := by
  rw [downH, dif_pos hk, if_pos hl]
theorem down_stop {h : Hq} {i n : Nat} (hh : ¬ (kidH h i n < n ∧ lessH h (kidH h i n) i = true)) : downH h i n = h := by
  rw [downH]
  by_cases hk : kidH h i n < n
  · rw [dif_pos hk, if_neg (fun e => hh ⟨hk, e⟩)]
  · rw [dif_neg hk]
/-- heaps of one size -/
def Like (h h' : Hq) : Prop := h'.Ok ∧ h'.it.length = h.it.length ∧ h'.pl.length = h.pl.length ∧ h'.ky = h.ky
theorem Like.swap {h h' : Hq} (l : Like h h') {i j : Nat} (hi : i < h.it.length) (hj : j < h.it.length) : Like h (swapH h' i j) := by
  obtain ⟨l1, l2, l3, l4⟩ := l
  obtain ⟨s1, s2, s3⟩ := swapH_len h' i j
  exact ⟨l1.swap (by omega) (by omega), s1.trans l2, s2.trans l3, s3.trans l4⟩
end Go.Pl
namespace Go.Pl
open Go Go.RT
set_option linter.all false
def Hq.place (h : Hq) (v : Nat) : Int := h.pl.getD v 0
/-- items and places fit -/
structure HI (h : Hq) : Prop where
  ok : h.Ok
  at_ : ∀ v, v < h.pl.length → 0 ≤ h.place v → h.place v < h.it.length ∧ h.item (h.place v).toNat = v
  inv : ∀ i, i < h.it.length → h.place (h.item i) = i
def insH (h : Hq) (v : Nat) : Hq := if h.place v < 0 then ⟨h.it ++ [v], h.pl.set v h.it.length, h.ky⟩ else h
def putH (h : Hq) (v : Nat) (k : Int) : Hq := ⟨(insH h v).it, (insH h v).pl, (insH h v).ky.set v k⟩
def setH (h : Hq) (v : Nat) (k : Int) : Hq := settleH (putH h v k) ((putH h v k).place v).toNat (putH h v k).it.length
def cutH (h : Hq) (v : Nat) : Hq :=
  ⟨(swapH h (h.place v).toNat (h.it.length - 1)).it.take (h.it.length - 1), (swapH h (h.place v).toNat (h.it.length - 1)).pl.set v (-1), h.ky⟩
def dropH (h : Hq) (v : Nat) : Hq := if (h.place v).toNat < h.it.length - 1 then settleH (cutH h v) (h.place v).toNat (h.it.length - 1) else cutH h v
theorem getD_set {α : Type} (l : List α) (i j : Nat) (x d : α) (hi : i < l.length) : (l.set i x).getD j d = if i = j then x else l.getD j d := by
  rw [List.getD_eq_getElem?_getD, List.getElem?_set]
  by_cases h : i = j
  · subst h; simp [hi]
  · simp [h, List.getD_eq_getElem?_getD]
theorem getD_app {α : Type} (l : List α) (x d : α) (j : Nat) : (l ++ [x]).getD j d = if j = l.length then x else l.getD j d := by
  rw [List.getD_eq_getElem?_getD, List.getD_eq_getElem?_getD, List.getElem?_append]
  by_cases h : j < l.length
  · rw [if_pos h, if_neg (by omega)]
  · rw [if_neg h]
    by_cases h2 : j = l.length
    · subst h2; simp
    · rw [if_neg h2, List.getElem?_eq_none (by simp; omega), List.getElem?_eq_none (by omega)]
theorem HI.lt {h : Hq} (o : HI h) {v : Nat} (hv : v < h.pl.length) (hp : 0 ≤ h.place v) : (h.place v).toNat < h.it.length := by have := (o.at_ v hv hp).1; omega
theorem HI.ins {h : Hq} (o : HI h) {v : Nat} (hv : v < h.pl.length) : HI (insH h v) ∧ (insH h v).pl.length = h.pl.length ∧ (insH h v).ky = h.ky ∧ 0 ≤ (insH h v).place v ∧ (insH h v).it.length ≤ h.it.length + 1 := by
  unfold insH
  by_cases hp : h.place v < 0
  · rw [if_pos hp]
    have e1 : ∀ w, (⟨h.it ++ [v], h.pl.set v h.it.length, h.ky⟩ : Hq).place w = if v = w then (h.it.length : Int) else h.place w := fun w => getD_set _ _ _ _ _ hv
    have e2 : ∀ i, (⟨h.it ++ [v], h.pl.set v h.it.length, h.ky⟩ : Hq).item i = if i = h.it.length then v else h.item i := fun i => getD_app _ _ _ _
    refine ⟨⟨⟨by simpa using o.ok.len, fun w hw => ?_⟩, fun w hw hw0 => ?_, fun i hi => ?_⟩, by simp, rfl, by rw [e1, if_pos rfl]; omega, by simp⟩
    · rcases List.mem_append.1 hw with h1 | h1
      · simpa using o.ok.lt w h1
      · have : w = v := by simpa using h1
        subst this; simpa using hv
    · simp only [List.length_set] at hw
      rw [e1] at hw0 ⊢
      by_cases hvw : v = w
      · subst hvw; simp only [if_pos, List.length_append, List.length_singleton]; rw [e2]; exact ⟨by omega, by simp⟩
      · rw [if_neg hvw] at hw0 ⊢
        obtain ⟨a, b⟩ := o.at_ w hw hw0
        refine ⟨by simp; omega, ?_⟩
        rw [e2, if_neg (by omega)]; exact b
    · simp only [List.length_append, List.length_singleton] at hi
      rw [e2, e1]
      by_cases hin : i = h.it.length
      · rw [if_pos hin, if_pos rfl, hin]
      · rw [if_neg hin]
        have hi' : i < h.it.length := by omega
        have := o.inv i hi'
        by_cases hvi : v = h.item i
        · exfalso; rw [← hvi] at this; omega
        · rw [if_neg hvi]; exact this
  · rw [if_neg hp]; exact ⟨o, rfl, rfl, by omega, by omega⟩
theorem HI.put {h : Hq} (o : HI h) {v : Nat} (hv : v < h.pl.length) (k : Int) : HI (putH h v k) ∧ (putH h v k).pl.length = h.pl.length ∧ 0 ≤ (putH h v k).place v ∧ (putH h v k).it.length ≤ h.it.length + 1 := by
  obtain ⟨a, b, c, d, e⟩ := o.ins hv
  exact ⟨⟨⟨by simpa [putH] using a.ok.len, a.ok.lt⟩, a.at_, a.inv⟩, b, d, e⟩
theorem place_swap (h : Hq) {i j : Nat} (o : h.Ok) (hi : i < h.it.length) (hj : j < h.it.length) (w : Nat) : (swapH h i j).place w = if h.item i = w then (j : Int) else if h.item j = w then (i : Int) else h.place w := by
  have h1 := o.item hi
  have h2 := o.item hj
  unfold Hq.place swapH
  rw [getD_set _ _ _ _ _ (by simpa using h1)]
  by_cases e : h.item i = w
  · rw [if_pos e, if_pos e]
  · rw [if_neg e, if_neg e, getD_set _ _ _ _ _ h2]
theorem item_swap (h : Hq) {i j : Nat} (hi : i < h.it.length) (hj : j < h.it.length) (k : Nat) : (swapH h i j).item k = if j = k then h.item i else if i = k then h.item j else h.item k := by
  unfold Hq.item swapH
  rw [getD_set _ _ _ _ _ (by simpa using hj)]
  by_cases e : j = k
  · rw [if_pos e, if_pos e]; rfl
  · rw [if_neg e, if_neg e, getD_set _ _ _ _ _ hi]; rfl
theorem HI.swap {h : Hq} (o : HI h) {i j : Nat} (hi : i < h.it.length) (hj : j < h.it.length) : HI (swapH h i j) := by
  obtain ⟨l1, l2, l3⟩ := swapH_len h i j
  have ii := o.inv i hi
  have ij := o.inv j hj
  refine ⟨o.ok.swap hi hj, fun w hw hw0 => ?_, fun k hk => ?_⟩
  · rw [place_swap h o.ok hi hj] at hw0 ⊢
    rw [l1]
    by_cases e1 : h.item i = w
    · rw [if_pos e1]
      refine ⟨by omega, ?_⟩
      rw [item_swap h hi hj, if_pos (by simp)]; exact e1
    · rw [if_neg e1] at hw0 ⊢
      by_cases e2 : h.item j = w
      · rw [if_pos e2]
        refine ⟨by omega, ?_⟩
        rw [item_swap h hi hj, Int.toNat_natCast]
        by_cases e3 : j = i
        · subst e3; rw [if_pos rfl]; exact e2
        · rw [if_neg e3, if_pos rfl]; exact e2
      · rw [if_neg e2] at hw0 ⊢
        obtain ⟨a, b⟩ := o.at_ w (by rw [← l2]; exact hw) hw0
        refine ⟨a, ?_⟩
        rw [item_swap h hi hj, if_neg (fun e => e2 (by rw [e]; exact b)), if_neg (fun e => e1 (by rw [e]; exact b))]; exact b
  · rw [l1] at hk
    rw [item_swap h hi hj]
    by_cases e1 : j = k
    · rw [if_pos e1, place_swap h o.ok hi hj, if_pos rfl, e1]
    · rw [if_neg e1]
      by_cases e2 : i = k
      · rw [if_pos e2, place_swap h o.ok hi hj]
        by_cases e3 : h.item i = h.item j
        · rw [if_pos e3]; rw [e3] at ii; omega
        · rw [if_neg e3, if_pos rfl, e2]
      · rw [if_neg e2, place_swap h o.ok hi hj]
        have ik := o.inv k hk
        rw [if_neg (fun e => by rw [e] at ii; omega), if_neg (fun e => by rw [e] at ij; omega)]; exact ik
theorem HI.cut {h : Hq} (o : HI h) {v : Nat} (hv : v < h.pl.length) (hp : 0 ≤ h.place v) : HI (cutH h v) ∧ (cutH h v).it.length = h.it.length - 1 ∧ (cutH h v).pl.length = h.pl.length ∧ (cutH h v).ky = h.ky := by
  have hi := o.lt hv hp
  have hj : h.it.length - 1 < h.it.length := by omega
  obtain ⟨_, hiv⟩ := o.at_ v hv hp
  have os := o.swap hi hj
  obtain ⟨l1, l2, l3⟩ := swapH_len h (h.place v).toNat (h.it.length - 1)
  have hlast : (swapH h (h.place v).toNat (h.it.length - 1)).item (h.it.length - 1) = v := by rw [item_swap h hi hj, if_pos rfl]; exact hiv
  have hpl : (swapH h (h.place v).toNat (h.it.length - 1)).place v = (h.it.length - 1 : Nat) := by rw [← hlast]; rw [hlast]; have := os.inv (h.it.length - 1) (by rw [l1]; exact hj); rw [hlast] at this; exact this
  have e1 : ∀ w, (cutH h v).place w = if v = w then (-1 : Int) else (swapH h (h.place v).toNat (h.it.length - 1)).place w := fun w => getD_set _ _ _ _ _ (by rw [l2]; exact hv)
  have e2 : ∀ i, i < h.it.length - 1 → (cutH h v).item i = (swapH h (h.place v).toNat (h.it.length - 1)).item i := fun i hi => by
    unfold cutH Hq.item; simp only [List.getD_eq_getElem?_getD]; rw [List.getElem?_take, if_pos hi]
  have hl : (cutH h v).it.length = h.it.length - 1 := by unfold cutH; simp only [List.length_take, l1]; omega
  refine ⟨⟨⟨?_, fun w hw => ?_⟩, fun w hw hw0 => ?_, fun i hi2 => ?_⟩, hl, by unfold cutH; simp [l2], rfl⟩
  · unfold cutH; simp only [List.length_set, l2]; exact o.ok.len
  · have := os.ok.lt w (List.mem_of_mem_take hw); unfold cutH; simpa using this
  · have hw' : w < (swapH h (h.place v).toNat (h.it.length - 1)).pl.length := by unfold cutH at hw; simpa using hw
    rw [e1] at hw0 ⊢
    by_cases e : v = w
    · rw [if_pos e] at hw0; omega
    · rw [if_neg e] at hw0 ⊢
      obtain ⟨a, b⟩ := os.at_ w hw' hw0
      rw [l1] at a
      have hne : ((swapH h (h.place v).toNat (h.it.length - 1)).place w).toNat ≠ h.it.length - 1 := fun e3 => e (by rw [e3, hlast] at b; exact b)
      refine ⟨by rw [hl]; omega, ?_⟩
      rw [e2 _ (by omega)]; exact b
  · rw [hl] at hi2
    rw [e2 i hi2, e1]
    have := os.inv i (by rw [l1]; omega)
    rw [if_neg (fun e => by rw [← e, hpl] at this; omega)]; exact this
end Go.Pl
namespace Go.Pl
theorem HI.up {h : Hq} : ∀ {i : Nat}, HI h → i < h.it.length → HI (upH h i).1 ∧ (upH h i).1.it.length = h.it.length ∧ (upH h i).1.pl.length = h.pl.length ∧ (upH h i).1.ky = h.ky ∧ (upH h i).2 < h.it.length := by
  intro i
  induction i using Nat.strongRecOn generalizing h with
  | _ i ih =>
    intro o hi
    by_cases hh : 0 < i ∧ lessH h i ((i - 1) / 2) = true
    · rw [up_step hh.1 hh.2]
      have hj : (i - 1) / 2 < h.it.length := by omega
      obtain ⟨l1, l2, l3⟩ := swapH_len h i ((i - 1) / 2)
      obtain ⟨a, b, c, d, e⟩ := ih ((i - 1) / 2) (by omega) (o.swap hi hj) (by rw [l1]; exact hj)
      exact ⟨a, b.trans l1, c.trans l2, d.trans l3, by omega⟩
    · rw [up_stop hh]; exact ⟨o, rfl, rfl, rfl, hi⟩
theorem HI.down {h : Hq} : ∀ {k i n : Nat}, n - i ≤ k → HI h → i < h.it.length → n = h.it.length → HI (downH h i n) ∧ (downH h i n).it.length = h.it.length ∧ (downH h i n).pl.length = h.pl.length ∧ (downH h i n).ky = h.ky := by
  intro k
  induction k generalizing h with
  | zero => intro i n hk o hi hn; omega
  | succ k ih =>
    intro i n hk o hi hn
    by_cases hh : kidH h i n < n ∧ lessH h (kidH h i n) i = true
    · rw [down_step hh.1 hh.2]
      have hgt := kidH_gt h i n
      obtain ⟨l1, l2, l3⟩ := swapH_len h i (kidH h i n)
      obtain ⟨a, b, c, d⟩ := ih (h := swapH h i (kidH h i n)) (i := kidH h i n) (n := n) (by omega) (o.swap hi (by omega)) (by rw [l1]; omega) (by rw [l1]; exact hn)
      exact ⟨a, b.trans l1, c.trans l2, d.trans l3⟩
    · rw [down_stop hh]; exact ⟨o, rfl, rfl, rfl⟩
theorem HI.settle {h : Hq} {i : Nat} (o : HI h) (hi : i < h.it.length) : HI (settleH h i h.it.length) ∧ (settleH h i h.it.length).it.length = h.it.length ∧ (settleH h i h.it.length).pl.length = h.pl.length ∧ (settleH h i h.it.length).ky = h.ky := by
  obtain ⟨a, b, c, d, e⟩ := o.up hi
  obtain ⟨a2, b2, c2, d2⟩ := a.down (k := h.it.length - (upH h i).2) (i := (upH h i).2) (n := h.it.length) (Nat.le_refl _) (by omega) (by omega)
  exact ⟨a2, b2.trans b, c2.trans c, d2.trans d⟩
theorem HI.set {h : Hq} (o : HI h) {v : Nat} (hv : v < h.pl.length) (k : Int) : HI (setH h v k) ∧ (setH h v k).it.length = (putH h v k).it.length ∧ (setH h v k).pl.length = h.pl.length ∧ (setH h v k).ky = h.ky.set v k := by
  obtain ⟨a, b, c, d⟩ := o.put hv k
  have hi := a.lt (by rw [b]; exact hv) c
  obtain ⟨q1, q2, q3, q4⟩ := a.settle hi
  refine ⟨q1, q2, q3.trans b, q4.trans ?_⟩
  unfold putH insH; split <;> rfl
theorem HI.drop {h : Hq} (o : HI h) {v : Nat} (hv : v < h.pl.length) (hp : 0 ≤ h.place v) : HI (dropH h v) ∧ (dropH h v).it.length = h.it.length - 1 ∧ (dropH h v).pl.length = h.pl.length ∧ (dropH h v).ky = h.ky := by
  obtain ⟨a, b, c, d⟩ := o.cut hv hp
  unfold dropH
  by_cases hh : (h.place v).toNat < h.it.length - 1
  · rw [if_pos hh]
    obtain ⟨q1, q2, q3, q4⟩ := a.settle (i := (h.place v).toNat) (by rw [b]; exact hh)
    rw [b] at q1 q2 q3 q4
    exact ⟨q1, q2, q3.trans c, q4.trans d⟩
  · rw [if_neg hh]; exact ⟨a, b, c, d⟩
end Go.Pl
namespace Go.Pl
open Go Go.RT
set_option linter.all false
/- heap order -/
def Hq.kk (h : Hq) (i : Nat) : Int × Nat := (h.key (h.item i), h.item i)
def le2 (a b : Int × Nat) : Prop := a.1 < b.1 ∨ a.1 = b.1 ∧ a.2 ≤ b.2
theorem le2_trans {a b c : Int × Nat} (h : le2 a b) (g : le2 b c) : le2 a c := by unfold le2 at *; omega
theorem le2_refl (a : Int × Nat) : le2 a a := by unfold le2; omega
theorem le2_total {a b : Int × Nat} (h : ¬ le2 a b) : le2 b a := by unfold le2 at *; omega
theorem lessH_iff (h : Hq) (i j : Nat) : lessH h i j = true ↔ ¬ le2 (h.kk j) (h.kk i) := by
  simp only [lessH, le2, Hq.kk, Bool.or_eq_true, Bool.and_eq_true, decide_eq_true_eq]; omega
def HOrd (h : Hq) (n : Nat) : Prop := ∀ j, 0 < j → j < n → le2 (h.kk ((j - 1) / 2)) (h.kk j)
structure UpI (h : Hq) (i n : Nat) : Prop where
  a : ∀ j, 0 < j → j < n → j ≠ i → (j - 1) / 2 ≠ i → le2 (h.kk ((j - 1) / 2)) (h.kk j)
  b : ∀ j, 0 < j → j < n → (j - 1) / 2 = i → 0 < i → le2 (h.kk ((i - 1) / 2)) (h.kk j)
structure DnI (h : Hq) (i n : Nat) : Prop where
  a : ∀ j, 0 < j → j < n → (j - 1) / 2 ≠ i → le2 (h.kk ((j - 1) / 2)) (h.kk j)
  b : ∀ j, 0 < j → j < n → (j - 1) / 2 = i → 0 < i → le2 (h.kk ((i - 1) / 2)) (h.kk j)
theorem kk_swap (h : Hq) {i j : Nat} (hi : i < h.it.length) (hj : j < h.it.length) (k : Nat) : (swapH h i j).kk k = if j = k then h.kk i else if i = k then h.kk j else h.kk k := by
  have e : ∀ v, (swapH h i j).key v = h.key v := fun v => rfl
  unfold Hq.kk
  rw [item_swap h hi hj]
  by_cases e1 : j = k
  · rw [if_pos e1, if_pos e1, e]
  · rw [if_neg e1, if_neg e1]
    by_cases e2 : i = k
    · rw [if_pos e2, if_pos e2, e]
    · rw [if_neg e2, if_neg e2, e]
theorem UpI.dn {h : Hq} {i n : Nat} (u : UpI h i n) (hp : 0 < i → le2 (h.kk ((i - 1) / 2)) (h.kk i)) : DnI h i n :=
  ⟨fun j h0 h1 h2 => by
    by_cases e : j = i
    · subst e; exact hp h0
    · exact u.a j h0 h1 e h2, u.b⟩
theorem UpI.step {h : Hq} {i n : Nat} (u : UpI h i n) (hn : n = h.it.length) (h0 : 0 < i) (hi : i < n) : UpI (swapH h i ((i - 1) / 2)) ((i - 1) / 2) n := by
  have hpi : (i - 1) / 2 < i := by omega
  generalize hp : (i - 1) / 2 = p at *
  have kk := kk_swap h (i := i) (j := p) (by omega) (by omega)
  have up : ∀ j, 0 < j → j < n → j ≠ i → (j - 1) / 2 ≠ i → le2 (h.kk ((j - 1) / 2)) (h.kk j) := u.a
  refine ⟨fun j j0 jn hjp hpp => ?_, fun j j0 jn hpp p0 => ?_⟩
  · have hji : j ≠ i := fun e => hpp (by rw [e]; exact hp)
    rw [kk ((j - 1) / 2), kk j, if_neg (show ¬ p = (j - 1) / 2 from fun e => hpp e.symm), if_neg (show ¬ p = j from fun e => hjp e.symm), if_neg (show ¬ i = j from fun e => hji e.symm)]
    by_cases e : i = (j - 1) / 2
    · rw [if_pos e]
      have := u.b j j0 jn e.symm h0
      rw [hp] at this; exact this
    · rw [if_neg e]; exact up j j0 jn hji (fun e2 => e e2.symm)
  · have q : le2 (h.kk ((p - 1) / 2)) (h.kk p) := up p p0 (by omega) (by omega) (by omega)
    rw [kk, kk, if_neg (by omega), if_neg (by omega), if_neg (by omega)]
    by_cases e : i = j
    · rw [if_pos e]; exact q
    · rw [if_neg e]
      refine le2_trans q ?_
      have := up j j0 jn (fun e2 => e e2.symm) (by omega)
      rw [hpp] at this; exact this
theorem HI.upOrd {h : Hq} : ∀ {i n : Nat}, HI h → n = h.it.length → i < n → UpI h i n → DnI (upH h i).1 (upH h i).2 n := by
  intro i
  induction i using Nat.strongRecOn generalizing h with
  | _ i ih =>
    intro n o hn hi u
    by_cases hh : 0 < i ∧ lessH h i ((i - 1) / 2) = true
    · rw [up_step hh.1 hh.2]
      have hj : (i - 1) / 2 < h.it.length := by omega
      exact ih ((i - 1) / 2) (by omega) (o.swap (by omega) hj) (by rw [(swapH_len _ _ _).1]; exact hn) (by omega) (u.step hn hh.1 hi)
    · rw [up_stop hh]
      exact u.dn fun h0 => Classical.byContradiction fun e => hh ⟨h0, (lessH_iff _ _ _).2 e⟩
theorem kid_le (h : Hq) {i n j : Nat} (hk : kidH h i n < n) (j0 : 0 < j) (jn : j < n) (hp : (j - 1) / 2 = i) : le2 (h.kk (kidH h i n)) (h.kk j) := by
  have hj : j = 2 * i + 1 ∨ j = 2 * i + 1 + 1 := by omega
  unfold kidH at *
  split at hk
  · next hc =>
    rw [if_pos hc]
    rcases hj with rfl | rfl
    · exact le2_total ((lessH_iff _ _ _).1 hc.2)
    · exact le2_refl _
  · next hc =>
    rw [if_neg hc]
    rcases hj with rfl | rfl
    · exact le2_refl _
    · exact Classical.byContradiction fun e => hc ⟨jn, (lessH_iff _ _ _).2 e⟩
theorem kid_par (h : Hq) (i n : Nat) : (kidH h i n - 1) / 2 = i := by unfold kidH; split <;> omega
theorem DnI.step {h : Hq} {i n : Nat} (u : DnI h i n) (hn : n = h.it.length) (hi : i < n) (hk : kidH h i n < n) (hl : lessH h (kidH h i n) i = true) : DnI (swapH h i (kidH h i n)) (kidH h i n) n := by
  have hkp := kid_par h i n
  have hgt := kidH_gt h i n
  have hkl := fun j j0 jn hp => kid_le h (i := i) (n := n) (j := j) hk j0 jn hp
  have hl2 := le2_total ((lessH_iff _ _ _).1 hl)
  generalize kidH h i n = k at *
  have kk := kk_swap h (i := i) (j := k) (by omega) (by omega)
  refine ⟨fun j j0 jn hpk => ?_, fun j j0 jn hpp k0 => ?_⟩
  · rw [kk, kk, if_neg (fun e => hpk e.symm)]
    by_cases e1 : k = j
    · subst e1
      rw [if_pos rfl, if_pos hkp.symm]; exact hl2
    · rw [if_neg e1]
      by_cases e2 : i = j
      · subst e2
        rw [if_pos rfl, if_neg (by omega)]
        exact u.b k (by omega) hk hkp j0
      · rw [if_neg e2]
        by_cases e3 : i = (j - 1) / 2
        · rw [if_pos e3]; exact hkl j j0 jn e3.symm
        · rw [if_neg e3]; exact u.a j j0 jn (fun e => e3 e.symm)
  · rw [hkp, kk, kk, if_neg (by omega), if_pos rfl, if_neg (by omega), if_neg (by omega)]
    have := u.a j j0 jn (by omega)
    rw [hpp] at this; exact this
theorem HI.dnOrd {h : Hq} : ∀ {k i n : Nat}, n - i ≤ k → HI h → i < h.it.length → n = h.it.length → DnI h i n → HOrd (downH h i n) n := by
  intro k
  induction k generalizing h with
  | zero => intro i n hk o hi hn; omega
  | succ k ih =>
    intro i n hk o hi hn u
    by_cases hh : kidH h i n < n ∧ lessH h (kidH h i n) i = true
    · rw [down_step hh.1 hh.2]
      have hgt := kidH_gt h i n
      exact ih (by omega) (o.swap hi (by omega)) (by rw [(swapH_len _ _ _).1]; omega) (by rw [(swapH_len _ _ _).1]; exact hn) (u.step hn (by omega) hh.1 hh.2)
    · rw [down_stop hh]
      intro j j0 jn
      by_cases e : (j - 1) / 2 = i
      · rw [e]
        by_cases hk2 : kidH h i n < n
        · exact le2_trans (Classical.byContradiction fun e2 => hh ⟨hk2, (lessH_iff _ _ _).2 e2⟩) (kid_le h hk2 j0 jn e)
        · exfalso
          apply hk2
          unfold kidH; split
          · next hc => exact hc.1
          · omega
      · exact u.a j j0 jn e
theorem HI.settleOrd {h : Hq} {i : Nat} (o : HI h) (hi : i < h.it.length) (u : UpI h i h.it.length) : HOrd (settleH h i h.it.length) h.it.length := by
  obtain ⟨a, b, c, d, e⟩ := o.up hi
  exact a.dnOrd (k := h.it.length - (upH h i).2) (Nat.le_refl _) (by omega) b.symm (o.upOrd rfl hi u)
/- which items are in it -/
theorem HI.in_swap {h : Hq} (o : HI h) {i j : Nat} (hi : i < h.it.length) (hj : j < h.it.length) (w : Nat) : 0 ≤ (swapH h i j).place w ↔ 0 ≤ h.place w := by
  have ii := o.inv i hi
  have ij := o.inv j hj
  rw [place_swap h o.ok hi hj]
  by_cases e1 : h.item i = w
  · rw [if_pos e1, ← e1, ii]; omega
  · rw [if_neg e1]
    by_cases e2 : h.item j = w
    · rw [if_pos e2, ← e2, ij]; omega
    · rw [if_neg e2]
theorem HI.in_up {h : Hq} : ∀ {i : Nat}, HI h → i < h.it.length → ∀ w, 0 ≤ (upH h i).1.place w ↔ 0 ≤ h.place w := by
  intro i
  induction i using Nat.strongRecOn generalizing h with
  | _ i ih =>
    intro o hi w
    by_cases hh : 0 < i ∧ lessH h i ((i - 1) / 2) = true
    · rw [up_step hh.1 hh.2]
      have hj : (i - 1) / 2 < h.it.length := by omega
      exact (ih ((i - 1) / 2) (by omega) (o.swap hi hj) (by rw [(swapH_len _ _ _).1]; exact hj) w).trans (o.in_swap hi hj w)
    · rw [up_stop hh]
theorem HI.in_down {h : Hq} : ∀ {k i n : Nat}, n - i ≤ k → HI h → i < h.it.length → n = h.it.length → ∀ w, 0 ≤ (downH h i n).place w ↔ 0 ≤ h.place w := by
  intro k
  induction k generalizing h with
  | zero => intro i n hk o hi hn; omega
  | succ k ih =>
    intro i n hk o hi hn w
    by_cases hh : kidH h i n < n ∧ lessH h (kidH h i n) i = true
    · rw [down_step hh.1 hh.2]
      have hgt := kidH_gt h i n
      exact (ih (by omega) (o.swap hi (by omega)) (by rw [(swapH_len _ _ _).1]; omega) (by rw [(swapH_len _ _ _).1]; exact hn) w).trans (o.in_swap hi (by omega) w)
    · rw [down_stop hh]
theorem HI.in_settle {h : Hq} {i : Nat} (o : HI h) (hi : i < h.it.length) (w : Nat) : 0 ≤ (settleH h i h.it.length).place w ↔ 0 ≤ h.place w := by
  obtain ⟨a, b, c, d, e⟩ := o.up hi
  exact (a.in_down (k := h.it.length - (upH h i).2) (Nat.le_refl _) (by omega) b.symm w).trans (o.in_up hi w)
theorem put_new {h : Hq} {v : Nat} (k : Int) (hp : h.place v < 0) : putH h v k = ⟨h.it ++ [v], h.pl.set v h.it.length, h.ky.set v k⟩ := by unfold putH insH; rw [if_pos hp]
theorem put_old {h : Hq} {v : Nat} (k : Int) (hp : ¬ h.place v < 0) : putH h v k = ⟨h.it, h.pl, h.ky.set v k⟩ := by unfold putH insH; rw [if_neg hp]
structure HG (h : Hq) : Prop where
  hi : HI h
  ord : HOrd h h.it.length
theorem HG.set {h : Hq} (o : HG h) {v : Nat} (hv : v < h.pl.length) (k : Int) : HG (setH h v k) ∧ (setH h v k).pl.length = h.pl.length ∧ (setH h v k).ky = h.ky.set v k ∧ ∀ w, 0 ≤ (setH h v k).place w ↔ w = v ∨ 0 ≤ h.place w := by
  obtain ⟨a, b, c, d⟩ := o.hi.put hv k
  obtain ⟨q1, q2, q3, q4⟩ := o.hi.set hv k
  have hi := a.lt (by rw [b]; exact hv) c
  have hol := o.hi.ok.len
  have hkey : ∀ w, (putH h v k).key w = if v = w then k else h.key w := fun w => by
    have e : (putH h v k).ky = h.ky.set v k := by unfold putH insH; split <;> rfl
    unfold Hq.key; rw [e, getD_set _ _ _ _ _ (by omega)]
  have hu : UpI (putH h v k) ((putH h v k).place v).toNat (putH h v k).it.length := by
    by_cases hp : h.place v < 0
    · have e1 : (putH h v k).it = h.it ++ [v] := by rw [put_new k hp]
      have e2 : (putH h v k).place v = h.it.length := by rw [put_new k hp]; unfold Hq.place; simp only; rw [getD_set _ _ _ _ _ hv, if_pos rfl]
      have e3 : ∀ i, i < h.it.length → (putH h v k).kk i = h.kk i := fun i hi2 => by
        have e4 : (putH h v k).item i = h.item i := by unfold Hq.item; rw [e1, getD_app, if_neg (by omega)]
        have := o.hi.inv i hi2
        unfold Hq.kk; rw [e4, hkey, if_neg (fun e => by rw [← e] at this; omega)]
      rw [e2, e1, Int.toNat_natCast]
      refine ⟨fun j j0 jn h1 h2 => ?_, fun j j0 jn h1 h2 => ?_⟩
      · simp at jn
        rw [e3 _ (by omega), e3 _ (by omega)]; exact o.ord j j0 (by omega)
      · simp at jn; omega
    · have e1 : (putH h v k).it = h.it := by rw [put_old k hp]
      have e2 : (putH h v k).place v = h.place v := by rw [put_old k hp]; rfl
      have hlt := o.hi.lt hv (by omega)
      obtain ⟨_, hiv⟩ := o.hi.at_ v hv (by omega)
      have e3 : ∀ i, i < h.it.length → i ≠ (h.place v).toNat → (putH h v k).kk i = h.kk i := fun i hi2 hne => by
        have e4 : (putH h v k).item i = h.item i := by unfold Hq.item; rw [e1]
        have := o.hi.inv i hi2
        unfold Hq.kk; rw [e4, hkey, if_neg (fun e => by rw [← e] at this; omega)]
      rw [e2, e1]
      refine ⟨fun j j0 jn h1 h2 => ?_, fun j j0 jn h1 h2 => ?_⟩
      · rw [e3 _ (by omega) h2, e3 _ jn h1]; exact o.ord j j0 jn
      · rw [e3 _ (by omega) (by omega), e3 _ jn (by omega)]
        refine le2_trans (o.ord _ h2 hlt) ?_
        have := o.ord j j0 jn
        rw [h1] at this; exact this
  refine ⟨⟨q1, ?_⟩, q3, q4, fun w => ?_⟩
  · rw [q2]; exact a.settleOrd hi hu
  · refine (a.in_settle hi w).trans ?_
    by_cases hp : h.place v < 0
    · rw [put_new k hp]; unfold Hq.place; simp only
      rw [getD_set _ _ _ _ _ hv]
      by_cases e : v = w
      · rw [if_pos e]; constructor
        · intro _; exact .inl e.symm
        · intro _; omega
      · rw [if_neg e]; constructor
        · intro h1; exact .inr h1
        · rintro (h1 | h1)
          · exact absurd h1.symm e
          · exact h1
    · rw [put_old k hp]; constructor
      · intro h1; exact .inr h1
      · rintro (rfl | h1)
        · show 0 ≤ h.place w; omega
        · exact h1
theorem HG.drop {h : Hq} (o : HG h) {v : Nat} (hv : v < h.pl.length) (hp : 0 ≤ h.place v) : HG (dropH h v) ∧ (dropH h v).it.length = h.it.length - 1 ∧ (dropH h v).pl.length = h.pl.length ∧ (dropH h v).ky = h.ky ∧ ∀ w, 0 ≤ (dropH h v).place w ↔ w ≠ v ∧ 0 ≤ h.place w := by
  obtain ⟨a, b, c, d⟩ := o.hi.cut hv hp
  obtain ⟨q1, q2, q3, q4⟩ := o.hi.drop hv hp
  have hlt := o.hi.lt hv hp
  have hlast : h.it.length - 1 < h.it.length := by omega
  have hsw := o.hi.swap hlt hlast
  have e2 : ∀ i, i < h.it.length - 1 → (cutH h v).kk i = if (h.place v).toNat = i then h.kk (h.it.length - 1) else h.kk i := fun i hi => by
    have e3 : (cutH h v).kk i = (swapH h (h.place v).toNat (h.it.length - 1)).kk i := by
      unfold Hq.kk Hq.item cutH Hq.key; simp only [List.getD_eq_getElem?_getD]; rw [List.getElem?_take, if_pos hi]; rfl
    rw [e3, kk_swap h hlt hlast, if_neg (by omega)]
  have hin : ∀ w, 0 ≤ (cutH h v).place w ↔ w ≠ v ∧ 0 ≤ h.place w := fun w => by
    have e1 : (cutH h v).place w = if v = w then (-1 : Int) else (swapH h (h.place v).toNat (h.it.length - 1)).place w := getD_set _ _ _ _ _ (by rw [(swapH_len _ _ _).2.1]; exact hv)
    rw [e1]
    by_cases e : v = w
    · rw [if_pos e]; constructor
      · intro h1; omega
      · intro h1; exact absurd e.symm h1.1
    · rw [if_neg e, o.hi.in_swap hlt hlast]
      exact ⟨fun h1 => ⟨fun e2 => e e2.symm, h1⟩, fun h1 => h1.2⟩
  by_cases hh : (h.place v).toNat < h.it.length - 1
  · have hd : dropH h v = settleH (cutH h v) (h.place v).toNat (h.it.length - 1) := by unfold dropH; rw [if_pos hh]
    have hu : UpI (cutH h v) (h.place v).toNat (cutH h v).it.length := by
      rw [b]
      refine ⟨fun j j0 jn h1 h2 => ?_, fun j j0 jn h1 h2 => ?_⟩
      · rw [e2 _ (by omega), e2 _ jn, if_neg (fun e => h2 e.symm), if_neg (fun e => h1 e.symm)]; exact o.ord j j0 (by omega)
      · rw [e2 _ (by omega), e2 _ jn, if_neg (by omega), if_neg (by omega)]
        refine le2_trans (o.ord _ h2 hlt) ?_
        have := o.ord j j0 (by omega)
        rw [h1] at this; exact this
    refine ⟨⟨q1, ?_⟩, q2, q3, q4, fun w => ?_⟩
    · rw [q2, hd]
      have := a.settleOrd (by rw [b]; exact hh) hu
      rwa [b] at this
    · rw [hd]
      have := a.in_settle (i := (h.place v).toNat) (by rw [b]; exact hh) w
      rw [b] at this
      exact this.trans (hin w)
  · have hd : dropH h v = cutH h v := by unfold dropH; rw [if_neg hh]
    refine ⟨⟨q1, ?_⟩, q2, q3, q4, fun w => by rw [hd]; exact hin w⟩
    rw [q2, hd]
    intro j j0 jn
    rw [e2 _ (by omega), e2 _ jn, if_neg (by omega), if_neg (by omega)]; exact o.ord j j0 (by omega)
theorem HG.min {h : Hq} (o : HG h) {w : Nat} (hw : w < h.pl.length) (hp : 0 ≤ h.place w) : le2 (h.kk 0) (h.key w, w) := by
  obtain ⟨_, b⟩ := o.hi.at_ w hw hp
  have hlt := o.hi.lt hw hp
  have : ∀ j, j < h.it.length → le2 (h.kk 0) (h.kk j) := by
    intro j
    induction j using Nat.strongRecOn with
    | _ j ih =>
      intro hj
      by_cases e : j = 0
      · subst e; exact le2_refl _
      · exact le2_trans (ih ((j - 1) / 2) (by omega) (by omega)) (o.ord j (by omega) hj)
  have q := this _ hlt
  unfold Hq.kk at q ⊢
  rw [b] at q; exact q
end Go.Pl
namespace Go.Pl
open Go Go.RT
set_option linter.all false
/- walks and distances -/
structure VG (es : List Edg) (r n : Nat) : Prop where
  f : ∀ e ∈ es, 0 ≤ e.f ∧ e.f < n
  t : ∀ e ∈ es, 0 ≤ e.t ∧ e.t < n
  c : ∀ e ∈ es, 0 ≤ e.c ∧ e.c ≤ 65535
  net : ∀ e ∈ es, (r : Int) ≤ e.f → e.t < r ∧ e.c = 0
  rt : ∀ e ∈ es, e.f < (r : Int) → 1 ≤ e.c
  ne : ∀ e ∈ es, e.f ≠ e.t
  asc : AscK es
  le : r ≤ n
  n128 : n ≤ 128
  e1024 : es.length ≤ 1024
inductive Wk (es : List Edg) (a : Nat) : Nat → Int → Prop where
  | nil : Wk es a a 0
  | snoc {e : Edg} {c : Int} : Wk es a e.f.toNat c → e ∈ es → Wk es a e.t.toNat (c + e.c)
theorem Wk.app {es : List Edg} {a b v : Nat} {c d : Int} (h : Wk es a b c) (g : Wk es b v d) : Wk es a v (c + d) := by
  induction g with
  | nil => simpa using h
  | snoc g he ih => have := Wk.snoc ih he; rwa [Int.add_assoc] at this
theorem Wk.nn {es : List Edg} {r n : Nat} (vg : VG es r n) {a v : Nat} {c : Int} (h : Wk es a v c) : 0 ≤ c := by
  induction h with
  | nil => exact Int.le_refl _
  | snoc h he ih => have := (vg.c _ he).1; omega
theorem Wk.lt {es : List Edg} {r n : Nat} (vg : VG es r n) {a v : Nat} {c : Int} (h : Wk es a v c) (ha : a < n) : v < n := by
  cases h with
  | nil => exact ha
  | snoc h he => have := (vg.t _ he); omega
theorem Wk.mono {es es' : List Edg} (hs : ∀ e ∈ es, e ∈ es') {a v : Nat} {c : Int} (h : Wk es a v c) : Wk es' a v c := by
  induction h with
  | nil => exact .nil
  | snoc h he ih => exact .snoc ih (hs _ he)
def IsD (es : List Edg) (a v : Nat) (d : Int) : Prop := (d = -1 ∧ ∀ c, ¬ Wk es a v c) ∨ (Wk es a v d ∧ ∀ c, Wk es a v c → d ≤ c)
theorem IsD.uniq {es : List Edg} {a v : Nat} {d d' : Int} (h : IsD es a v d) (g : IsD es a v d') : d = d' := by
  rcases h with ⟨h1, h2⟩ | ⟨h1, h2⟩ <;> rcases g with ⟨g1, g2⟩ | ⟨g1, g2⟩
  · omega
  · exact absurd g1 (h2 _)
  · exact absurd h1 (g2 _)
  · have := h2 _ g1; have := g2 _ h1; omega
theorem nodup_len : ∀ (n : Nat) (l : List Nat), l.Nodup → (∀ x ∈ l, x < n) → l.length ≤ n
  | 0, l, _, h => by cases l with
    | nil => simp
    | cons x l => have := h x (by simp); omega
  | n + 1, l, hd, h => by
    by_cases hm : n ∈ l
    · have := nodup_len n (l.erase n) (hd.erase n) (fun x hx => by
        have h1 := h x (List.mem_of_mem_erase hx)
        have h2 : x ≠ n := fun e => by rw [e] at hx; exact (List.Nodup.not_mem_erase hd) hx
        omega)
      rw [List.length_erase_of_mem hm] at this; omega
    · have := nodup_len n l hd (fun x hx => by
        have h1 := h x hx
        have h2 : x ≠ n := fun e => hm (by rw [← e]; exact hx)
        omega)
      omega
theorem HI.small {h : Hq} (o : HI h) : h.it.length ≤ h.pl.length := by
  refine nodup_len _ _ ?_ o.ok.lt
  rw [List.Nodup, List.pairwise_iff_getElem]
  intro i j hi hj hij e
  have e1 : ∀ k (hk : k < h.it.length), h.item k = h.it[k] := fun k hk => by unfold Hq.item; rw [List.getD_eq_getElem?_getD, List.getElem?_eq_getElem hk]; rfl
  have h1 := o.inv i hi
  have h2 := o.inv j hj
  rw [e1 i hi] at h1; rw [e1 j hj] at h2
  rw [e, h2] at h1; omega
abbrev gt0 (l : List Int) (v : Nat) : Int := l.getD v 0
def cntP (l : List Int) : Nat := l.countP fun x => decide (0 ≤ x)
theorem cntP_cons (x : Int) (l : List Int) : cntP (x :: l) = cntP l + if 0 ≤ x then 1 else 0 := by
  unfold cntP; rw [List.countP_cons]; simp
theorem cntP_set {l : List Int} {v : Nat} {k : Int} (hv : v < l.length) (hn : gt0 l v < 0) (hk : 0 ≤ k) : cntP (l.set v k) = cntP l + 1 := by
  induction l generalizing v with
  | nil => simp at hv
  | cons x l ih =>
    cases v with
    | zero =>
      have h1 : x < 0 := by simpa [gt0] using hn
      rw [List.set_cons_zero, cntP_cons, cntP_cons, if_pos hk, if_neg (by omega)]
    | succ v =>
      rw [List.set_cons_succ, cntP_cons, cntP_cons, ih (by simpa using hv) (by simpa [gt0] using hn)]; omega
theorem cntP_le (l : List Int) : cntP l ≤ l.length := List.countP_le_length
structure DJ (es : List Edg) (n : Nat) (a : Nat) (dist : List Int) (h : Hq) (todo : List Edg) : Prop where
  hg : HG h
  hl : h.pl.length = n
  dl : dist.length = n
  fin : ∀ v, v < n → 0 ≤ gt0 dist v → Wk es a v (gt0 dist v) ∧ ∀ c, Wk es a v c → gt0 dist v ≤ c
  neg : ∀ v, v < n → gt0 dist v < 0 → gt0 dist v = -1
  q : ∀ v, v < n → 0 ≤ h.place v → gt0 dist v < 0 ∧ Wk es a v (h.key v) ∧ h.key v ≤ 65535 * cntP dist
  rel : ∀ e ∈ es, 0 ≤ gt0 dist e.f.toNat → e ∈ todo ∨ 0 ≤ gt0 dist e.t.toNat ∨ (0 ≤ h.place e.t.toNat ∧ h.key e.t.toNat ≤ gt0 dist e.f.toNat + e.c)
  root : 0 ≤ gt0 dist a ∨ (0 ≤ h.place a ∧ h.key a ≤ 0)
theorem DJ.low {es : List Edg} {r n a : Nat} (vg : VG es r n) (ha : a < n) {dist : List Int} {h : Hq} (o : DJ es n a dist h []) {v : Nat} {c : Int} (w : Wk es a v c) : 0 ≤ gt0 dist v ∨ ∃ y, y < n ∧ 0 ≤ h.place y ∧ h.key y ≤ c := by
  induction w with
  | nil => rcases o.root with h1 | ⟨h1, h2⟩
           · exact .inl h1
           · exact .inr ⟨a, ha, h1, h2⟩
  | @snoc e c w he ih =>
    have hc := vg.c _ he
    rcases ih with h1 | ⟨y, y1, y2, y3⟩
    · have hfl : e.f.toNat < n := w.lt vg ha
      have h2 := (o.fin _ hfl h1).2 _ w
      rcases o.rel e he h1 with h3 | h3 | ⟨h3, h4⟩
      · cases h3
      · exact .inl h3
      · exact .inr ⟨_, by have := vg.t _ he; omega, h3, by omega⟩
    · exact .inr ⟨y, y1, y2, by omega⟩
theorem key_set {h : Hq} {v : Nat} {k : Int} (hv : v < h.ky.length) {h' : Hq} (e : h'.ky = h.ky.set v k) (w : Nat) : h'.key w = if v = w then k else h.key w := by
  unfold Hq.key; rw [e, getD_set _ _ _ _ _ hv]
theorem DJ.pop {es : List Edg} {r n a : Nat} (vg : VG es r n) (ha : a < n) {dist : List Int} {h : Hq} (o : DJ es n a dist h []) (hne : 0 < h.it.length) :
    h.item 0 < n ∧ gt0 dist (h.item 0) < 0 ∧ 0 ≤ h.key (h.item 0) ∧ h.key (h.item 0) ≤ 65535 * cntP dist ∧ cntP (dist.set (h.item 0) (h.key (h.item 0))) = cntP dist + 1 ∧
    DJ es n a (dist.set (h.item 0) (h.key (h.item 0))) (dropH h (h.item 0)) (es.filter fun e => decide (e.f = (h.item 0 : Nat))) := by
  have hx : h.item 0 < n := by rw [← o.hl]; exact o.hg.hi.ok.item hne
  have hp : 0 ≤ h.place (h.item 0) := by rw [o.hg.hi.inv 0 hne]; decide
  have hmin := fun w hw hp => o.hg.min (w := w) (by rw [o.hl]; exact hw) hp
  obtain ⟨d1, d2, d3, d4, d5⟩ := o.hg.drop (by rw [o.hl]; exact hx) hp
  obtain ⟨q1, q2, q3⟩ := o.q _ hx hp
  have hk0 := q2.nn vg
  have hbest : ∀ c, Wk es a (h.item 0) c → h.key (h.item 0) ≤ c := fun c w => by
    rcases o.low vg ha w with h1 | ⟨y, y1, y2, y3⟩
    · omega
    · have := hmin y y1 y2; unfold le2 Hq.kk at this; simp only at this; omega
  unfold Hq.kk at hmin
  generalize h.item 0 = x at *
  generalize h.key x = k at *
  have hkey : ∀ w, (dropH h x).key w = h.key w := fun w => by unfold Hq.key; rw [d4]
  have hget : ∀ v, gt0 (dist.set x k) v = if x = v then k else gt0 dist v := fun v => getD_set _ _ _ _ _ (by rw [o.dl]; exact hx)
  have hcnt := cntP_set (l := dist) (k := k) (by rw [o.dl]; exact hx) q1 hk0
  refine ⟨hx, q1, hk0, q3, hcnt, d1, by rw [d3, o.hl], by rw [List.length_set, o.dl], fun v hv h0 => ?_, fun v hv h0 => ?_, fun v hv h0 => ?_, fun e he h0 => ?_, ?_⟩
  · rw [hget] at h0 ⊢
    by_cases e : x = v
    · subst e; rw [if_pos rfl]; exact ⟨q2, hbest⟩
    · rw [if_neg e] at h0 ⊢; exact o.fin v hv h0
  · rw [hget] at h0 ⊢
    by_cases e : x = v
    · rw [if_pos e] at h0; omega
    · rw [if_neg e] at h0 ⊢; exact o.neg v hv h0
  · obtain ⟨e1, e2⟩ := (d5 v).1 h0
    obtain ⟨s1, s2, s3⟩ := o.q v hv e2
    rw [hget, if_neg (fun e => e1 e.symm), hkey, hcnt]
    exact ⟨s1, s2, by omega⟩
  · rw [hget] at h0
    have hef := vg.f e he
    by_cases e1 : x = e.f.toNat
    · refine .inl (List.mem_filter.2 ⟨he, ?_⟩)
      rw [decide_eq_true_eq]; omega
    · rw [if_neg e1] at h0
      rcases o.rel e he h0 with h3 | h3 | ⟨h3, h4⟩
      · cases h3
      · refine .inr (.inl ?_)
        rw [hget]; split
        · exact hk0
        · exact h3
      · by_cases e2 : x = e.t.toNat
        · refine .inr (.inl ?_)
          rw [hget, if_pos e2]; exact hk0
        · refine .inr (.inr ⟨(d5 _).2 ⟨fun e => e2 e.symm, h3⟩, ?_⟩)
          rw [hkey, hget, if_neg e1]; exact h4
  · by_cases e2 : x = a
    · rw [hget, if_pos e2]; exact .inl hk0
    · rw [hget, if_neg e2, hkey]
      rcases o.root with h1 | ⟨h1, h2⟩
      · exact .inl h1
      · exact .inr ⟨(d5 _).2 ⟨fun e => e2 e.symm, h1⟩, h2⟩
theorem DJ.skip {es : List Edg} {r n a : Nat} (vg : VG es r n) {dist : List Int} {h : Hq} {e : Edg} {todo : List Edg} (o : DJ es n a dist h (e :: todo))
    (hc : ¬ (gt0 dist e.t.toNat < 0 ∧ (h.place e.t.toNat < 0 ∨ gt0 dist e.f.toNat + e.c < h.key e.t.toNat))) : DJ es n a dist h todo := by
  refine ⟨o.hg, o.hl, o.dl, o.fin, o.neg, o.q, fun e' he' h0 => ?_, o.root⟩
  rcases o.rel e' he' h0 with h3 | h3
  · rcases List.mem_cons.1 h3 with rfl | h3
    · refine .inr ?_
      by_cases h4 : 0 ≤ gt0 dist e'.t.toNat
      · exact .inl h4
      · refine .inr ⟨?_, ?_⟩
        · exact Int.not_lt.1 fun h5 => hc ⟨by omega, .inl h5⟩
        · exact Int.not_lt.1 fun h5 => hc ⟨by omega, .inr h5⟩
    · exact .inl h3
  · exact .inr h3
theorem DJ.put {es : List Edg} {r n a : Nat} (vg : VG es r n) {dist : List Int} {h : Hq} {e : Edg} {todo : List Edg} (he : e ∈ es) (o : DJ es n a dist h (e :: todo)) (hf : 0 ≤ gt0 dist e.f.toNat) (hb : gt0 dist e.f.toNat + 65535 ≤ 65535 * cntP dist)
    (hc : gt0 dist e.t.toNat < 0 ∧ (h.place e.t.toNat < 0 ∨ gt0 dist e.f.toNat + e.c < h.key e.t.toNat)) : DJ es n a dist (setH h e.t.toNat (gt0 dist e.f.toNat + e.c)) todo := by
  have hef := vg.f e he
  have het := vg.t e he
  have hec := vg.c e he
  have htl : e.t.toNat < h.pl.length := by rw [o.hl]; omega
  obtain ⟨s1, s2, s3, s4⟩ := o.hg.set htl (gt0 dist e.f.toNat + e.c)
  have hkey := key_set (by rw [← o.hg.hi.ok.len]; exact htl) s3
  have hw : Wk es a e.t.toNat (gt0 dist e.f.toNat + e.c) := .snoc (o.fin _ (by omega) hf).1 he
  refine ⟨s1, by rw [s2, o.hl], o.dl, o.fin, o.neg, fun v hv h0 => ?_, fun e' he' h0 => ?_, ?_⟩
  · rw [hkey]
    by_cases e1 : e.t.toNat = v
    · rw [if_pos e1]; subst e1; exact ⟨hc.1, hw, by omega⟩
    · rw [if_neg e1]
      rcases (s4 v).1 h0 with h1 | h1
      · exact absurd h1.symm e1
      · exact o.q v hv h1
  · rcases o.rel e' he' h0 with h3 | h3 | ⟨h3, h4⟩
    · rcases List.mem_cons.1 h3 with rfl | h3
      · refine .inr (.inr ⟨(s4 _).2 (.inl rfl), ?_⟩)
        rw [hkey, if_pos rfl]; exact Int.le_refl _
      · exact .inl h3
    · exact .inr (.inl h3)
    · refine .inr (.inr ⟨(s4 _).2 (.inr h3), ?_⟩)
      rw [hkey]
      by_cases e1 : e.t.toNat = e'.t.toNat
      · rw [if_pos e1]
        rcases hc.2 with h5 | h5
        · rw [← e1] at h3; omega
        · rw [← e1] at h4; omega
      · rw [if_neg e1]; exact h4
  · rcases o.root with h1 | ⟨h1, h2⟩
    · exact .inl h1
    · refine .inr ⟨(s4 _).2 (.inr h1), ?_⟩
      rw [hkey]
      by_cases e1 : e.t.toNat = a
      · rw [if_pos e1]
        rcases hc.2 with h5 | h5
        · rw [← e1] at h1; omega
        · rw [← e1] at h2; omega
      · rw [if_neg e1]; exact h2
theorem DJ.done {es : List Edg} {r n a : Nat} (vg : VG es r n) (ha : a < n) {dist : List Int} {h : Hq} (o : DJ es n a dist h []) (he : h.it = []) {v : Nat} (hv : v < n) : IsD es a v (gt0 dist v) := by
  by_cases h0 : 0 ≤ gt0 dist v
  · exact .inr (o.fin v hv h0)
  · refine .inl ⟨o.neg v hv (by omega), fun c w => ?_⟩
    rcases o.low vg ha w with h1 | ⟨y, y1, y2, y3⟩
    · exact h0 h1
    · have := (o.hg.hi.at_ y (by rw [o.hl]; exact y1) y2).1
      rw [he] at this; simp at this; omega
theorem checkI_vg {g : Gr} (h : checkI g = 0) : VG g.es g.r.toNat (g.r + g.n).toNat ∧ 0 ≤ g.r ∧ 0 ≤ g.n := by
  obtain ⟨⟨h1, h2, h3⟩, h4, h5⟩ := checkI_ok h
  have hal := chkL_alw _ _ h5
  have hn := fun e he => alwI_node (hal e he)
  have hx : ∀ e ∈ g.es, ¬ (e.f = e.t ∨ (g.r ≤ e.f ∧ g.r ≤ e.t) ∨ (g.r ≤ e.f ∧ e.c ≠ 0) ∨ (e.f < g.r ∧ (e.c < 1 ∨ 65535 < e.c))) := fun e he hh => by
    have h6 := hal e he
    unfold alwI at h6
    split at h6
    · cases h6
    · first | (rw [if_pos hh] at h6; cases h6) | cases h6
  have hasc : ∀ (l : List Edg) (p : Option Edg), chkL g p l = 0 → AscK l ∧ ∀ q, p = some q → ∀ e ∈ l, ltK q e := by
    intro l
    induction l with
    | nil => exact fun p _ => ⟨.nil, fun q _ e he => by cases he⟩
    | cons x l ih =>
      intro p hp
      simp only [chkL] at hp
      split at hp
      · next h7 => exact absurd hp h7
      · split at hp
        · cases hp
        · next h8 =>
          obtain ⟨i1, i2⟩ := ih _ hp
          refine ⟨List.pairwise_cons.2 ⟨fun y hy => i2 x rfl y hy, i1⟩, fun q hq e he => ?_⟩
          subst hq
          have h9 : ltK q x := by rw [← ltK_bef]; simpa [badP] using h8
          rcases List.mem_cons.1 he with rfl | he
          · exact h9
          · have := i2 x rfl e he; unfold ltK at *; omega
  refine ⟨⟨fun e he => ?_, fun e he => ?_, fun e he => ?_, fun e he hr => ?_, fun e he hr => ?_, fun e he hr => ?_, (hasc _ _ h5).1, by omega, by omega, h4⟩, h1, h2⟩
  · have := hn e he; omega
  · have := hn e he; omega
  · have := hx e he; omega
  · have := hx e he; omega
  · have := hx e he; omega
  · have := hx e he; omega
end Go.Pl
namespace Go.Pl
open Go Go.RT
set_option linter.all false
def newH (n : Nat) : Hq := ⟨[], List.replicate n (-1), List.replicate n 0⟩
def fillN (n k : Nat) : List Int := List.replicate k (-1) ++ List.replicate (n - k) 0
theorem fillN_len (n k : Nat) (h : k ≤ n) : (fillN n k).length = n := by simp [fillN]; omega
theorem fillN_set (n k : Nat) (h : k < n) : (fillN n k).set k (-1) = fillN n (k + 1) := by
  unfold fillN
  rw [List.set_append_right _ _ (by simp), List.length_replicate, Nat.sub_self, show n - k = (n - (k + 1)) + 1 by omega, List.replicate_succ, List.set_cons_zero, List.replicate_succ', List.append_assoc]; rfl
theorem fillN_0 (n : Nat) : fillN n 0 = List.replicate n 0 := by simp [fillN]
theorem fillN_n (n : Nat) : fillN n n = List.replicate n (-1) := by simp [fillN]
theorem getD_rep {α : Type} (n v : Nat) (x d : α) (h : v < n) : (List.replicate n x).getD v d = x := by
  rw [List.getD_eq_getElem?_getD, List.getElem?_replicate, if_pos h]; rfl
theorem HG.new (n : Nat) : HG (newH n) :=
  ⟨⟨⟨by simp [newH], fun v h => by simp [newH] at h⟩, fun v hv h0 => by
    have : (newH n).place v = -1 := getD_rep _ _ _ _ (by simpa [newH] using hv)
    rw [this] at h0; omega, fun i hi => by simp [newH] at hi⟩, fun j _ hj => by simp [newH] at hj⟩
theorem DJ.start {es : List Edg} {r n a : Nat} (vg : VG es r n) (ha : a < n) : DJ es n a (List.replicate n (-1)) (setH (newH n) a 0) [] ∧ cntP (List.replicate n (-1)) = 0 := by
  obtain ⟨s1, s2, s3, s4⟩ := (HG.new n).set (v := a) (by simpa [newH] using ha) 0
  have hg : ∀ v, v < n → gt0 (List.replicate n (-1)) v = -1 := fun v hv => getD_rep _ _ _ _ hv
  have hkey := key_set (h := newH n) (v := a) (by simpa [newH] using ha) s3
  have hp : ∀ v, v < n → (newH n).place v = -1 := fun v hv => getD_rep _ _ _ _ hv
  have hc : cntP (List.replicate n (-1)) = 0 := by unfold cntP; rw [List.countP_replicate]; simp
  refine ⟨⟨s1, by rw [s2]; simp [newH], by simp, fun v hv h0 => ?_, fun v hv _ => hg v hv, fun v hv h0 => ?_, fun e he h0 => ?_, .inr ⟨(s4 a).2 (.inl rfl), ?_⟩⟩, hc⟩
  · rw [hg v hv] at h0; omega
  · rw [hg v hv, hc]
    rcases (s4 v).1 h0 with rfl | h1
    · rw [hkey, if_pos rfl]; exact ⟨by omega, .nil, by omega⟩
    · rw [hp v hv] at h1; omega
  · have := vg.f e he
    rw [hg _ (by omega)] at h0; omega
  · rw [hkey, if_pos rfl]; exact Int.le_refl _
/- rows of own slices -/
theorem rng_len {β : Type} (n : Nat) (f : Nat → β) : ((List.range n).map f).length = n := by simp
theorem rng_get {β : Type} (n : Nat) (f : Nat → β) (v : Nat) (h : v < n) : ((List.range n).map f)[v]? = some (f v) := by simp [h]
theorem rng_set {β : Type} (n : Nat) (f f' : Nat → β) (v : Nat) (x : β) (hx : f' v = x) (h : ∀ w, w ≠ v → f' w = f w) : ((List.range n).map f).set v x = (List.range n).map f' := by
  apply List.ext_getElem?
  intro i
  rw [List.getElem?_set]
  by_cases e : v = i
  · subst e
    by_cases hv : v < n
    · simp [hv, hx]
    · simp [hv]
  · rw [if_neg e]
    by_cases hi : i < n
    · simp [hi, h i (fun e2 => e e2.symm)]
    · simp [hi]
theorem rng_const {β : Type} (n : Nat) (x : β) : List.replicate n x = (List.range n).map fun _ => x := by
  apply List.ext_getElem?
  intro i
  by_cases hi : i < n
  · simp [hi]
  · simp [hi]
def outE (es : List Edg) (v : Nat) : List Edg := es.filter fun e => decide (e.f = (v : Nat))
def rowsE (es : List Edg) (n : Nat) : List (List (List FV)) := (List.range n).map fun v => (outE es v).map encE
theorem outE_succ {es : List Edg} {i : Nat} (h : i < es.length) (v : Nat) : outE (es.take (i + 1)) v = outE (es.take i) v ++ if es[i].f = (v : Nat) then [es[i]] else [] := by
  unfold outE
  rw [← List.take_append_getElem h, List.filter_append]
  congr 1
  by_cases e : es[i].f = (v : Nat)
  · simp [e]
  · simp [e]
theorem rowsE_succ {es : List Edg} {i n : Nat} (h : i < es.length) (h0 : 0 ≤ es[i].f) : (rowsE (es.take i) n).set es[i].f.toNat ((outE (es.take i) es[i].f.toNat).map encE ++ [encE es[i]]) = rowsE (es.take (i + 1)) n := by
  refine rng_set n _ _ _ _ ?_ fun w hw => ?_
  · rw [outE_succ h, if_pos (by omega), List.map_append]; rfl
  · rw [outE_succ h, if_neg (by omega), List.append_nil]
theorem rowsE_get (es : List Edg) {n v : Nat} (h : v < n) : (rowsE es n)[v]? = some ((outE es v).map encE) := rng_get n _ v h
theorem rowsE_nil (n : Nat) : rowsE [] n = List.replicate n [] := (rng_const n _).symm
theorem rowsE_len (es : List Edg) (n : Nat) : (rowsE es n).length = n := rng_len n _
end Go.Pl
namespace Go.Pl
open Go Go.RT
set_option linter.all false
def encL (l : List Int) : List FV := [VI l]
abbrev VLL (ll : List (List Int)) : FV := .vals 1 (ll.map encL)
def rowsI (ll : List (List Int)) : List (List (List FV)) := ll.map fun l => l.map encN
theorem fz_rowsI (ll : List (List Int)) : fzL 1 (rowsI ll) = ll.map encL := by simp [fzL, rowsI, encL]
theorem rowsI_len (ll : List (List Int)) : (rowsI ll).length = ll.length := by simp [rowsI]
theorem rowsI_set (ll : List (List Int)) (v : Nat) (l : List Int) : (rowsI ll).set v (l.map encN) = rowsI (ll.set v l) := by unfold rowsI; rw [List.map_set]
theorem rowsI_get {ll : List (List Int)} {v : Nat} (h : v < ll.length) : (rowsI ll)[v]? = some ((ll.getD v []).map encN) := by
  unfold rowsI; rw [List.getElem?_map, List.getD_eq_getElem?_getD, List.getElem?_eq_getElem h]; rfl
theorem rowsI_nil (n : Nat) : rowsI (List.replicate n []) = List.replicate n [] := by simp [rowsI]
def parC (a : Nat) (d : List Int) (e : Edg) : Bool := decide (e.t ≠ (a : Int)) && decide (gt0 d e.f.toNat ≠ -1) && decide (gt0 d e.f.toNat + e.c = gt0 d e.t.toNat)
def parE (es : List Edg) (a : Nat) (d : List Int) (v : Nat) : List Int := (es.filter fun e => parC a d e && decide (e.t = (v : Int))).map (·.f)
def parL (es : List Edg) (a : Nat) (d : List Int) (n : Nat) : List (List Int) := (List.range n).map (parE es a d)
theorem parE_succ {es : List Edg} {i a : Nat} {d : List Int} (h : i < es.length) (v : Nat) : parE (es.take (i + 1)) a d v = parE (es.take i) a d v ++ if parC a d es[i] = true ∧ es[i].t = (v : Int) then [es[i].f] else [] := by
  unfold parE
  rw [← List.take_append_getElem h, List.filter_append, List.map_append]
  congr 1
  by_cases e : parC a d es[i] = true ∧ es[i].t = (v : Int)
  · rw [if_pos e]; simp [e.1, e.2]
  · rw [if_neg e]
    have : (parC a d es[i] && decide (es[i].t = (v : Int))) = false := by
      rw [Bool.eq_false_iff]; intro h; exact e (by simpa using h)
    simp [this]
theorem parL_len (es : List Edg) (a : Nat) (d : List Int) (n : Nat) : (parL es a d n).length = n := rng_len n _
theorem parL_get (es : List Edg) (a : Nat) (d : List Int) {n v : Nat} (h : v < n) : (parL es a d n).getD v [] = parE es a d v := by
  rw [List.getD_eq_getElem?_getD]; unfold parL; rw [rng_get n _ v h]; rfl
theorem parL_yes {es : List Edg} {i a n : Nat} {d : List Int} (h : i < es.length) (h0 : 0 ≤ es[i].t) (hc : parC a d es[i] = true) : (parL (es.take i) a d n).set es[i].t.toNat (parE (es.take i) a d es[i].t.toNat ++ [es[i].f]) = parL (es.take (i + 1)) a d n := by
  refine rng_set n _ _ _ _ ?_ fun w hw => ?_
  · rw [parE_succ h, if_pos ⟨hc, by omega⟩]
  · rw [parE_succ h, if_neg (by omega), List.append_nil]
theorem parL_no {es : List Edg} {i a n : Nat} {d : List Int} (h : i < es.length) (hc : ¬ parC a d es[i] = true) : parL (es.take i) a d n = parL (es.take (i + 1)) a d n := by
  unfold parL
  refine List.map_congr_left fun v _ => ?_
  rw [parE_succ h, if_neg (fun e => hc e.1), List.append_nil]
theorem parL_nil (a : Nat) (d : List Int) (n : Nat) : parL [] a d n = List.replicate n [] := (rng_const n _).symm
end Go.Pl
namespace Go.Pl
def orI : List Int → Int
  | [] => 0
  | x :: l => if x ≠ 0 then x else orI l
end Go.Pl
namespace Go.Pl
open Go Go.RT
set_option linter.all false
/- the order of the nodes in hops -/
theorem perm_sorted_eq {α : Type} {le : α → α → Prop} (anti : ∀ a b, le a b → le b a → a = b) : ∀ (l1 l2 : List α), l1.Perm l2 → l1.Pairwise le → l2.Pairwise le → l1 = l2
  | [], l2, h, _, _ => (List.nil_perm.1 h).symm
  | x :: a, [], h, _, _ => by have := h.length_eq; simp at this
  | x :: a, y :: b, h, h1, h2 => by
    obtain ⟨a1, a2⟩ := List.pairwise_cons.1 h1
    obtain ⟨b1, b2⟩ := List.pairwise_cons.1 h2
    have e : x = y := by
      rcases List.mem_cons.1 (h.mem_iff.1 (List.mem_cons_self ..)) with e | q1
      · exact e
      · rcases List.mem_cons.1 (h.mem_iff.2 (List.mem_cons_self ..)) with e | q2
        · exact e.symm
        · exact anti _ _ (a1 _ q2) (b1 _ q1)
    subst e
    exact congrArg _ (perm_sorted_eq anti a b ((List.perm_cons x).1 h) a2 b2)
def ordH (d : List Int) (x y : Nat) : Int := orI [cmpI (gt0 d x) (gt0 d y), cmpI (y : Int) (x : Int)]
theorem ordH_neg (d : List Int) (x y : Nat) : ordH d x y < 0 ↔ gt0 d x < gt0 d y ∨ gt0 d x = gt0 d y ∧ y < x := by
  have h1 := cmpI_neg (gt0 d x) (gt0 d y)
  have h2 := cmpI_neg (y : Int) (x : Int)
  have h3 := cmpI_zero (gt0 d x) (gt0 d y)
  unfold ordH
  simp only [orI]
  by_cases e : cmpI (gt0 d x) (gt0 d y) ≠ 0
  · rw [if_pos e, h1]; rw [ne_eq, h3] at e; omega
  · rw [if_neg e]
    have e2 : gt0 d x = gt0 d y := h3.1 (by omega)
    by_cases e3 : cmpI (y : Int) (x : Int) ≠ 0
    · rw [if_pos e3, h2]; omega
    · rw [if_neg e3]
      have := (cmpI_zero (y : Int) (x : Int)).1 (by omega)
      omega
def ltHd (d : List Int) (x y : Nat) : Prop := gt0 d x < gt0 d y ∨ gt0 d x = gt0 d y ∧ y < x
end Go.Pl
namespace Go.Pl
set_option linter.all false
/-- binary search: the least place in [i, j) whose element is not below -/
def bsGo {α : Type} (p : α → Bool) (l : List α) (i j : Nat) : Nat :=
  if h : i < j then
    (if h2 : (i + j) / 2 < l.length then
      (bif p l[(i + j) / 2] then bsGo p l ((i + j) / 2 + 1) j else bsGo p l i ((i + j) / 2))
    else i)
  else i
termination_by j - i
theorem bsGo_end {α : Type} (p : α → Bool) (l : List α) (i : Nat) : bsGo p l i i = i := by
  rw [bsGo]; simp
theorem bsGo_step {α : Type} (p : α → Bool) (l : List α) (i j : Nat) (h : i < j) (hj : j ≤ l.length) :
    bsGo p l i j = (bif p (l[(i + j) / 2]'(by omega)) then bsGo p l ((i + j) / 2 + 1) j else bsGo p l i ((i + j) / 2)) := by
  rw [bsGo]; simp [h, show (i + j) / 2 < l.length by omega]
def hitAt {α : Type} (p : α → Bool) (l : List α) (i : Nat) : Bool := match l[i]? with | some e => p e | none => false
theorem bsGo_le {α : Type} (p : α → Bool) (l : List α) : ∀ (n i j : Nat), j - i ≤ n → i ≤ j → j ≤ l.length → i ≤ bsGo p l i j ∧ bsGo p l i j ≤ j
  | n, i, j, hn, hi, hj => by
    rw [bsGo]
    by_cases h : i < j
    · have hm : (i + j) / 2 < l.length := by omega
      simp only [h, hm, dif_pos]
      cases n with
      | zero => omega
      | succ n =>
        cases p l[(i + j) / 2] with
        | true => have := bsGo_le p l n ((i + j) / 2 + 1) j (by omega) (by omega) hj; simp only [cond_true]; omega
        | false => have := bsGo_le p l n i ((i + j) / 2) (by omega) (by omega) (by omega); simp only [cond_false]; omega
    · simp only [h, dif_neg, not_false_eq_true]; omega
/-- over a list on which p is first true and then false -/
theorem bsGo_spec {α : Type} (p : α → Bool) (l : List α) (hm : ∀ a b (ha : a < b) (hb : b < l.length), p l[b] = true → p (l[a]'(by omega)) = true) :
    ∀ (n i j : Nat), j - i ≤ n → (hi : i ≤ j) → (hj : j ≤ l.length) →
      (∀ k (hk : k < i), p (l[k]'(by omega)) = true) → (∀ k (hk : j ≤ k) (hl : k < l.length), p l[k] = false) →
      (∀ k (hk : k < bsGo p l i j) (hl : k < l.length), p l[k] = true) ∧ (∀ k (hk : bsGo p l i j ≤ k) (hl : k < l.length), p l[k] = false)
  | n, i, j, hn, hi, hj, h1, h2 => by
    rw [bsGo]
    by_cases h : i < j
    · have hmm : (i + j) / 2 < l.length := by omega
      simp only [h, hmm, dif_pos]
      cases n with
      | zero => omega
      | succ n =>
        cases hp : p l[(i + j) / 2] with
        | true =>
          simp only [cond_true]
          refine bsGo_spec p l hm n ((i + j) / 2 + 1) j (by omega) (by omega) hj ?_ h2
          intro k hk
          by_cases e : k = (i + j) / 2
          · subst e; exact hp
          · exact hm k ((i + j) / 2) (by omega) hmm hp
        | false =>
          simp only [cond_false]
          refine bsGo_spec p l hm n i ((i + j) / 2) (by omega) (by omega) (by omega) h1 ?_
          intro k hk hl
          by_cases e : k = (i + j) / 2
          · subst e; exact hp
          · cases hq : p l[k] with
            | false => rfl
            | true => have := hm ((i + j) / 2) k (by omega) hl hq; rw [hp] at this; exact absurd this (by simp)
    · simp only [h, dif_neg, not_false_eq_true]
      have : i = j := by omega
      exact ⟨fun k hk _ => h1 k hk, fun k hk hl => h2 k (by omega) hl⟩
end Go.Pl
namespace Go.Pl
theorem hitAt_eq {α : Type} [Inhabited α] (l : List α) (i : Nat) (p : α → Bool) : ∃ q, (i < l.length → l[i]? = some q) ∧ hitAt p l i = (decide ((i : Int) < (l.length : Int)) && p q) := by
  by_cases h : i < l.length
  · exact ⟨l[i], fun _ => List.getElem?_eq_getElem h, by simp [hitAt, h]⟩
  · exact ⟨default, fun h' => absurd h' h, by simp [hitAt, h]⟩
end Go.Pl
namespace Go.Pl
open Go.RT
def zE : Edg := ⟨0, 0, 0⟩
/-- what Delete leaves in the room -/
def delL (l : List Edg) (i j : Nat) : List Edg := l.take i ++ l.drop j
theorem delL_len (l : List Edg) (i j : Nat) (h1 : i ≤ j) (h2 : j ≤ l.length) : (delL l i j).length = l.length - (j - i) := by simp [delL]; omega
theorem del_rows (l : List Edg) (k i j : Nat) (h1 : i ≤ j) (h2 : j ≤ l.length) :
    ((l ++ List.replicate k zE).take i ++ l.drop j ++ (l ++ List.replicate k zE).drop (i + (l.length - j))).take (i + (l.length - j)) ++ List.replicate (l.length - (i + (l.length - j))) zE
      ++ ((l ++ List.replicate k zE).take i ++ l.drop j ++ (l ++ List.replicate k zE).drop (i + (l.length - j))).drop (i + (l.length - j) + (l.length - (i + (l.length - j))))
      = delL l i j ++ List.replicate (k + (j - i)) zE := by
  have e1 : (l ++ List.replicate k zE).take i = l.take i := by rw [List.take_append_of_le_length (by omega)]
  have e2 : (l.take i ++ l.drop j).length = i + (l.length - j) := by simp; omega
  rw [e1]
  rw [show i + (l.length - j) + (l.length - (i + (l.length - j))) = l.length by omega]
  have e3 : ((l ++ List.replicate k zE).drop (i + (l.length - j))).drop (l.length - (i + (l.length - j))) = List.replicate k zE := by
    rw [List.drop_drop, show i + (l.length - j) + (l.length - (i + (l.length - j))) = l.length by omega, List.drop_left]
  have e4 : List.replicate (l.length - (i + (l.length - j))) zE ++ List.replicate k zE = List.replicate (k + (j - i)) zE := by
    rw [List.replicate_append_replicate]; congr 1; omega
  show _ = (l.take i ++ l.drop j) ++ _
  generalize hA : l.take i ++ l.drop j = A at *
  generalize hB : (l ++ List.replicate k zE).drop (i + (l.length - j)) = B at *
  rw [List.take_left' e2, List.append_assoc, ← e4, ← e3]
  congr 2
  rw [List.drop_append, e2, List.drop_of_length_le (by omega), List.nil_append]
end Go.Pl
namespace Go.Pl
set_option linter.all false
/-- x put in ahead of place i -/
def insL {α : Type} (l : List α) (i : Nat) (x : α) : List α := l.take i ++ x :: l.drop i
theorem insL_len {α : Type} (l : List α) (i : Nat) (x : α) (h : i ≤ l.length) : (insL l i x).length = l.length + 1 := by simp [insL]; omega
theorem insL_map {α β : Type} (f : α → β) (l : List α) (i : Nat) (x : α) : (insL l i x).map f = insL (l.map f) i (f x) := by simp [insL]
/-- the rows behind the copies of slices.Insert, where it grows -/
theorem ins_grow {β : Type} (l : List β) (i : Nat) (x z : β) (h : i < l.length) :
    (((l.take i ++ List.replicate (l.length + 1 - i) z).take i ++ [x] ++ (l.take i ++ List.replicate (l.length + 1 - i) z).drop (i + 1)).take (i + 1) ++ l.drop i ++
      ((l.take i ++ List.replicate (l.length + 1 - i) z).take i ++ [x] ++ (l.take i ++ List.replicate (l.length + 1 - i) z).drop (i + 1)).drop (i + 1 + (l.length - i))) = insL l i x := by
  have h1 : (l.take i).length = i := by simp; omega
  have e1 : (l.take i ++ List.replicate (l.length + 1 - i) z).take i = l.take i := by rw [List.take_append_of_le_length (by omega), List.take_take]; simp
  rw [e1]
  generalize hd : (l.take i ++ List.replicate (l.length + 1 - i) z).drop (i + 1) = d
  have hdl : d.length = l.length - i := by rw [← hd]; simp; omega
  have h2 : (l.take i ++ [x]).length = i + 1 := by simp; omega
  have e2 : (l.take i ++ [x] ++ d).take (i + 1) = l.take i ++ [x] := by rw [List.take_append_of_le_length (by omega), List.take_of_length_le (by omega)]
  have e3 : (l.take i ++ [x] ++ d).drop (i + 1 + (l.length - i)) = [] := List.drop_of_length_le (by rw [List.length_append, h2, hdl]; omega)
  rw [e2, e3]
  simp [insL]
/-- .. where there is room -/
theorem ins_room {β : Type} (l : List β) (i : Nat) (x : β) (h : i < l.length) :
    ((l.take (i + 1) ++ l.drop i ++ l.drop (i + 1 + (l.length - i))).take i ++ [x] ++ (l.take (i + 1) ++ l.drop i ++ l.drop (i + 1 + (l.length - i))).drop (i + 1)) = insL l i x := by
  have e0 : l.drop (i + 1 + (l.length - i)) = [] := List.drop_of_length_le (by omega)
  have h1 : (l.take (i + 1)).length = i + 1 := by simp; omega
  rw [e0, List.append_nil]
  have e1 : (l.take (i + 1) ++ l.drop i).take i = l.take i := by rw [List.take_append_of_le_length (by omega), List.take_take, Nat.min_eq_left (by omega)]
  have e2 : (l.take (i + 1) ++ l.drop i).drop (i + 1) = l.drop i := by rw [List.drop_append_of_le_length (by omega), List.drop_of_length_le (by omega)]; rfl
  rw [e1, e2]
  simp [insL]
abbrev bsAt (l : List Edg) (x : Edg) : Nat := bsGo (fun e => decide (ordE e x < 0)) l 0 l.length
abbrev bsHit (l : List Edg) (x : Edg) : Bool := hitAt (fun e => decide (ordE e x = 0)) l (bsAt l x)
/-- one change, as the program makes it -/
def chgF (g : Gr) (c : Edg) : Gr × Int :=
  if nodeB g c.f = false ∨ nodeB g c.t = false then (g, 5)
  else if c.c < 0 then (if bsHit g.es c = false then (g, 6) else (⟨g.r, g.n, delL g.es (bsAt g.es c) (bsAt g.es c + 1)⟩, 0))
  else if alwI g c ≠ 0 then (g, alwI g c)
  else if bsHit g.es c = true then (⟨g.r, g.n, g.es.set (bsAt g.es c) c⟩, 0)
  else if g.es.length = 1024 then (g, 4)
  else (⟨g.r, g.n, insL g.es (bsAt g.es c) c⟩, 0)
theorem hitAt_lt {α : Type} {p : α → Bool} {l : List α} {i : Nat} (h : hitAt p l i = true) : ∃ h : i < l.length, p l[i] = true := by
  unfold hitAt at h
  cases hi : l[i]? with
  | none => rw [hi] at h; cases h
  | some e =>
    rw [hi] at h
    obtain ⟨h1, h2⟩ := List.getElem?_eq_some_iff.1 hi
    exact ⟨h1, by rw [h2]; exact h⟩
end Go.Pl
namespace Go.Pl
open Go Go.RT
set_option linter.all false
/- merge: a number put into an ascending list, once -/
def bsI (l : List Int) (x : Int) : Nat := bsGo (fun e => decide (e < x)) l 0 l.length
def hitI (l : List Int) (x : Int) : Bool := hitAt (fun e => decide (e = x)) l (bsI l x)
def insU (l : List Int) (x : Int) : List Int := if hitI l x = true then l else insL l (bsI l x) x
theorem bsI_le (l : List Int) (x : Int) : bsI l x ≤ l.length := (bsGo_le (fun e => decide (e < x)) l (l.length) 0 l.length (by omega) (Nat.zero_le _) (Nat.le_refl _)).2
def capV (r : Int) (v : Nat) (h : Int) : Int := if r ≤ h then (v : Int) else h
end Go.Pl
namespace Go.Pl
open Go Go.RT
set_option linter.all false
/- hops, as the program makes them -/
theorem insU_spec {l : List Int} (h : Asc l) (x : Int) : Asc (insU l x) ∧ ∀ y, y ∈ insU l x ↔ y = x ∨ y ∈ l := by
  have hle := bsI_le l x
  have hg : ∀ a b (ha : a < b) (hb : b < l.length), l[a] < l[b] := fun a b ha hb => List.pairwise_iff_getElem.1 h a b (by omega) hb ha
  have h2 := bsGo_spec (fun e => decide (e < x)) l (fun a b ha hb hp => by
    have := hg a b ha hb
    simp only [decide_eq_true_eq] at hp ⊢; omega) l.length 0 l.length (by omega) (Nat.zero_le _) (Nat.le_refl _) (fun k hk => absurd hk (Nat.not_lt_zero _)) (fun k hk hl => absurd hl (by omega))
  have h3 : ∀ k (hk : k < bsI l x) (hl : k < l.length), l[k] < x := fun k hk hl => by simpa using h2.1 k hk hl
  have h4 : ∀ k (hk : bsI l x ≤ k) (hl : k < l.length), x ≤ l[k] := fun k hk hl => by simpa using h2.2 k hk hl
  unfold insU hitI hitAt
  by_cases hb : bsI l x < l.length
  · rw [List.getElem?_eq_getElem hb]
    simp only [decide_eq_true_eq]
    by_cases he : l[bsI l x] = x
    · rw [if_pos he]
      refine ⟨h, fun y => ⟨fun hy => .inr hy, fun hy => ?_⟩⟩
      rcases hy with h5 | hy
      · rw [h5, ← he]; exact List.getElem_mem hb
      · exact hy
    · rw [if_neg he]
      refine ⟨?_, fun y => ?_⟩
      · unfold insL
        refine List.pairwise_append.2 ⟨h.sublist (List.take_sublist _ _), List.pairwise_cons.2 ⟨fun y hy => ?_, h.sublist (List.drop_sublist _ _)⟩, fun a ha b hb2 => ?_⟩
        · obtain ⟨k, hk, rfl⟩ := List.mem_iff_getElem.1 hy
          rw [List.getElem_drop]
          have q1 := h4 (bsI l x + k) (by omega) (by simp at hk; omega)
          by_cases e : k = 0
          · subst e; simp only [Nat.add_zero] at q1 ⊢; omega
          · have := hg (bsI l x) (bsI l x + k) (by omega) (by simp at hk; omega)
            have := h4 (bsI l x) (Nat.le_refl _) hb
            omega
        · obtain ⟨k, hk, rfl⟩ := List.mem_iff_getElem.1 ha
          rw [List.getElem_take]
          rw [List.length_take] at hk
          have q1 := h3 k (by omega) (by omega)
          rcases List.mem_cons.1 hb2 with rfl | hb2
          · exact q1
          · obtain ⟨k2, hk2, rfl⟩ := List.mem_iff_getElem.1 hb2
            rw [List.getElem_drop]
            simp at hk2
            exact hg k (bsI l x + k2) (by omega) (by omega)
      · unfold insL
        rw [List.mem_append, List.mem_cons]
        have : y ∈ l ↔ y ∈ l.take (bsI l x) ∨ y ∈ l.drop (bsI l x) := by rw [← List.mem_append, List.take_append_drop]
        rw [this]; constructor
        · rintro (h | h | h)
          · exact .inr (.inl h)
          · exact .inl h
          · exact .inr (.inr h)
        · rintro (h | h | h)
          · exact .inr (.inl h)
          · exact .inl h
          · exact .inr (.inr h)
  · have hbe : bsI l x = l.length := by omega
    rw [List.getElem?_eq_none (by omega)]
    rw [if_neg (by simp), hbe]
    unfold insL
    rw [List.take_length, List.drop_length]
    refine ⟨List.pairwise_append.2 ⟨h, by simp, fun a ha b hb2 => ?_⟩, fun y => by simp [or_comm]⟩
    have : b = x := by simpa using hb2
    subst this
    obtain ⟨k, hk, rfl⟩ := List.mem_iff_getElem.1 ha
    exact h3 k (by omega) hk
/-- ascending, all of them nodes -/
def RowOk (n : Nat) (l : List Int) : Prop := Asc l ∧ ∀ x ∈ l, 0 ≤ x ∧ x < n
theorem RowOk.len {n : Nat} {l : List Int} (h : RowOk n l) : l.length ≤ n := by
  have := nodup_len n (l.map Int.toNat) (by
    rw [List.Nodup, List.pairwise_map]
    refine h.1.imp_of_mem fun ha hb hab e => ?_
    have := h.2 _ ha; have := h.2 _ hb; omega) (fun x hx => by
      obtain ⟨y, hy, rfl⟩ := List.mem_map.1 hx
      have := h.2 y hy; omega)
  simpa using this
theorem RowOk.ins {n : Nat} {l : List Int} (h : RowOk n l) {x : Int} (hx : 0 ≤ x ∧ x < n) : RowOk n (insU l x) :=
  ⟨(insU_spec h.1 x).1, fun y hy => by
    rcases ((insU_spec h.1 x).2 y).1 hy with rfl | hy
    · exact hx
    · exact h.2 y hy⟩
abbrev rowAt' (ll : List (List Int)) (v : Nat) : List Int := ll.getD v []
def mergeL (r : Int) (v : Nat) (ll : List (List Int)) (h : Int) : List (List Int) := ll.set v (insU (rowAt' ll v) (capV r v h))
def stepU (r : Int) (a v : Nat) (ll : List (List Int)) (u : Int) : List (List Int) :=
  (rowAt' ll u.toNat).foldl (mergeL r v) (if u = (a : Int) then mergeL r v ll (v : Int) else ll)
def hopsV (r : Int) (a : Nat) (up : List (List Int)) (ll : List (List Int)) (v : Nat) : List (List Int) := (rowAt' up v).foldl (stepU r a v) ll
def hopsL (r : Int) (a n : Nat) (up : List (List Int)) (order : List Nat) : List (List Int) := order.foldl (hopsV r a up) (List.replicate n [])
structure LLok (n : Nat) (ll : List (List Int)) : Prop where
  len : ll.length = n
  row : ∀ v, v < n → RowOk n (rowAt' ll v)
theorem LLok.merge {n : Nat} {ll : List (List Int)} (h : LLok n ll) (r : Int) {v : Nat} (hv : v < n) {x : Int} (hx : 0 ≤ x ∧ x < n) : LLok n (mergeL r v ll x) := by
  refine ⟨by rw [mergeL, List.length_set, h.len], fun w hw => ?_⟩
  unfold mergeL rowAt'
  rw [getD_set _ _ _ _ _ (by rw [h.len]; exact hv)]
  by_cases e : v = w
  · rw [if_pos e]; exact (h.row v hv).ins (by unfold capV; split <;> omega)
  · rw [if_neg e]; exact h.row w hw
theorem merge_other (r : Int) (v : Nat) (ll : List (List Int)) (x : Int) {u : Nat} (h : u ≠ v) : rowAt' (mergeL r v ll x) u = rowAt' ll u := by
  unfold mergeL rowAt'
  rw [List.getD_eq_getElem?_getD, List.getElem?_set_ne (fun e => h e.symm), ← List.getD_eq_getElem?_getD]
theorem foldl_take_succ {α β : Type} (f : β → α → β) (b : β) (l : List α) (i : Nat) (h : i < l.length) : (l.take (i + 1)).foldl f b = f ((l.take i).foldl f b) l[i] := by
  rw [← List.take_append_getElem h, List.foldl_append]; rfl
/-- rows with one cell taken -/
def tkL (irs : List (List (List FV))) (u k : Nat) : List (List PV) := (ownL 1 irs).set u [PV.sl 2 1 0 k]
theorem renO_tk {L : List Nat} (h : renI L 2 = 2) (irs : List (List (List FV))) (u k : Nat) : renO L (.refs 1 (tkL irs u k)) = .refs 1 (tkL irs u k) := by
  have h1 := renO_own L 1 irs
  simp only [renO, Ob.refs.injEq, true_and] at h1 ⊢
  unfold tkL
  rw [List.map_set, h1]
  simp [renPs, renP, h]
theorem ltO_tk {n : Nat} (h : 2 < n) (irs : List (List (List FV))) (u k : Nat) : ltO n (.refs 1 (tkL irs u k)) := fun r hr => by
  rcases List.mem_or_eq_of_mem_set hr with h1 | rfl
  · exact ltO_own n 1 irs r h1
  · simp [ltPs, ltP, Nat.blt_eq, h]
theorem ent_tk {L F : List Nat} {H : Hp} {id : Nat} {irs : List (List (List FV))} {u k : Nat} (h1 : Nat.blt id L.length = true) (h2 : F.contains (renI L id) = false) (hr : renI L 2 = 2) (hl : 2 < L.length) (h3 : hlook H (renI L id) = some (.refs 1 (tkL irs u k))) : Nat.blt id L.length = true ∧ F.contains (renI L id) = false ∧ EntO L F H (renI L id) (.refs 1 (tkL irs u k)) :=
  ent_same h1 h2 (by rw [renO_tk hr]; exact h3) (ltO_tk hl _ _ _)
theorem tk_get {irs : List (List (List FV))} {u v k : Nat} {r : List (List FV)} (hne : u ≠ v) (h : irs[v]? = some r) : (tkL irs u k)[v]? = some [PV.own 1 r] := by
  unfold tkL; rw [List.getElem?_set_ne hne]; exact ownL_get h
theorem tk_len (irs : List (List (List FV))) (u k : Nat) : (tkL irs u k).length = irs.length := by unfold tkL; rw [List.length_set, ownL_len]
theorem tk_back {irs : List (List (List FV))} {u v k : Nat} {x y : List PV} {r : List (List FV)} (hne : u ≠ v) : (((tkL irs u k).set v x).set v y).set v [PV.own 1 r] = tkL (irs.set v r) u k := by
  rw [List.set_set, List.set_set]; unfold tkL
  rw [List.set_comm _ _ (by omega), ownL_set]
theorem tk_back2 {irs : List (List (List FV))} {u v k : Nat} {x : List PV} {r : List (List FV)} (hne : u ≠ v) : ((tkL irs u k).set v x).set v [PV.own 1 r] = tkL (irs.set v r) u k := by
  rw [List.set_set]; unfold tkL
  rw [List.set_comm _ _ (by omega), ownL_set]
theorem tk_put {irs : List (List (List FV))} {u k : Nat} {r : List (List FV)} (h : irs[u]? = some r) : (tkL irs u k).set u [PV.own 1 r] = ownL 1 irs := by
  unfold tkL
  rw [List.set_set, ownL_set]
  congr 1
  apply List.ext_getElem?
  intro i
  rw [List.getElem?_set]
  by_cases e : u = i
  · subst e
    have hlt := (List.getElem?_eq_some_iff.1 h).1
    rw [if_pos rfl, if_pos hlt, h]
  · rw [if_neg e]
end Go.Pl
namespace Go.Pl
open Go Go.RT
set_option linter.all false
def ordP (d : List Int) (a : Nat) (v : Nat) : Bool := decide (gt0 d v ≠ -1) && decide ((v : Int) ≠ (a : Int))
def ordA (d : List Int) (a i : Nat) : List Nat := (List.range i).filter (ordP d a)
theorem ordA_succ (d : List Int) (a i : Nat) : ordA d a (i + 1) = ordA d a i ++ if ordP d a i = true then [i] else [] := by
  unfold ordA
  rw [List.range_succ, List.filter_append]
  congr 1
  by_cases h : ordP d a i = true
  · simp [h]
  · simp [h]
theorem ordA_len (d : List Int) (a i : Nat) : (ordA d a i).length ≤ i := by
  have := List.length_filter_le (ordP d a) (List.range i)
  simpa [ordA] using this
theorem ordA_lt {d : List Int} {a i v : Nat} (h : v ∈ ordA d a i) : v < i := by
  have := (List.mem_filter.1 h).1; simpa using this
theorem LLok.nil (n : Nat) : LLok n (List.replicate n []) := ⟨by simp, fun v hv => by
  have : rowAt' (List.replicate n []) v = [] := getD_rep _ _ _ _ hv
  rw [this]; exact ⟨.nil, fun x h => by cases h⟩⟩
/-- parents: nodes, and others than the node itself -/
structure UpOk (n : Nat) (up : List (List Int)) : Prop where
  len : up.length = n
  row : ∀ v, v < n → (rowAt' up v).length ≤ 2000 ∧ ∀ u ∈ rowAt' up v, 0 ≤ u ∧ u < n ∧ u ≠ (v : Int)
theorem LLok.fold {n : Nat} {r : Int} {v : Nat} (hv : v < n) : ∀ (l : List Int) {ll : List (List Int)}, LLok n ll → (∀ x ∈ l, 0 ≤ x ∧ x < n) → LLok n (l.foldl (mergeL r v) ll)
  | [], _, h, _ => h
  | x :: l, _, h, hx => LLok.fold hv l (h.merge r hv (hx x (by simp))) fun y hy => hx y (by simp [hy])
theorem fold_other {r : Int} {v u : Nat} (huv : u ≠ v) : ∀ (l : List Int) (ll : List (List Int)), rowAt' (l.foldl (mergeL r v) ll) u = rowAt' ll u
  | [], _ => rfl
  | x :: l, ll => (fold_other huv l (mergeL r v ll x)).trans (merge_other r v ll x huv)
theorem LLok.step {n : Nat} {ll : List (List Int)} (h : LLok n ll) (r : Int) {a v : Nat} (hv : v < n) {u : Int} (hu : 0 ≤ u ∧ u < n) : LLok n (stepU r a v ll u) := by
  unfold stepU
  refine LLok.fold hv _ ?_ (h.row u.toNat (by omega)).2
  split
  · exact h.merge r hv (by omega)
  · exact h
theorem LLok.steps {n : Nat} {r : Int} {a v : Nat} (hv : v < n) : ∀ (l : List Int) {ll : List (List Int)}, LLok n ll → (∀ x ∈ l, 0 ≤ x ∧ x < n) → LLok n (l.foldl (stepU r a v) ll)
  | [], _, h, _ => h
  | x :: l, _, h, hx => LLok.steps hv l (h.step r hv (hx x (by simp))) fun y hy => hx y (by simp [hy])
theorem LLok.hops {n : Nat} {r : Int} {a : Nat} {up : List (List Int)} (hu : UpOk n up) : ∀ (l : List Nat) {ll : List (List Int)}, LLok n ll → (∀ x ∈ l, x < n) → LLok n (l.foldl (hopsV r a up) ll)
  | [], _, h, _ => h
  | x :: l, _, h, hx => LLok.hops hu l (LLok.steps (hx x (by simp)) _ h fun y hy => by have := (hu.row x (hx x (by simp))).2 y hy; omega) fun y hy => hx y (by simp [hy])
end Go.Pl
namespace Go.Pl
open Go Go.RT
set_option linter.all false
structure Tr where
  root : Int
  dist : List Int
  hops : List (List Int)
  par : List (List Int)
  deriving DecidableEq
def encTr (t : Tr) : List FV := [If .i64 t.root, VI t.dist, VLL t.hops, VLL t.par]
abbrev OTr (t : Tr) : Option Ob := some (.flat 4 [encTr t])
def zeroT : Tr := ⟨0, [], [], []⟩
/-- what a shortest-path run makes -/
structure RunOk (g : Gr) (a : Nat) (t : Tr) : Prop where
  ok : checkI g = 0
  lt : (a : Int) < g.r
  root : t.root = a
  dl : t.dist.length = (g.r + g.n).toNat
  dist : ∀ v, v < (g.r + g.n).toNat → IsD g.es a v (gt0 t.dist v)
  par : t.par = parL g.es a t.dist (g.r + g.n).toNat
  hops : ∃ l2 : List Nat, l2.Perm (ordA t.dist a (g.r + g.n).toNat) ∧ l2.Pairwise (ltHd t.dist) ∧ t.hops = hopsL g.r a (g.r + g.n).toNat t.par l2
theorem IsD.ge {es : List Edg} {r n a v : Nat} {d : Int} (vg : VG es r n) (h : IsD es a v d) : -1 ≤ d := by
  rcases h with ⟨h, _⟩ | ⟨h, _⟩
  · omega
  · have := h.nn vg; omega
theorem parE_len (es : List Edg) (a : Nat) (d : List Int) (v : Nat) : (parE es a d v).length ≤ es.length := by unfold parE; rw [List.length_map]; exact List.length_filter_le _ _
theorem parL_ok {es : List Edg} {r n : Nat} (vg : VG es r n) (a : Nat) (d : List Int) : UpOk n (parL es a d n) := by
  refine ⟨parL_len _ _ _ _, fun v hv => ?_⟩
  have e : rowAt' (parL es a d n) v = parE es a d v := parL_get es a d hv
  rw [e]
  refine ⟨by have := parE_len es a d v; have := vg.e1024; omega, fun u hu => ?_⟩
  obtain ⟨x, hx, rfl⟩ := List.mem_map.1 hu
  obtain ⟨h1, h2⟩ := List.mem_filter.1 hx
  simp only [Bool.and_eq_true, decide_eq_true_eq] at h2
  have := vg.f x h1; have := vg.ne x h1
  exact ⟨by omega, by omega, fun e => by omega⟩
/-- a bound on distances -/
theorem IsD.le {es : List Edg} {r n a v : Nat} {d : Int} (vg : VG es r n) (ha : a < n) (h : IsD es a v d) {D : List Int} (hl : D.length = n) (hD : ∀ v, v < n → IsD es a v (gt0 D v)) (hk : ∀ v, v < n → gt0 D v ≤ 10000000) (hv : v < n) : d ≤ 10000000 := by
  rw [h.uniq (hD v hv)]; exact hk v hv
end Go.Pl
namespace Go.Pl
open Go Go.RT
set_option linter.all false
theorem relax_ex {es : List Edg} {r n a x : Nat} {kx : Int} {dist : List Int} (vg : VG es r n) (hx : gt0 dist x = kx) (h0 : 0 ≤ kx) (hb : kx + 65535 ≤ 65535 * cntP dist) : ∀ (todo : List Edg) (h : Hq), (∀ e ∈ todo, e ∈ es ∧ e.f = (x : Int)) → DJ es n a dist h todo → ∃ h', DJ es n a dist h' []
  | [], h, _, o => ⟨h, o⟩
  | e :: todo, h, ht, o => by
    obtain ⟨he, hef⟩ := ht e (by simp)
    have hfx : gt0 dist e.f.toNat = kx := by rw [hef, Int.toNat_natCast]; exact hx
    by_cases hc : gt0 dist e.t.toNat < 0 ∧ (h.place e.t.toNat < 0 ∨ gt0 dist e.f.toNat + e.c < h.key e.t.toNat)
    · exact relax_ex vg hx h0 hb todo _ (fun e' h' => ht e' (by simp [h'])) (o.put vg he (by omega) (by omega) hc)
    · exact relax_ex vg hx h0 hb todo _ (fun e' h' => ht e' (by simp [h'])) (o.skip vg hc)
theorem run_ex {es : List Edg} {r n a : Nat} (vg : VG es r n) (ha : a < n) : ∀ (m : Nat) (dist : List Int) (h : Hq), n - cntP dist ≤ m → DJ es n a dist h [] → (∀ v, v < n → gt0 dist v ≤ 65535 * cntP dist) → ∃ D : List Int, D.length = n ∧ (∀ v, v < n → IsD es a v (gt0 D v)) ∧ ∀ v, v < n → gt0 D v ≤ 8388480
  | m, dist, h, hm, o, hb => by
    by_cases he : h.it = []
    · refine ⟨dist, o.dl, fun v hv => o.done vg ha he hv, fun v hv => ?_⟩
      have h1 := hb v hv
      have h2 := cntP_le dist
      have h3 := vg.n128
      rw [o.dl] at h2; omega
    · have hne : 0 < h.it.length := Nat.pos_of_ne_zero fun e => he (List.length_eq_zero_iff.1 e)
      obtain ⟨x1, x2, x3, x4, x5, x6⟩ := o.pop vg ha hne
      have hcl := cntP_le (dist.set (h.item 0) (h.key (h.item 0)))
      rw [List.length_set, o.dl] at hcl
      have hget : ∀ v, gt0 (dist.set (h.item 0) (h.key (h.item 0))) v = if h.item 0 = v then h.key (h.item 0) else gt0 dist v := fun v => getD_set _ _ _ _ _ (by rw [o.dl]; exact x1)
      obtain ⟨h', o'⟩ := relax_ex vg (by rw [hget, if_pos rfl]) x3 (by rw [x5]; omega) _ _ (fun e he => by simpa using he) x6
      match m with
      | 0 => omega
      | m + 1 =>
        refine run_ex vg ha m _ h' (by omega) o' fun v hv => ?_
        rw [hget, x5]
        have := hb v hv
        split <;> omega
theorem dist_ex {es : List Edg} {r n a : Nat} (vg : VG es r n) (ha : a < n) : ∃ D : List Int, D.length = n ∧ (∀ v, v < n → IsD es a v (gt0 D v)) ∧ ∀ v, v < n → gt0 D v ≤ 8388480 := by
  obtain ⟨o, h0⟩ := DJ.start vg ha
  refine run_ex vg ha n _ _ (by omega) o fun v hv => ?_
  rw [h0]
  have : gt0 (List.replicate n (-1)) v = -1 := getD_rep _ _ _ _ hv
  rw [this]; omega
theorem IsD.small {es : List Edg} {r n a v : Nat} {d : Int} (vg : VG es r n) (ha : a < n) (hv : v < n) (h : IsD es a v d) : -1 ≤ d ∧ d ≤ 8388480 := by
  obtain ⟨D, h1, h2, h3⟩ := dist_ex vg ha
  rw [h.uniq (h2 v hv)]
  exact ⟨(h2 v hv).ge vg, h3 v hv⟩
theorem srt_ex (d : List Int) : ∀ (l : List Nat), l.Nodup → ∃ l2 : List Nat, l2.Perm l ∧ l2.Pairwise (ltHd d)
  | [], _ => ⟨[], .nil, .nil⟩
  | x :: l, h => by
    obtain ⟨h1, h2⟩ := List.nodup_cons.1 h
    obtain ⟨l2, p, q⟩ := srt_ex d l h2
    have : ∀ (l2 : List Nat), x ∉ l2 → l2.Pairwise (ltHd d) → ∃ l3 : List Nat, l3.Perm (x :: l2) ∧ l3.Pairwise (ltHd d) := by
      intro l2
      induction l2 with
      | nil => exact fun _ _ => ⟨[x], .refl _, by simp⟩
      | cons y l2 ih =>
        intro hx hq
        obtain ⟨q1, q2⟩ := List.pairwise_cons.1 hq
        by_cases hxy : ltHd d x y
        · refine ⟨x :: y :: l2, .refl _, List.pairwise_cons.2 ⟨fun z hz => ?_, hq⟩⟩
          rcases List.mem_cons.1 hz with rfl | hz
          · exact hxy
          · have := q1 z hz; unfold ltHd at *; omega
        · obtain ⟨l3, p3, q3⟩ := ih (fun e => hx (by simp [e])) q2
          refine ⟨y :: l3, (p3.cons y).trans (List.Perm.swap x y l2), List.pairwise_cons.2 ⟨fun z hz => ?_, q3⟩⟩
          rcases List.mem_cons.1 (p3.mem_iff.1 hz) with rfl | hz
          · have hne : z ≠ y := fun e => hx (by simp [e])
            unfold ltHd at *; omega
          · exact q1 z hz
    obtain ⟨l3, p3, q3⟩ := this l2 (fun e => h1 (p.mem_iff.1 e)) q
    exact ⟨l3, p3.trans (p.cons x), q3⟩
theorem run_exists {g : Gr} {a : Nat} (h : checkI g = 0) (ha : (a : Int) < g.r) : ∃ t, RunOk g a t := by
  obtain ⟨vg, h0, h1⟩ := checkI_vg h
  obtain ⟨D, d1, d2, d3⟩ := dist_ex vg (a := a) (by omega)
  obtain ⟨l2, p, q⟩ := srt_ex D (ordA D a (g.r + g.n).toNat) (List.nodup_range.filter _)
  exact ⟨⟨a, D, hopsL g.r a (g.r + g.n).toNat (parL g.es a D (g.r + g.n).toNat) l2, parL g.es a D (g.r + g.n).toNat⟩, h, ha, rfl, d1, d2, rfl, l2, p, q, rfl⟩
end Go.Pl
namespace Go.Pl
open Go Go.RT
set_option linter.all false
/- the path, as the program finds it -/
def aboveL (par : List (List Int)) (v : Int) : List Int := if v < 0 ∨ (par.length : Int) ≤ v then [] else rowAt' par v.toNat
def push (l : List Int) (u : Int) : List Int := if u ∈ l then l else l ++ [u]
def bfsGo (ab : Int → List Int) : Nat → Nat → List Int → List Int
  | 0, _, l => l
  | f + 1, i, l => match l[i]? with
    | some x => bfsGo ab f (i + 1) ((ab x).foldl push l)
    | none => l
def needL (par : List (List Int)) (n : Nat) (to : Int) : List Int := bfsGo (aboveL par) (n + 1) 0 [to]
def nextAt (par : List (List Int)) (nd : List Int) (at_ : Int) (v : Nat) : Bool := decide ((v : Int) ∈ nd) && decide (at_ ∈ aboveL par v)
def nextG (par : List (List Int)) (nd : List Int) (at_ : Int) (n : Nat) : Nat → Nat → Int
  | 0, _ => -1
  | f + 1, v => if v < n then (if nextAt par nd at_ v = true then (v : Int) else nextG par nd at_ n f (v + 1)) else -1
def pathG (par : List (List Int)) (nd : List Int) (n : Nat) (to : Int) : Nat → Int → List Int → List Int
  | 0, _, out => out
  | f + 1, at_, out => if at_ = to then out else
    if nextG par nd at_ n n 0 < 0 ∨ (n : Int) < (out.length : Int) then [] else pathG par nd n to f (nextG par nd at_ n n 0) (out ++ [nextG par nd at_ n n 0])
def pathL (t : Tr) (to : Int) : List Int :=
  if to < 0 ∨ (t.dist.length : Int) ≤ to ∨ gt0 t.dist to.toNat < 0 then [] else
  pathG t.par (needL t.par t.dist.length to) t.dist.length to (t.dist.length + 2) t.root [t.root]
abbrev prs (l : List Int) : List (Int × Bool) := l.map fun u => (u, true)
theorem mget_prs (l : List Int) (u : Int) : (mget (prs l) u).getD false = decide (u ∈ l) := by
  induction l with
  | nil => rfl
  | cons x l ih =>
    simp only [prs, List.map_cons, mget, List.mem_cons]
    by_cases e : x = u
    · simp [e]
    · rw [if_neg e, ih]; simp; exact fun h => absurd h.symm e
theorem mput_prs {l : List Int} {u : Int} (h : u ∉ l) : mput (prs l) u true = prs (l ++ [u]) := by
  rw [mput_new (fun p hp => by obtain ⟨x, hx, rfl⟩ := List.mem_map.1 hp; exact fun e => h (by dsimp only at e; rwa [e] at hx))]
  simp [prs]
theorem prs_nodup {l : List Int} (h : l.Nodup) : ((prs l).map (·.1)).Nodup := by simpa [prs, Function.comp_def] using h
/-- a list of nodes, each once -/
def NdL (n : Nat) (l : List Int) : Prop := l.Nodup ∧ ∀ x ∈ l, 0 ≤ x ∧ x < n
theorem NdL.len {n : Nat} {l : List Int} (h : NdL n l) : l.length ≤ n := by
  have := nodup_len n (l.map Int.toNat) (by
    rw [List.Nodup, List.pairwise_map]
    refine h.1.imp_of_mem fun ha hb hab e => hab ?_
    have := h.2 _ ha; have := h.2 _ hb; omega) (fun x hx => by
      obtain ⟨y, hy, rfl⟩ := List.mem_map.1 hx
      have := h.2 y hy; omega)
  simpa using this
theorem NdL.push {n : Nat} {l : List Int} (h : NdL n l) {u : Int} (hu : 0 ≤ u ∧ u < n) : NdL n (push l u) := by
  unfold Pl.push
  split
  · exact h
  · next hm =>
    refine ⟨List.nodup_append.2 ⟨h.1, by simp, fun a ha b hb e => hm ?_⟩, fun x hx => ?_⟩
    · have : b = u := by simpa using hb
      rw [← this, ← e]; exact ha
    · rcases List.mem_append.1 hx with h1 | h1
      · exact h.2 x h1
      · have : x = u := by simpa using h1
        rw [this]; exact hu
theorem NdL.pushs {n : Nat} : ∀ (k : List Int) {l : List Int}, NdL n l → (∀ u ∈ k, 0 ≤ u ∧ u < n) → NdL n (k.foldl Pl.push l)
  | [], _, h, _ => h
  | x :: k, _, h, hk => NdL.pushs k (h.push (hk x (by simp))) fun u hu => hk u (by simp [hu])
theorem aboveL_ok {n : Nat} {par : List (List Int)} (hup : UpOk n par) (v : Int) : (aboveL par v).length ≤ 2000 ∧ ∀ u ∈ aboveL par v, 0 ≤ u ∧ u < n := by
  unfold aboveL
  split
  · simp
  · next h =>
    have := hup.row v.toNat (by rw [← hup.len]; omega)
    exact ⟨this.1, fun u hu => by have := this.2 u hu; omega⟩
end Go.Pl
namespace Go.Pl
theorem push_le1 (l : List Int) (u : Int) : l.length ≤ (push l u).length := by unfold push; split <;> simp
theorem push_le : ∀ (k l : List Int), l.length ≤ (k.foldl push l).length
  | [], _ => Nat.le_refl _
  | x :: k, l => Nat.le_trans (push_le1 l x) (push_le k _)
end Go.Pl
namespace Go.Pl
open Go Go.RT
set_option linter.all false
theorem isD_low {es : List Edg} {a : Nat} {D : List Int} (h0 : gt0 D a = 0) (he : ∀ e ∈ es, 0 ≤ gt0 D e.f.toNat → 0 ≤ gt0 D e.t.toNat ∧ gt0 D e.t.toNat ≤ gt0 D e.f.toNat + e.c) {v : Nat} {c : Int} (w : Wk es a v c) : 0 ≤ gt0 D v ∧ gt0 D v ≤ c := by
  induction w with
  | nil => omega
  | snoc w h ih => have := he _ h ih.1; omega
theorem isD_cert {es : List Edg} {a n : Nat} {D : List Int} (h0 : gt0 D a = 0) (he : ∀ e ∈ es, 0 ≤ gt0 D e.f.toNat → 0 ≤ gt0 D e.t.toNat ∧ gt0 D e.t.toNat ≤ gt0 D e.f.toNat + e.c) (hw : ∀ v, v < n → gt0 D v = -1 ∨ Wk es a v (gt0 D v)) : ∀ v, v < n → IsD es a v (gt0 D v) := fun v hv => by
  rcases hw v hv with h | h
  · exact .inl ⟨h, fun c w => by have := isD_low h0 he w; omega⟩
  · exact .inr ⟨h, fun c w => (isD_low h0 he w).2⟩
def gr1 : Gr := ⟨4, 0, [⟨0, 1, 1⟩, ⟨0, 3, 1⟩, ⟨1, 0, 1⟩, ⟨1, 2, 1⟩, ⟨2, 1, 1⟩, ⟨2, 3, 1⟩, ⟨3, 0, 1⟩, ⟨3, 2, 1⟩]⟩
def gr2 : Gr := ⟨2, 1, [⟨0, 2, 3⟩, ⟨1, 2, 3⟩, ⟨2, 0, 0⟩, ⟨2, 1, 0⟩]⟩
def tr1 : Tr := ⟨0, [0, 1, 2, 1], [[], [1], [1, 3], [3]], [[], [0], [1, 3], [0]]⟩
def tr2 : Tr := ⟨0, [0, 3, 3], [[], [1], [2]], [[], [2], [0]]⟩
theorem Wk.one {es : List Edg} {a u v : Nat} {c k : Int} (w : Wk es a u c) (f t : Int) (hf : f.toNat = u) (ht : t.toNat = v) (h : ⟨f, t, k⟩ ∈ es) : Wk es a v (c + k) := by
  subst hf; subst ht; exact .snoc w h
theorem run1 : RunOk gr1 0 tr1 := by
  refine ⟨by decide, by decide, rfl, rfl, isD_cert (by decide) (by decide) fun v hv => ?_, by decide, [3, 1, 2], by decide, ?_, by decide +kernel⟩
  · have hv4 : v < 4 := hv
    have w1 : Wk gr1.es 0 1 1 := Wk.one .nil 0 1 rfl rfl (k := 1) (by decide)
    match v, hv4 with
    | 0, _ => exact .inr .nil
    | 1, _ => exact .inr w1
    | 2, _ => exact .inr (Wk.one w1 1 2 rfl rfl (k := 1) (by decide))
    | 3, _ => exact .inr (Wk.one .nil 0 3 rfl rfl (k := 1) (by decide))
  · simp [ltHd, tr1, gt0]
theorem run2 : RunOk gr2 0 tr2 := by
  refine ⟨by decide, by decide, rfl, rfl, isD_cert (by decide) (by decide) fun v hv => ?_, by decide, [2, 1], by decide, ?_, by decide +kernel⟩
  · have hv4 : v < 3 := hv
    have w1 : Wk gr2.es 0 2 3 := Wk.one .nil 0 2 rfl rfl (k := 3) (by decide)
    match v, hv4 with
    | 0, _ => exact .inr .nil
    | 1, _ => exact .inr (Wk.one w1 2 1 rfl rfl (k := 0) (by decide))
    | 2, _ => exact .inr w1
  · simp [ltHd, tr2, gt0]
theorem path1 : pathL tr1 2 = [0, 1, 2] := by decide +kernel
theorem gr1_ok : okG gr1 := ⟨by decide, by decide, by unfold okEs okE gr1; decide⟩
theorem gr2_ok : okG gr2 := ⟨by decide, by decide, by unfold okEs okE gr2; decide⟩
end Go.Pl
namespace Go.Pl
open Go Go.RT
set_option linter.all false
theorem merge_mem {n : Nat} {ll : List (List Int)} (h : LLok n ll) (r : Int) {v : Nat} (hv : v < n) (y x : Int) : x ∈ rowAt' (mergeL r v ll y) v ↔ x = capV r v y ∨ x ∈ rowAt' ll v := by
  have e : rowAt' (mergeL r v ll y) v = insU (rowAt' ll v) (capV r v y) := by
    unfold mergeL
    show (ll.set v _).getD v [] = _
    rw [getD_set _ _ _ _ _ (by rw [h.len]; exact hv), if_pos rfl]
  rw [e]; exact (insU_spec (h.row v hv).1 _).2 x
theorem fold_mem {n : Nat} {r : Int} {v : Nat} (hv : v < n) : ∀ (l : List Int) {ll : List (List Int)}, LLok n ll → (∀ x ∈ l, 0 ≤ x ∧ x < n) → ∀ x, x ∈ rowAt' (l.foldl (mergeL r v) ll) v ↔ (∃ h ∈ l, x = capV r v h) ∨ x ∈ rowAt' ll v
  | [], _, _, _, x => by simp
  | y :: l, ll, h, hl, x => by
    have := fold_mem (r := r) hv l (h.merge r hv (hl y (by simp))) (fun z hz => hl z (by simp [hz])) x
    rw [List.foldl_cons, this, merge_mem h r hv]
    constructor
    · rintro (⟨z, hz, e⟩ | e | e)
      · exact .inl ⟨z, by simp [hz], e⟩
      · exact .inl ⟨y, by simp, e⟩
      · exact .inr e
    · rintro (⟨z, hz, e⟩ | e)
      · rcases List.mem_cons.1 hz with rfl | hz
        · exact .inr (.inl e)
        · exact .inl ⟨z, hz, e⟩
      · exact .inr (.inr e)
def Src (r : Int) (a v : Nat) (ll : List (List Int)) (u x : Int) : Prop := (u = (a : Int) ∧ x = capV r v (v : Int)) ∨ ∃ h ∈ rowAt' ll u.toNat, x = capV r v h
theorem step_mem {n : Nat} {r : Int} {a v : Nat} (hv : v < n) {ll : List (List Int)} (h : LLok n ll) {u : Int} (hu : 0 ≤ u ∧ u < n) (x : Int) : x ∈ rowAt' (stepU r a v ll u) v ↔ Src r a v ll u x ∨ x ∈ rowAt' ll v := by
  unfold stepU Src
  by_cases e : u = (a : Int)
  · rw [if_pos e, fold_mem hv _ (h.merge r hv (by omega)) (h.row u.toNat (by omega)).2, merge_mem h r hv]
    constructor
    · rintro (h1 | h1 | h1)
      · exact .inl (.inr h1)
      · exact .inl (.inl ⟨e, h1⟩)
      · exact .inr h1
    · rintro ((⟨_, h1⟩ | h1) | h1)
      · exact .inr (.inl h1)
      · exact .inl h1
      · exact .inr (.inr h1)
  · rw [if_neg e, fold_mem hv _ h (h.row u.toNat (by omega)).2]
    constructor
    · rintro (h1 | h1)
      · exact .inl (.inr h1)
      · exact .inr h1
    · rintro ((⟨h1, _⟩ | h1) | h1)
      · exact absurd h1 e
      · exact .inl h1
      · exact .inr h1
theorem step_other {r : Int} {a v : Nat} {ll : List (List Int)} {u : Int} {w : Nat} (hw : w ≠ v) : rowAt' (stepU r a v ll u) w = rowAt' ll w := by
  unfold stepU
  rw [fold_other hw]
  split
  · exact merge_other _ _ _ _ hw
  · rfl
theorem steps_mem {n : Nat} {r : Int} {a v : Nat} (hv : v < n) : ∀ (l : List Int) {ll : List (List Int)}, LLok n ll → (∀ u ∈ l, 0 ≤ u ∧ u < n ∧ u ≠ (v : Int)) → (∀ x, x ∈ rowAt' (l.foldl (stepU r a v) ll) v ↔ (∃ u ∈ l, Src r a v ll u x) ∨ x ∈ rowAt' ll v) ∧ ∀ w, w ≠ v → rowAt' (l.foldl (stepU r a v) ll) w = rowAt' ll w
  | [], _, _, _ => ⟨fun x => by simp, fun w _ => rfl⟩
  | y :: l, ll, h, hl => by
    have hy := hl y (by simp)
    obtain ⟨i1, i2⟩ := steps_mem (r := r) (a := a) hv l (h.step r hv (u := y) (a := a) (by omega)) (fun z hz => hl z (by simp [hz]))
    refine ⟨fun x => ?_, fun w hw => (i2 w hw).trans (step_other hw)⟩
    have hs : ∀ u ∈ l, ∀ x, Src r a v (stepU r a v ll y) u x ↔ Src r a v ll u x := fun u hu x => by
      unfold Src
      rw [step_other (by have := hl u (by simp [hu]); omega)]
    rw [List.foldl_cons, i1, step_mem hv h (by omega)]
    constructor
    · rintro (⟨z, hz, e⟩ | e | e)
      · exact .inl ⟨z, by simp [hz], (hs z hz x).1 e⟩
      · exact .inl ⟨y, by simp, e⟩
      · exact .inr e
    · rintro (⟨z, hz, e⟩ | e)
      · rcases List.mem_cons.1 hz with rfl | hz
        · exact .inr (.inl e)
        · exact .inl ⟨z, hz, (hs z hz x).2 e⟩
      · exact .inr (.inr e)
structure HopInv (r : Int) (a n : Nat) (up : List (List Int)) (done : List Nat) (ll : List (List Int)) : Prop where
  ok : LLok n ll
  off : ∀ v, v < n → v ∉ done → rowAt' ll v = []
  on : ∀ v ∈ done, ∀ x, x ∈ rowAt' ll v ↔ ∃ u ∈ rowAt' up v, Src r a v ll u x
theorem hops_inv {r : Int} {a n : Nat} {up : List (List Int)} (hup : UpOk n up) : ∀ (l done : List Nat) {ll : List (List Int)}, HopInv r a n up done ll → (∀ v ∈ done, ∀ u ∈ rowAt' up v, u = (a : Int) ∨ u.toNat ∈ done) → a ∉ done → a ∉ l → (∀ v ∈ l, v < n) → (done ++ l).Nodup →
    (∀ p v q, l = p ++ v :: q → ∀ u ∈ rowAt' up v, u = (a : Int) ∨ u.toNat ∈ done ++ p) → HopInv r a n up (done ++ l) (l.foldl (hopsV r a up) ll)
  | [], done, ll, h, _, _, _, _, _, _ => by simpa using h
  | v :: l, done, ll, h, hcl, had, hal, hlt, hnd, htop => by
    have hv := hlt v (by simp)
    have hvd : v ∉ done := fun e => (List.nodup_append.1 hnd).2.2 v e v (by simp) rfl
    have hva : a ≠ v := fun e => hal (by rw [e]; simp)
    obtain ⟨q1, q2⟩ := steps_mem (r := r) (a := a) hv (rowAt' up v) h.ok (fun u hu => (hup.row v hv).2 u hu)
    have hok : LLok n (hopsV r a up ll v) := LLok.steps hv _ h.ok fun x hx => by have := (hup.row v hv).2 x hx; omega
    have hnew : HopInv r a n up (done ++ [v]) (hopsV r a up ll v) := by
      refine ⟨hok, fun w hw hwd => ?_, fun w hw x => ?_⟩
      · have hne : w ≠ v := fun e => hwd (by simp [e])
        exact (q2 w hne).trans (h.off w hw fun e => hwd (by simp [e]))
      · rcases List.mem_append.1 hw with hw | hw
        · have hne : w ≠ v := fun e => hvd (by rw [← e]; exact hw)
          show x ∈ rowAt' (hopsV r a up ll v) w ↔ _
          rw [show rowAt' (hopsV r a up ll v) w = rowAt' ll w from q2 w hne, h.on w hw x]
          refine exists_congr fun u => and_congr_right fun hu => ?_
          unfold Src
          have hut : u.toNat ≠ v := by
            rcases hcl w hw u hu with e | e
            · omega
            · exact fun e2 => hvd (by rw [← e2]; exact e)
          rw [show rowAt' (hopsV r a up ll v) u.toNat = rowAt' ll u.toNat from q2 _ hut]
        · have : w = v := by simpa using hw
          subst this
          show x ∈ rowAt' ((rowAt' up w).foldl (stepU r a w) ll) w ↔ _
          rw [q1 x, h.off w hv hvd]
          simp only [List.not_mem_nil, or_false]
          refine exists_congr fun u => and_congr_right fun hu => ?_
          unfold Src
          have hut : u.toNat ≠ w := by have := (hup.row w hv).2 u hu; omega
          rw [show rowAt' (hopsV r a up ll w) u.toNat = rowAt' ll u.toNat from q2 _ hut]
    have := hops_inv hup l (done ++ [v]) hnew (fun w hw u hu => by
      rcases List.mem_append.1 hw with hw | hw
      · rcases hcl w hw u hu with e | e
        · exact .inl e
        · exact .inr (by simp [e])
      · have : w = v := by simpa using hw
        subst this
        rcases htop [] w l rfl u hu with e | e
        · exact .inl e
        · exact .inr (by simp at e; simp [e])) (by simp [had, hva]) (fun e => hal (by simp [e])) (fun w hw => hlt w (by simp [hw])) (by simpa using hnd) (fun p w q e u hu => by
        rcases htop (v :: p) w q (by rw [e]; rfl) u hu with e2 | e2
        · exact .inl e2
        · exact .inr (by simpa using e2))
    simpa using this
end Go.Pl
namespace Go.Pl
open Go Go.RT
set_option linter.all false
abbrev Gr.m (g : Gr) : Nat := (g.r + g.n).toNat
theorem IsD.cases {es : List Edg} {r n a v : Nat} {d : Int} (vg : VG es r n) (h : IsD es a v d) : (d = -1 ∧ ∀ c, ¬ Wk es a v c) ∨ (0 ≤ d ∧ Wk es a v d ∧ ∀ c, Wk es a v c → d ≤ c) := by
  rcases h with h | h
  · exact .inl h
  · exact .inr ⟨h.1.nn vg, h⟩
end Go.Pl
namespace Go.Pl
open Go Go.RT
set_option linter.all false
theorem RunOk.vg {g : Gr} {a : Nat} {t : Tr} (h : RunOk g a t) : VG g.es g.r.toNat g.m := (checkI_vg h.ok).1
theorem RunOk.am {g : Gr} {a : Nat} {t : Tr} (h : RunOk g a t) : a < g.m := by have := (checkI_vg h.ok).2; have := h.lt; unfold Gr.m; omega
theorem RunOk.parl {g : Gr} {a : Nat} {t : Tr} (h : RunOk g a t) : t.par.length = g.m := by rw [h.par, parL_len]
theorem RunOk.up {g : Gr} {a : Nat} {t : Tr} (h : RunOk g a t) : UpOk g.m t.par := by rw [h.par]; exact parL_ok h.vg _ _
theorem RunOk.edge {g : Gr} {a : Nat} {t : Tr} (h : RunOk g a t) {e : Edg} (he : e ∈ g.es) (h0 : 0 ≤ gt0 t.dist e.f.toNat) : 0 ≤ gt0 t.dist e.t.toNat ∧ gt0 t.dist e.t.toNat ≤ gt0 t.dist e.f.toNat + e.c := by
  have vg := h.vg
  have hf := vg.f e he; have ht := vg.t e he
  rcases (h.dist e.f.toNat (by show _ < g.m; omega)).cases vg with ⟨h1, _⟩ | ⟨_, h2, _⟩
  · omega
  · have w := Wk.snoc h2 he
    rcases (h.dist e.t.toNat (by show _ < g.m; omega)).cases vg with ⟨_, h4⟩ | ⟨h3, _, h5⟩
    · exact absurd w (h4 _)
    · exact ⟨h3, h5 _ w⟩
theorem RunOk.root0 {g : Gr} {a : Nat} {t : Tr} (h : RunOk g a t) : gt0 t.dist a = 0 := by
  have vg := h.vg
  rcases (h.dist a h.am).cases vg with ⟨_, h2⟩ | ⟨h1, _, h3⟩
  · exact absurd .nil (h2 0)
  · have := h3 0 .nil; omega
theorem RunOk.par_mem {g : Gr} {a : Nat} {t : Tr} (h : RunOk g a t) {v : Nat} (hv : v < g.m) (u : Int) : u ∈ rowAt' t.par v ↔ v ≠ a ∧ ∃ e ∈ g.es, e.f = u ∧ e.t = (v : Int) ∧ gt0 t.dist e.f.toNat ≠ -1 ∧ gt0 t.dist e.f.toNat + e.c = gt0 t.dist v := by
  have e0 : rowAt' t.par v = parE g.es a t.dist v := by rw [h.par]; exact parL_get _ _ _ hv
  rw [e0]
  unfold parE
  simp only [List.mem_map, List.mem_filter, Bool.and_eq_true, decide_eq_true_eq, parC]
  constructor
  · rintro ⟨e, ⟨he, ⟨⟨h1, h2⟩, h3⟩, h4⟩, h5⟩
    refine ⟨by omega, e, he, h5, h4, h2, ?_⟩
    rw [h4, Int.toNat_natCast] at h3; exact h3
  · rintro ⟨hne, e, he, h5, h4, h2, h3⟩
    refine ⟨e, ⟨he, ⟨⟨by omega, h2⟩, ?_⟩, h4⟩, h5⟩
    rw [h4, Int.toNat_natCast]; exact h3
theorem RunOk.dge {g : Gr} {a : Nat} {t : Tr} (h : RunOk g a t) {v : Nat} (hv : v < g.m) : -1 ≤ gt0 t.dist v := (h.dist v hv).ge h.vg
theorem RunOk.par_ex {g : Gr} {a : Nat} {t : Tr} (h : RunOk g a t) {v : Nat} (hv : v < g.m) (hne : v ≠ a) (h0 : 0 ≤ gt0 t.dist v) : ∃ u, u ∈ rowAt' t.par v := by
  have vg := h.vg
  rcases (h.dist v hv).cases vg with ⟨h1, _⟩ | ⟨_, w, hm⟩
  · omega
  · generalize hd : gt0 t.dist v = d at w hm
    have key : ∀ {v' : Nat} {d' : Int}, Wk g.es a v' d' → v' = v → d' = d → ∃ u, u ∈ rowAt' t.par v := fun {v' d'} w' hv' hd' => by
      cases w' with
      | nil => exact absurd hv'.symm hne
      | @snoc e c w2 he =>
        have hf := vg.f e he; have ht := vg.t e he
        rcases (h.dist e.f.toNat (by show _ < g.m; omega)).cases vg with ⟨_, h4⟩ | ⟨h3, _, h5⟩
        · exact absurd w2 (h4 _)
        · have h6 := h5 _ w2
          have h7 := (h.edge he h3).2
          rw [hv'] at h7
          exact ⟨e.f, (h.par_mem hv _).2 ⟨hne, e, he, rfl, by omega, by omega, by omega⟩⟩
    exact key w rfl rfl
theorem split_before {d : List Int} {l p q : List Nat} {v u : Nat} (hs : l.Pairwise (ltHd d)) (e : l = p ++ v :: q) (hu : u ∈ l) (hlt : ltHd d u v) : u ∈ p := by
  subst e
  rcases List.mem_append.1 hu with h | h
  · exact h
  · exfalso
    have h2 := (List.pairwise_append.1 hs).2.1
    rcases List.mem_cons.1 h with rfl | h
    · unfold ltHd at hlt; omega
    · have := (List.pairwise_cons.1 h2).1 u h
      unfold ltHd at *; omega
theorem ordA_mem {d : List Int} {a i v : Nat} : v ∈ ordA d a i ↔ v < i ∧ gt0 d v ≠ -1 ∧ v ≠ a := by
  unfold ordA ordP
  simp only [List.mem_filter, List.mem_range, Bool.and_eq_true, decide_eq_true_eq]
  omega
theorem RunOk.hopInv {g : Gr} {a : Nat} {t : Tr} (h : RunOk g a t) : HopInv g.r a g.m t.par (ordA t.dist a g.m) t.hops := by
  have vg := h.vg
  obtain ⟨l2, p, q, hh⟩ := h.hops
  have hmem : ∀ v, v ∈ l2 ↔ v < g.m ∧ gt0 t.dist v ≠ -1 ∧ v ≠ a := fun v => p.mem_iff.trans ordA_mem
  have hnd : l2.Nodup := p.nodup_iff.2 (List.nodup_range.filter _)
  have hbase : HopInv g.r a g.m t.par [] (List.replicate g.m []) := ⟨LLok.nil _, fun v hv _ => getD_rep _ _ _ _ hv, fun v hv => by cases hv⟩
  have := hops_inv (r := g.r) h.up l2 [] hbase (fun v hv => by cases hv) (by simp) (fun e => ((hmem a).1 e).2.2 rfl) (fun v hv => ((hmem v).1 hv).1) (by simpa using hnd) (fun pre v suf e u hu => by
    have hv : v ∈ l2 := by rw [e]; simp
    obtain ⟨hv1, hv2, hv3⟩ := (hmem v).1 hv
    obtain ⟨_, ed, he, hf, ht, h1, h2⟩ := (h.par_mem hv1 u).1 hu
    have hfn := vg.f ed he
    have hc := vg.c ed he
    by_cases hua : u = (a : Int)
    · exact .inl hua
    · refine .inr ?_
      rw [hf] at h1 h2 hfn
      simp only [List.nil_append]
      refine split_before q e ((hmem u.toNat).2 ⟨by omega, h1, by omega⟩) ?_
      unfold ltHd
      by_cases hc0 : ed.c = 0
      · refine .inr ⟨by omega, ?_⟩
        have hr : (g.r.toNat : Int) ≤ ed.f := by
          by_cases hlt : ed.f < (g.r.toNat : Int)
          · have := vg.rt ed he hlt; omega
          · omega
        have := (vg.net ed he hr).1
        omega
      · left; omega)
  rw [hh]
  refine ⟨this.ok, fun v hv hn => this.off v hv (fun e => hn (p.mem_iff.1 (by simpa using e))), fun v hv => this.on v (by simpa using p.mem_iff.2 hv)⟩
theorem RunOk.hop_ex {g : Gr} {a : Nat} {t : Tr} (h : RunOk g a t) {v : Nat} (hv : v < g.m) (hne : v ≠ a) (h0 : 0 ≤ gt0 t.dist v) : ∃ x, x ∈ rowAt' t.hops v := by
  have hi := h.hopInv
  obtain ⟨l2, p, q, hh⟩ := h.hops
  have vg := h.vg
  -- by the order
  have key : ∀ (k : Nat) (v : Nat), v < g.m → v ≠ a → 0 ≤ gt0 t.dist v → (gt0 t.dist v).toNat * 129 + (g.m - v) ≤ k → ∃ x, x ∈ rowAt' t.hops v := by
    intro k
    induction k with
    | zero => intro v hv _ _ hk; omega
    | succ k ih =>
      intro v hv hne h0 hk
      obtain ⟨u, hu⟩ := h.par_ex hv hne h0
      obtain ⟨_, ed, he, hf, ht, h1, h2⟩ := (h.par_mem hv u).1 hu
      have hfn := vg.f ed he
      have hc := vg.c ed he
      have hon := hi.on v (ordA_mem.2 ⟨hv, by omega, hne⟩)
      by_cases hua : u = (a : Int)
      · exact ⟨_, (hon _).2 ⟨u, hu, .inl ⟨hua, rfl⟩⟩⟩
      · rw [hf] at h1 h2 hfn
        have hdu := h.dge (v := u.toNat) (by omega)
        have hm := vg.n128
        obtain ⟨x, hx⟩ := ih u.toNat (by omega) (by omega) (by omega) (by
          by_cases hc0 : ed.c = 0
          · have hr : (g.r.toNat : Int) ≤ ed.f := by
              by_cases hlt : ed.f < (g.r.toNat : Int)
              · have := vg.rt ed he hlt; omega
              · omega
            have := (vg.net ed he hr).1
            have e1 : gt0 t.dist u.toNat = gt0 t.dist v := by omega
            rw [e1]; omega
          · have e1 : (gt0 t.dist u.toNat).toNat + 1 ≤ (gt0 t.dist v).toNat := by omega
            have e2 := Nat.mul_le_mul_right 129 e1
            omega)
        exact ⟨_, (hon _).2 ⟨u, hu, .inr ⟨x, hx, rfl⟩⟩⟩
  exact key _ v hv hne h0 (Nat.le_refl _)
theorem RunOk.par_len {g : Gr} {a : Nat} {t : Tr} (h : RunOk g a t) {v : Nat} (hv : v < g.m) : 0 < (rowAt' t.par v).length ↔ v ≠ a ∧ 0 ≤ gt0 t.dist v := by
  constructor
  · intro hl
    obtain ⟨u, hu⟩ := List.exists_mem_of_length_pos hl
    obtain ⟨h1, ed, he, hf, ht, h2, h3⟩ := (h.par_mem hv u).1 hu
    have := h.vg.f ed he; have := h.vg.c ed he
    have := h.dge (v := ed.f.toNat) (by omega)
    exact ⟨h1, by omega⟩
  · rintro ⟨h1, h2⟩
    obtain ⟨u, hu⟩ := h.par_ex hv h1 h2
    exact List.length_pos_of_mem hu
theorem RunOk.hop_len {g : Gr} {a : Nat} {t : Tr} (h : RunOk g a t) {v : Nat} (hv : v < g.m) : 0 < (rowAt' t.hops v).length ↔ v ≠ a ∧ 0 ≤ gt0 t.dist v := by
  have hd := h.dge hv
  constructor
  · intro hl
    refine Classical.byContradiction fun hn => ?_
    have := h.hopInv.off v hv (fun e => by have := ordA_mem.1 e; exact hn ⟨this.2.2, by omega⟩)
    rw [this] at hl; simp at hl
  · rintro ⟨h1, h2⟩
    obtain ⟨u, hu⟩ := h.hop_ex hv h1 h2
    exact List.length_pos_of_mem hu
end Go.Pl
namespace Go.Pl
open Go.RT
set_option linter.all false
theorem chkL_asc {g : Gr} : ∀ (l : List Edg) (p : Option Edg), chkL g p l = 0 → AscK l ∧ ∀ q, p = some q → ∀ e ∈ l, ltK q e
  | [], _, _ => ⟨List.Pairwise.nil, fun _ _ e he => by cases he⟩
  | x :: l, p, h => by
    simp only [chkL] at h
    by_cases h1 : alwI g x = 0
    · rw [if_neg (by simp [h1])] at h
      by_cases h2 : badP p x = true
      · rw [if_pos h2] at h; cases h
      · rw [if_neg h2] at h
        obtain ⟨i1, i2⟩ := chkL_asc l (some x) h
        refine ⟨List.pairwise_cons.2 ⟨i2 x rfl, i1⟩, fun q hq e he => ?_⟩
        subst hq
        have hqx : ltK q x := by
          simp only [badP] at h2
          exact (ltK_bef q x).1 (by simpa using h2)
        rcases List.mem_cons.1 he with rfl | he
        · exact hqx
        · have := i2 x rfl e he; unfold ltK at *; omega
    · rw [if_pos h1] at h; exact absurd h h1
theorem check_asc {g : Gr} (h : checkI g = 0) : AscK g.es := (chkL_asc _ _ (checkI_ok h).2.2).1
theorem asc_get {l : List Edg} (h : AscK l) {a b : Nat} (hab : a < b) (hb : b < l.length) : ltK (l[a]'(by omega)) l[b] := List.pairwise_iff_getElem.1 h a b (by omega) hb hab
/-- where the binary search comes to, on an ascending list -/
theorem bsAt_spec {l : List Edg} (h : AscK l) (x : Edg) : bsAt l x ≤ l.length ∧ (∀ k (hk : k < bsAt l x) (hl : k < l.length), ltK l[k] x) ∧ (∀ k (hk : bsAt l x ≤ k) (hl : k < l.length), ¬ ltK l[k] x) := by
  have h1 := (bsGo_le (fun e => decide (ordE e x < 0)) l l.length 0 l.length (by omega) (Nat.zero_le _) (Nat.le_refl _)).2
  have h2 := bsGo_spec (fun e => decide (ordE e x < 0)) l (fun a b ha hb hp => by
    have := asc_get h ha hb
    simp only [decide_eq_true_eq, ordE_neg] at hp ⊢
    unfold ltK at this; omega) l.length 0 l.length (by omega) (Nat.zero_le _) (Nat.le_refl _) (fun k hk => absurd hk (Nat.not_lt_zero _)) (fun k hk hl => absurd hl (by omega))
  refine ⟨h1, fun k hk hl => ?_, fun k hk hl => ?_⟩
  · have := h2.1 k hk hl
    simp only [decide_eq_true_eq, ordE_neg] at this; exact this
  · have := h2.2 k hk hl
    simp only [decide_eq_false_iff_not, ordE_neg] at this; exact this
/-- found: there is an edge with these ends, at the place -/
theorem bsHit_true {l : List Edg} (x : Edg) (hh : bsHit l x = true) : ∃ h : bsAt l x < l.length, l[bsAt l x].f = x.f ∧ l[bsAt l x].t = x.t := by
  obtain ⟨h1, h2⟩ := hitAt_lt hh
  exact ⟨h1, by simpa [ordE_zero] using h2⟩
theorem bsHit_false {l : List Edg} (h : AscK l) (x : Edg) (hh : bsHit l x = false) : ∀ e ∈ l, ¬ (e.f = x.f ∧ e.t = x.t) := by
  intro e he hc
  obtain ⟨j, hj, rfl⟩ := List.getElem_of_mem he
  obtain ⟨h1, h2, h3⟩ := bsAt_spec h x
  rcases Nat.lt_trichotomy j (bsAt l x) with h4 | h4 | h4
  · have := h2 j h4 hj; unfold ltK at this; omega
  · have h5 : l[bsAt l x]? = some l[j] := by rw [← h4]; exact List.getElem?_eq_getElem hj
    unfold bsHit hitAt at hh
    rw [h5] at hh
    simp only [decide_eq_false_iff_not, ordE_zero] at hh
    exact hh hc
  · have h5 := asc_get h h4 hj
    have := h3 (bsAt l x) (Nat.le_refl _) (by omega)
    unfold ltK at *; omega
theorem fnd_idx {f t : Int} : ∀ (l : List Edg) (k j : Nat), (hj : j < l.length) → l[j].f = f ∧ l[j].t = t → (∀ i (hi : i < j), ¬ ((l[i]'(by omega)).f = f ∧ (l[i]'(by omega)).t = t)) → fndAt f t k l = ((k + j : Nat) : Int)
  | e :: l, k, 0, hj, h, _ => by
    have : isB f t e = true := by simpa [isB] using h
    simp [fndAt, this]
  | e :: l, k, j + 1, hj, h, hn => by
    have : ¬ isB f t e = true := by have := hn 0 (by omega); simpa [isB] using this
    simp only [fndAt, if_neg this]
    rw [fnd_idx l (k + 1) j (by simpa using hj) (by simpa using h) (fun i hi => by have := hn (i + 1) (by omega); simpa using this)]
    congr 1; omega
theorem fnd_no {f t : Int} : ∀ (l : List Edg) (k : Nat), (∀ e ∈ l, ¬ (e.f = f ∧ e.t = t)) → fndAt f t k l = -1
  | [], _, _ => rfl
  | e :: l, k, h => by
    have : ¬ isB f t e = true := by have := h e (List.mem_cons_self ..); simpa [isB] using this
    simp only [fndAt, if_neg this]
    exact fnd_no l (k + 1) fun x hx => h x (List.mem_cons_of_mem _ hx)
theorem fnd_hit {l : List Edg} (h : AscK l) (x : Edg) (hh : bsHit l x = true) : fndI l x.f x.t = (bsAt l x : Int) := by
  obtain ⟨h1, h2⟩ := bsHit_true x hh
  have := fnd_idx l 0 (bsAt l x) h1 h2 (fun i hi hc => by have := (bsAt_spec h x).2.1 i hi (by omega); unfold ltK at this; omega)
  simpa using this
theorem fnd_miss {l : List Edg} (h : AscK l) (x : Edg) (hh : bsHit l x = false) : fndI l x.f x.t = -1 := fnd_no l 0 (bsHit_false h x hh)
theorem butR_neg (a : Int) : ∀ (l : List Edg) (k : Nat), a < k → butR a k l = l
  | [], _, _ => rfl
  | e :: l, k, h => by simp only [butR]; rw [if_pos (by omega), butR_neg a l (k + 1) (by omega)]; rfl
theorem butR_at : ∀ (l : List Edg) (k j : Nat), butR ((k + j : Nat) : Int) k l = l.take j ++ l.drop (j + 1)
  | [], _, _ => by simp [butR]
  | e :: l, k, 0 => by
    simp only [butR]
    rw [if_neg (by simp), butR_neg _ l (k + 1) (by omega)]; simp
  | e :: l, k, j + 1 => by
    simp only [butR]
    rw [if_pos (by omega), show k + (j + 1) = (k + 1) + j by omega, butR_at l (k + 1) j]; simp
theorem but_del (l : List Edg) (j : Nat) : butR (j : Int) 0 l = delL l j (j + 1) := by
  have := butR_at l 0 j
  simpa [delL] using this
theorem putR_split (e : Edg) : ∀ (a b : List Edg), (∀ x ∈ a, befB e x = false) → (∀ x ∈ b, befB e x = true) → putR e false (a ++ b) = a ++ e :: b
  | [], [], _, _ => by simp [putR]
  | [], y :: b, _, h => by
    have := h y (List.mem_cons_self ..)
    simp [putR, this, putR_true]
  | x :: a, b, h1, h2 => by
    have := h1 x (List.mem_cons_self ..)
    have ih := putR_split e a b (fun y hy => h1 y (List.mem_cons_of_mem _ hy)) h2
    simp [putR, this, ih]
theorem befF {e x : Edg} (h : ¬ ltK e x) : befB e x = false := by
  cases hb : befB e x with
  | false => rfl
  | true => exact absurd ((ltK_bef e x).1 hb) h
theorem put_ins {l : List Edg} (h : AscK l) (c : Edg) (hh : bsHit l c = false) : putR c false l = insL l (bsAt l c) c := by
  obtain ⟨h1, h2, h3⟩ := bsAt_spec h c
  have hno := bsHit_false h c hh
  have := putR_split c (l.take (bsAt l c)) (l.drop (bsAt l c)) (fun x hx => by
    obtain ⟨i, hi, rfl⟩ := List.getElem_of_mem hx
    simp only [List.length_take] at hi
    rw [List.getElem_take]
    have := h2 i (by omega) (by omega)
    exact befF (by unfold ltK at *; omega)) (fun x hx => by
    obtain ⟨i, hi, rfl⟩ := List.getElem_of_mem hx
    simp only [List.length_drop] at hi
    rw [List.getElem_drop]
    have a := h3 (bsAt l c + i) (by omega) (by omega)
    have b := hno l[bsAt l c + i] (List.getElem_mem _)
    exact (ltK_bef _ _).2 (by unfold ltK at *; omega))
  rw [List.take_append_drop] at this
  exact this
theorem put_set {l : List Edg} (h : AscK l) (c : Edg) (hh : bsHit l c = true) : putR c false (delL l (bsAt l c) (bsAt l c + 1)) = l.set (bsAt l c) c := by
  obtain ⟨h1, h2, h3⟩ := bsAt_spec h c
  obtain ⟨hk, hf, ht⟩ := bsHit_true c hh
  have := putR_split c (l.take (bsAt l c)) (l.drop (bsAt l c + 1)) (fun x hx => by
    obtain ⟨i, hi, rfl⟩ := List.getElem_of_mem hx
    simp only [List.length_take] at hi
    rw [List.getElem_take]
    have := h2 i (by omega) (by omega)
    exact befF (by unfold ltK at *; omega)) (fun x hx => by
    obtain ⟨i, hi, rfl⟩ := List.getElem_of_mem hx
    simp only [List.length_drop] at hi
    rw [List.getElem_drop]
    have a := asc_get h (show bsAt l c < bsAt l c + 1 + i by omega) (by omega)
    exact (ltK_bef _ _).2 (by unfold ltK at *; omega))
  unfold delL
  rw [this, List.set_eq_take_append_cons_drop, if_pos hk]
/-- one change, as the reference makes it -/
def rchgF (g : Gr) (c : Edg) : Gr × Int :=
  if nodeB g c.f = false ∨ nodeB g c.t = false then (zeroG, 5)
  else if c.c < 0 ∧ fndI g.es c.f c.t < 0 then (zeroG, 6)
  else if 0 ≤ c.c ∧ alwI g c ≠ 0 then (zeroG, alwI g c)
  else if 0 ≤ c.c ∧ fndI g.es c.f c.t < 0 ∧ 1024 ≤ g.es.length then (zeroG, 4)
  else (⟨g.r, g.n, if 0 ≤ c.c then putR c false (butR (fndI g.es c.f c.t) 0 g.es) else butR (fndI g.es c.f c.t) 0 g.es⟩, 0)
theorem delL_asc {l : List Edg} (h : AscK l) (i j : Nat) (hij : i ≤ j) : AscK (delL l i j) := by
  unfold delL AscK
  refine List.pairwise_append.2 ⟨h.sublist (List.take_sublist _ _), h.sublist (List.drop_sublist _ _), fun a ha b hb => ?_⟩
  obtain ⟨x, hx, rfl⟩ := List.getElem_of_mem ha
  obtain ⟨y, hy, rfl⟩ := List.getElem_of_mem hb
  simp only [List.length_take] at hx
  simp only [List.length_drop] at hy
  rw [List.getElem_take, List.getElem_drop]
  exact asc_get h (by omega) (by omega)
/-- a step of the program keeps the order, and is the reference's -/
theorem chg_eq {g : Gr} {c : Edg} (h : AscK g.es) (hl : g.es.length ≤ 1024) :
    (chgF g c).2 = (rchgF g c).2 ∧ ((chgF g c).2 = 0 → (chgF g c).1 = (rchgF g c).1 ∧ AscK (chgF g c).1.es ∧ (chgF g c).1.es.length ≤ 1024 ∧ (chgF g c).1.r = g.r ∧ (chgF g c).1.n = g.n) := by
  unfold chgF rchgF
  by_cases h1 : nodeB g c.f = false ∨ nodeB g c.t = false
  · rw [if_pos h1, if_pos h1]; exact ⟨rfl, fun h => by simp at h⟩
  · rw [if_neg h1, if_neg h1]
    by_cases h2 : c.c < 0
    · rw [if_pos h2]
      cases hh : bsHit g.es c with
      | false =>
        have := fnd_miss h c hh
        rw [if_pos rfl, if_pos ⟨h2, by rw [this]; decide⟩]; exact ⟨rfl, fun h => by simp at h⟩
      | true =>
        have hf := fnd_hit h c hh
        obtain ⟨hk, _⟩ := bsHit_true c hh
        rw [if_neg (by simp), if_neg (by rw [hf]; omega), if_neg (by omega), if_neg (by omega), if_neg (by omega), hf, but_del]
        refine ⟨rfl, fun _ => ⟨rfl, delL_asc h _ _ (by omega), ?_, rfl, rfl⟩⟩
        have := delL_len g.es (bsAt g.es c) (bsAt g.es c + 1) (by omega) (by omega)
        dsimp only; omega
    · rw [if_neg h2, if_neg (show ¬ (c.c < 0 ∧ fndI g.es c.f c.t < 0) from fun h => h2 h.1)]
      by_cases h3 : alwI g c ≠ 0
      · rw [if_pos h3, if_pos ⟨by omega, h3⟩]; exact ⟨rfl, fun h => absurd h h3⟩
      · rw [if_neg h3, if_neg (show ¬ (0 ≤ c.c ∧ alwI g c ≠ 0) from fun h => h3 h.2)]
        cases hh : bsHit g.es c with
        | true =>
          have hf := fnd_hit h c hh
          obtain ⟨hk, hkf, hkt⟩ := bsHit_true c hh
          rw [if_pos rfl, if_neg (show ¬ (0 ≤ c.c ∧ fndI g.es c.f c.t < 0 ∧ 1024 ≤ g.es.length) by rw [hf]; omega), if_pos (show 0 ≤ c.c by omega), hf, but_del, put_set h c hh]
          refine ⟨rfl, fun _ => ⟨rfl, ?_, by simpa using hl, rfl, rfl⟩⟩
          rw [List.set_eq_take_append_cons_drop, if_pos hk]
          unfold AscK
          refine List.pairwise_append.2 ⟨h.sublist (List.take_sublist _ _), List.pairwise_cons.2 ⟨fun y hy => ?_, h.sublist (List.drop_sublist _ _)⟩, fun a ha b hb => ?_⟩
          · obtain ⟨j, hj, rfl⟩ := List.getElem_of_mem hy
            simp only [List.length_drop] at hj
            rw [List.getElem_drop]
            have := asc_get h (show bsAt g.es c < bsAt g.es c + 1 + j by omega) (by omega)
            unfold ltK at *; omega
          · obtain ⟨i, hi, rfl⟩ := List.getElem_of_mem ha
            simp only [List.length_take] at hi
            rw [List.getElem_take]
            rcases List.mem_cons.1 hb with rfl | hb
            · have := asc_get h (show i < bsAt g.es b by omega) hk
              unfold ltK at *; omega
            · obtain ⟨j, hj, rfl⟩ := List.getElem_of_mem hb
              simp only [List.length_drop] at hj
              rw [List.getElem_drop]
              exact asc_get h (by omega) (by omega)
        | false =>
          have hf := fnd_miss h c hh
          have hno := bsHit_false h c hh
          have hp := put_ins h c hh
          obtain ⟨q1, q2⟩ := putR_spec c g.es h hno
          rw [if_neg (by simp)]
          by_cases h4 : g.es.length = 1024
          · rw [if_pos h4, if_pos ⟨by omega, by rw [hf]; decide, by omega⟩]; exact ⟨rfl, fun h => by simp at h⟩
          · rw [if_neg h4, if_neg (show ¬ (0 ≤ c.c ∧ fndI g.es c.f c.t < 0 ∧ 1024 ≤ g.es.length) from fun h => by omega), if_pos (show 0 ≤ c.c by omega), hf, butR_neg _ _ _ (by decide), hp]
            refine ⟨rfl, fun _ => ⟨rfl, by rw [hp] at q1; exact q1, ?_, rfl, rfl⟩⟩
            have := insL_len g.es (bsAt g.es c) c (bsAt_spec h c).1
            dsimp only; omega
def appL (g : Gr) : List Edg → Gr × Int
  | [] => (g, 0)
  | c :: cs => if (chgF g c).2 ≠ 0 then (zeroG, (chgF g c).2) else appL (chgF g c).1 cs
def rappL (g : Gr) : List Edg → Gr × Int
  | [] => (g, 0)
  | c :: cs => if (rchgF g c).2 ≠ 0 then (zeroG, (rchgF g c).2) else rappL (rchgF g c).1 cs
theorem app_eq : ∀ (cs : List Edg) (g : Gr), AscK g.es → g.es.length ≤ 1024 → appL g cs = rappL g cs
  | [], g, _, _ => rfl
  | c :: cs, g, h, hl => by
    obtain ⟨h1, h2⟩ := chg_eq (c := c) h hl
    simp only [appL, rappL]
    rw [← h1]
    by_cases hz : (chgF g c).2 = 0
    · obtain ⟨e, ha, hn, _, _⟩ := h2 hz
      rw [if_neg (by simp [hz]), if_neg (by simp [hz]), ← e]
      exact app_eq cs _ ha hn
    · rw [if_pos hz, if_pos hz]
def applyF (g : Gr) (cs : List Edg) : Gr × Int := if checkI g ≠ 0 then (zeroG, checkI g) else appL g cs
theorem applyF_eq (g : Gr) (cs : List Edg) : applyF g cs = if checkI g ≠ 0 then (zeroG, checkI g) else rappL g cs := by
  unfold applyF
  by_cases h : checkI g = 0
  · rw [if_neg (by simp [h]), if_neg (by simp [h])]
    exact app_eq cs g (check_asc h) (checkI_ok h).2.1
  · rw [if_pos h, if_pos h]
end Go.Pl
namespace Go.Pl
open Go Go.RT
set_option linter.all false
theorem chkL_of {g : Gr} : ∀ (l : List Edg) (p : Option Edg), (∀ e ∈ l, alwI g e = 0) → AscK l → (∀ q, p = some q → ∀ e ∈ l, ltK q e) → chkL g p l = 0
  | [], _, _, _, _ => rfl
  | x :: l, p, h, ha, hp => by
    obtain ⟨a1, a2⟩ := List.pairwise_cons.1 ha
    simp only [chkL]
    rw [if_neg (by rw [h x (by simp)]; simp), if_neg ?_]
    · exact chkL_of l _ (fun e he => h e (by simp [he])) a2 fun q hq e he => by cases hq; exact a1 e he
    · cases p with
      | none => simp [badP]
      | some q =>
        have := (ltK_bef q x).2 (hp q rfl x (by simp))
        simp [badP, this]
def cutE (l : List Edg) (k : Nat) : List Edg := l.take k ++ l.drop (k + 1)
theorem cutE_sub {l : List Edg} {k : Nat} : (cutE l k).Sublist l := by
  have h1 := (List.Sublist.refl (l.take k)).append (List.drop_sublist 1 (l.drop k))
  rw [List.drop_drop, List.take_append_drop] at h1
  exact h1
theorem check_cut {g : Gr} (h : checkI g = 0) (k : Nat) : checkI ⟨g.r, g.n, cutE g.es k⟩ = 0 := by
  obtain ⟨⟨h1, h2, h3⟩, h4, h5⟩ := checkI_ok h
  have hl := (cutE_sub (l := g.es) (k := k)).length_le
  have hal := chkL_alw _ _ h5
  have hc := chkL_of (g := ⟨g.r, g.n, cutE g.es k⟩) (cutE g.es k) none (fun e he => hal e (cutE_sub.subset he)) ((check_asc h).sublist cutE_sub) (fun q hq => by cases hq)
  unfold checkI
  have hs : sizeI ⟨g.r, g.n, cutE g.es k⟩ = 0 := by
    unfold sizeI
    rw [if_neg (by dsimp only; omega), if_neg (by dsimp only; omega)]
  rw [if_neg (by rw [hs]; simp)]; exact hc
theorem RunOk.smaller {g g' : Gr} {a : Nat} {t t' : Tr} (h : RunOk g a t) (h' : RunOk g' a t') (hm : g'.m = g.m) (hs : ∀ e ∈ g'.es, e ∈ g.es) {v : Nat} (hv : v < g.m) (h0 : 0 ≤ gt0 t'.dist v) : 0 ≤ gt0 t.dist v ∧ gt0 t.dist v ≤ gt0 t'.dist v := by
  rcases (h'.dist v (by show v < g'.m; omega)).cases h'.vg with ⟨h1, _⟩ | ⟨_, w, _⟩
  · omega
  · have w2 := w.mono hs
    rcases (h.dist v hv).cases h.vg with ⟨_, h2⟩ | ⟨h3, _, h4⟩
    · exact absurd w2 (h2 _)
    · exact ⟨h3, h4 _ w2⟩
end Go.Pl
/- Turned graphs: they are valid, and turning twice yields the graph. -/
namespace Go.Pl
open Go.RT
set_option linter.all false
theorem mrg_perm {α : Type} {lt : α → α → Bool} : ∀ (k : Nat) (A B : List α), A.length + B.length ≤ k → (mrg lt A B).Perm (A ++ B)
  | k, [], B, _ => by rw [mrg_nil_left]; exact .refl _
  | k, a :: A, [], _ => by rw [mrg_nil, List.append_nil]
  | 0, a :: A, b :: B, h => by simp at h
  | k + 1, a :: A, b :: B, h => by
    rw [mrg]
    split
    · exact ((mrg_perm k (a :: A) B (by simp at h ⊢; omega)).cons b).trans List.perm_middle.symm
    · exact (mrg_perm k A (b :: B) (by simp at h ⊢; omega)).cons a
theorem srtS_perm {α : Type} {lt : α → α → Bool} : ∀ l : List α, (srtS lt l).Perm l := rev_ind (by simp [srtS]) fun l y ih => by
  rw [srtS_snoc]
  exact (mrg_perm _ _ _ (Nat.le_refl _)).trans (ih.append_right _)
theorem revL_asc {l : List Edg} (ha : AscK l) : AscK (revL l) := by
  have h1 : (l.map turnE).Pairwise fun x y => ¬ (x.f = y.f ∧ x.t = y.t) := List.pairwise_map.2 (ha.imp fun {x y} h => by unfold ltK at h; simp only [turnE]; omega)
  have h2 : (revL l).Pairwise fun x y => ¬ (x.f = y.f ∧ x.t = y.t) := (srtS_perm (lt := befB) (l.map turnE)).symm.pairwise h1 (fun {x y} h => by omega)
  have h3 : Srt befB (revL l) := srtS_srt sw_bef _
  refine (List.Pairwise.and h3 h2).imp fun {x y} h => ?_
  obtain ⟨a, b⟩ := h
  simp only [befB, Bool.or_eq_false_iff, Bool.and_eq_false_iff, decide_eq_false_iff_not] at a
  unfold ltK; omega
theorem revL_mem (l : List Edg) (x : Edg) : x ∈ revL l ↔ turnE x ∈ l := by
  unfold revL
  rw [srtS_mem, List.mem_map]
  constructor
  · rintro ⟨y, hy, rfl⟩; cases y; exact hy
  · intro h; exact ⟨turnE x, h, by cases x; rfl⟩
theorem ascK_ext : ∀ {l l' : List Edg}, AscK l → AscK l' → (∀ x, x ∈ l ↔ x ∈ l') → l = l'
  | [], l', _, _, h => by
    cases l' with
    | nil => rfl
    | cons y l' => have := (h y).2 (by simp); cases this
  | x :: l, [], _, _, h => by have := (h x).1 (by simp); cases this
  | x :: l, y :: l', h1, h2, h => by
    obtain ⟨a1, a2⟩ := List.pairwise_cons.1 h1
    obtain ⟨b1, b2⟩ := List.pairwise_cons.1 h2
    have irr : ∀ {u v : Edg}, ltK u v → ltK v u → False := fun {u v} p q => by unfold ltK at p q; omega
    have irr2 : ∀ {u : Edg}, ¬ ltK u u := fun {u} p => irr p p
    have e : x = y := by
      rcases List.mem_cons.1 ((h x).1 (by simp)) with e | e
      · exact e
      · rcases List.mem_cons.1 ((h y).2 (by simp)) with f | f
        · exact f.symm
        · exact absurd (b1 x e) (fun p => irr p (a1 y f))
    subst e
    rw [ascK_ext a2 b2 fun z => ?_]
    constructor
    · intro hz
      rcases List.mem_cons.1 ((h z).1 (by simp [hz])) with e | e
      · subst e; exact absurd (a1 _ hz) irr2
      · exact e
    · intro hz
      rcases List.mem_cons.1 ((h z).2 (by simp [hz])) with e | e
      · subst e; exact absurd (b1 _ hz) irr2
      · exact e
theorem revL_rev {l : List Edg} (ha : AscK l) : revL (revL l) = l := ascK_ext (revL_asc (revL_asc ha)) ha fun x => by
  rw [revL_mem, revL_mem]; cases x; exact Iff.rfl
theorem rev_check {g : Gr} (h : checkI g = 0) (hn : g.n = 0) : checkI ⟨g.r, g.n, revL g.es⟩ = 0 := by
  obtain ⟨⟨h1, h2, h3⟩, h4, h5⟩ := checkI_ok h
  have hl : (revL g.es).length = g.es.length := by unfold revL; rw [srtS_len, List.length_map]
  have hal := chkL_alw _ _ h5
  have hc := chkL_of (g := ⟨g.r, g.n, revL g.es⟩) (revL g.es) none (fun e he => by
    have he' := (revL_mem _ _).1 he
    have ha := hal _ he'
    obtain ⟨n1, n2⟩ := alwI_node ha
    simp only [turnE] at n1 n2 ha
    unfold alwI at ha ⊢
    dsimp only at ha ⊢
    unfold nodeB at ha ⊢
    dsimp only at ha ⊢
    have e1 : (decide (0 ≤ e.f) && decide (e.f < g.r + g.n)) = true := by simp; omega
    have e2 : (decide (0 ≤ e.t) && decide (e.t < g.r + g.n)) = true := by simp; omega
    rw [if_neg (by rw [e1, e2]; simp)] at ha ⊢
    split at ha
    · cases ha
    · rename_i hh
      rw [if_neg]
      intro hx
      apply hh
      omega) (revL_asc (check_asc h)) (fun q hq => by cases hq)
  unfold checkI
  have hs : sizeI ⟨g.r, g.n, revL g.es⟩ = 0 := by
    unfold sizeI
    rw [if_neg (by dsimp only; omega), if_neg (by dsimp only; omega)]
  rw [if_neg (by rw [hs]; simp)]; exact hc
end Go.Pl
namespace Go.Proofs.Ytdbdajokdipmlaa
open Go Go.RT Go.Proofs Go.Pl
set_option linter.all false
set_option maxRecDepth 20000
set_option maxHeartbeats 4000000
theorem ltC_ord : ltS ordE = befB := by
  funext x y
  have := ordE_ge x y
  unfold ltS
  cases h : befB x y with
  | true => rw [h] at this; simp at this; simp; omega
  | false => rw [h] at this; simp at this; simp; omega
theorem sw_ord : Go.Pl.SW (ltS ordE) := by rw [ltC_ord]; exact sw_bef
theorem sortT_c (l : List Edg) (hn : l.length ≤ 2000000) : Meets Try.prog 15 [.sl 0 3 0 l.length, .fz (.clo 16 [])] 1 [(0, OE l)] (.fz (.tup [])) [(0, OE (srtS befB l))] 1 := by
  have := sortS_c 16 [] ordE sw_ord (fun x y => order_c x y) l hn
  rwa [ltC_ord] at this
def tnI (l : List Edg) (i : Nat) : List Edg := (l.take i).map turnE ++ l.drop i
theorem tnI_len (l : List Edg) (i : Nat) : (tnI l i).length = l.length := by simp [tnI]; omega
theorem tnI_at {l : List Edg} {i : Nat} (h : i < l.length) : (tnI l i)[i]? = some l[i] := by
  unfold tnI
  rw [List.getElem?_append_right (by simp; omega)]
  simp [Nat.min_eq_left (Nat.le_of_lt h), h]
theorem tnI_set {l : List Edg} {i : Nat} (h : i < l.length) : (tnI l i).set i (turnE l[i]) = tnI l (i + 1) := by
  unfold tnI
  rw [List.take_succ_eq_append_getElem h, List.map_append, List.drop_eq_getElem_cons h]
  have e : ((l.take i).map turnE).length = i := by simp; omega
  have := set_at_len (P := (l.take i).map turnE) (R := l.drop (i + 1)) (u := l[i]) (v := turnE l[i])
  rw [e] at this
  rw [this]; simp
theorem reverse_c (g : Gr) (hn : g.es.length ≤ 2000000) : Pure Try.prog 6 [.agg (encG g)] (.agg (encG ⟨g.r, g.n, revL g.es⟩)) := by
  have hcl := clone_c g.es hn
  refine Meets.intro Try.func6 rfl (Nat.le_of_ble_eq_true rfl) fun C hC => ?_
  simp only [List.map, argEnv, Nat.reduceAdd]
  refine nK ?_
  refine s_reg rfl ?_
  first | refine Run.eff (dd := some 1) rfl rfl (op_box_flat rfl (Opd.tmp _ _ rfl) tC rfl) ?_ | refine Run.eff (dd := some 1) rfl rfl (op_box_refs rfl (Opd.tmp _ _ rfl) tP rfl) ?_
  refine Run.eff (dd := some 2) rfl rfl (op_alloc rfl rfl rfl rfl) ?_
  refine Run.nil (FinR.mk ?_)
  refine nK ?_
  refine Next.toRefs 0 rfl rfl ?_
  refine nK ?_
  refine s_reg rfl ?_
  first | refine Run.pure (dd := some 5) rfl rfl (op_fld_ptr (by decide) rfl (Opd.tmp _ _ rfl)) ?_ | refine Run.pure (dd := some 5) rfl rfl (op_fld_fz (by decide) rfl (Opd.tmp _ _ rfl) tR) ?_
  first | refine Run.load (dd := some 6) rfl rfl (op_load1_flat rfl (Opd.tmp _ _ rfl) tH rfl) ?_ | refine Run.pure (dd := some 6) rfl rfl (op_load1_fz rfl (Opd.tmp _ _ rfl) rfl) ?_ | refine Run.load (dd := some 6) rfl rfl (op_load1_refs rfl (Opd.tmp _ _ rfl) tH rfl) ?_
  refine Run.eff (dd := some 7) rfl rfl (op_call_fresh (fun _ => hcl) rfl (Opd.func _) (Opds.cons _ _ _ _ (Opd.tmp _ _ rfl) Opds.nil)) ?_
  first | refine Run.pure (dd := some 8) rfl rfl (op_fld_ptr (by decide) rfl (Opd.tmp _ _ rfl)) ?_ | refine Run.pure (dd := some 8) rfl rfl (op_fld_fz (by decide) rfl (Opd.tmp _ _ rfl) tR) ?_
  first | refine Run.eff (dd := none) rfl rfl (op_store_flat rfl (Opd.tmp _ _ rfl) (Opd.tmp _ _ rfl) tC rfl rfl (by first | rfl | assumption) tS) ?_ | refine Run.eff (dd := none) rfl rfl (op_store_refs rfl (Opd.tmp _ _ rfl) (Opd.tmp _ _ rfl) tP rfl rfl rfl tS) ?_
  refine Run.nil (FinR.mk ?_)
  refine nK ?_
  have hT := sortT_c (g.es.map turnE) (by simpa using hn)
  rw [List.length_map, show srtS befB (g.es.map turnE) = revL g.es from rfl] at hT
  have hrl : (revL g.es).length = g.es.length := by unfold revL; rw [srtS_len, List.length_map]
  refine nK ?_
  refine s_reg rfl ?_
  first | refine Run.pure (dd := some 9) rfl rfl (op_fld_ptr (by decide) rfl (Opd.tmp _ _ rfl)) ?_ | refine Run.pure (dd := some 9) rfl rfl (op_fld_fz (by decide) rfl (Opd.tmp _ _ rfl) tR) ?_
  first | refine Run.load (dd := some 10) rfl rfl (op_load1_flat rfl (Opd.tmp _ _ rfl) tH rfl) ?_ | refine Run.pure (dd := some 10) rfl rfl (op_load1_fz rfl (Opd.tmp _ _ rfl) rfl) ?_ | refine Run.load (dd := some 10) rfl rfl (op_load1_refs rfl (Opd.tmp _ _ rfl) tH rfl) ?_
  first | refine Run.pure (dd := some 11) rfl rfl (op_len_fz rfl (by first | exact Opd.tmp _ _ rfl | exact Opd.nil _ _ (Opd.tmp _ _ rfl)) (by first | exact List.length_map _ | rfl)) ?_ | refine Run.pure (dd := some 11) rfl rfl (op_len_sl rfl (Opd.tmp _ _ rfl)) ?_
  first | refine Run.pure (dd := some 12) rfl rfl (op_move rfl (Opd.const _)) ?_ | refine Run.pure (dd := some 12) rfl rfl (op_junk (.inl rfl)) ?_
  refine Run.nil (FinR.mk ?_)
  refine nK ?_
  refine n_loop (ι := Nat) (fun i => ([(1, .ptr 0 3 0 0), (2, .ptr 1 3 0 0), (10, .sl 2 3 0 g.es.length), (11, IV .i64 g.es.length), (12, IV .i64 i)], [(0, some (.refs 3 [[IV .i64 g.r, IV .i64 g.n, .sl 2 3 0 g.es.length]])), (1, OG zeroG), (2, OE (tnI g.es i))], 3)) (fun i => i ≤ g.es.length) (fun i => g.es.length - i) 0 (Nat.zero_le _) ?_ ?_
  · refine Next.weak [0, 1, 2] [] (by rfl) (keeps0 hC _) (by repeat (first | exact trivial | refine ⟨⟨_, rfl, .inl ⟨rfl, rfl⟩⟩, ?_⟩ | refine ⟨⟨_, rfl, .inl ⟨slEq rfl tN, rfl⟩⟩, ?_⟩ | refine ⟨⟨_, rfl, .inl ⟨ivEq tX, rfl⟩⟩, ?_⟩)) (by exact ⟨ent_same rfl rfl rfl tL, ⟨⟨rfl, rfl, .fflat _ _ _ rfl tW⟩, ⟨ent_same rfl rfl rfl tL, trivial⟩⟩⟩) (fun _ h => by simp at h) rel_intro
  · intro i hi K hK
    dsimp only at hK ⊢
    refine nK ?_
    refine s_reg rfl ?_
    refine Run.pure (dd := some 13) rfl rfl (op_lss rfl (Opd.tmp _ _ rfl) (Opd.tmp _ _ rfl)) ?_
    refine Run.nil (FinR.mk ?_)
    refine nK ?_
    refine n_cond _ rfl (fun hb => ?_) (fun hb => ?_)
    · have hlt : i < g.es.length := by simp at hb; omega
      have hr1 : ((tnI g.es i).map encE)[i]? = some (encE g.es[i]) := by rw [List.getElem?_map, tnI_at hlt]; rfl
      have hK1 := hK (i + 1) (by omega) (by omega)
      rw [← tnI_set hlt] at hK1
      generalize tnI g.es i = W at *
      generalize g.es[i] = e at *
      refine nK ?_
      refine s_reg rfl ?_
      first | refine Run.pure (dd := some 14) rfl rfl (op_move rfl (Opd.tmp _ _ rfl)) ?_ | refine Run.pure (dd := some 14) rfl rfl (op_junk (.inl rfl)) ?_
      first | refine Run.pure (dd := some 15) rfl rfl (op_idx_sl0 _ rfl (Opd.tmp _ _ rfl) (Opd.tmp _ _ rfl) tD) ?_ | refine Run.pure (dd := some 15) rfl rfl (op_idx_fz _ rfl (Opd.tmp _ _ rfl) (Opd.tmp _ _ rfl) tF) ?_
      first | refine Run.load (dd := some 16) rfl rfl (op_loadw_flat rfl (Opd.tmp _ _ rfl) tH rfl) ?_ | refine Run.pure (dd := some 16) rfl rfl (op_loadw_fz rfl (Opd.tmp _ _ rfl) rfl) ?_ | refine Run.load (dd := some 16) rfl rfl (op_loadn_flat rfl (Opd.tmp _ _ rfl) tH tR tR) ?_ | refine Run.pure (dd := some 16) rfl rfl (op_loadn_fz rfl (Opd.tmp _ _ rfl) tR) ?_ | refine Run.load (dd := some 16) rfl rfl (op_loadn_refs rfl (Opd.tmp _ _ rfl) tH tR tR) ?_
      refine Run.eff (dd := some 4) rfl rfl (op_alloc rfl rfl rfl rfl) ?_
      first | refine Run.pure (dd := some 3) rfl rfl (op_assign rfl (Opd.tmp _ _ rfl)) ?_ | refine Run.pure (dd := some 3) rfl rfl (op_junk (.inr rfl)) ?_
      first | refine Run.eff (dd := none) rfl rfl (op_store_flat rfl (Opd.tmp _ _ rfl) (Opd.tmp _ _ rfl) tC rfl rfl (by first | rfl | assumption) tS) ?_ | refine Run.eff (dd := none) rfl rfl (op_store_refs rfl (Opd.tmp _ _ rfl) (Opd.tmp _ _ rfl) tP rfl rfl rfl tS) ?_
      refine Run.nil (FinR.mk ?_)
      refine nK ?_
      refine s_reg rfl ?_
      first | refine Run.pure (dd := some 17) rfl rfl (op_fld_ptr (by decide) rfl (Opd.tmp _ _ rfl)) ?_ | refine Run.pure (dd := some 17) rfl rfl (op_fld_fz (by decide) rfl (Opd.tmp _ _ rfl) tR) ?_
      first | refine Run.load (dd := some 18) rfl rfl (op_load1_flat rfl (Opd.tmp _ _ rfl) tH rfl) ?_ | refine Run.pure (dd := some 18) rfl rfl (op_load1_fz rfl (Opd.tmp _ _ rfl) rfl) ?_ | refine Run.load (dd := some 18) rfl rfl (op_load1_refs rfl (Opd.tmp _ _ rfl) tH rfl) ?_
      first | refine Run.pure (dd := some 19) rfl rfl (op_move rfl (Opd.tmp _ _ rfl)) ?_ | refine Run.pure (dd := some 19) rfl rfl (op_junk (.inl rfl)) ?_
      first | refine Run.pure (dd := some 20) rfl rfl (op_fld_ptr (by decide) rfl (Opd.tmp _ _ rfl)) ?_ | refine Run.pure (dd := some 20) rfl rfl (op_fld_fz (by decide) rfl (Opd.tmp _ _ rfl) tR) ?_
      first | refine Run.load (dd := some 21) rfl rfl (op_load1_flat rfl (Opd.tmp _ _ rfl) tH rfl) ?_ | refine Run.pure (dd := some 21) rfl rfl (op_load1_fz rfl (Opd.tmp _ _ rfl) rfl) ?_ | refine Run.load (dd := some 21) rfl rfl (op_load1_refs rfl (Opd.tmp _ _ rfl) tH rfl) ?_
      first | refine Run.pure (dd := some 22) rfl rfl (op_fld_ptr (by decide) rfl (Opd.tmp _ _ rfl)) ?_ | refine Run.pure (dd := some 22) rfl rfl (op_fld_fz (by decide) rfl (Opd.tmp _ _ rfl) tR) ?_
      first | refine Run.load (dd := some 23) rfl rfl (op_load1_flat rfl (Opd.tmp _ _ rfl) tH rfl) ?_ | refine Run.pure (dd := some 23) rfl rfl (op_load1_fz rfl (Opd.tmp _ _ rfl) rfl) ?_ | refine Run.load (dd := some 23) rfl rfl (op_load1_refs rfl (Opd.tmp _ _ rfl) tH rfl) ?_
      first | refine Run.pure (dd := some 24) rfl rfl (op_fld_ptr (by decide) rfl (Opd.tmp _ _ rfl)) ?_ | refine Run.pure (dd := some 24) rfl rfl (op_fld_fz (by decide) rfl (Opd.tmp _ _ rfl) tR) ?_
      first | refine Run.load (dd := some 25) rfl rfl (op_load1_flat rfl (Opd.tmp _ _ rfl) tH rfl) ?_ | refine Run.pure (dd := some 25) rfl rfl (op_load1_fz rfl (Opd.tmp _ _ rfl) rfl) ?_ | refine Run.load (dd := some 25) rfl rfl (op_load1_refs rfl (Opd.tmp _ _ rfl) tH rfl) ?_
      first | refine Run.pure (dd := some 26) rfl rfl (op_build rfl rfl rfl (FillF.cons _ _ _ _ _ _ _ _ _ _ (by rfl) (Opd.tmp _ _ rfl) tC (by rfl) tR (FillF.cons _ _ _ _ _ _ _ _ _ _ (by rfl) (Opd.tmp _ _ rfl) tC (by rfl) tR (FillF.cons _ _ _ _ _ _ _ _ _ _ (by rfl) (Opd.tmp _ _ rfl) tC (by rfl) tR (FillF.nil _))))) ?_ | refine Run.pure (dd := some 26) rfl rfl (op_buildP rfl rfl rfl rfl (FillP.cons _ _ _ _ _ _ _ _ _ _ (by rfl) (Opd.tmp _ _ rfl) tP (by rfl) tR (FillP.cons _ _ _ _ _ _ _ _ _ _ (by rfl) (Opd.tmp _ _ rfl) tP (by rfl) tR (FillP.cons _ _ _ _ _ _ _ _ _ _ (by rfl) (Opd.tmp _ _ rfl) tP (by rfl) tR (FillP.nil _))))) ?_
      first | refine Run.pure (dd := some 27) rfl rfl (op_idx_sl0 _ rfl (Opd.tmp _ _ rfl) (Opd.tmp _ _ rfl) tD) ?_ | refine Run.pure (dd := some 27) rfl rfl (op_idx_fz _ rfl (Opd.tmp _ _ rfl) (Opd.tmp _ _ rfl) tF) ?_
      first | refine Run.eff (dd := none) rfl rfl (op_store_flat rfl (Opd.tmp _ _ rfl) (Opd.tmp _ _ rfl) tC rfl rfl (by first | rfl | assumption) tS) ?_ | refine Run.eff (dd := none) rfl rfl (op_store_refs rfl (Opd.tmp _ _ rfl) (Opd.tmp _ _ rfl) tP rfl rfl rfl tS) ?_
      refine Run.nil (FinR.mk ?_)
      refine nK ?_
      refine s_reg rfl ?_
      refine Run.pure (dd := some 28) rfl rfl (op_add rfl (Opd.tmp _ _ rfl) (Opd.const _) tI) ?_
      first | refine Run.pure (dd := some 12) rfl rfl (op_move rfl (Opd.tmp _ _ rfl)) ?_ | refine Run.pure (dd := some 12) rfl rfl (op_junk (.inl rfl)) ?_
      refine Run.nil (FinR.mk ?_)
      refine nK ?_
      refine Next.weak [0, 1, 2] [] (by rfl) (keeps0 hC _) (by repeat (first | exact trivial | refine ⟨⟨_, rfl, .inl ⟨rfl, rfl⟩⟩, ?_⟩ | refine ⟨⟨_, rfl, .inl ⟨slEq rfl tN, rfl⟩⟩, ?_⟩ | refine ⟨⟨_, rfl, .inl ⟨ivEq tX, rfl⟩⟩, ?_⟩)) (by exact ⟨ent_same rfl rfl rfl tL, ⟨ent_same rfl rfl rfl tL, ⟨ent_same rfl rfl (flEq rfl (by rw [List.map_set]; rfl)) trivial, trivial⟩⟩⟩) (fun _ h => by simp at h) hK1
    · have hie : i = g.es.length := by simp at hb; omega
      have e1 : tnI g.es i = g.es.map turnE := by rw [hie]; simp [tnI]
      rw [e1]
      refine nK ?_
      refine s_reg rfl ?_
      first | refine Run.pure (dd := some 29) rfl rfl (op_fld_ptr (by decide) rfl (Opd.tmp _ _ rfl)) ?_ | refine Run.pure (dd := some 29) rfl rfl (op_fld_fz (by decide) rfl (Opd.tmp _ _ rfl) tR) ?_
      first | refine Run.load (dd := some 30) rfl rfl (op_load1_flat rfl (Opd.tmp _ _ rfl) tH rfl) ?_ | refine Run.pure (dd := some 30) rfl rfl (op_load1_fz rfl (Opd.tmp _ _ rfl) rfl) ?_ | refine Run.load (dd := some 30) rfl rfl (op_load1_refs rfl (Opd.tmp _ _ rfl) tH rfl) ?_
      refine Run.eff (dd := some 31) rfl rfl (op_call (n := 1) (n' := 1) [2] (fun _ => hT) rfl (Opd.func _) (Opds.cons _ _ _ _ (Opd.tmp _ _ rfl) (Opds.cons _ _ _ _ (Opd.funcF _) Opds.nil)) rfl rfl (Lent.of rfl rfl (by exact ⟨⟨rfl, rfl, rfl, trivial⟩, trivial⟩) rfl) rfl rfl rfl rfl rfl) ?_
      refine Run.nil (FinR.mk ?_)
      refine nK ?_
      rw [← hrl]
      refine Next.weak [0, 1] [2] (by rfl) (keeps0 hC _) (G' := [(1, .ptr 0 3 0 0), (2, .ptr 1 3 0 0)]) (H' := [(0, OG ⟨g.r, g.n, revL g.es⟩), (1, OG zeroG)]) (by repeat (first | exact trivial | refine ⟨⟨_, rfl, .inl ⟨rfl, rfl⟩⟩, ?_⟩ | refine ⟨⟨_, rfl, .inl ⟨slEq rfl tN, rfl⟩⟩, ?_⟩ | refine ⟨⟨_, rfl, .inl ⟨ivEq tX, rfl⟩⟩, ?_⟩)) (by exact ⟨⟨rfl, rfl, .flat _ _ _ rfl tW⟩, ⟨ent_same rfl rfl rfl tL, trivial⟩⟩) (fun id h => by obtain rfl : id = 2 := (by simpa using h); exact ⟨_, rfl⟩) ?_
      refine nK ?_
      refine s_reg rfl ?_
      first | refine Run.load (dd := some 32) rfl rfl (op_loadw_flat rfl (Opd.tmp _ _ rfl) tH rfl) ?_ | refine Run.pure (dd := some 32) rfl rfl (op_loadw_fz rfl (Opd.tmp _ _ rfl) rfl) ?_ | refine Run.load (dd := some 32) rfl rfl (op_loadn_flat rfl (Opd.tmp _ _ rfl) tH tR tR) ?_ | refine Run.pure (dd := some 32) rfl rfl (op_loadn_fz rfl (Opd.tmp _ _ rfl) tR) ?_ | refine Run.load (dd := some 32) rfl rfl (op_loadn_refs rfl (Opd.tmp _ _ rfl) tH tR tR) ?_
      first | refine Run.eff (dd := none) rfl rfl (op_store_flat rfl (Opd.tmp _ _ rfl) (Opd.tmp _ _ rfl) tC rfl rfl (by first | rfl | assumption) tS) ?_ | refine Run.eff (dd := none) rfl rfl (op_store_refs rfl (Opd.tmp _ _ rfl) (Opd.tmp _ _ rfl) tP rfl rfl rfl tS) ?_
      refine Run.nil (FinR.mk ?_)
      refine nK ?_
      (first | exact s_o1 hC rfl tV | exact s_o2 hC rfl tV tV | exact s_o3 hC rfl tV tV tV | exact s_out0 hC rfl | exact s_outO hC rfl rfl rfl)
theorem put_cv (l : List Edg) (e : Edg) (hn : l.length ≤ 2000000) : Pure Try.prog 17 [VE l, .agg (encE e)] (VE (putR e false l)) := (put_f l e hn).freeze (by simp)
def rvI (l : List Edg) (i : Nat) : List Edg := revL (l.take i)
theorem rvI_len (l : List Edg) (i : Nat) : (rvI l i).length ≤ l.length := by unfold rvI revL; rw [srtS_len, List.length_map]; exact List.length_take_le' _ _
theorem rvI_succ {l : List Edg} {i : Nat} (h : i < l.length) : putR (turnE l[i]) false (rvI l i) = rvI l (i + 1) := by
  unfold rvI
  rw [List.take_succ_eq_append_getElem h]
  unfold revL
  rw [List.map_append, List.map_singleton, srtS_snoc, putR_mrg]
theorem rreverse_c (g : Gr) (hn : g.es.length ≤ 2000000) : Pure Try.prog 7 [.agg (encG g)] (.agg (encG ⟨g.r, g.n, revL g.es⟩)) := by
  refine Meets.intro Try.func7 rfl (Nat.le_of_ble_eq_true rfl) fun C hC => ?_
  simp only [List.map, argEnv, Nat.reduceAdd]
  refine nK ?_
  refine s_reg rfl ?_
  first | refine Run.eff (dd := some 1) rfl rfl (op_box_flat rfl (Opd.tmp _ _ rfl) tC rfl) ?_ | refine Run.eff (dd := some 1) rfl rfl (op_box_refs rfl (Opd.tmp _ _ rfl) tP rfl) ?_
  refine Run.eff (dd := some 2) rfl rfl (op_alloc rfl rfl rfl rfl) ?_
  refine Run.nil (FinR.mk ?_)
  refine nK ?_
  refine s_reg rfl ?_
  first | refine Run.pure (dd := some 5) rfl rfl (op_fld_ptr (by decide) rfl (Opd.tmp _ _ rfl)) ?_ | refine Run.pure (dd := some 5) rfl rfl (op_fld_fz (by decide) rfl (Opd.tmp _ _ rfl) tR) ?_
  first | refine Run.load (dd := some 6) rfl rfl (op_load1_flat rfl (Opd.tmp _ _ rfl) tH rfl) ?_ | refine Run.pure (dd := some 6) rfl rfl (op_load1_fz rfl (Opd.tmp _ _ rfl) rfl) ?_ | refine Run.load (dd := some 6) rfl rfl (op_load1_refs rfl (Opd.tmp _ _ rfl) tH rfl) ?_
  first | refine Run.pure (dd := some 7) rfl rfl (op_fld_ptr (by decide) rfl (Opd.tmp _ _ rfl)) ?_ | refine Run.pure (dd := some 7) rfl rfl (op_fld_fz (by decide) rfl (Opd.tmp _ _ rfl) tR) ?_
  first | refine Run.load (dd := some 8) rfl rfl (op_load1_flat rfl (Opd.tmp _ _ rfl) tH rfl) ?_ | refine Run.pure (dd := some 8) rfl rfl (op_load1_fz rfl (Opd.tmp _ _ rfl) rfl) ?_ | refine Run.load (dd := some 8) rfl rfl (op_load1_refs rfl (Opd.tmp _ _ rfl) tH rfl) ?_
  first | refine Run.pure (dd := some 9) rfl rfl (op_build rfl rfl rfl (FillF.cons _ _ _ _ _ _ _ _ _ _ (by rfl) (Opd.tmp _ _ rfl) tC (by rfl) tR (FillF.cons _ _ _ _ _ _ _ _ _ _ (by rfl) (Opd.tmp _ _ rfl) tC (by rfl) tR (FillF.nil _)))) ?_ | refine Run.pure (dd := some 9) rfl rfl (op_buildP rfl rfl rfl rfl (FillP.cons _ _ _ _ _ _ _ _ _ _ (by rfl) (Opd.tmp _ _ rfl) tP (by rfl) tR (FillP.cons _ _ _ _ _ _ _ _ _ _ (by rfl) (Opd.tmp _ _ rfl) tP (by rfl) tR (FillP.nil _)))) ?_
  refine Run.eff (dd := some 3) rfl rfl (op_alloc rfl rfl rfl rfl) ?_
  first | refine Run.eff (dd := none) rfl rfl (op_store_flat rfl (Opd.tmp _ _ rfl) (Opd.tmp _ _ rfl) tC rfl rfl (by first | rfl | assumption) tS) ?_ | refine Run.eff (dd := none) rfl rfl (op_store_refs rfl (Opd.tmp _ _ rfl) (Opd.tmp _ _ rfl) tP rfl rfl rfl tS) ?_
  refine Run.nil (FinR.mk ?_)
  refine nK ?_
  refine s_reg rfl ?_
  first | refine Run.pure (dd := some 4) rfl rfl (op_assign rfl (Opd.const _)) ?_ | refine Run.pure (dd := some 4) rfl rfl (op_junk (.inr rfl)) ?_
  refine Run.nil (FinR.mk ?_)
  refine nK ?_
  refine n_loop (ι := Nat) (fun i => ([(1, .ptr 0 3 0 0), (2, .ptr 1 3 0 0), (3, .ptr 2 3 0 0), (4, IV .i64 i)], [(0, OG g), (1, OG zeroG), (2, OG ⟨g.r, g.n, rvI g.es i⟩)], 3)) (fun i => i ≤ g.es.length) (fun i => g.es.length - i) 0 (Nat.zero_le _) ?_ ?_
  · refine Next.weak [0, 1, 2] [] (by rfl) (keeps0 hC _) (by repeat (first | exact trivial | refine ⟨⟨_, rfl, .inl ⟨rfl, rfl⟩⟩, ?_⟩ | refine ⟨⟨_, rfl, .inl ⟨slEq rfl tN, rfl⟩⟩, ?_⟩ | refine ⟨⟨_, rfl, .inl ⟨ivEq tX, rfl⟩⟩, ?_⟩)) (by exact ⟨ent_same rfl rfl rfl tL, ⟨⟨rfl, rfl, .fflat _ _ _ rfl tW⟩, ⟨⟨rfl, rfl, .fflat _ _ _ rfl tW⟩, trivial⟩⟩⟩) (fun _ h => by simp at h) rel_intro
  · intro i hi K hK
    dsimp only at hK ⊢
    refine nK ?_
    refine s_reg rfl ?_
    first | refine Run.pure (dd := some 10) rfl rfl (op_move rfl (Opd.tmp _ _ rfl)) ?_ | refine Run.pure (dd := some 10) rfl rfl (op_junk (.inl rfl)) ?_
    first | refine Run.pure (dd := some 11) rfl rfl (op_fld_ptr (by decide) rfl (Opd.tmp _ _ rfl)) ?_ | refine Run.pure (dd := some 11) rfl rfl (op_fld_fz (by decide) rfl (Opd.tmp _ _ rfl) tR) ?_
    first | refine Run.load (dd := some 12) rfl rfl (op_load1_flat rfl (Opd.tmp _ _ rfl) tH rfl) ?_ | refine Run.pure (dd := some 12) rfl rfl (op_load1_fz rfl (Opd.tmp _ _ rfl) rfl) ?_ | refine Run.load (dd := some 12) rfl rfl (op_load1_refs rfl (Opd.tmp _ _ rfl) tH rfl) ?_
    first | refine Run.pure (dd := some 13) rfl rfl (op_len_fz rfl (by first | exact Opd.tmp _ _ rfl | exact Opd.nil _ _ (Opd.tmp _ _ rfl)) (by first | exact List.length_map _ | rfl)) ?_ | refine Run.pure (dd := some 13) rfl rfl (op_len_sl rfl (Opd.tmp _ _ rfl)) ?_
    refine Run.pure (dd := some 14) rfl rfl (op_lss rfl (Opd.tmp _ _ rfl) (Opd.tmp _ _ rfl)) ?_
    refine Run.nil (FinR.mk ?_)
    refine nK ?_
    refine n_cond _ rfl (fun hb => ?_) (fun hb => ?_)
    · have hlt : i < g.es.length := by simp at hb; omega
      have hr1 := row_at' encE g.es i hlt
      have hK1 := hK (i + 1) (by omega) (by omega)
      rw [← rvI_succ hlt] at hK1
      have hl := rvI_len g.es i
      generalize rvI g.es i = W at *
      generalize g.es[i] = e at *
      have hpc := put_cv W (turnE e) (by omega)
      refine nK ?_
      refine s_draw mixed ?_
      first | refine Run.pure (dd := some 17) rfl rfl (op_fld_ptr (by decide) rfl (Opd.tmp _ _ rfl)) ?_ | refine Run.pure (dd := some 17) rfl rfl (op_fld_fz (by decide) rfl (Opd.tmp _ _ rfl) tR) ?_
      first | refine Run.load (dd := some 18) rfl rfl (op_load1_flat rfl (Opd.tmp _ _ rfl) tH rfl) ?_ | refine Run.pure (dd := some 18) rfl rfl (op_load1_fz rfl (Opd.tmp _ _ rfl) rfl) ?_ | refine Run.load (dd := some 18) rfl rfl (op_load1_refs rfl (Opd.tmp _ _ rfl) tH rfl) ?_
      first | refine Run.pure (dd := some 19) rfl rfl (op_fld_ptr (by decide) rfl (Opd.tmp _ _ rfl)) ?_ | refine Run.pure (dd := some 19) rfl rfl (op_fld_fz (by decide) rfl (Opd.tmp _ _ rfl) tR) ?_
      first | refine Run.load (dd := some 20) rfl rfl (op_load1_flat rfl (Opd.tmp _ _ rfl) tH rfl) ?_ | refine Run.pure (dd := some 20) rfl rfl (op_load1_fz rfl (Opd.tmp _ _ rfl) rfl) ?_ | refine Run.load (dd := some 20) rfl rfl (op_load1_refs rfl (Opd.tmp _ _ rfl) tH rfl) ?_
      first | refine Run.pure (dd := some 21) rfl rfl (op_move rfl (Opd.tmp _ _ rfl)) ?_ | refine Run.pure (dd := some 21) rfl rfl (op_junk (.inl rfl)) ?_
      first | refine Run.pure (dd := some 22) rfl rfl (op_idx_sl0 _ rfl (Opd.tmp _ _ rfl) (Opd.tmp _ _ rfl) tD) ?_ | refine Run.pure (dd := some 22) rfl rfl (op_idx_fz _ rfl (Opd.tmp _ _ rfl) (Opd.tmp _ _ rfl) tF) ?_
      first | refine Run.pure (dd := some 23) rfl rfl (op_fld_ptr (by decide) rfl (Opd.tmp _ _ rfl)) ?_ | refine Run.pure (dd := some 23) rfl rfl (op_fld_fz (by decide) rfl (Opd.tmp _ _ rfl) tR) ?_
      first | refine Run.load (dd := some 24) rfl rfl (op_load1_flat rfl (Opd.tmp _ _ rfl) tH rfl) ?_ | refine Run.pure (dd := some 24) rfl rfl (op_load1_fz rfl (Opd.tmp _ _ rfl) rfl) ?_ | refine Run.load (dd := some 24) rfl rfl (op_load1_refs rfl (Opd.tmp _ _ rfl) tH rfl) ?_
      first | refine Run.pure (dd := some 25) rfl rfl (op_fld_ptr (by decide) rfl (Opd.tmp _ _ rfl)) ?_ | refine Run.pure (dd := some 25) rfl rfl (op_fld_fz (by decide) rfl (Opd.tmp _ _ rfl) tR) ?_
      first | refine Run.load (dd := some 26) rfl rfl (op_load1_flat rfl (Opd.tmp _ _ rfl) tH rfl) ?_ | refine Run.pure (dd := some 26) rfl rfl (op_load1_fz rfl (Opd.tmp _ _ rfl) rfl) ?_ | refine Run.load (dd := some 26) rfl rfl (op_load1_refs rfl (Opd.tmp _ _ rfl) tH rfl) ?_
      first | refine Run.pure (dd := some 27) rfl rfl (op_move rfl (Opd.tmp _ _ rfl)) ?_ | refine Run.pure (dd := some 27) rfl rfl (op_junk (.inl rfl)) ?_
      first | refine Run.pure (dd := some 28) rfl rfl (op_idx_sl0 _ rfl (Opd.tmp _ _ rfl) (Opd.tmp _ _ rfl) tD) ?_ | refine Run.pure (dd := some 28) rfl rfl (op_idx_fz _ rfl (Opd.tmp _ _ rfl) (Opd.tmp _ _ rfl) tF) ?_
      first | refine Run.pure (dd := some 29) rfl rfl (op_fld_ptr (by decide) rfl (Opd.tmp _ _ rfl)) ?_ | refine Run.pure (dd := some 29) rfl rfl (op_fld_fz (by decide) rfl (Opd.tmp _ _ rfl) tR) ?_
      first | refine Run.load (dd := some 30) rfl rfl (op_load1_flat rfl (Opd.tmp _ _ rfl) tH rfl) ?_ | refine Run.pure (dd := some 30) rfl rfl (op_load1_fz rfl (Opd.tmp _ _ rfl) rfl) ?_ | refine Run.load (dd := some 30) rfl rfl (op_load1_refs rfl (Opd.tmp _ _ rfl) tH rfl) ?_
      first | refine Run.pure (dd := some 31) rfl rfl (op_fld_ptr (by decide) rfl (Opd.tmp _ _ rfl)) ?_ | refine Run.pure (dd := some 31) rfl rfl (op_fld_fz (by decide) rfl (Opd.tmp _ _ rfl) tR) ?_
      first | refine Run.load (dd := some 32) rfl rfl (op_load1_flat rfl (Opd.tmp _ _ rfl) tH rfl) ?_ | refine Run.pure (dd := some 32) rfl rfl (op_load1_fz rfl (Opd.tmp _ _ rfl) rfl) ?_ | refine Run.load (dd := some 32) rfl rfl (op_load1_refs rfl (Opd.tmp _ _ rfl) tH rfl) ?_
      first | refine Run.pure (dd := some 33) rfl rfl (op_move rfl (Opd.tmp _ _ rfl)) ?_ | refine Run.pure (dd := some 33) rfl rfl (op_junk (.inl rfl)) ?_
      first | refine Run.pure (dd := some 34) rfl rfl (op_idx_sl0 _ rfl (Opd.tmp _ _ rfl) (Opd.tmp _ _ rfl) tD) ?_ | refine Run.pure (dd := some 34) rfl rfl (op_idx_fz _ rfl (Opd.tmp _ _ rfl) (Opd.tmp _ _ rfl) tF) ?_
      first | refine Run.pure (dd := some 35) rfl rfl (op_fld_ptr (by decide) rfl (Opd.tmp _ _ rfl)) ?_ | refine Run.pure (dd := some 35) rfl rfl (op_fld_fz (by decide) rfl (Opd.tmp _ _ rfl) tR) ?_
      first | refine Run.load (dd := some 36) rfl rfl (op_load1_flat rfl (Opd.tmp _ _ rfl) tH rfl) ?_ | refine Run.pure (dd := some 36) rfl rfl (op_load1_fz rfl (Opd.tmp _ _ rfl) rfl) ?_ | refine Run.load (dd := some 36) rfl rfl (op_load1_refs rfl (Opd.tmp _ _ rfl) tH rfl) ?_
      first | refine Run.pure (dd := some 37) rfl rfl (op_build rfl rfl rfl (FillF.cons _ _ _ _ _ _ _ _ _ _ (by rfl) (Opd.tmp _ _ rfl) tC (by rfl) tR (FillF.cons _ _ _ _ _ _ _ _ _ _ (by rfl) (Opd.tmp _ _ rfl) tC (by rfl) tR (FillF.cons _ _ _ _ _ _ _ _ _ _ (by rfl) (Opd.tmp _ _ rfl) tC (by rfl) tR (FillF.nil _))))) ?_ | refine Run.pure (dd := some 37) rfl rfl (op_buildP rfl rfl rfl rfl (FillP.cons _ _ _ _ _ _ _ _ _ _ (by rfl) (Opd.tmp _ _ rfl) tP (by rfl) tR (FillP.cons _ _ _ _ _ _ _ _ _ _ (by rfl) (Opd.tmp _ _ rfl) tP (by rfl) tR (FillP.cons _ _ _ _ _ _ _ _ _ _ (by rfl) (Opd.tmp _ _ rfl) tP (by rfl) tR (FillP.nil _))))) ?_
      refine Run.pure (dd := some 38) rfl rfl (op_call_pure (fun _ => hpc) rfl (Opd.func _) (Opds.cons _ _ _ _ (Opd.tmp _ _ rfl) (Opds.cons _ _ _ _ (Opd.tmp _ _ rfl) Opds.nil))) ?_
      first | refine Run.pure (dd := some 39) rfl rfl (op_fld_ptr (by decide) rfl (Opd.tmp _ _ rfl)) ?_ | refine Run.pure (dd := some 39) rfl rfl (op_fld_fz (by decide) rfl (Opd.tmp _ _ rfl) tR) ?_
      first | refine Run.effW (dd := none) rfl rfl (op_store_flat rfl (Opd.tmp _ _ rfl) (Opd.tmp _ _ rfl) tC rfl rfl (by first | rfl | assumption) tS) tE ?_ | refine Run.effW (dd := none) rfl rfl (op_store_refs rfl (Opd.tmp _ _ rfl) (Opd.tmp _ _ rfl) tP rfl rfl rfl tS) tE ?_
      refine Run.nil (FinD.mk (by kernel_rfl) ?_)
      refine nK ?_
      refine s_reg rfl ?_
      first | refine Run.pure (dd := some 15) rfl rfl (op_move rfl (Opd.tmp _ _ rfl)) ?_ | refine Run.pure (dd := some 15) rfl rfl (op_junk (.inl rfl)) ?_
      refine Run.pure (dd := some 16) rfl rfl (op_add rfl (Opd.tmp _ _ rfl) (Opd.const _) tI) ?_
      first | refine Run.pure (dd := some 4) rfl rfl (op_assign rfl (Opd.tmp _ _ rfl)) ?_ | refine Run.pure (dd := some 4) rfl rfl (op_junk (.inr rfl)) ?_
      refine Run.nil (FinR.mk ?_)
      refine nK ?_
      refine Next.weakS [1, 2, 3] [] (by rfl) (by first | exact keeps0 hC _ | exact keepsN hC _ rfl) (by repeat (first | exact trivial | refine ⟨⟨_, rfl, .inl ⟨rfl, rfl⟩⟩, ?_⟩ | refine ⟨⟨_, rfl, .inl ⟨slEq rfl tN, rfl⟩⟩, ?_⟩ | refine ⟨⟨_, rfl, .inl ⟨ivEq tX, rfl⟩⟩, ?_⟩)) (by repeat (first | exact trivial | refine ⟨ent_same rfl rfl rfl tL, ?_⟩ | refine ⟨ent_same rfl rfl (rfEq rfl tU) tL, ?_⟩ | refine ⟨ent_same rfl rfl (flEq rfl (by first | (simp; done) | (simp; omega) | (simp [encE, encN, encB]; done) | simp [maxC, minC])) trivial, ?_⟩)) rfl (hK1)
    · have hie : i = g.es.length := by simp at hb; omega
      have e1 : rvI g.es i = revL g.es := by rw [hie]; simp [rvI]
      rw [e1]
      refine nK ?_
      refine s_reg rfl ?_
      first | refine Run.load (dd := some 40) rfl rfl (op_loadw_flat rfl (Opd.tmp _ _ rfl) tH rfl) ?_ | refine Run.pure (dd := some 40) rfl rfl (op_loadw_fz rfl (Opd.tmp _ _ rfl) rfl) ?_ | refine Run.load (dd := some 40) rfl rfl (op_loadn_flat rfl (Opd.tmp _ _ rfl) tH tR tR) ?_ | refine Run.pure (dd := some 40) rfl rfl (op_loadn_fz rfl (Opd.tmp _ _ rfl) tR) ?_ | refine Run.load (dd := some 40) rfl rfl (op_loadn_refs rfl (Opd.tmp _ _ rfl) tH tR tR) ?_
      first | refine Run.eff (dd := none) rfl rfl (op_store_flat rfl (Opd.tmp _ _ rfl) (Opd.tmp _ _ rfl) tC rfl rfl (by first | rfl | assumption) tS) ?_ | refine Run.eff (dd := none) rfl rfl (op_store_refs rfl (Opd.tmp _ _ rfl) (Opd.tmp _ _ rfl) tP rfl rfl rfl tS) ?_
      refine Run.nil (FinR.mk ?_)
      refine nK ?_
      (first | exact s_o1 hC rfl tV | exact s_o2 hC rfl tV tV | exact s_o3 hC rfl tV tV tV | exact s_out0 hC rfl | exact s_outO hC rfl rfl rfl)
end Go.Proofs.Ytdbdajokdipmlaa
namespace Go.Proofs.Ytdbdajokdipmlaa
open Go Go.RT Go.Proofs Go.Pl
set_option linter.all false
set_option maxRecDepth 20000
set_option maxHeartbeats 4000000
theorem keepL_le (p : Edg → Bool) (l : List Edg) : (keepL p l).length ≤ l.length := keep_len p l
theorem revL_len (l : List Edg) : (revL l).length = l.length := by unfold revL; rw [srtS_len, List.length_map]
theorem turns_law (g : Gr) (a b : Int) (hg : okG g) (hn : g.es.length ≤ 2000000) : Pure Try.prog 3 [.agg (encG g), If .i64 a, If .i64 b] (Bf true) := by
  have k1 := keepL_le (pW a) g.es
  have k2 := keepL_le (pC a b) g.es
  have k3 := revL_len g.es
  refine Meets.intro Try.func3 rfl (Nat.le_of_ble_eq_true rfl) fun C hC => ?_
  simp only [List.map, argEnv, Nat.reduceAdd]
  refine nK ?_
  refine s_reg rfl ?_
  first | refine Run.eff (dd := some 3) rfl rfl (op_box_flat rfl (Opd.tmp _ _ rfl) tC rfl) ?_ | refine Run.eff (dd := some 3) rfl rfl (op_box_refs rfl (Opd.tmp _ _ rfl) tP rfl) ?_
  first | refine Run.pure (dd := some 6) rfl rfl (op_assign rfl (Opd.const _)) ?_ | refine Run.pure (dd := some 6) rfl rfl (op_junk (.inr rfl)) ?_
  refine Run.nil (FinR.mk ?_)
  refine nK ?_
  refine s_draw mixed ?_
  first | refine Run.load (dd := some 7) rfl rfl (op_loadw_flat rfl (Opd.tmp _ _ rfl) tH rfl) ?_ | refine Run.pure (dd := some 7) rfl rfl (op_loadw_fz rfl (Opd.tmp _ _ rfl) rfl) ?_ | refine Run.load (dd := some 7) rfl rfl (op_loadn_flat rfl (Opd.tmp _ _ rfl) tH tR tR) ?_ | refine Run.pure (dd := some 7) rfl rfl (op_loadn_fz rfl (Opd.tmp _ _ rfl) tR) ?_ | refine Run.load (dd := some 7) rfl rfl (op_loadn_refs rfl (Opd.tmp _ _ rfl) tH tR tR) ?_
  refine Run.pure (dd := some 8) rfl rfl (op_call_pure (fun _ => reverse_c g hn) rfl (Opd.func _) (Opds.cons _ _ _ _ (Opd.tmp _ _ rfl) Opds.nil)) ?_
  first | refine Run.load (dd := some 9) rfl rfl (op_loadw_flat rfl (Opd.tmp _ _ rfl) tH rfl) ?_ | refine Run.pure (dd := some 9) rfl rfl (op_loadw_fz rfl (Opd.tmp _ _ rfl) rfl) ?_ | refine Run.load (dd := some 9) rfl rfl (op_loadn_flat rfl (Opd.tmp _ _ rfl) tH tR tR) ?_ | refine Run.pure (dd := some 9) rfl rfl (op_loadn_fz rfl (Opd.tmp _ _ rfl) tR) ?_ | refine Run.load (dd := some 9) rfl rfl (op_loadn_refs rfl (Opd.tmp _ _ rfl) tH tR tR) ?_
  refine Run.pure (dd := some 10) rfl rfl (op_call_pure (fun _ => rreverse_c g hn) rfl (Opd.func _) (Opds.cons _ _ _ _ (Opd.tmp _ _ rfl) Opds.nil)) ?_
  refine Run.pure (dd := some 11) rfl rfl (op_call_pure (fun _ => same_c _ _ (by first | omega | (dsimp only; omega)) (by first | omega | (dsimp only; omega))) rfl (Opd.func _) (Opds.cons _ _ _ _ (Opd.tmp _ _ rfl) (Opds.cons _ _ _ _ (Opd.tmp _ _ rfl) Opds.nil))) ?_
  first | refine Run.pure (dd := some 12) rfl rfl (op_move rfl (Opd.tmp _ _ rfl)) ?_ | refine Run.pure (dd := some 12) rfl rfl (op_junk (.inl rfl)) ?_
  first | refine Run.loadG (dd := some 13) rfl rfl rfl tG (op_loadw_flat rfl (Opd.tmp _ _ rfl) tH rfl) ?_ | refine Run.pureG (dd := some 13) rfl rfl rfl tG (op_loadw_fz rfl (Opd.tmp _ _ rfl) rfl) ?_ | refine Run.loadG (dd := some 13) rfl rfl rfl tG (op_loadn_flat rfl (Opd.tmp _ _ rfl) tH tR tR) ?_ | refine Run.pureG (dd := some 13) rfl rfl rfl tG (op_loadn_fz rfl (Opd.tmp _ _ rfl) tR) ?_ | refine Run.loadG (dd := some 13) rfl rfl rfl tG (op_loadn_refs rfl (Opd.tmp _ _ rfl) tH tR tR) ?_
  first | refine Run.pureG (dd := some 14) rfl rfl rfl tG (op_move rfl (Opd.tmp _ _ rfl)) ?_ | refine Run.pureG (dd := some 14) rfl rfl rfl tG (op_junk (.inl rfl)) ?_
  refine Run.pureG (dd := some 15) rfl rfl rfl tG (op_call_pure (fun _ => cwithout_c g a hn) rfl (Opd.func _) (Opds.cons _ _ _ _ (Opd.topt _ _ _ rfl tO) (Opds.cons _ _ _ _ (Opd.topt _ _ _ rfl tO) Opds.nil))) ?_
  first | refine Run.loadG (dd := some 16) rfl rfl rfl tG (op_loadw_flat rfl (Opd.tmp _ _ rfl) tH rfl) ?_ | refine Run.pureG (dd := some 16) rfl rfl rfl tG (op_loadw_fz rfl (Opd.tmp _ _ rfl) rfl) ?_ | refine Run.loadG (dd := some 16) rfl rfl rfl tG (op_loadn_flat rfl (Opd.tmp _ _ rfl) tH tR tR) ?_ | refine Run.pureG (dd := some 16) rfl rfl rfl tG (op_loadn_fz rfl (Opd.tmp _ _ rfl) tR) ?_ | refine Run.loadG (dd := some 16) rfl rfl rfl tG (op_loadn_refs rfl (Opd.tmp _ _ rfl) tH tR tR) ?_
  first | refine Run.pureG (dd := some 17) rfl rfl rfl tG (op_move rfl (Opd.tmp _ _ rfl)) ?_ | refine Run.pureG (dd := some 17) rfl rfl rfl tG (op_junk (.inl rfl)) ?_
  refine Run.pureG (dd := some 18) rfl rfl rfl tG (op_call_pure (fun _ => rwithout_c g a hn) rfl (Opd.func _) (Opds.cons _ _ _ _ (Opd.topt _ _ _ rfl tO) (Opds.cons _ _ _ _ (Opd.topt _ _ _ rfl tO) Opds.nil))) ?_
  refine Run.pureG (dd := some 19) rfl rfl rfl tG (op_call_pure (fun _ => same_c _ _ (by first | omega | (dsimp only; omega)) (by first | omega | (dsimp only; omega))) rfl (Opd.func _) (Opds.cons _ _ _ _ (Opd.topt _ _ _ rfl tO) (Opds.cons _ _ _ _ (Opd.topt _ _ _ rfl tO) Opds.nil))) ?_
  refine Run.pure (dd := some 20) rfl rfl (op_pick_and rfl (Opd.tmp _ _ rfl) (Opd.topt _ _ _ rfl tO)) ?_
  first | refine Run.pure (dd := some 21) rfl rfl (op_move rfl (Opd.tmp _ _ rfl)) ?_ | refine Run.pure (dd := some 21) rfl rfl (op_junk (.inl rfl)) ?_
  first | refine Run.loadG (dd := some 22) rfl rfl rfl tG (op_loadw_flat rfl (Opd.tmp _ _ rfl) tH rfl) ?_ | refine Run.pureG (dd := some 22) rfl rfl rfl tG (op_loadw_fz rfl (Opd.tmp _ _ rfl) rfl) ?_ | refine Run.loadG (dd := some 22) rfl rfl rfl tG (op_loadn_flat rfl (Opd.tmp _ _ rfl) tH tR tR) ?_ | refine Run.pureG (dd := some 22) rfl rfl rfl tG (op_loadn_fz rfl (Opd.tmp _ _ rfl) tR) ?_ | refine Run.loadG (dd := some 22) rfl rfl rfl tG (op_loadn_refs rfl (Opd.tmp _ _ rfl) tH tR tR) ?_
  first | refine Run.pureG (dd := some 23) rfl rfl rfl tG (op_move rfl (Opd.tmp _ _ rfl)) ?_ | refine Run.pureG (dd := some 23) rfl rfl rfl tG (op_junk (.inl rfl)) ?_
  first | refine Run.pureG (dd := some 24) rfl rfl rfl tG (op_move rfl (Opd.tmp _ _ rfl)) ?_ | refine Run.pureG (dd := some 24) rfl rfl rfl tG (op_junk (.inl rfl)) ?_
  refine Run.pureG (dd := some 25) rfl rfl rfl tG (op_call_pure (fun _ => ccut_c g a b hn) rfl (Opd.func _) (Opds.cons _ _ _ _ (Opd.topt _ _ _ rfl tO) (Opds.cons _ _ _ _ (Opd.topt _ _ _ rfl tO) (Opds.cons _ _ _ _ (Opd.topt _ _ _ rfl tO) Opds.nil)))) ?_
  first | refine Run.loadG (dd := some 26) rfl rfl rfl tG (op_loadw_flat rfl (Opd.tmp _ _ rfl) tH rfl) ?_ | refine Run.pureG (dd := some 26) rfl rfl rfl tG (op_loadw_fz rfl (Opd.tmp _ _ rfl) rfl) ?_ | refine Run.loadG (dd := some 26) rfl rfl rfl tG (op_loadn_flat rfl (Opd.tmp _ _ rfl) tH tR tR) ?_ | refine Run.pureG (dd := some 26) rfl rfl rfl tG (op_loadn_fz rfl (Opd.tmp _ _ rfl) tR) ?_ | refine Run.loadG (dd := some 26) rfl rfl rfl tG (op_loadn_refs rfl (Opd.tmp _ _ rfl) tH tR tR) ?_
  first | refine Run.pureG (dd := some 27) rfl rfl rfl tG (op_move rfl (Opd.tmp _ _ rfl)) ?_ | refine Run.pureG (dd := some 27) rfl rfl rfl tG (op_junk (.inl rfl)) ?_
  first | refine Run.pureG (dd := some 28) rfl rfl rfl tG (op_move rfl (Opd.tmp _ _ rfl)) ?_ | refine Run.pureG (dd := some 28) rfl rfl rfl tG (op_junk (.inl rfl)) ?_
  refine Run.pureG (dd := some 29) rfl rfl rfl tG (op_call_pure (fun _ => rcut_c g a b hn) rfl (Opd.func _) (Opds.cons _ _ _ _ (Opd.topt _ _ _ rfl tO) (Opds.cons _ _ _ _ (Opd.topt _ _ _ rfl tO) (Opds.cons _ _ _ _ (Opd.topt _ _ _ rfl tO) Opds.nil)))) ?_
  refine Run.pureG (dd := some 30) rfl rfl rfl tG (op_call_pure (fun _ => same_c _ _ (by first | omega | (dsimp only; omega)) (by first | omega | (dsimp only; omega))) rfl (Opd.func _) (Opds.cons _ _ _ _ (Opd.topt _ _ _ rfl tO) (Opds.cons _ _ _ _ (Opd.topt _ _ _ rfl tO) Opds.nil))) ?_
  refine Run.pure (dd := some 31) rfl rfl (op_pick_and rfl (Opd.tmp _ _ rfl) (Opd.topt _ _ _ rfl tO)) ?_
  first | refine Run.pure (dd := some 32) rfl rfl (op_move rfl (Opd.tmp _ _ rfl)) ?_ | refine Run.pure (dd := some 32) rfl rfl (op_junk (.inl rfl)) ?_
  refine Run.pureG (dd := some 33) rfl rfl rfl tG (op_call_pure (fun _ => lives_c) rfl (Opd.func _) Opds.nil) ?_
  refine Run.pure (dd := some 34) rfl rfl (op_pick_and rfl (Opd.tmp _ _ rfl) (Opd.topt _ _ _ rfl tO)) ?_
  first | refine Run.pure (dd := some 6) rfl rfl (op_assign rfl (Opd.tmp _ _ rfl)) ?_ | refine Run.pure (dd := some 6) rfl rfl (op_junk (.inr rfl)) ?_
  refine Run.nil (FinD.mk (by kernel_rfl) ?_)
  refine nK ?_
  refine s_oB hC rfl rfl ?_
  simp
theorem okEs_keep {p : Edg → Bool} {l : List Edg} (h : okEs l) : okEs (keepL p l) := fun x hx => h x (List.mem_filter.1 hx).1
theorem keep_check {g : Gr} (h : checkI g = 0) (p : Edg → Bool) : checkI ⟨g.r, g.n, keepL p g.es⟩ = 0 := by
  obtain ⟨⟨h1, h2, h3⟩, h4, h5⟩ := checkI_ok h
  have hal := chkL_alw _ _ h5
  have hl : (keepL p g.es).length ≤ g.es.length := keep_len p g.es
  have hc := chkL_of (g := ⟨g.r, g.n, keepL p g.es⟩) (keepL p g.es) none (fun e he => hal e (List.mem_filter.1 he).1) ((check_asc h).sublist List.filter_sublist) (fun q hq => by cases hq)
  unfold checkI
  have hs : sizeI ⟨g.r, g.n, keepL p g.es⟩ = 0 := by
    unfold sizeI
    rw [if_neg (by dsimp only; omega), if_neg (by dsimp only; omega)]
  rw [if_neg (by rw [hs]; simp)]; exact hc
theorem okEs_rev {l : List Edg} (h : okEs l) : okEs (revL l) := fun x hx => by
  have := h _ ((revL_mem l x).1 hx)
  exact ⟨this.2.1, this.1, this.2.2⟩
theorem keeps_law (g : Gr) (a b : Int) (hg : okG g) : Pure Try.prog 4 [.agg (encG g), If .i64 a, If .i64 b] (Bf true) := by
  have c0 := check_c g hg
  refine Meets.intro Try.func4 rfl (Nat.le_of_ble_eq_true rfl) fun C hC => ?_
  simp only [List.map, argEnv, Nat.reduceAdd]
  refine nK ?_
  refine s_reg rfl ?_
  first | refine Run.eff (dd := some 3) rfl rfl (op_box_flat rfl (Opd.tmp _ _ rfl) tC rfl) ?_ | refine Run.eff (dd := some 3) rfl rfl (op_box_refs rfl (Opd.tmp _ _ rfl) tP rfl) ?_
  first | refine Run.pure (dd := some 6) rfl rfl (op_assign rfl (Opd.const _)) ?_ | refine Run.pure (dd := some 6) rfl rfl (op_junk (.inr rfl)) ?_
  refine Run.nil (FinR.mk ?_)
  refine nK ?_
  refine s_reg rfl ?_
  first | refine Run.load (dd := some 8) rfl rfl (op_loadw_flat rfl (Opd.tmp _ _ rfl) tH rfl) ?_ | refine Run.pure (dd := some 8) rfl rfl (op_loadw_fz rfl (Opd.tmp _ _ rfl) rfl) ?_ | refine Run.load (dd := some 8) rfl rfl (op_loadn_flat rfl (Opd.tmp _ _ rfl) tH tR tR) ?_ | refine Run.pure (dd := some 8) rfl rfl (op_loadn_fz rfl (Opd.tmp _ _ rfl) tR) ?_ | refine Run.load (dd := some 8) rfl rfl (op_loadn_refs rfl (Opd.tmp _ _ rfl) tH tR tR) ?_
  refine Run.pure (dd := some 9) rfl rfl (op_call_pure (fun _ => c0) rfl (Opd.func _) (Opds.cons _ _ _ _ (Opd.tmp _ _ rfl) Opds.nil)) ?_
  refine Run.pure (dd := some 10) rfl rfl (op_neq rfl (Opd.tmp _ _ rfl) (Opd.const _)) ?_
  refine Run.nil (FinR.mk ?_)
  refine nK ?_
  refine n_cond _ rfl (fun hb => ?_) (fun hb => ?_)
  · refine nK ?_
    refine s_reg rfl ?_
    refine Run.pure (dd := some 11) rfl rfl (op_call_pure (fun _ => lives_c) rfl (Opd.func _) Opds.nil) ?_
    first | refine Run.pure (dd := some 6) rfl rfl (op_assign rfl (Opd.tmp _ _ rfl)) ?_ | refine Run.pure (dd := some 6) rfl rfl (op_junk (.inr rfl)) ?_
    refine Run.nil (FinR.mk ?_)
    refine nK ?_
    refine s_oB hC rfl rfl ?_
    rfl
  · have h0 : checkI g = 0 := by simpa using hb
    have hn : g.es.length ≤ 2000000 := by have := (checkI_ok h0).2.1; omega
    have k1 := keepL_le (pW a) g.es
    have k2 := keepL_le (pC a b) g.es
    have k3 := revL_len g.es
    have k4 := revL_len (revL g.es)
    have c1 := check_c ⟨g.r, g.n, keepL (pW a) g.es⟩ ⟨hg.1, hg.2.1, okEs_keep hg.2.2⟩
    have c2 := check_c ⟨g.r, g.n, keepL (pC a b) g.es⟩ ⟨hg.1, hg.2.1, okEs_keep hg.2.2⟩
    have c3 := check_c ⟨g.r, g.n, revL g.es⟩ ⟨hg.1, hg.2.1, okEs_rev hg.2.2⟩
    have r1 := reverse_c g hn
    have r2 := reverse_c ⟨g.r, g.n, revL g.es⟩ (by dsimp only; omega)
    have s1 := same_c ⟨g.r, g.n, revL (revL g.es)⟩ g (by dsimp only; omega) (by omega)
    have d1 := keep_check h0 (pW a)
    have d2 := keep_check h0 (pC a b)
    refine nK ?_
    refine s_reg rfl ?_
    first | refine Run.load (dd := some 12) rfl rfl (op_loadw_flat rfl (Opd.tmp _ _ rfl) tH rfl) ?_ | refine Run.pure (dd := some 12) rfl rfl (op_loadw_fz rfl (Opd.tmp _ _ rfl) rfl) ?_ | refine Run.load (dd := some 12) rfl rfl (op_loadn_flat rfl (Opd.tmp _ _ rfl) tH tR tR) ?_ | refine Run.pure (dd := some 12) rfl rfl (op_loadn_fz rfl (Opd.tmp _ _ rfl) tR) ?_ | refine Run.load (dd := some 12) rfl rfl (op_loadn_refs rfl (Opd.tmp _ _ rfl) tH tR tR) ?_
    first | refine Run.pure (dd := some 13) rfl rfl (op_move rfl (Opd.tmp _ _ rfl)) ?_ | refine Run.pure (dd := some 13) rfl rfl (op_junk (.inl rfl)) ?_
    refine Run.pure (dd := some 14) rfl rfl (op_call_pure (fun _ => cwithout_c g a hn) rfl (Opd.func _) (Opds.cons _ _ _ _ (Opd.tmp _ _ rfl) (Opds.cons _ _ _ _ (Opd.tmp _ _ rfl) Opds.nil))) ?_
    refine Run.pure (dd := some 15) rfl rfl (op_call_pure (fun _ => c1) rfl (Opd.func _) (Opds.cons _ _ _ _ (Opd.tmp _ _ rfl) Opds.nil)) ?_
    refine Run.pure (dd := some 16) rfl rfl (op_neq rfl (Opd.tmp _ _ rfl) (Opd.const _)) ?_
    first | refine Run.pure (dd := some 17) rfl rfl (op_move rfl (Opd.tmp _ _ rfl)) ?_ | refine Run.pure (dd := some 17) rfl rfl (op_junk (.inl rfl)) ?_
    first | refine Run.loadG (dd := some 18) rfl rfl rfl tG (op_loadw_flat rfl (Opd.tmp _ _ rfl) tH rfl) ?_ | refine Run.pureG (dd := some 18) rfl rfl rfl tG (op_loadw_fz rfl (Opd.tmp _ _ rfl) rfl) ?_ | refine Run.loadG (dd := some 18) rfl rfl rfl tG (op_loadn_flat rfl (Opd.tmp _ _ rfl) tH tR tR) ?_ | refine Run.pureG (dd := some 18) rfl rfl rfl tG (op_loadn_fz rfl (Opd.tmp _ _ rfl) tR) ?_ | refine Run.loadG (dd := some 18) rfl rfl rfl tG (op_loadn_refs rfl (Opd.tmp _ _ rfl) tH tR tR) ?_
    first | refine Run.pureG (dd := some 19) rfl rfl rfl tG (op_move rfl (Opd.tmp _ _ rfl)) ?_ | refine Run.pureG (dd := some 19) rfl rfl rfl tG (op_junk (.inl rfl)) ?_
    first | refine Run.pureG (dd := some 20) rfl rfl rfl tG (op_move rfl (Opd.tmp _ _ rfl)) ?_ | refine Run.pureG (dd := some 20) rfl rfl rfl tG (op_junk (.inl rfl)) ?_
    refine Run.pureG (dd := some 21) rfl rfl rfl tG (op_call_pure (fun _ => ccut_c g a b hn) rfl (Opd.func _) (Opds.cons _ _ _ _ (Opd.topt _ _ _ rfl tO) (Opds.cons _ _ _ _ (Opd.topt _ _ _ rfl tO) (Opds.cons _ _ _ _ (Opd.topt _ _ _ rfl tO) Opds.nil)))) ?_
    refine Run.pureG (dd := some 22) rfl rfl rfl tG (op_call_pure (fun _ => c2) rfl (Opd.func _) (Opds.cons _ _ _ _ (Opd.topt _ _ _ rfl tO) Opds.nil)) ?_
    refine Run.pureG (dd := some 23) rfl rfl rfl tG (op_neq rfl (Opd.topt _ _ _ rfl tO) (Opd.const _)) ?_
    refine Run.pure (dd := some 24) rfl rfl (op_pick_or rfl (Opd.tmp _ _ rfl) (Opd.topt _ _ _ rfl tO)) ?_
    refine Run.nil (FinR.mk ?_)
    refine nK ?_
    refine n_cond _ rfl (fun hb => ?_) (fun hb => ?_)
    · exfalso
      simp [d1, d2] at hb
    · refine nK ?_
      refine s_reg rfl ?_
      first | refine Run.pure (dd := some 25) rfl rfl (op_fld_ptr (by decide) rfl (Opd.tmp _ _ rfl)) ?_ | refine Run.pure (dd := some 25) rfl rfl (op_fld_fz (by decide) rfl (Opd.tmp _ _ rfl) tR) ?_
      first | refine Run.load (dd := some 26) rfl rfl (op_load1_flat rfl (Opd.tmp _ _ rfl) tH rfl) ?_ | refine Run.pure (dd := some 26) rfl rfl (op_load1_fz rfl (Opd.tmp _ _ rfl) rfl) ?_ | refine Run.load (dd := some 26) rfl rfl (op_load1_refs rfl (Opd.tmp _ _ rfl) tH rfl) ?_
      refine Run.pure (dd := some 27) rfl rfl (op_neq rfl (Opd.tmp _ _ rfl) (Opd.const _)) ?_
      refine Run.nil (FinR.mk ?_)
      refine nK ?_
      refine n_cond _ rfl (fun hb => ?_) (fun hb => ?_)
      · refine nK ?_
        refine s_reg rfl ?_
        refine Run.pure (dd := some 28) rfl rfl (op_call_pure (fun _ => lives_c) rfl (Opd.func _) Opds.nil) ?_
        first | refine Run.pure (dd := some 6) rfl rfl (op_assign rfl (Opd.tmp _ _ rfl)) ?_ | refine Run.pure (dd := some 6) rfl rfl (op_junk (.inr rfl)) ?_
        refine Run.nil (FinR.mk ?_)
        refine nK ?_
        refine s_oB hC rfl rfl ?_
        rfl
      · have hz : g.n = 0 := by simpa using hb
        have d3 := rev_check h0 hz
        have d4 := revL_rev (check_asc h0)
        refine nK ?_
        refine s_reg rfl ?_
        first | refine Run.load (dd := some 29) rfl rfl (op_loadw_flat rfl (Opd.tmp _ _ rfl) tH rfl) ?_ | refine Run.pure (dd := some 29) rfl rfl (op_loadw_fz rfl (Opd.tmp _ _ rfl) rfl) ?_ | refine Run.load (dd := some 29) rfl rfl (op_loadn_flat rfl (Opd.tmp _ _ rfl) tH tR tR) ?_ | refine Run.pure (dd := some 29) rfl rfl (op_loadn_fz rfl (Opd.tmp _ _ rfl) tR) ?_ | refine Run.load (dd := some 29) rfl rfl (op_loadn_refs rfl (Opd.tmp _ _ rfl) tH tR tR) ?_
        refine Run.pure (dd := some 30) rfl rfl (op_call_pure (fun _ => r1) rfl (Opd.func _) (Opds.cons _ _ _ _ (Opd.tmp _ _ rfl) Opds.nil)) ?_
        refine Run.eff (dd := some 7) rfl rfl (op_alloc rfl rfl rfl rfl) ?_
        first | refine Run.eff (dd := none) rfl rfl (op_store_flat rfl (Opd.tmp _ _ rfl) (Opd.tmp _ _ rfl) tC rfl rfl (by first | rfl | assumption) tS) ?_ | refine Run.eff (dd := none) rfl rfl (op_store_refs rfl (Opd.tmp _ _ rfl) (Opd.tmp _ _ rfl) tP rfl rfl rfl tS) ?_
        refine Run.nil (FinR.mk ?_)
        refine nK ?_
        refine s_draw mixed ?_
        first | refine Run.load (dd := some 31) rfl rfl (op_loadw_flat rfl (Opd.tmp _ _ rfl) tH rfl) ?_ | refine Run.pure (dd := some 31) rfl rfl (op_loadw_fz rfl (Opd.tmp _ _ rfl) rfl) ?_ | refine Run.load (dd := some 31) rfl rfl (op_loadn_flat rfl (Opd.tmp _ _ rfl) tH tR tR) ?_ | refine Run.pure (dd := some 31) rfl rfl (op_loadn_fz rfl (Opd.tmp _ _ rfl) tR) ?_ | refine Run.load (dd := some 31) rfl rfl (op_loadn_refs rfl (Opd.tmp _ _ rfl) tH tR tR) ?_
        refine Run.pure (dd := some 32) rfl rfl (op_call_pure (fun _ => c3) rfl (Opd.func _) (Opds.cons _ _ _ _ (Opd.tmp _ _ rfl) Opds.nil)) ?_
        refine Run.pure (dd := some 33) rfl rfl (op_eql rfl (Opd.tmp _ _ rfl) (Opd.const _)) ?_
        first | refine Run.pure (dd := some 34) rfl rfl (op_move rfl (Opd.tmp _ _ rfl)) ?_ | refine Run.pure (dd := some 34) rfl rfl (op_junk (.inl rfl)) ?_
        first | refine Run.loadG (dd := some 35) rfl rfl rfl tG (op_loadw_flat rfl (Opd.tmp _ _ rfl) tH rfl) ?_ | refine Run.pureG (dd := some 35) rfl rfl rfl tG (op_loadw_fz rfl (Opd.tmp _ _ rfl) rfl) ?_ | refine Run.loadG (dd := some 35) rfl rfl rfl tG (op_loadn_flat rfl (Opd.tmp _ _ rfl) tH tR tR) ?_ | refine Run.pureG (dd := some 35) rfl rfl rfl tG (op_loadn_fz rfl (Opd.tmp _ _ rfl) tR) ?_ | refine Run.loadG (dd := some 35) rfl rfl rfl tG (op_loadn_refs rfl (Opd.tmp _ _ rfl) tH tR tR) ?_
        refine Run.pureG (dd := some 36) rfl rfl rfl tG (op_call_pure (fun _ => r2) rfl (Opd.func _) (Opds.cons _ _ _ _ (Opd.topt _ _ _ rfl tO) Opds.nil)) ?_
        first | refine Run.loadG (dd := some 37) rfl rfl rfl tG (op_loadw_flat rfl (Opd.tmp _ _ rfl) tH rfl) ?_ | refine Run.pureG (dd := some 37) rfl rfl rfl tG (op_loadw_fz rfl (Opd.tmp _ _ rfl) rfl) ?_ | refine Run.loadG (dd := some 37) rfl rfl rfl tG (op_loadn_flat rfl (Opd.tmp _ _ rfl) tH tR tR) ?_ | refine Run.pureG (dd := some 37) rfl rfl rfl tG (op_loadn_fz rfl (Opd.tmp _ _ rfl) tR) ?_ | refine Run.loadG (dd := some 37) rfl rfl rfl tG (op_loadn_refs rfl (Opd.tmp _ _ rfl) tH tR tR) ?_
        refine Run.pureG (dd := some 38) rfl rfl rfl tG (op_call_pure (fun _ => s1) rfl (Opd.func _) (Opds.cons _ _ _ _ (Opd.topt _ _ _ rfl tO) (Opds.cons _ _ _ _ (Opd.topt _ _ _ rfl tO) Opds.nil))) ?_
        refine Run.pure (dd := some 39) rfl rfl (op_pick_and rfl (Opd.tmp _ _ rfl) (Opd.topt _ _ _ rfl tO)) ?_
        first | refine Run.pure (dd := some 40) rfl rfl (op_move rfl (Opd.tmp _ _ rfl)) ?_ | refine Run.pure (dd := some 40) rfl rfl (op_junk (.inl rfl)) ?_
        refine Run.pureG (dd := some 41) rfl rfl rfl tG (op_call_pure (fun _ => lives_c) rfl (Opd.func _) Opds.nil) ?_
        refine Run.pure (dd := some 42) rfl rfl (op_pick_and rfl (Opd.tmp _ _ rfl) (Opd.topt _ _ _ rfl tO)) ?_
        first | refine Run.pure (dd := some 6) rfl rfl (op_assign rfl (Opd.tmp _ _ rfl)) ?_ | refine Run.pure (dd := some 6) rfl rfl (op_junk (.inr rfl)) ?_
        refine Run.nil (FinD.mk (by kernel_rfl) ?_)
        refine nK ?_
        refine s_oB hC rfl rfl ?_
        simp [d3, d4]
end Go.Proofs.Ytdbdajokdipmlaa
/- How the arguments of the rows read. -/
namespace Go.Proofs.Ytdbdajokdipmlaa
open Go Go.RT Go.Proofs Go.Pl
set_option linter.all false
variable {H : Type} {enc : TypeId × Value → H} {W : World} {ok : DataW H → Prop} {B : Nat}
theorem rdc_n : RdC ok enc Try.prog W 3 (fun fs => ∃ n, inr .i64 n ∧ fs = [If .i64 n]) := rdc_int (P := Try.prog) (t := 3) inferInstance
theorem rdc_edge (dn : DnOk H ok B) : RdC ok enc Try.prog W 34 (fun fs => ∃ e : Edg, okE e ∧ fs = encE e) :=
  (rdc_struct (P := Try.prog) (t := 34) dn Try.underlying34 (by kernel_rfl) (.cons _ _ _ _ rdc_n (.cons _ _ _ _ rdc_n (.cons _ _ _ _ rdc_n .nil)))).imp fun fs h => by
    obtain ⟨_, _, rfl, ⟨a, ha, rfl⟩, _, _, rfl, ⟨b, hb, rfl⟩, _, _, rfl, ⟨c, hc, rfl⟩, rfl⟩ := h
    exact ⟨⟨a, b, c⟩, ⟨ha, hb, hc⟩, rfl⟩
theorem rdc_edges (dn : DnOk H ok B) : RdC ok enc Try.prog W 22 (fun fs => ∃ l : List Edg, okEs l ∧ l.length ≤ B ∧ fs = [VE l]) :=
  (rdc_slice (P := Try.prog) (t := 22) (e := 34) dn inferInstance inferInstance (by decide) (rdc_edge dn)).imp fun fs h => by
    obtain ⟨rows, hr, hl, rfl⟩ := h
    obtain ⟨l, rfl, ho⟩ := rows_of (fun fs h => h) hr
    exact ⟨l, ho, by simpa using hl, rfl⟩
theorem rdc_graph (dn : DnOk H ok B) : RdC ok enc Try.prog W 24 (fun fs => ∃ g : Gr, okG g ∧ g.es.length ≤ B ∧ fs = encG g) :=
  (rdc_struct (P := Try.prog) (t := 24) dn Try.underlying24 (by kernel_rfl) (.cons _ _ _ _ rdc_n (.cons _ _ _ _ rdc_n (.cons _ _ _ _ (rdc_edges dn) .nil)))).imp fun fs h => by
    obtain ⟨_, _, rfl, ⟨a, ha, rfl⟩, _, _, rfl, ⟨b, hb, rfl⟩, _, _, rfl, ⟨l, hl, hB, rfl⟩, rfl⟩ := h
    exact ⟨⟨a, b, l⟩, ⟨ha, hb, hl⟩, hB, rfl⟩
end Go.Proofs.Ytdbdajokdipmlaa
