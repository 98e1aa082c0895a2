/- A part of the proof: HP4, HP5, Z10, HP6, HP7, GP6, GP7, GP8, GP9, GP10, HP8, HP9, HP10, HP11, HP12, HP13, HP14, HP15, HP20, HP16, HP21, HP22, HP23, HF1, HF2, HF3, HF4, HP18, HP19, LF1, GP11, HP17, LF2, LF3, Z40, Z41, Z11, Z12, SRT1, Z13, Z14, Z15. -/
import Derived.Test.YtmapchjcnifeiaaGreatZC
import Derived.Shelf.SlSortCmp.Whole1
set_option linter.all false
namespace Go.Pl
open Go Go.RT
set_option linter.all false
/- walks and distances -/
structure VG (es : List Edg) (r n : Nat) : Prop where
  f : ∀ e ∈ es, 0 ≤ e.f ∧ e.f < n
  t : ∀ e ∈ es, 0 ≤ e.t ∧ e.t < n
  c : ∀ e ∈ es, 0 ≤ e.c ∧ e.c ≤ 65535
  net : ∀ e ∈ es, (r : Int) ≤ e.f → e.t < r ∧ e.c = 0
  rt : ∀ e ∈ es, e.f < (r : Int) → 1 ≤ e.c
  ne : ∀ e ∈ es, e.f ≠ e.t
  asc : AscK es
  le : r ≤ n
  n128 : n ≤ 128
  e1024 : es.length ≤ 1024
inductive Wk (es : List Edg) (a : Nat) : Nat → Int → Prop where
  | nil : Wk es a a 0
  | snoc {e : Edg} {c : Int} : Wk es a e.f.toNat c → e ∈ es → Wk es a e.t.toNat (c + e.c)
theorem Wk.app {es : List Edg} {a b v : Nat} {c d : Int} (h : Wk es a b c) (g : Wk es b v d) : Wk es a v (c + d) := by
  induction g with
  | nil => simpa using h
  | snoc g he ih => have := Wk.snoc ih he; rwa [Int.add_assoc] at this
theorem Wk.nn {es : List Edg} {r n : Nat} (vg : VG es r n) {a v : Nat} {c : Int} (h : Wk es a v c) : 0 ≤ c := by
  induction h with
  | nil => exact Int.le_refl _
  | snoc h he ih => have := (vg.c _ he).1; omega
theorem Wk.lt {es : List Edg} {r n : Nat} (vg : VG es r n) {a v : Nat} {c : Int} (h : Wk es a v c) (ha : a < n) : v < n := by
  cases h with
  | nil => exact ha
  | snoc h he => have := (vg.t _ he); omega
theorem Wk.mono {es es' : List Edg} (hs : ∀ e ∈ es, e ∈ es') {a v : Nat} {c : Int} (h : Wk es a v c) : Wk es' a v c := by
  induction h with
  | nil => exact .nil
  | snoc h he ih => exact .snoc ih (hs _ he)
def IsD (es : List Edg) (a v : Nat) (d : Int) : Prop := (d = -1 ∧ ∀ c, ¬ Wk es a v c) ∨ (Wk es a v d ∧ ∀ c, Wk es a v c → d ≤ c)
theorem IsD.uniq {es : List Edg} {a v : Nat} {d d' : Int} (h : IsD es a v d) (g : IsD es a v d') : d = d' := by
  rcases h with ⟨h1, h2⟩ | ⟨h1, h2⟩ <;> rcases g with ⟨g1, g2⟩ | ⟨g1, g2⟩
  · omega
  · exact absurd g1 (h2 _)
  · exact absurd h1 (g2 _)
  · have := h2 _ g1; have := g2 _ h1; omega
theorem nodup_len : ∀ (n : Nat) (l : List Nat), l.Nodup → (∀ x ∈ l, x < n) → l.length ≤ n
  | 0, l, _, h => by cases l with
    | nil => simp
    | cons x l => have := h x (by simp); omega
  | n + 1, l, hd, h => by
    by_cases hm : n ∈ l
    · have := nodup_len n (l.erase n) (hd.erase n) (fun x hx => by
        have h1 := h x (List.mem_of_mem_erase hx)
        have h2 : x ≠ n := fun e => by rw [e] at hx; exact (List.Nodup.not_mem_erase hd) hx
        omega)
      rw [List.length_erase_of_mem hm] at this; omega
    · have := nodup_len n l hd (fun x hx => by
        have h1 := h x hx
        have h2 : x ≠ n := fun e => hm (by rw [← e]; exact hx)
        omega)
      omega
theorem HI.small {h : Hq} (o : HI h) : h.it.length ≤ h.pl.length := by
  refine nodup_len _ _ ?_ o.ok.lt
  rw [List.Nodup, List.pairwise_iff_getElem]
  intro i j hi hj hij e
  have e1 : ∀ k (hk : k < h.it.length), h.item k = h.it[k] := fun k hk => by unfold Hq.item; rw [List.getD_eq_getElem?_getD, List.getElem?_eq_getElem hk]; rfl
  have h1 := o.inv i hi
  have h2 := o.inv j hj
  rw [e1 i hi] at h1; rw [e1 j hj] at h2
  rw [e, h2] at h1; omega
abbrev gt0 (l : List Int) (v : Nat) : Int := l.getD v 0
def cntP (l : List Int) : Nat := l.countP fun x => decide (0 ≤ x)
theorem cntP_cons (x : Int) (l : List Int) : cntP (x :: l) = cntP l + if 0 ≤ x then 1 else 0 := by
  unfold cntP; rw [List.countP_cons]; simp
theorem cntP_set {l : List Int} {v : Nat} {k : Int} (hv : v < l.length) (hn : gt0 l v < 0) (hk : 0 ≤ k) : cntP (l.set v k) = cntP l + 1 := by
  induction l generalizing v with
  | nil => simp at hv
  | cons x l ih =>
    cases v with
    | zero =>
      have h1 : x < 0 := by simpa [gt0] using hn
      rw [List.set_cons_zero, cntP_cons, cntP_cons, if_pos hk, if_neg (by omega)]
    | succ v =>
      rw [List.set_cons_succ, cntP_cons, cntP_cons, ih (by simpa using hv) (by simpa [gt0] using hn)]; omega
theorem cntP_le (l : List Int) : cntP l ≤ l.length := List.countP_le_length
structure DJ (es : List Edg) (n : Nat) (a : Nat) (dist : List Int) (h : Hq) (todo : List Edg) : Prop where
  hg : HG h
  hl : h.pl.length = n
  dl : dist.length = n
  fin : ∀ v, v < n → 0 ≤ gt0 dist v → Wk es a v (gt0 dist v) ∧ ∀ c, Wk es a v c → gt0 dist v ≤ c
  neg : ∀ v, v < n → gt0 dist v < 0 → gt0 dist v = -1
  q : ∀ v, v < n → 0 ≤ h.place v → gt0 dist v < 0 ∧ Wk es a v (h.key v) ∧ h.key v ≤ 65535 * cntP dist
  rel : ∀ e ∈ es, 0 ≤ gt0 dist e.f.toNat → e ∈ todo ∨ 0 ≤ gt0 dist e.t.toNat ∨ (0 ≤ h.place e.t.toNat ∧ h.key e.t.toNat ≤ gt0 dist e.f.toNat + e.c)
  root : 0 ≤ gt0 dist a ∨ (0 ≤ h.place a ∧ h.key a ≤ 0)
theorem DJ.low {es : List Edg} {r n a : Nat} (vg : VG es r n) (ha : a < n) {dist : List Int} {h : Hq} (o : DJ es n a dist h []) {v : Nat} {c : Int} (w : Wk es a v c) : 0 ≤ gt0 dist v ∨ ∃ y, y < n ∧ 0 ≤ h.place y ∧ h.key y ≤ c := by
  induction w with
  | nil => rcases o.root with h1 | ⟨h1, h2⟩
           · exact .inl h1
           · exact .inr ⟨a, ha, h1, h2⟩
  | @snoc e c w he ih =>
    have hc := vg.c _ he
    rcases ih with h1 | ⟨y, y1, y2, y3⟩
    · have hfl : e.f.toNat < n := w.lt vg ha
      have h2 := (o.fin _ hfl h1).2 _ w
      rcases o.rel e he h1 with h3 | h3 | ⟨h3, h4⟩
      · cases h3
      · exact .inl h3
      · exact .inr ⟨_, by have := vg.t _ he; omega, h3, by omega⟩
    · exact .inr ⟨y, y1, y2, by omega⟩
theorem key_set {h : Hq} {v : Nat} {k : Int} (hv : v < h.ky.length) {h' : Hq} (e : h'.ky = h.ky.set v k) (w : Nat) : h'.key w = if v = w then k else h.key w := by
  unfold Hq.key; rw [e, getD_set _ _ _ _ _ hv]
theorem DJ.pop {es : List Edg} {r n a : Nat} (vg : VG es r n) (ha : a < n) {dist : List Int} {h : Hq} (o : DJ es n a dist h []) (hne : 0 < h.it.length) :
    h.item 0 < n ∧ gt0 dist (h.item 0) < 0 ∧ 0 ≤ h.key (h.item 0) ∧ h.key (h.item 0) ≤ 65535 * cntP dist ∧ cntP (dist.set (h.item 0) (h.key (h.item 0))) = cntP dist + 1 ∧
    DJ es n a (dist.set (h.item 0) (h.key (h.item 0))) (dropH h (h.item 0)) (es.filter fun e => decide (e.f = (h.item 0 : Nat))) := by
  have hx : h.item 0 < n := by rw [← o.hl]; exact o.hg.hi.ok.item hne
  have hp : 0 ≤ h.place (h.item 0) := by rw [o.hg.hi.inv 0 hne]; decide
  have hmin := fun w hw hp => o.hg.min (w := w) (by rw [o.hl]; exact hw) hp
  obtain ⟨d1, d2, d3, d4, d5⟩ := o.hg.drop (by rw [o.hl]; exact hx) hp
  obtain ⟨q1, q2, q3⟩ := o.q _ hx hp
  have hk0 := q2.nn vg
  have hbest : ∀ c, Wk es a (h.item 0) c → h.key (h.item 0) ≤ c := fun c w => by
    rcases o.low vg ha w with h1 | ⟨y, y1, y2, y3⟩
    · omega
    · have := hmin y y1 y2; unfold le2 Hq.kk at this; simp only at this; omega
  unfold Hq.kk at hmin
  generalize h.item 0 = x at *
  generalize h.key x = k at *
  have hkey : ∀ w, (dropH h x).key w = h.key w := fun w => by unfold Hq.key; rw [d4]
  have hget : ∀ v, gt0 (dist.set x k) v = if x = v then k else gt0 dist v := fun v => getD_set _ _ _ _ _ (by rw [o.dl]; exact hx)
  have hcnt := cntP_set (l := dist) (k := k) (by rw [o.dl]; exact hx) q1 hk0
  refine ⟨hx, q1, hk0, q3, hcnt, d1, by rw [d3, o.hl], by rw [List.length_set, o.dl], fun v hv h0 => ?_, fun v hv h0 => ?_, fun v hv h0 => ?_, fun e he h0 => ?_, ?_⟩
  · rw [hget] at h0 ⊢
    by_cases e : x = v
    · subst e; rw [if_pos rfl]; exact ⟨q2, hbest⟩
    · rw [if_neg e] at h0 ⊢; exact o.fin v hv h0
  · rw [hget] at h0 ⊢
    by_cases e : x = v
    · rw [if_pos e] at h0; omega
    · rw [if_neg e] at h0 ⊢; exact o.neg v hv h0
  · obtain ⟨e1, e2⟩ := (d5 v).1 h0
    obtain ⟨s1, s2, s3⟩ := o.q v hv e2
    rw [hget, if_neg (fun e => e1 e.symm), hkey, hcnt]
    exact ⟨s1, s2, by omega⟩
  · rw [hget] at h0
    have hef := vg.f e he
    by_cases e1 : x = e.f.toNat
    · refine .inl (List.mem_filter.2 ⟨he, ?_⟩)
      rw [decide_eq_true_eq]; omega
    · rw [if_neg e1] at h0
      rcases o.rel e he h0 with h3 | h3 | ⟨h3, h4⟩
      · cases h3
      · refine .inr (.inl ?_)
        rw [hget]; split
        · exact hk0
        · exact h3
      · by_cases e2 : x = e.t.toNat
        · refine .inr (.inl ?_)
          rw [hget, if_pos e2]; exact hk0
        · refine .inr (.inr ⟨(d5 _).2 ⟨fun e => e2 e.symm, h3⟩, ?_⟩)
          rw [hkey, hget, if_neg e1]; exact h4
  · by_cases e2 : x = a
    · rw [hget, if_pos e2]; exact .inl hk0
    · rw [hget, if_neg e2, hkey]
      rcases o.root with h1 | ⟨h1, h2⟩
      · exact .inl h1
      · exact .inr ⟨(d5 _).2 ⟨fun e => e2 e.symm, h1⟩, h2⟩
theorem DJ.skip {es : List Edg} {r n a : Nat} (vg : VG es r n) {dist : List Int} {h : Hq} {e : Edg} {todo : List Edg} (o : DJ es n a dist h (e :: todo))
    (hc : ¬ (gt0 dist e.t.toNat < 0 ∧ (h.place e.t.toNat < 0 ∨ gt0 dist e.f.toNat + e.c < h.key e.t.toNat))) : DJ es n a dist h todo := by
  refine ⟨o.hg, o.hl, o.dl, o.fin, o.neg, o.q, fun e' he' h0 => ?_, o.root⟩
  rcases o.rel e' he' h0 with h3 | h3
  · rcases List.mem_cons.1 h3 with rfl | h3
    · refine .inr ?_
      by_cases h4 : 0 ≤ gt0 dist e'.t.toNat
      · exact .inl h4
      · refine .inr ⟨?_, ?_⟩
        · exact Int.not_lt.1 fun h5 => hc ⟨by omega, .inl h5⟩
        · exact Int.not_lt.1 fun h5 => hc ⟨by omega, .inr h5⟩
    · exact .inl h3
  · exact .inr h3
theorem DJ.put {es : List Edg} {r n a : Nat} (vg : VG es r n) {dist : List Int} {h : Hq} {e : Edg} {todo : List Edg} (he : e ∈ es) (o : DJ es n a dist h (e :: todo)) (hf : 0 ≤ gt0 dist e.f.toNat) (hb : gt0 dist e.f.toNat + 65535 ≤ 65535 * cntP dist)
    (hc : gt0 dist e.t.toNat < 0 ∧ (h.place e.t.toNat < 0 ∨ gt0 dist e.f.toNat + e.c < h.key e.t.toNat)) : DJ es n a dist (setH h e.t.toNat (gt0 dist e.f.toNat + e.c)) todo := by
  have hef := vg.f e he
  have het := vg.t e he
  have hec := vg.c e he
  have htl : e.t.toNat < h.pl.length := by rw [o.hl]; omega
  obtain ⟨s1, s2, s3, s4⟩ := o.hg.set htl (gt0 dist e.f.toNat + e.c)
  have hkey := key_set (by rw [← o.hg.hi.ok.len]; exact htl) s3
  have hw : Wk es a e.t.toNat (gt0 dist e.f.toNat + e.c) := .snoc (o.fin _ (by omega) hf).1 he
  refine ⟨s1, by rw [s2, o.hl], o.dl, o.fin, o.neg, fun v hv h0 => ?_, fun e' he' h0 => ?_, ?_⟩
  · rw [hkey]
    by_cases e1 : e.t.toNat = v
    · rw [if_pos e1]; subst e1; exact ⟨hc.1, hw, by omega⟩
    · rw [if_neg e1]
      rcases (s4 v).1 h0 with h1 | h1
      · exact absurd h1.symm e1
      · exact o.q v hv h1
  · rcases o.rel e' he' h0 with h3 | h3 | ⟨h3, h4⟩
    · rcases List.mem_cons.1 h3 with rfl | h3
      · refine .inr (.inr ⟨(s4 _).2 (.inl rfl), ?_⟩)
        rw [hkey, if_pos rfl]; exact Int.le_refl _
      · exact .inl h3
    · exact .inr (.inl h3)
    · refine .inr (.inr ⟨(s4 _).2 (.inr h3), ?_⟩)
      rw [hkey]
      by_cases e1 : e.t.toNat = e'.t.toNat
      · rw [if_pos e1]
        rcases hc.2 with h5 | h5
        · rw [← e1] at h3; omega
        · rw [← e1] at h4; omega
      · rw [if_neg e1]; exact h4
  · rcases o.root with h1 | ⟨h1, h2⟩
    · exact .inl h1
    · refine .inr ⟨(s4 _).2 (.inr h1), ?_⟩
      rw [hkey]
      by_cases e1 : e.t.toNat = a
      · rw [if_pos e1]
        rcases hc.2 with h5 | h5
        · rw [← e1] at h1; omega
        · rw [← e1] at h2; omega
      · rw [if_neg e1]; exact h2
theorem DJ.done {es : List Edg} {r n a : Nat} (vg : VG es r n) (ha : a < n) {dist : List Int} {h : Hq} (o : DJ es n a dist h []) (he : h.it = []) {v : Nat} (hv : v < n) : IsD es a v (gt0 dist v) := by
  by_cases h0 : 0 ≤ gt0 dist v
  · exact .inr (o.fin v hv h0)
  · refine .inl ⟨o.neg v hv (by omega), fun c w => ?_⟩
    rcases o.low vg ha w with h1 | ⟨y, y1, y2, y3⟩
    · exact h0 h1
    · have := (o.hg.hi.at_ y (by rw [o.hl]; exact y1) y2).1
      rw [he] at this; simp at this; omega
theorem checkI_vg {g : Gr} (h : checkI g = 0) : VG g.es g.r.toNat (g.r + g.n).toNat ∧ 0 ≤ g.r ∧ 0 ≤ g.n := by
  obtain ⟨⟨h1, h2, h3⟩, h4, h5⟩ := checkI_ok h
  have hal := chkL_alw _ _ h5
  have hn := fun e he => alwI_node (hal e he)
  have hx : ∀ e ∈ g.es, ¬ (e.f = e.t ∨ (g.r ≤ e.f ∧ g.r ≤ e.t) ∨ (g.r ≤ e.f ∧ e.c ≠ 0) ∨ (e.f < g.r ∧ (e.c < 1 ∨ 65535 < e.c))) := fun e he hh => by
    have h6 := hal e he
    unfold alwI at h6
    split at h6
    · cases h6
    · first | (rw [if_pos hh] at h6; cases h6) | cases h6
  have hasc : ∀ (l : List Edg) (p : Option Edg), chkL g p l = 0 → AscK l ∧ ∀ q, p = some q → ∀ e ∈ l, ltK q e := by
    intro l
    induction l with
    | nil => exact fun p _ => ⟨.nil, fun q _ e he => by cases he⟩
    | cons x l ih =>
      intro p hp
      simp only [chkL] at hp
      split at hp
      · next h7 => exact absurd hp h7
      · split at hp
        · cases hp
        · next h8 =>
          obtain ⟨i1, i2⟩ := ih _ hp
          refine ⟨List.pairwise_cons.2 ⟨fun y hy => i2 x rfl y hy, i1⟩, fun q hq e he => ?_⟩
          subst hq
          have h9 : ltK q x := by rw [← ltK_bef]; simpa [badP] using h8
          rcases List.mem_cons.1 he with rfl | he
          · exact h9
          · have := i2 x rfl e he; unfold ltK at *; omega
  refine ⟨⟨fun e he => ?_, fun e he => ?_, fun e he => ?_, fun e he hr => ?_, fun e he hr => ?_, fun e he hr => ?_, (hasc _ _ h5).1, by omega, by omega, h4⟩, h1, h2⟩
  · have := hn e he; omega
  · have := hn e he; omega
  · have := hx e he; omega
  · have := hx e he; omega
  · have := hx e he; omega
  · have := hx e he; omega
open Go Go.RT
def newH (n : Nat) : Hq := ⟨[], List.replicate n (-1), List.replicate n 0⟩
def fillN (n k : Nat) : List Int := List.replicate k (-1) ++ List.replicate (n - k) 0
theorem fillN_len (n k : Nat) (h : k ≤ n) : (fillN n k).length = n := by simp [fillN]; omega
theorem fillN_set (n k : Nat) (h : k < n) : (fillN n k).set k (-1) = fillN n (k + 1) := by
  unfold fillN
  rw [List.set_append_right _ _ (by simp), List.length_replicate, Nat.sub_self, show n - k = (n - (k + 1)) + 1 by omega, List.replicate_succ, List.set_cons_zero, List.replicate_succ', List.append_assoc]; rfl
theorem fillN_0 (n : Nat) : fillN n 0 = List.replicate n 0 := by simp [fillN]
theorem fillN_n (n : Nat) : fillN n n = List.replicate n (-1) := by simp [fillN]
theorem getD_rep {α : Type} (n v : Nat) (x d : α) (h : v < n) : (List.replicate n x).getD v d = x := by
  rw [List.getD_eq_getElem?_getD, List.getElem?_replicate, if_pos h]; rfl
theorem HG.new (n : Nat) : HG (newH n) :=
  ⟨⟨⟨by simp [newH], fun v h => by simp [newH] at h⟩, fun v hv h0 => by
    have : (newH n).place v = -1 := getD_rep _ _ _ _ (by simpa [newH] using hv)
    rw [this] at h0; omega, fun i hi => by simp [newH] at hi⟩, fun j _ hj => by simp [newH] at hj⟩
theorem DJ.start {es : List Edg} {r n a : Nat} (vg : VG es r n) (ha : a < n) : DJ es n a (List.replicate n (-1)) (setH (newH n) a 0) [] ∧ cntP (List.replicate n (-1)) = 0 := by
  obtain ⟨s1, s2, s3, s4⟩ := (HG.new n).set (v := a) (by simpa [newH] using ha) 0
  have hg : ∀ v, v < n → gt0 (List.replicate n (-1)) v = -1 := fun v hv => getD_rep _ _ _ _ hv
  have hkey := key_set (h := newH n) (v := a) (by simpa [newH] using ha) s3
  have hp : ∀ v, v < n → (newH n).place v = -1 := fun v hv => getD_rep _ _ _ _ hv
  have hc : cntP (List.replicate n (-1)) = 0 := by unfold cntP; rw [List.countP_replicate]; simp
  refine ⟨⟨s1, by rw [s2]; simp [newH], by simp, fun v hv h0 => ?_, fun v hv _ => hg v hv, fun v hv h0 => ?_, fun e he h0 => ?_, .inr ⟨(s4 a).2 (.inl rfl), ?_⟩⟩, hc⟩
  · rw [hg v hv] at h0; omega
  · rw [hg v hv, hc]
    rcases (s4 v).1 h0 with rfl | h1
    · rw [hkey, if_pos rfl]; exact ⟨by omega, .nil, by omega⟩
    · rw [hp v hv] at h1; omega
  · have := vg.f e he
    rw [hg _ (by omega)] at h0; omega
  · rw [hkey, if_pos rfl]; exact Int.le_refl _
/- rows of own slices -/
theorem rng_len {β : Type} (n : Nat) (f : Nat → β) : ((List.range n).map f).length = n := by simp
theorem rng_get {β : Type} (n : Nat) (f : Nat → β) (v : Nat) (h : v < n) : ((List.range n).map f)[v]? = some (f v) := by simp [h]
theorem rng_set {β : Type} (n : Nat) (f f' : Nat → β) (v : Nat) (x : β) (hx : f' v = x) (h : ∀ w, w ≠ v → f' w = f w) : ((List.range n).map f).set v x = (List.range n).map f' := by
  apply List.ext_getElem?
  intro i
  rw [List.getElem?_set]
  by_cases e : v = i
  · subst e
    by_cases hv : v < n
    · simp [hv, hx]
    · simp [hv]
  · rw [if_neg e]
    by_cases hi : i < n
    · simp [hi, h i (fun e2 => e e2.symm)]
    · simp [hi]
theorem rng_const {β : Type} (n : Nat) (x : β) : List.replicate n x = (List.range n).map fun _ => x := by
  apply List.ext_getElem?
  intro i
  by_cases hi : i < n
  · simp [hi]
  · simp [hi]
def outE (es : List Edg) (v : Nat) : List Edg := es.filter fun e => decide (e.f = (v : Nat))
def rowsE (es : List Edg) (n : Nat) : List (List (List FV)) := (List.range n).map fun v => (outE es v).map encE
theorem outE_succ {es : List Edg} {i : Nat} (h : i < es.length) (v : Nat) : outE (es.take (i + 1)) v = outE (es.take i) v ++ if es[i].f = (v : Nat) then [es[i]] else [] := by
  unfold outE
  rw [← List.take_append_getElem h, List.filter_append]
  congr 1
  by_cases e : es[i].f = (v : Nat)
  · simp [e]
  · simp [e]
theorem rowsE_succ {es : List Edg} {i n : Nat} (h : i < es.length) (h0 : 0 ≤ es[i].f) : (rowsE (es.take i) n).set es[i].f.toNat ((outE (es.take i) es[i].f.toNat).map encE ++ [encE es[i]]) = rowsE (es.take (i + 1)) n := by
  refine rng_set n _ _ _ _ ?_ fun w hw => ?_
  · rw [outE_succ h, if_pos (by omega), List.map_append]; rfl
  · rw [outE_succ h, if_neg (by omega), List.append_nil]
theorem rowsE_get (es : List Edg) {n v : Nat} (h : v < n) : (rowsE es n)[v]? = some ((outE es v).map encE) := rng_get n _ v h
theorem rowsE_nil (n : Nat) : rowsE [] n = List.replicate n [] := (rng_const n _).symm
theorem rowsE_len (es : List Edg) (n : Nat) : (rowsE es n).length = n := rng_len n _
end Go.Pl
namespace Go.Proofs.YtmapchjcnifeiaaGreat
open Go Go.RT Go.Proofs Go.Pl
set_option linter.all false
set_option maxRecDepth 20000
set_option maxHeartbeats 4000000
abbrev HN (n k : Nat) : Hp := [(0, some (.refs 3 [[.sl 1 1 0 0, .sl 2 1 0 n, .sl 3 1 0 n]])), (1, OT []), (2, OI (fillN n k)), (3, OI (List.replicate n 0))]
theorem new_c (n : Nat) (hn : n ≤ 65536) : Meets Tryz.prog 37 [IV .i64 n] 0 [] (.ptr 0 3 0 0) (HH (newH n)) 4 := by
 refine Meets.intro Tryz.func37 rfl (Nat.le_of_ble_eq_true rfl) fun C hC => ?_
 simp only [List.map, argEnv, Nat.reduceAdd]
 refine nK2 ?_
 refine zb ?_
 refine ze ?_
 refine zc ?_
 refine nK2 ?_
 refine zb ?_
 refine za ?_
 refine rpZ 6 rfl (op_max rfl (oT rfl) oC) ?_
 refine rpZ 7 rfl (op_min rfl (oT rfl) oC) ?_
 refine zd ?_
 refine zc ?_
 refine nK2 ?_
 refine Next.weak [] [] (by rfl) (keepsN hC _ rfl) (G' := [(0, IV .i64 n)]) (H' := []) (by exact ⟨⟨_, rfl, .inl ⟨ivEq (by omega), rfl⟩⟩, trivial⟩) trivial wN ?_
 refine nK2 ?_
 refine draw_tree2 [(3, .ptr 0 3 0 0)] (HN n 0) 4 mixed (fun hK => ?_) ?_
 ·skip
  refine AnyN.two 0 2 (by kernel_rfl) (StepN.mk rfl (op_move rfl (oT rfl) _ _) rfl rfl (by kernel_rfl) ?_) (StepN.mk rfl (op_move rfl (oT rfl) _ _) rfl rfl (by kernel_rfl) ?_)
  ·skip
   refine AnyN.two 1 2 (by kernel_rfl) (StepN.mk rfl (op_make (l := n) (c := n) rfl (oT rfl) (oT rfl) rfl rfl rfl rfl (by intro _; refine ⟨rfl, rfl, ?_⟩; omega)) rfl rfl (by kernel_rfl) ?_) (StepN.mk rfl (op_move rfl (oT rfl) _ _) rfl rfl (by kernel_rfl) ?_)
   ·skip
    refine AnyN.one 2 (by kernel_rfl) (StepN.mk rfl (op_move rfl (oT rfl) _ _) rfl rfl (by kernel_rfl) ?_)
    refine AnyN.one 3 (by kernel_rfl) (StepN.mk rfl (op_make (l := n) (c := n) rfl (oT rfl) (oT rfl) rfl rfl rfl rfl (by intro _; refine ⟨rfl, rfl, ?_⟩; omega)) rfl rfl (by kernel_rfl) ?_)
    refine AnyN.one 4 (by kernel_rfl) (StepN.mk rfl (op_buildP rfl rfl rfl rfl (FillP.cons _ _ _ _ _ _ _ _ _ _ (by rfl) (oT rfl) tP (by rfl) tR (FillP.cons _ _ _ _ _ _ _ _ _ _ (by rfl) (oT rfl) tP (by rfl) tR (FillP.nil _))) _ _) rfl rfl (by kernel_rfl) ?_)
    refine AnyN.one 5 (by kernel_rfl) (StepN.mk rfl (op_box_refs rfl (oT rfl) tP rfl) rfl rfl (by kernel_rfl) ?_)
    refine AnyN.one 6 (by kernel_rfl) (StepN.mk rfl (op_assign rfl (oT rfl) _ _) rfl rfl (by kernel_rfl) ?_)
    refine AnyN.nil rfl ?_
    refine Next.adoptCell 2 0 0 1 rfl rfl rfl rfl (Next.weak [2, 3, 0, 1] [] (by rfl) (keepsN hC _ rfl) wG (by exact ⟨wS, ⟨wS, ⟨ent_same rfl rfl (flEq rfl (by rw [fillN_0, List.map_replicate]; rfl)) trivial, ⟨ent_same rfl rfl (flEq rfl (by rw [List.map_replicate]; rfl)) trivial, trivial⟩⟩⟩⟩) wN hK)
   skip
   refine AnyN.two 1 3 (by kernel_rfl) (StepN.mk rfl (op_make (l := n) (c := n) rfl (oT rfl) (oT rfl) rfl rfl rfl rfl (by intro _; refine ⟨rfl, rfl, ?_⟩; omega)) rfl rfl (by kernel_rfl) ?_) (StepN.mk rfl (op_make (l := n) (c := n) rfl (oT rfl) (oT rfl) rfl rfl rfl rfl (by intro _; refine ⟨rfl, rfl, ?_⟩; omega)) rfl rfl (by kernel_rfl) ?_)
   ·skip
    refine AnyN.one 3 (by kernel_rfl) (StepN.mk rfl (op_make (l := n) (c := n) rfl (oT rfl) (oT rfl) rfl rfl rfl rfl (by intro _; refine ⟨rfl, rfl, ?_⟩; omega)) rfl rfl (by kernel_rfl) ?_)
    refine AnyN.one 4 (by kernel_rfl) (StepN.mk rfl (op_buildP rfl rfl rfl rfl (FillP.cons _ _ _ _ _ _ _ _ _ _ (by rfl) (oT rfl) tP (by rfl) tR (FillP.cons _ _ _ _ _ _ _ _ _ _ (by rfl) (oT rfl) tP (by rfl) tR (FillP.nil _))) _ _) rfl rfl (by kernel_rfl) ?_)
    refine AnyN.one 5 (by kernel_rfl) (StepN.mk rfl (op_box_refs rfl (oT rfl) tP rfl) rfl rfl (by kernel_rfl) ?_)
    refine AnyN.one 6 (by kernel_rfl) (StepN.mk rfl (op_assign rfl (oT rfl) _ _) rfl rfl (by kernel_rfl) ?_)
    refine AnyN.nil rfl ?_
    refine Next.adoptCell 2 0 0 1 rfl rfl rfl rfl (Next.weak [2, 3, 0, 1] [] (by rfl) (keepsN hC _ rfl) wG (by exact ⟨wS, ⟨wS, ⟨ent_same rfl rfl (flEq rfl (by rw [fillN_0, List.map_replicate]; rfl)) trivial, ⟨ent_same rfl rfl (flEq rfl (by rw [List.map_replicate]; rfl)) trivial, trivial⟩⟩⟩⟩) wN hK)
   skip
   refine AnyN.one 1 (by kernel_rfl) (StepN.mk rfl (op_make (l := n) (c := n) rfl (oT rfl) (oT rfl) rfl rfl rfl rfl (by intro _; refine ⟨rfl, rfl, ?_⟩; omega)) rfl rfl (by kernel_rfl) ?_)
   refine AnyN.one 4 (by kernel_rfl) (StepN.mk rfl (op_buildP rfl rfl rfl rfl (FillP.cons _ _ _ _ _ _ _ _ _ _ (by rfl) (oT rfl) tP (by rfl) tR (FillP.cons _ _ _ _ _ _ _ _ _ _ (by rfl) (oT rfl) tP (by rfl) tR (FillP.nil _))) _ _) rfl rfl (by kernel_rfl) ?_)
   refine AnyN.one 5 (by kernel_rfl) (StepN.mk rfl (op_box_refs rfl (oT rfl) tP rfl) rfl rfl (by kernel_rfl) ?_)
   refine AnyN.one 6 (by kernel_rfl) (StepN.mk rfl (op_assign rfl (oT rfl) _ _) rfl rfl (by kernel_rfl) ?_)
   refine AnyN.nil rfl ?_
   refine Next.adoptCell 2 0 0 1 rfl rfl rfl rfl (Next.weak [2, 3, 1, 0] [] (by rfl) (keepsN hC _ rfl) wG (by exact ⟨wS, ⟨wS, ⟨ent_same rfl rfl (flEq rfl (by rw [fillN_0, List.map_replicate]; rfl)) trivial, ⟨ent_same rfl rfl (flEq rfl (by rw [List.map_replicate]; rfl)) trivial, trivial⟩⟩⟩⟩) wN hK)
  skip
  refine AnyN.two 0 3 (by kernel_rfl) (StepN.mk rfl (op_move rfl (oT rfl) _ _) rfl rfl (by kernel_rfl) ?_) (StepN.mk rfl (op_make (l := n) (c := n) rfl (oT rfl) (oT rfl) rfl rfl rfl rfl (by intro _; refine ⟨rfl, rfl, ?_⟩; omega)) rfl rfl (by kernel_rfl) ?_)
  ·skip
   refine AnyN.two 1 3 (by kernel_rfl) (StepN.mk rfl (op_make (l := n) (c := n) rfl (oT rfl) (oT rfl) rfl rfl rfl rfl (by intro _; refine ⟨rfl, rfl, ?_⟩; omega)) rfl rfl (by kernel_rfl) ?_) (StepN.mk rfl (op_make (l := n) (c := n) rfl (oT rfl) (oT rfl) rfl rfl rfl rfl (by intro _; refine ⟨rfl, rfl, ?_⟩; omega)) rfl rfl (by kernel_rfl) ?_)
   ·skip
    refine AnyN.one 3 (by kernel_rfl) (StepN.mk rfl (op_make (l := n) (c := n) rfl (oT rfl) (oT rfl) rfl rfl rfl rfl (by intro _; refine ⟨rfl, rfl, ?_⟩; omega)) rfl rfl (by kernel_rfl) ?_)
    refine AnyN.one 4 (by kernel_rfl) (StepN.mk rfl (op_buildP rfl rfl rfl rfl (FillP.cons _ _ _ _ _ _ _ _ _ _ (by rfl) (oT rfl) tP (by rfl) tR (FillP.cons _ _ _ _ _ _ _ _ _ _ (by rfl) (oT rfl) tP (by rfl) tR (FillP.nil _))) _ _) rfl rfl (by kernel_rfl) ?_)
    refine AnyN.one 5 (by kernel_rfl) (StepN.mk rfl (op_box_refs rfl (oT rfl) tP rfl) rfl rfl (by kernel_rfl) ?_)
    refine AnyN.one 6 (by kernel_rfl) (StepN.mk rfl (op_assign rfl (oT rfl) _ _) rfl rfl (by kernel_rfl) ?_)
    refine AnyN.nil rfl ?_
    refine Next.adoptCell 2 0 0 1 rfl rfl rfl rfl (Next.weak [2, 3, 0, 1] [] (by rfl) (keepsN hC _ rfl) wG (by exact ⟨wS, ⟨wS, ⟨ent_same rfl rfl (flEq rfl (by rw [fillN_0, List.map_replicate]; rfl)) trivial, ⟨ent_same rfl rfl (flEq rfl (by rw [List.map_replicate]; rfl)) trivial, trivial⟩⟩⟩⟩) wN hK)
   skip
   refine AnyN.one 1 (by kernel_rfl) (StepN.mk rfl (op_make (l := n) (c := n) rfl (oT rfl) (oT rfl) rfl rfl rfl rfl (by intro _; refine ⟨rfl, rfl, ?_⟩; omega)) rfl rfl (by kernel_rfl) ?_)
   refine AnyN.one 4 (by kernel_rfl) (StepN.mk rfl (op_buildP rfl rfl rfl rfl (FillP.cons _ _ _ _ _ _ _ _ _ _ (by rfl) (oT rfl) tP (by rfl) tR (FillP.cons _ _ _ _ _ _ _ _ _ _ (by rfl) (oT rfl) tP (by rfl) tR (FillP.nil _))) _ _) rfl rfl (by kernel_rfl) ?_)
   refine AnyN.one 5 (by kernel_rfl) (StepN.mk rfl (op_box_refs rfl (oT rfl) tP rfl) rfl rfl (by kernel_rfl) ?_)
   refine AnyN.one 6 (by kernel_rfl) (StepN.mk rfl (op_assign rfl (oT rfl) _ _) rfl rfl (by kernel_rfl) ?_)
   refine AnyN.nil rfl ?_
   refine Next.adoptCell 2 0 0 1 rfl rfl rfl rfl (Next.weak [2, 3, 1, 0] [] (by rfl) (keepsN hC _ rfl) wG (by exact ⟨wS, ⟨wS, ⟨ent_same rfl rfl (flEq rfl (by rw [fillN_0, List.map_replicate]; rfl)) trivial, ⟨ent_same rfl rfl (flEq rfl (by rw [List.map_replicate]; rfl)) trivial, trivial⟩⟩⟩⟩) wN hK)
  skip
  refine AnyN.one 0 (by kernel_rfl) (StepN.mk rfl (op_move rfl (oT rfl) _ _) rfl rfl (by kernel_rfl) ?_)
  refine AnyN.one 1 (by kernel_rfl) (StepN.mk rfl (op_make (l := n) (c := n) rfl (oT rfl) (oT rfl) rfl rfl rfl rfl (by intro _; refine ⟨rfl, rfl, ?_⟩; omega)) rfl rfl (by kernel_rfl) ?_)
  refine AnyN.one 4 (by kernel_rfl) (StepN.mk rfl (op_buildP rfl rfl rfl rfl (FillP.cons _ _ _ _ _ _ _ _ _ _ (by rfl) (oT rfl) tP (by rfl) tR (FillP.cons _ _ _ _ _ _ _ _ _ _ (by rfl) (oT rfl) tP (by rfl) tR (FillP.nil _))) _ _) rfl rfl (by kernel_rfl) ?_)
  refine AnyN.one 5 (by kernel_rfl) (StepN.mk rfl (op_box_refs rfl (oT rfl) tP rfl) rfl rfl (by kernel_rfl) ?_)
  refine AnyN.one 6 (by kernel_rfl) (StepN.mk rfl (op_assign rfl (oT rfl) _ _) rfl rfl (by kernel_rfl) ?_)
  refine AnyN.nil rfl ?_
  refine Next.adoptCell 2 0 0 1 rfl rfl rfl rfl (Next.weak [2, 3, 1, 0] [] (by rfl) (keepsN hC _ rfl) wG (by exact ⟨wS, ⟨wS, ⟨ent_same rfl rfl (flEq rfl (by rw [fillN_0, List.map_replicate]; rfl)) trivial, ⟨ent_same rfl rfl (flEq rfl (by rw [List.map_replicate]; rfl)) trivial, trivial⟩⟩⟩⟩) wN hK)
 refine nK2 ?_
 refine zb ?_
 refine za ?_
 refine zba ?_
 refine zg ?_
 refine zy ?_
 refine zbi ?_
 refine zbb ?_
 refine zc ?_
 refine nK2 ?_
 refine n_loop (ι := Nat) (fun k => ([(3, .ptr 0 3 0 0), (18, IV .i64 n), (19, IV .i64 k)], HN n k, 4)) (fun k => k ≤ n) (fun k => n - k) 0 (Nat.zero_le _) ?_ ?_
 ·refine Next.weak [0, 1, 2, 3] [] (by rfl) (keepsN hC _ rfl) wG wR wN rel_intro
 intro k hk K hK
 try dsimp only at hk ⊢
 refine nK2 ?_
 refine zb ?_
 refine zp ?_
 refine zc ?_
 refine nK2 ?_
 refine n_cond _ rfl (fun hb => ?_) (fun hb => ?_)
 ·have hlt : k < n := by simpa using hb
  have hrow := row_of encN (fillN n k) k 0 (by rw [fillN_len _ _ hk]; exact hlt)
  refine nK2 ?_
  refine zb ?_
  refine za ?_
  refine zd ?_
  refine zc ?_
  refine nK2 ?_
  refine zb ?_
  refine za ?_
  refine zba ?_
  refine zg ?_
  refine zy ?_
  refine za ?_
  refine rpZ 27 rfl (op_idx_sl0 k rfl (oT rfl) (oT rfl) (by intro _; exact ⟨rfl, hlt⟩)) ?_
  refine Run.eff (dd := none) rfl rfl (op_store_flat rfl (oT rfl) oC tC rfl rfl hrow tS) ?_
  refine zc ?_
  refine nK2 ?_
  refine zb ?_
  refine zl ?_
  refine za ?_
  refine zc ?_
  refine nK2 ?_
  refine Next.weak [0, 1, 2, 3] [] (by rfl) (keepsN hC _ rfl) wG (by exact ⟨wS, ⟨wS, ⟨ent_same rfl rfl (flEq rfl (by rw [← fillN_set n k hlt, List.map_set]; rfl)) trivial, ⟨wS, trivial⟩⟩⟩⟩) wN (hK (k + 1) hlt (by omega))
 have hge : k = n := by simp at hb; omega
 subst hge
 refine nK2 ?_
 refine zb ?_
 refine za ?_
 refine zd ?_
 refine zc ?_
 refine nK2 ?_
 refine Next.weak [0, 1, 2, 3] [] (by rfl) (keepsN hC _ rfl) (G' := [(2, .ptr 0 3 0 0)]) (H' := HH (newH k)) wG (by exact ⟨ent_same rfl rfl (by simp only [newH, List.length_replicate]; rfl) tL, ⟨ent_same rfl rfl rfl trivial, ⟨ent_same rfl rfl (flEq rfl (by rw [fillN_n]; rfl)) trivial, ⟨ent_same rfl rfl rfl trivial, trivial⟩⟩⟩⟩) wN ?_
 exact n_out1 rfl (by rfl) rfl rfl
end Go.Proofs.YtmapchjcnifeiaaGreat
namespace Go.Pl
open Go Go.RT
set_option linter.all false
def encL (l : List Int) : List FV := [VI l]
abbrev VLL (ll : List (List Int)) : FV := .vals 1 (ll.map encL)
def rowsI (ll : List (List Int)) : List (List (List FV)) := ll.map fun l => l.map encN
theorem fz_rowsI (ll : List (List Int)) : fzL 1 (rowsI ll) = ll.map encL := by simp [fzL, rowsI, encL]
theorem rowsI_len (ll : List (List Int)) : (rowsI ll).length = ll.length := by simp [rowsI]
theorem rowsI_set (ll : List (List Int)) (v : Nat) (l : List Int) : (rowsI ll).set v (l.map encN) = rowsI (ll.set v l) := by unfold rowsI; rw [List.map_set]
theorem rowsI_get {ll : List (List Int)} {v : Nat} (h : v < ll.length) : (rowsI ll)[v]? = some ((ll.getD v []).map encN) := by
  unfold rowsI; rw [List.getElem?_map, List.getD_eq_getElem?_getD, List.getElem?_eq_getElem h]; rfl
theorem rowsI_nil (n : Nat) : rowsI (List.replicate n []) = List.replicate n [] := by simp [rowsI]
def parC (a : Nat) (d : List Int) (e : Edg) : Bool := decide (e.t ≠ (a : Int)) && decide (gt0 d e.f.toNat ≠ -1) && decide (gt0 d e.f.toNat + e.c = gt0 d e.t.toNat)
def parE (es : List Edg) (a : Nat) (d : List Int) (v : Nat) : List Int := (es.filter fun e => parC a d e && decide (e.t = (v : Int))).map (·.f)
def parL (es : List Edg) (a : Nat) (d : List Int) (n : Nat) : List (List Int) := (List.range n).map (parE es a d)
theorem parE_succ {es : List Edg} {i a : Nat} {d : List Int} (h : i < es.length) (v : Nat) : parE (es.take (i + 1)) a d v = parE (es.take i) a d v ++ if parC a d es[i] = true ∧ es[i].t = (v : Int) then [es[i].f] else [] := by
  unfold parE
  rw [← List.take_append_getElem h, List.filter_append, List.map_append]
  congr 1
  by_cases e : parC a d es[i] = true ∧ es[i].t = (v : Int)
  · rw [if_pos e]; simp [e.1, e.2]
  · rw [if_neg e]
    have : (parC a d es[i] && decide (es[i].t = (v : Int))) = false := by
      rw [Bool.eq_false_iff]; intro h; exact e (by simpa using h)
    simp [this]
theorem parL_len (es : List Edg) (a : Nat) (d : List Int) (n : Nat) : (parL es a d n).length = n := rng_len n _
theorem parL_get (es : List Edg) (a : Nat) (d : List Int) {n v : Nat} (h : v < n) : (parL es a d n).getD v [] = parE es a d v := by
  rw [List.getD_eq_getElem?_getD]; unfold parL; rw [rng_get n _ v h]; rfl
theorem parL_yes {es : List Edg} {i a n : Nat} {d : List Int} (h : i < es.length) (h0 : 0 ≤ es[i].t) (hc : parC a d es[i] = true) : (parL (es.take i) a d n).set es[i].t.toNat (parE (es.take i) a d es[i].t.toNat ++ [es[i].f]) = parL (es.take (i + 1)) a d n := by
  refine rng_set n _ _ _ _ ?_ fun w hw => ?_
  · rw [parE_succ h, if_pos ⟨hc, by omega⟩]
  · rw [parE_succ h, if_neg (by omega), List.append_nil]
theorem parL_no {es : List Edg} {i a n : Nat} {d : List Int} (h : i < es.length) (hc : ¬ parC a d es[i] = true) : parL (es.take i) a d n = parL (es.take (i + 1)) a d n := by
  unfold parL
  refine List.map_congr_left fun v _ => ?_
  rw [parE_succ h, if_neg (fun e => hc e.1), List.append_nil]
theorem parL_nil (a : Nat) (d : List Int) (n : Nat) : parL [] a d n = List.replicate n [] := (rng_const n _).symm
open Go Go.RT
/- the order of the nodes in hops -/
theorem perm_sorted_eq {α : Type} {le : α → α → Prop} (anti : ∀ a b, le a b → le b a → a = b) : ∀ (l1 l2 : List α), l1.Perm l2 → l1.Pairwise le → l2.Pairwise le → l1 = l2
  | [], l2, h, _, _ => (List.nil_perm.1 h).symm
  | x :: a, [], h, _, _ => by have := h.length_eq; simp at this
  | x :: a, y :: b, h, h1, h2 => by
    obtain ⟨a1, a2⟩ := List.pairwise_cons.1 h1
    obtain ⟨b1, b2⟩ := List.pairwise_cons.1 h2
    have e : x = y := by
      rcases List.mem_cons.1 (h.mem_iff.1 (List.mem_cons_self ..)) with e | q1
      · exact e
      · rcases List.mem_cons.1 (h.mem_iff.2 (List.mem_cons_self ..)) with e | q2
        · exact e.symm
        · exact anti _ _ (a1 _ q2) (b1 _ q1)
    subst e
    exact congrArg _ (perm_sorted_eq anti a b ((List.perm_cons x).1 h) a2 b2)
def ordH (d : List Int) (x y : Nat) : Int := orI [cmpI (gt0 d x) (gt0 d y), cmpI (y : Int) (x : Int)]
theorem ordH_neg (d : List Int) (x y : Nat) : ordH d x y < 0 ↔ gt0 d x < gt0 d y ∨ gt0 d x = gt0 d y ∧ y < x := by
  have h1 := cmpI_neg (gt0 d x) (gt0 d y)
  have h2 := cmpI_neg (y : Int) (x : Int)
  have h3 := cmpI_zero (gt0 d x) (gt0 d y)
  unfold ordH
  simp only [orI]
  by_cases e : cmpI (gt0 d x) (gt0 d y) ≠ 0
  · rw [if_pos e, h1]; rw [ne_eq, h3] at e; omega
  · rw [if_neg e]
    have e2 : gt0 d x = gt0 d y := h3.1 (by omega)
    by_cases e3 : cmpI (y : Int) (x : Int) ≠ 0
    · rw [if_pos e3, h2]; omega
    · rw [if_neg e3]
      have := (cmpI_zero (y : Int) (x : Int)).1 (by omega)
      omega
def ltHd (d : List Int) (x y : Nat) : Prop := gt0 d x < gt0 d y ∨ gt0 d x = gt0 d y ∧ y < x
end Go.Pl
/- The reference's search: passes over all edges. -/
namespace Go.Pl
open Go.RT
set_option linter.all false
/-- one edge of a pass -/
def passE (out : List Bool) (e : Edg) : List Bool := if out[e.f.toNat]? = some true then out.set e.t.toNat true else out
def pass (es : List Edg) (out : List Bool) : List Bool := es.foldl passE out
theorem passE_len (out : List Bool) (e : Edg) : (passE out e).length = out.length := by unfold passE; split <;> simp
theorem pass_len : ∀ (es : List Edg) (out : List Bool), (pass es out).length = out.length
  | [], out => rfl
  | e :: es, out => by
    show (pass es (passE out e)).length = _
    rw [pass_len es, passE_len]
theorem passE_mono {out : List Bool} {e : Edg} {v : Nat} (h : out[v]? = some true) : (passE out e)[v]? = some true := by
  unfold passE; split
  · exact set_true h
  · exact h
theorem pass_mono : ∀ {es : List Edg} {out : List Bool} {v : Nat}, out[v]? = some true → (pass es out)[v]? = some true
  | [], out, v, h => h
  | e :: es, out, v, h => pass_mono (es := es) (passE_mono h)
theorem cntT_cons (x : Bool) (l : List Bool) : cntT (x :: l) = cntT l + if x = true then 1 else 0 := by
  unfold cntT; rw [List.countP_cons]; cases x <;> rfl
theorem cnt_mono : ∀ {a b : List Bool}, a.length = b.length → (∀ v : Nat, a[v]? = some true → b[v]? = some true) → cntT a ≤ cntT b ∧ (cntT a = cntT b → a = b)
  | [], [], _, _ => ⟨Nat.le_refl _, fun _ => rfl⟩
  | [], _ :: _, h, _ => by simp at h
  | _ :: _, [], h, _ => by simp at h
  | x :: a, y :: b, hl, h => by
    obtain ⟨i1, i2⟩ := cnt_mono (a := a) (b := b) (by simpa using hl) (fun v hv => by simpa using h (v + 1) (by simpa using hv))
    have h0 := h 0
    simp only [List.getElem?_cons_zero, Option.some.injEq] at h0
    rw [cntT_cons, cntT_cons]
    cases x <;> cases y
    · exact ⟨by simpa using i1, fun hh => by rw [i2 (by simpa using hh)]⟩
    · exact ⟨by simp; omega, fun hh => by simp at hh; omega⟩
    · simp at h0
    · exact ⟨by simpa using i1, fun hh => by rw [i2 (by simpa using hh)]⟩
/-- a pass that changes nothing: closed under the edges -/
theorem pass_fix : ∀ {es : List Edg} {out : List Bool}, pass es out = out → (∀ e ∈ es, 0 ≤ e.t ∧ e.t.toNat < out.length) → ∀ e ∈ es, out[e.f.toNat]? = some true → out[e.t.toNat]? = some true := by
  intro es out h hin
  -- every prefix of the pass leaves the list as it is
  have key : ∀ (es : List Edg) (out o : List Bool), o.length = out.length → (∀ v : Nat, out[v]? = some true → o[v]? = some true) → pass es o = out → (∀ e ∈ es, 0 ≤ e.t ∧ e.t.toNat < out.length) → o = out ∧ ∀ e ∈ es, out[e.f.toNat]? = some true → out[e.t.toNat]? = some true := by
    intro es
    induction es with
    | nil => intro out o _ _ h _; exact ⟨h, fun e he => by cases he⟩
    | cons e es ih =>
      intro out o hl hm hp hin
      have hp' : pass es (passE o e) = out := hp
      obtain ⟨i1, i2⟩ := ih out (passE o e) (by rw [passE_len]; exact hl) (fun v hv => passE_mono (hm v hv)) hp' (fun e' he' => hin e' (List.mem_cons_of_mem _ he'))
      have hle : ∀ v : Nat, o[v]? = some true → out[v]? = some true := fun v hv => by rw [← i1]; exact passE_mono hv
      have hoe : o = out := by
        have c1 := (cnt_mono hl hle)
        have c2 := (cnt_mono hl.symm hm)
        exact c1.2 (Nat.le_antisymm c1.1 c2.1)
      refine ⟨hoe, fun e' he' hf => ?_⟩
      rcases List.mem_cons.1 he' with rfl | he'
      · subst hoe
        unfold passE at i1
        rw [if_pos hf] at i1
        have := hin e' (List.mem_cons_self ..)
        rw [← i1, List.getElem?_set, if_pos rfl, if_pos this.2]
      · exact i2 e' he' hf
  exact (key es out out rfl (fun v h => h) h hin).2
/-- what the passes keep -/
structure Pas (g : Gr) (a : Int) (out : List Bool) : Prop where
  len : out.length = (g.r + g.n).toNat
  from_ : out[a.toNat]? = some true
  sound : ∀ v : Nat, out[v]? = some true → Rch g.es a (v : Int)
theorem Pas.stepE {g : Gr} {a : Int} {out : List Bool} {e : Edg} (h : Pas g a out) (he : e ∈ g.es) (h0 : 0 ≤ e.f ∧ 0 ≤ e.t) : Pas g a (passE out e) := by
  refine ⟨by rw [passE_len]; exact h.len, passE_mono h.from_, fun v hv => ?_⟩
  unfold passE at hv
  split at hv
  · rename_i hf
    rw [List.getElem?_set] at hv
    split at hv
    · rename_i e2
      have := h.sound _ hf
      rw [Int.toNat_of_nonneg h0.1] at this
      rw [← e2, Int.toNat_of_nonneg h0.2]
      exact .step e he this
    · exact h.sound v hv
  · exact h.sound v hv
theorem Pas.pass {g : Gr} {a : Int} : ∀ {es : List Edg} {out : List Bool}, Pas g a out → (∀ e ∈ es, e ∈ g.es ∧ 0 ≤ e.f ∧ 0 ≤ e.t) → Pas g a (Pl.pass es out)
  | [], out, h, _ => h
  | e :: es, out, h, he => Pas.pass (es := es) (h.stepE (he e (List.mem_cons_self ..)).1 (he e (List.mem_cons_self ..)).2) (fun e' h' => he e' (List.mem_cons_of_mem _ h'))
/-- after k passes: closed, or more than k nodes marked -/
def Far (g : Gr) (out : List Bool) (k : Nat) : Prop := (∀ e ∈ g.es, out[e.f.toNat]? = some true → out[e.t.toNat]? = some true) ∨ k + 1 ≤ cntT out
theorem Far.next {g : Gr} {out : List Bool} {k : Nat} (h : Far g out k) (hin : ∀ e ∈ g.es, 0 ≤ e.t ∧ e.t.toNat < out.length) : Far g (pass g.es out) (k + 1) := by
  by_cases hf : pass g.es out = out
  · rw [hf]; exact .inl (pass_fix hf hin)
  · have hc := cnt_mono (a := out) (b := pass g.es out) (pass_len _ _).symm (fun v => pass_mono)
    have hlt : cntT out < cntT (pass g.es out) := by
      rcases Nat.lt_or_ge (cntT out) (cntT (pass g.es out)) with h1 | h1
      · exact h1
      · exact absurd (hc.2 (by omega)).symm hf
    rcases h with h | h
    · -- closed already: a pass changes nothing
      exfalso
      apply hf
      have : ∀ (es : List Edg), (∀ e ∈ es, e ∈ g.es) → pass es out = out := by
        intro es
        induction es with
        | nil => exact fun _ => rfl
        | cons e es ih =>
          intro hes
          have hee := hes e (List.mem_cons_self ..)
          have he : passE out e = out := by
            unfold passE
            split
            · rename_i ht
              have hh := h e hee ht
              obtain ⟨q1, q2⟩ := List.getElem?_eq_some_iff.1 hh
              rw [← q2]; exact List.set_getElem_self q1
            · rfl
          show pass es (passE out e) = out
          rw [he]; exact ih fun e' h' => hes e' (List.mem_cons_of_mem _ h')
      exact this g.es fun e h => h
    · exact .inr (by omega)
end Go.Pl
/- The valid graph of edges, as the reference puts it together. -/
namespace Go.Pl
open Go.RT
set_option linter.all false
end Go.Pl
/- Elements that a test holds for are dropped. -/
namespace Go.Pl
set_option linter.all false
end Go.Pl
namespace Go.Pl
set_option linter.all false
/-- binary search: the least place in [i, j) whose element is not below -/
def bsGo {α : Type} (p : α → Bool) (l : List α) (i j : Nat) : Nat :=
  if h : i < j then
    (if h2 : (i + j) / 2 < l.length then
      (bif p l[(i + j) / 2] then bsGo p l ((i + j) / 2 + 1) j else bsGo p l i ((i + j) / 2))
    else i)
  else i
termination_by j - i
theorem bsGo_end {α : Type} (p : α → Bool) (l : List α) (i : Nat) : bsGo p l i i = i := by
  rw [bsGo]; simp
theorem bsGo_step {α : Type} (p : α → Bool) (l : List α) (i j : Nat) (h : i < j) (hj : j ≤ l.length) :
    bsGo p l i j = (bif p (l[(i + j) / 2]'(by omega)) then bsGo p l ((i + j) / 2 + 1) j else bsGo p l i ((i + j) / 2)) := by
  rw [bsGo]; simp [h, show (i + j) / 2 < l.length by omega]
def hitAt {α : Type} (p : α → Bool) (l : List α) (i : Nat) : Bool := match l[i]? with | some e => p e | none => false
theorem bsGo_le {α : Type} (p : α → Bool) (l : List α) : ∀ (n i j : Nat), j - i ≤ n → i ≤ j → j ≤ l.length → i ≤ bsGo p l i j ∧ bsGo p l i j ≤ j
  | n, i, j, hn, hi, hj => by
    rw [bsGo]
    by_cases h : i < j
    · have hm : (i + j) / 2 < l.length := by omega
      simp only [h, hm, dif_pos]
      cases n with
      | zero => omega
      | succ n =>
        cases p l[(i + j) / 2] with
        | true => have := bsGo_le p l n ((i + j) / 2 + 1) j (by omega) (by omega) hj; simp only [cond_true]; omega
        | false => have := bsGo_le p l n i ((i + j) / 2) (by omega) (by omega) (by omega); simp only [cond_false]; omega
    · simp only [h, dif_neg, not_false_eq_true]; omega
/-- over a list on which p is first true and then false -/
theorem bsGo_spec {α : Type} (p : α → Bool) (l : List α) (hm : ∀ a b (ha : a < b) (hb : b < l.length), p l[b] = true → p (l[a]'(by omega)) = true) :
    ∀ (n i j : Nat), j - i ≤ n → (hi : i ≤ j) → (hj : j ≤ l.length) →
      (∀ k (hk : k < i), p (l[k]'(by omega)) = true) → (∀ k (hk : j ≤ k) (hl : k < l.length), p l[k] = false) →
      (∀ k (hk : k < bsGo p l i j) (hl : k < l.length), p l[k] = true) ∧ (∀ k (hk : bsGo p l i j ≤ k) (hl : k < l.length), p l[k] = false)
  | n, i, j, hn, hi, hj, h1, h2 => by
    rw [bsGo]
    by_cases h : i < j
    · have hmm : (i + j) / 2 < l.length := by omega
      simp only [h, hmm, dif_pos]
      cases n with
      | zero => omega
      | succ n =>
        cases hp : p l[(i + j) / 2] with
        | true =>
          simp only [cond_true]
          refine bsGo_spec p l hm n ((i + j) / 2 + 1) j (by omega) (by omega) hj ?_ h2
          intro k hk
          by_cases e : k = (i + j) / 2
          · subst e; exact hp
          · exact hm k ((i + j) / 2) (by omega) hmm hp
        | false =>
          simp only [cond_false]
          refine bsGo_spec p l hm n i ((i + j) / 2) (by omega) (by omega) (by omega) h1 ?_
          intro k hk hl
          by_cases e : k = (i + j) / 2
          · subst e; exact hp
          · cases hq : p l[k] with
            | false => rfl
            | true => have := hm ((i + j) / 2) k (by omega) hl hq; rw [hp] at this; exact absurd this (by simp)
    · simp only [h, dif_neg, not_false_eq_true]
      have : i = j := by omega
      exact ⟨fun k hk _ => h1 k hk, fun k hk hl => h2 k (by omega) hl⟩
end Go.Pl
namespace Go.Pl
theorem hitAt_eq {α : Type} [Inhabited α] (l : List α) (i : Nat) (p : α → Bool) : ∃ q, (i < l.length → l[i]? = some q) ∧ hitAt p l i = (decide ((i : Int) < (l.length : Int)) && p q) := by
  by_cases h : i < l.length
  · exact ⟨l[i], fun _ => List.getElem?_eq_getElem h, by simp [hitAt, h]⟩
  · exact ⟨default, fun h' => absurd h' h, by simp [hitAt, h]⟩
open Go.RT
def zE : Edg := ⟨0, 0, 0⟩
end Go.Pl
namespace Go.Pl
set_option linter.all false
/-- x put in ahead of place i -/
def insL {α : Type} (l : List α) (i : Nat) (x : α) : List α := l.take i ++ x :: l.drop i
theorem insL_len {α : Type} (l : List α) (i : Nat) (x : α) (h : i ≤ l.length) : (insL l i x).length = l.length + 1 := by simp [insL]; omega
theorem insL_map {α β : Type} (f : α → β) (l : List α) (i : Nat) (x : α) : (insL l i x).map f = insL (l.map f) i (f x) := by simp [insL]
/-- the rows behind the copies of slices.Insert, where it grows -/
theorem ins_grow {β : Type} (l : List β) (i : Nat) (x z : β) (h : i < l.length) :
    (((l.take i ++ List.replicate (l.length + 1 - i) z).take i ++ [x] ++ (l.take i ++ List.replicate (l.length + 1 - i) z).drop (i + 1)).take (i + 1) ++ l.drop i ++
      ((l.take i ++ List.replicate (l.length + 1 - i) z).take i ++ [x] ++ (l.take i ++ List.replicate (l.length + 1 - i) z).drop (i + 1)).drop (i + 1 + (l.length - i))) = insL l i x := by
  have h1 : (l.take i).length = i := by simp; omega
  have e1 : (l.take i ++ List.replicate (l.length + 1 - i) z).take i = l.take i := by rw [List.take_append_of_le_length (by omega), List.take_take]; simp
  rw [e1]
  generalize hd : (l.take i ++ List.replicate (l.length + 1 - i) z).drop (i + 1) = d
  have hdl : d.length = l.length - i := by rw [← hd]; simp; omega
  have h2 : (l.take i ++ [x]).length = i + 1 := by simp; omega
  have e2 : (l.take i ++ [x] ++ d).take (i + 1) = l.take i ++ [x] := by rw [List.take_append_of_le_length (by omega), List.take_of_length_le (by omega)]
  have e3 : (l.take i ++ [x] ++ d).drop (i + 1 + (l.length - i)) = [] := List.drop_of_length_le (by rw [List.length_append, h2, hdl]; omega)
  rw [e2, e3]
  simp [insL]
/-- .. where there is room -/
theorem ins_room {β : Type} (l : List β) (i : Nat) (x : β) (h : i < l.length) :
    ((l.take (i + 1) ++ l.drop i ++ l.drop (i + 1 + (l.length - i))).take i ++ [x] ++ (l.take (i + 1) ++ l.drop i ++ l.drop (i + 1 + (l.length - i))).drop (i + 1)) = insL l i x := by
  have e0 : l.drop (i + 1 + (l.length - i)) = [] := List.drop_of_length_le (by omega)
  have h1 : (l.take (i + 1)).length = i + 1 := by simp; omega
  rw [e0, List.append_nil]
  have e1 : (l.take (i + 1) ++ l.drop i).take i = l.take i := by rw [List.take_append_of_le_length (by omega), List.take_take, Nat.min_eq_left (by omega)]
  have e2 : (l.take (i + 1) ++ l.drop i).drop (i + 1) = l.drop i := by rw [List.drop_append_of_le_length (by omega), List.drop_of_length_le (by omega)]; rfl
  rw [e1, e2]
  simp [insL]
open Go Go.RT
/- merge: a number put into an ascending list, once -/
def bsI (l : List Int) (x : Int) : Nat := bsGo (fun e => decide (e < x)) l 0 l.length
def hitI (l : List Int) (x : Int) : Bool := hitAt (fun e => decide (e = x)) l (bsI l x)
def insU (l : List Int) (x : Int) : List Int := if hitI l x = true then l else insL l (bsI l x) x
theorem bsI_le (l : List Int) (x : Int) : bsI l x ≤ l.length := (bsGo_le (fun e => decide (e < x)) l (l.length) 0 l.length (by omega) (Nat.zero_le _) (Nat.le_refl _)).2
def capV (r : Int) (v : Nat) (h : Int) : Int := if r ≤ h then (v : Int) else h
open Go Go.RT
/- hops, as the program makes them -/
theorem insU_spec {l : List Int} (h : Asc l) (x : Int) : Asc (insU l x) ∧ ∀ y, y ∈ insU l x ↔ y = x ∨ y ∈ l := by
  have hle := bsI_le l x
  have hg : ∀ a b (ha : a < b) (hb : b < l.length), l[a] < l[b] := fun a b ha hb => List.pairwise_iff_getElem.1 h a b (by omega) hb ha
  have h2 := bsGo_spec (fun e => decide (e < x)) l (fun a b ha hb hp => by
    have := hg a b ha hb
    simp only [decide_eq_true_eq] at hp ⊢; omega) l.length 0 l.length (by omega) (Nat.zero_le _) (Nat.le_refl _) (fun k hk => absurd hk (Nat.not_lt_zero _)) (fun k hk hl => absurd hl (by omega))
  have h3 : ∀ k (hk : k < bsI l x) (hl : k < l.length), l[k] < x := fun k hk hl => by simpa using h2.1 k hk hl
  have h4 : ∀ k (hk : bsI l x ≤ k) (hl : k < l.length), x ≤ l[k] := fun k hk hl => by simpa using h2.2 k hk hl
  unfold insU hitI hitAt
  by_cases hb : bsI l x < l.length
  · rw [List.getElem?_eq_getElem hb]
    simp only [decide_eq_true_eq]
    by_cases he : l[bsI l x] = x
    · rw [if_pos he]
      refine ⟨h, fun y => ⟨fun hy => .inr hy, fun hy => ?_⟩⟩
      rcases hy with h5 | hy
      · rw [h5, ← he]; exact List.getElem_mem hb
      · exact hy
    · rw [if_neg he]
      refine ⟨?_, fun y => ?_⟩
      · unfold insL
        refine List.pairwise_append.2 ⟨h.sublist (List.take_sublist _ _), List.pairwise_cons.2 ⟨fun y hy => ?_, h.sublist (List.drop_sublist _ _)⟩, fun a ha b hb2 => ?_⟩
        · obtain ⟨k, hk, rfl⟩ := List.mem_iff_getElem.1 hy
          rw [List.getElem_drop]
          have q1 := h4 (bsI l x + k) (by omega) (by simp at hk; omega)
          by_cases e : k = 0
          · subst e; simp only [Nat.add_zero] at q1 ⊢; omega
          · have := hg (bsI l x) (bsI l x + k) (by omega) (by simp at hk; omega)
            have := h4 (bsI l x) (Nat.le_refl _) hb
            omega
        · obtain ⟨k, hk, rfl⟩ := List.mem_iff_getElem.1 ha
          rw [List.getElem_take]
          rw [List.length_take] at hk
          have q1 := h3 k (by omega) (by omega)
          rcases List.mem_cons.1 hb2 with rfl | hb2
          · exact q1
          · obtain ⟨k2, hk2, rfl⟩ := List.mem_iff_getElem.1 hb2
            rw [List.getElem_drop]
            simp at hk2
            exact hg k (bsI l x + k2) (by omega) (by omega)
      · unfold insL
        rw [List.mem_append, List.mem_cons]
        have : y ∈ l ↔ y ∈ l.take (bsI l x) ∨ y ∈ l.drop (bsI l x) := by rw [← List.mem_append, List.take_append_drop]
        rw [this]; constructor
        · rintro (h | h | h)
          · exact .inr (.inl h)
          · exact .inl h
          · exact .inr (.inr h)
        · rintro (h | h | h)
          · exact .inr (.inl h)
          · exact .inl h
          · exact .inr (.inr h)
  · have hbe : bsI l x = l.length := by omega
    rw [List.getElem?_eq_none (by omega)]
    rw [if_neg (by simp), hbe]
    unfold insL
    rw [List.take_length, List.drop_length]
    refine ⟨List.pairwise_append.2 ⟨h, by simp, fun a ha b hb2 => ?_⟩, fun y => by simp [or_comm]⟩
    have : b = x := by simpa using hb2
    subst this
    obtain ⟨k, hk, rfl⟩ := List.mem_iff_getElem.1 ha
    exact h3 k (by omega) hk
/-- ascending, all of them nodes -/
def RowOk (n : Nat) (l : List Int) : Prop := Asc l ∧ ∀ x ∈ l, 0 ≤ x ∧ x < n
theorem RowOk.len {n : Nat} {l : List Int} (h : RowOk n l) : l.length ≤ n := by
  have := nodup_len n (l.map Int.toNat) (by
    rw [List.Nodup, List.pairwise_map]
    refine h.1.imp_of_mem fun ha hb hab e => ?_
    have := h.2 _ ha; have := h.2 _ hb; omega) (fun x hx => by
      obtain ⟨y, hy, rfl⟩ := List.mem_map.1 hx
      have := h.2 y hy; omega)
  simpa using this
theorem RowOk.ins {n : Nat} {l : List Int} (h : RowOk n l) {x : Int} (hx : 0 ≤ x ∧ x < n) : RowOk n (insU l x) :=
  ⟨(insU_spec h.1 x).1, fun y hy => by
    rcases ((insU_spec h.1 x).2 y).1 hy with rfl | hy
    · exact hx
    · exact h.2 y hy⟩
abbrev rowAt' (ll : List (List Int)) (v : Nat) : List Int := ll.getD v []
def mergeL (r : Int) (v : Nat) (ll : List (List Int)) (h : Int) : List (List Int) := ll.set v (insU (rowAt' ll v) (capV r v h))
def stepU (r : Int) (a v : Nat) (ll : List (List Int)) (u : Int) : List (List Int) :=
  (rowAt' ll u.toNat).foldl (mergeL r v) (if u = (a : Int) then mergeL r v ll (v : Int) else ll)
def hopsV (r : Int) (a : Nat) (up : List (List Int)) (ll : List (List Int)) (v : Nat) : List (List Int) := (rowAt' up v).foldl (stepU r a v) ll
def hopsL (r : Int) (a n : Nat) (up : List (List Int)) (order : List Nat) : List (List Int) := order.foldl (hopsV r a up) (List.replicate n [])
structure LLok (n : Nat) (ll : List (List Int)) : Prop where
  len : ll.length = n
  row : ∀ v, v < n → RowOk n (rowAt' ll v)
theorem LLok.merge {n : Nat} {ll : List (List Int)} (h : LLok n ll) (r : Int) {v : Nat} (hv : v < n) {x : Int} (hx : 0 ≤ x ∧ x < n) : LLok n (mergeL r v ll x) := by
  refine ⟨by rw [mergeL, List.length_set, h.len], fun w hw => ?_⟩
  unfold mergeL rowAt'
  rw [getD_set _ _ _ _ _ (by rw [h.len]; exact hv)]
  by_cases e : v = w
  · rw [if_pos e]; exact (h.row v hv).ins (by unfold capV; split <;> omega)
  · rw [if_neg e]; exact h.row w hw
theorem merge_other (r : Int) (v : Nat) (ll : List (List Int)) (x : Int) {u : Nat} (h : u ≠ v) : rowAt' (mergeL r v ll x) u = rowAt' ll u := by
  unfold mergeL rowAt'
  rw [List.getD_eq_getElem?_getD, List.getElem?_set_ne (fun e => h e.symm), ← List.getD_eq_getElem?_getD]
theorem foldl_take_succ {α β : Type} (f : β → α → β) (b : β) (l : List α) (i : Nat) (h : i < l.length) : (l.take (i + 1)).foldl f b = f ((l.take i).foldl f b) l[i] := by
  rw [← List.take_append_getElem h, List.foldl_append]; rfl
/-- rows with one cell taken -/
def tkL (irs : List (List (List FV))) (u k : Nat) : List (List PV) := (ownL 1 irs).set u [PV.sl 2 1 0 k]
theorem renO_tk {L : List Nat} (h : renI L 2 = 2) (irs : List (List (List FV))) (u k : Nat) : renO L (.refs 1 (tkL irs u k)) = .refs 1 (tkL irs u k) := by
  have h1 := renO_own L 1 irs
  simp only [renO, Ob.refs.injEq, true_and] at h1 ⊢
  unfold tkL
  rw [List.map_set, h1]
  simp [renPs, renP, h]
theorem ltO_tk {n : Nat} (h : 2 < n) (irs : List (List (List FV))) (u k : Nat) : ltO n (.refs 1 (tkL irs u k)) := fun r hr => by
  rcases List.mem_or_eq_of_mem_set hr with h1 | rfl
  · exact ltO_own n 1 irs r h1
  · simp [ltPs, ltP, Nat.blt_eq, h]
theorem ent_tk {L F : List Nat} {H : Hp} {id : Nat} {irs : List (List (List FV))} {u k : Nat} (h1 : Nat.blt id L.length = true) (h2 : F.contains (renI L id) = false) (hr : renI L 2 = 2) (hl : 2 < L.length) (h3 : hlook H (renI L id) = some (.refs 1 (tkL irs u k))) : Nat.blt id L.length = true ∧ F.contains (renI L id) = false ∧ EntO L F H (renI L id) (.refs 1 (tkL irs u k)) :=
  ent_same h1 h2 (by rw [renO_tk hr]; exact h3) (ltO_tk hl _ _ _)
theorem tk_get {irs : List (List (List FV))} {u v k : Nat} {r : List (List FV)} (hne : u ≠ v) (h : irs[v]? = some r) : (tkL irs u k)[v]? = some [PV.own 1 r] := by
  unfold tkL; rw [List.getElem?_set_ne hne]; exact ownL_get h
theorem tk_len (irs : List (List (List FV))) (u k : Nat) : (tkL irs u k).length = irs.length := by unfold tkL; rw [List.length_set, ownL_len]
theorem tk_back {irs : List (List (List FV))} {u v k : Nat} {x y : List PV} {r : List (List FV)} (hne : u ≠ v) : (((tkL irs u k).set v x).set v y).set v [PV.own 1 r] = tkL (irs.set v r) u k := by
  rw [List.set_set, List.set_set]; unfold tkL
  rw [List.set_comm _ _ (by omega), ownL_set]
theorem tk_back2 {irs : List (List (List FV))} {u v k : Nat} {x : List PV} {r : List (List FV)} (hne : u ≠ v) : ((tkL irs u k).set v x).set v [PV.own 1 r] = tkL (irs.set v r) u k := by
  rw [List.set_set]; unfold tkL
  rw [List.set_comm _ _ (by omega), ownL_set]
theorem tk_put {irs : List (List (List FV))} {u k : Nat} {r : List (List FV)} (h : irs[u]? = some r) : (tkL irs u k).set u [PV.own 1 r] = ownL 1 irs := by
  unfold tkL
  rw [List.set_set, ownL_set]
  congr 1
  apply List.ext_getElem?
  intro i
  rw [List.getElem?_set]
  by_cases e : u = i
  · subst e
    have hlt := (List.getElem?_eq_some_iff.1 h).1
    rw [if_pos rfl, if_pos hlt, h]
  · rw [if_neg e]
open Go Go.RT
def ordP (d : List Int) (a : Nat) (v : Nat) : Bool := decide (gt0 d v ≠ -1) && decide ((v : Int) ≠ (a : Int))
def ordA (d : List Int) (a i : Nat) : List Nat := (List.range i).filter (ordP d a)
theorem ordA_succ (d : List Int) (a i : Nat) : ordA d a (i + 1) = ordA d a i ++ if ordP d a i = true then [i] else [] := by
  unfold ordA
  rw [List.range_succ, List.filter_append]
  congr 1
  by_cases h : ordP d a i = true
  · simp [h]
  · simp [h]
theorem ordA_len (d : List Int) (a i : Nat) : (ordA d a i).length ≤ i := by
  have := List.length_filter_le (ordP d a) (List.range i)
  simpa [ordA] using this
theorem ordA_lt {d : List Int} {a i v : Nat} (h : v ∈ ordA d a i) : v < i := by
  have := (List.mem_filter.1 h).1; simpa using this
theorem LLok.nil (n : Nat) : LLok n (List.replicate n []) := ⟨by simp, fun v hv => by
  have : rowAt' (List.replicate n []) v = [] := getD_rep _ _ _ _ hv
  rw [this]; exact ⟨.nil, fun x h => by cases h⟩⟩
/-- parents: nodes, and others than the node itself -/
structure UpOk (n : Nat) (up : List (List Int)) : Prop where
  len : up.length = n
  row : ∀ v, v < n → (rowAt' up v).length ≤ 2000 ∧ ∀ u ∈ rowAt' up v, 0 ≤ u ∧ u < n ∧ u ≠ (v : Int)
theorem LLok.fold {n : Nat} {r : Int} {v : Nat} (hv : v < n) : ∀ (l : List Int) {ll : List (List Int)}, LLok n ll → (∀ x ∈ l, 0 ≤ x ∧ x < n) → LLok n (l.foldl (mergeL r v) ll)
  | [], _, h, _ => h
  | x :: l, _, h, hx => LLok.fold hv l (h.merge r hv (hx x (by simp))) fun y hy => hx y (by simp [hy])
theorem fold_other {r : Int} {v u : Nat} (huv : u ≠ v) : ∀ (l : List Int) (ll : List (List Int)), rowAt' (l.foldl (mergeL r v) ll) u = rowAt' ll u
  | [], _ => rfl
  | x :: l, ll => (fold_other huv l (mergeL r v ll x)).trans (merge_other r v ll x huv)
theorem LLok.step {n : Nat} {ll : List (List Int)} (h : LLok n ll) (r : Int) {a v : Nat} (hv : v < n) {u : Int} (hu : 0 ≤ u ∧ u < n) : LLok n (stepU r a v ll u) := by
  unfold stepU
  refine LLok.fold hv _ ?_ (h.row u.toNat (by omega)).2
  split
  · exact h.merge r hv (by omega)
  · exact h
theorem LLok.steps {n : Nat} {r : Int} {a v : Nat} (hv : v < n) : ∀ (l : List Int) {ll : List (List Int)}, LLok n ll → (∀ x ∈ l, 0 ≤ x ∧ x < n) → LLok n (l.foldl (stepU r a v) ll)
  | [], _, h, _ => h
  | x :: l, _, h, hx => LLok.steps hv l (h.step r hv (hx x (by simp))) fun y hy => hx y (by simp [hy])
theorem LLok.hops {n : Nat} {r : Int} {a : Nat} {up : List (List Int)} (hu : UpOk n up) : ∀ (l : List Nat) {ll : List (List Int)}, LLok n ll → (∀ x ∈ l, x < n) → LLok n (l.foldl (hopsV r a up) ll)
  | [], _, h, _ => h
  | x :: l, _, h, hx => LLok.hops hu l (LLok.steps (hx x (by simp)) _ h fun y hy => by have := (hu.row x (hx x (by simp))).2 y hy; omega) fun y hy => hx y (by simp [hy])
open Go Go.RT
structure Tr where
  root : Int
  dist : List Int
  hops : List (List Int)
  par : List (List Int)
  deriving DecidableEq
def encTr (t : Tr) : List FV := [If .i64 t.root, VI t.dist, VLL t.hops, VLL t.par]
abbrev OTr (t : Tr) : Option Ob := some (.flat 4 [encTr t])
def zeroT : Tr := ⟨0, [], [], []⟩
/-- what a shortest-path run makes -/
structure RunOk (g : Gr) (a : Nat) (t : Tr) : Prop where
  ok : checkI g = 0
  lt : (a : Int) < g.r
  root : t.root = a
  dl : t.dist.length = (g.r + g.n).toNat
  dist : ∀ v, v < (g.r + g.n).toNat → IsD g.es a v (gt0 t.dist v)
  par : t.par = parL g.es a t.dist (g.r + g.n).toNat
  hops : ∃ l2 : List Nat, l2.Perm (ordA t.dist a (g.r + g.n).toNat) ∧ l2.Pairwise (ltHd t.dist) ∧ t.hops = hopsL g.r a (g.r + g.n).toNat t.par l2
theorem IsD.ge {es : List Edg} {r n a v : Nat} {d : Int} (vg : VG es r n) (h : IsD es a v d) : -1 ≤ d := by
  rcases h with ⟨h, _⟩ | ⟨h, _⟩
  · omega
  · have := h.nn vg; omega
theorem parE_len (es : List Edg) (a : Nat) (d : List Int) (v : Nat) : (parE es a d v).length ≤ es.length := by unfold parE; rw [List.length_map]; exact List.length_filter_le _ _
theorem parL_ok {es : List Edg} {r n : Nat} (vg : VG es r n) (a : Nat) (d : List Int) : UpOk n (parL es a d n) := by
  refine ⟨parL_len _ _ _ _, fun v hv => ?_⟩
  have e : rowAt' (parL es a d n) v = parE es a d v := parL_get es a d hv
  rw [e]
  refine ⟨by have := parE_len es a d v; have := vg.e1024; omega, fun u hu => ?_⟩
  obtain ⟨x, hx, rfl⟩ := List.mem_map.1 hu
  obtain ⟨h1, h2⟩ := List.mem_filter.1 hx
  simp only [Bool.and_eq_true, decide_eq_true_eq] at h2
  have := vg.f x h1; have := vg.ne x h1
  exact ⟨by omega, by omega, fun e => by omega⟩
/-- a bound on distances -/
theorem IsD.le {es : List Edg} {r n a v : Nat} {d : Int} (vg : VG es r n) (ha : a < n) (h : IsD es a v d) {D : List Int} (hl : D.length = n) (hD : ∀ v, v < n → IsD es a v (gt0 D v)) (hk : ∀ v, v < n → gt0 D v ≤ 10000000) (hv : v < n) : d ≤ 10000000 := by
  rw [h.uniq (hD v hv)]; exact hk v hv
open Go Go.RT
theorem relax_ex {es : List Edg} {r n a x : Nat} {kx : Int} {dist : List Int} (vg : VG es r n) (hx : gt0 dist x = kx) (h0 : 0 ≤ kx) (hb : kx + 65535 ≤ 65535 * cntP dist) : ∀ (todo : List Edg) (h : Hq), (∀ e ∈ todo, e ∈ es ∧ e.f = (x : Int)) → DJ es n a dist h todo → ∃ h', DJ es n a dist h' []
  | [], h, _, o => ⟨h, o⟩
  | e :: todo, h, ht, o => by
    obtain ⟨he, hef⟩ := ht e (by simp)
    have hfx : gt0 dist e.f.toNat = kx := by rw [hef, Int.toNat_natCast]; exact hx
    by_cases hc : gt0 dist e.t.toNat < 0 ∧ (h.place e.t.toNat < 0 ∨ gt0 dist e.f.toNat + e.c < h.key e.t.toNat)
    · exact relax_ex vg hx h0 hb todo _ (fun e' h' => ht e' (by simp [h'])) (o.put vg he (by omega) (by omega) hc)
    · exact relax_ex vg hx h0 hb todo _ (fun e' h' => ht e' (by simp [h'])) (o.skip vg hc)
theorem run_ex {es : List Edg} {r n a : Nat} (vg : VG es r n) (ha : a < n) : ∀ (m : Nat) (dist : List Int) (h : Hq), n - cntP dist ≤ m → DJ es n a dist h [] → (∀ v, v < n → gt0 dist v ≤ 65535 * cntP dist) → ∃ D : List Int, D.length = n ∧ (∀ v, v < n → IsD es a v (gt0 D v)) ∧ ∀ v, v < n → gt0 D v ≤ 8388480
  | m, dist, h, hm, o, hb => by
    by_cases he : h.it = []
    · refine ⟨dist, o.dl, fun v hv => o.done vg ha he hv, fun v hv => ?_⟩
      have h1 := hb v hv
      have h2 := cntP_le dist
      have h3 := vg.n128
      rw [o.dl] at h2; omega
    · have hne : 0 < h.it.length := Nat.pos_of_ne_zero fun e => he (List.length_eq_zero_iff.1 e)
      obtain ⟨x1, x2, x3, x4, x5, x6⟩ := o.pop vg ha hne
      have hcl := cntP_le (dist.set (h.item 0) (h.key (h.item 0)))
      rw [List.length_set, o.dl] at hcl
      have hget : ∀ v, gt0 (dist.set (h.item 0) (h.key (h.item 0))) v = if h.item 0 = v then h.key (h.item 0) else gt0 dist v := fun v => getD_set _ _ _ _ _ (by rw [o.dl]; exact x1)
      obtain ⟨h', o'⟩ := relax_ex vg (by rw [hget, if_pos rfl]) x3 (by rw [x5]; omega) _ _ (fun e he => by simpa using he) x6
      match m with
      | 0 => omega
      | m + 1 =>
        refine run_ex vg ha m _ h' (by omega) o' fun v hv => ?_
        rw [hget, x5]
        have := hb v hv
        split <;> omega
theorem dist_ex {es : List Edg} {r n a : Nat} (vg : VG es r n) (ha : a < n) : ∃ D : List Int, D.length = n ∧ (∀ v, v < n → IsD es a v (gt0 D v)) ∧ ∀ v, v < n → gt0 D v ≤ 8388480 := by
  obtain ⟨o, h0⟩ := DJ.start vg ha
  refine run_ex vg ha n _ _ (by omega) o fun v hv => ?_
  rw [h0]
  have : gt0 (List.replicate n (-1)) v = -1 := getD_rep _ _ _ _ hv
  rw [this]; omega
theorem IsD.small {es : List Edg} {r n a v : Nat} {d : Int} (vg : VG es r n) (ha : a < n) (hv : v < n) (h : IsD es a v d) : -1 ≤ d ∧ d ≤ 8388480 := by
  obtain ⟨D, h1, h2, h3⟩ := dist_ex vg ha
  rw [h.uniq (h2 v hv)]
  exact ⟨(h2 v hv).ge vg, h3 v hv⟩
theorem srt_ex (d : List Int) : ∀ (l : List Nat), l.Nodup → ∃ l2 : List Nat, l2.Perm l ∧ l2.Pairwise (ltHd d)
  | [], _ => ⟨[], .nil, .nil⟩
  | x :: l, h => by
    obtain ⟨h1, h2⟩ := List.nodup_cons.1 h
    obtain ⟨l2, p, q⟩ := srt_ex d l h2
    have : ∀ (l2 : List Nat), x ∉ l2 → l2.Pairwise (ltHd d) → ∃ l3 : List Nat, l3.Perm (x :: l2) ∧ l3.Pairwise (ltHd d) := by
      intro l2
      induction l2 with
      | nil => exact fun _ _ => ⟨[x], .refl _, by simp⟩
      | cons y l2 ih =>
        intro hx hq
        obtain ⟨q1, q2⟩ := List.pairwise_cons.1 hq
        by_cases hxy : ltHd d x y
        · refine ⟨x :: y :: l2, .refl _, List.pairwise_cons.2 ⟨fun z hz => ?_, hq⟩⟩
          rcases List.mem_cons.1 hz with rfl | hz
          · exact hxy
          · have := q1 z hz; unfold ltHd at *; omega
        · obtain ⟨l3, p3, q3⟩ := ih (fun e => hx (by simp [e])) q2
          refine ⟨y :: l3, (p3.cons y).trans (List.Perm.swap x y l2), List.pairwise_cons.2 ⟨fun z hz => ?_, q3⟩⟩
          rcases List.mem_cons.1 (p3.mem_iff.1 hz) with rfl | hz
          · have hne : z ≠ y := fun e => hx (by simp [e])
            unfold ltHd at *; omega
          · exact q1 z hz
    obtain ⟨l3, p3, q3⟩ := this l2 (fun e => h1 (p.mem_iff.1 e)) q
    exact ⟨l3, p3.trans (p.cons x), q3⟩
theorem run_exists {g : Gr} {a : Nat} (h : checkI g = 0) (ha : (a : Int) < g.r) : ∃ t, RunOk g a t := by
  obtain ⟨vg, h0, h1⟩ := checkI_vg h
  obtain ⟨D, d1, d2, d3⟩ := dist_ex vg (a := a) (by omega)
  obtain ⟨l2, p, q⟩ := srt_ex D (ordA D a (g.r + g.n).toNat) (List.nodup_range.filter _)
  exact ⟨⟨a, D, hopsL g.r a (g.r + g.n).toNat (parL g.es a D (g.r + g.n).toNat) l2, parL g.es a D (g.r + g.n).toNat⟩, h, ha, rfl, d1, d2, rfl, l2, p, q, rfl⟩
open Go Go.RT
/- the path, as the program finds it -/
def aboveL (par : List (List Int)) (v : Int) : List Int := if v < 0 ∨ (par.length : Int) ≤ v then [] else rowAt' par v.toNat
def push (l : List Int) (u : Int) : List Int := if u ∈ l then l else l ++ [u]
def bfsGo (ab : Int → List Int) : Nat → Nat → List Int → List Int
  | 0, _, l => l
  | f + 1, i, l => match l[i]? with
    | some x => bfsGo ab f (i + 1) ((ab x).foldl push l)
    | none => l
def needL (par : List (List Int)) (n : Nat) (to : Int) : List Int := bfsGo (aboveL par) (n + 1) 0 [to]
def nextAt (par : List (List Int)) (nd : List Int) (at_ : Int) (v : Nat) : Bool := decide ((v : Int) ∈ nd) && decide (at_ ∈ aboveL par v)
def nextG (par : List (List Int)) (nd : List Int) (at_ : Int) (n : Nat) : Nat → Nat → Int
  | 0, _ => -1
  | f + 1, v => if v < n then (if nextAt par nd at_ v = true then (v : Int) else nextG par nd at_ n f (v + 1)) else -1
def pathG (par : List (List Int)) (nd : List Int) (n : Nat) (to : Int) : Nat → Int → List Int → List Int
  | 0, _, out => out
  | f + 1, at_, out => if at_ = to then out else
    if nextG par nd at_ n n 0 < 0 ∨ (n : Int) < (out.length : Int) then [] else pathG par nd n to f (nextG par nd at_ n n 0) (out ++ [nextG par nd at_ n n 0])
def pathL (t : Tr) (to : Int) : List Int :=
  if to < 0 ∨ (t.dist.length : Int) ≤ to ∨ gt0 t.dist to.toNat < 0 then [] else
  pathG t.par (needL t.par t.dist.length to) t.dist.length to (t.dist.length + 2) t.root [t.root]
/-- a list of nodes, each once -/
def NdL (n : Nat) (l : List Int) : Prop := l.Nodup ∧ ∀ x ∈ l, 0 ≤ x ∧ x < n
theorem NdL.len {n : Nat} {l : List Int} (h : NdL n l) : l.length ≤ n := by
  have := nodup_len n (l.map Int.toNat) (by
    rw [List.Nodup, List.pairwise_map]
    refine h.1.imp_of_mem fun ha hb hab e => hab ?_
    have := h.2 _ ha; have := h.2 _ hb; omega) (fun x hx => by
      obtain ⟨y, hy, rfl⟩ := List.mem_map.1 hx
      have := h.2 y hy; omega)
  simpa using this
theorem NdL.push {n : Nat} {l : List Int} (h : NdL n l) {u : Int} (hu : 0 ≤ u ∧ u < n) : NdL n (push l u) := by
  unfold Pl.push
  split
  · exact h
  · next hm =>
    refine ⟨List.nodup_append.2 ⟨h.1, by simp, fun a ha b hb e => hm ?_⟩, fun x hx => ?_⟩
    · have : b = u := by simpa using hb
      rw [← this, ← e]; exact ha
    · rcases List.mem_append.1 hx with h1 | h1
      · exact h.2 x h1
      · have : x = u := by simpa using h1
        rw [this]; exact hu
theorem NdL.pushs {n : Nat} : ∀ (k : List Int) {l : List Int}, NdL n l → (∀ u ∈ k, 0 ≤ u ∧ u < n) → NdL n (k.foldl Pl.push l)
  | [], _, h, _ => h
  | x :: k, _, h, hk => NdL.pushs k (h.push (hk x (by simp))) fun u hu => hk u (by simp [hu])
theorem aboveL_ok {n : Nat} {par : List (List Int)} (hup : UpOk n par) (v : Int) : (aboveL par v).length ≤ 2000 ∧ ∀ u ∈ aboveL par v, 0 ≤ u ∧ u < n := by
  unfold aboveL
  split
  · simp
  · next h =>
    have := hup.row v.toNat (by rw [← hup.len]; omega)
    exact ⟨this.1, fun u hu => by have := this.2 u hu; omega⟩
end Go.Pl
namespace Go.Pl
theorem push_le1 (l : List Int) (u : Int) : l.length ≤ (push l u).length := by unfold push; split <;> simp
theorem push_le : ∀ (k l : List Int), l.length ≤ (k.foldl push l).length
  | [], _ => Nat.le_refl _
  | x :: k, l => Nat.le_trans (push_le1 l x) (push_le k _)
open Go Go.RT
theorem Wk.one {es : List Edg} {a u v : Nat} {c k : Int} (w : Wk es a u c) (f t : Int) (hf : f.toNat = u) (ht : t.toNat = v) (h : ⟨f, t, k⟩ ∈ es) : Wk es a v (c + k) := by
  subst hf; subst ht; exact .snoc w h
open Go Go.RT
theorem merge_mem {n : Nat} {ll : List (List Int)} (h : LLok n ll) (r : Int) {v : Nat} (hv : v < n) (y x : Int) : x ∈ rowAt' (mergeL r v ll y) v ↔ x = capV r v y ∨ x ∈ rowAt' ll v := by
  have e : rowAt' (mergeL r v ll y) v = insU (rowAt' ll v) (capV r v y) := by
    unfold mergeL
    show (ll.set v _).getD v [] = _
    rw [getD_set _ _ _ _ _ (by rw [h.len]; exact hv), if_pos rfl]
  rw [e]; exact (insU_spec (h.row v hv).1 _).2 x
theorem fold_mem {n : Nat} {r : Int} {v : Nat} (hv : v < n) : ∀ (l : List Int) {ll : List (List Int)}, LLok n ll → (∀ x ∈ l, 0 ≤ x ∧ x < n) → ∀ x, x ∈ rowAt' (l.foldl (mergeL r v) ll) v ↔ (∃ h ∈ l, x = capV r v h) ∨ x ∈ rowAt' ll v
  | [], _, _, _, x => by simp
  | y :: l, ll, h, hl, x => by
    have := fold_mem (r := r) hv l (h.merge r hv (hl y (by simp))) (fun z hz => hl z (by simp [hz])) x
    rw [List.foldl_cons, this, merge_mem h r hv]
    constructor
    · rintro (⟨z, hz, e⟩ | e | e)
      · exact .inl ⟨z, by simp [hz], e⟩
      · exact .inl ⟨y, by simp, e⟩
      · exact .inr e
    · rintro (⟨z, hz, e⟩ | e)
      · rcases List.mem_cons.1 hz with rfl | hz
        · exact .inr (.inl e)
        · exact .inl ⟨z, hz, e⟩
      · exact .inr (.inr e)
def Src (r : Int) (a v : Nat) (ll : List (List Int)) (u x : Int) : Prop := (u = (a : Int) ∧ x = capV r v (v : Int)) ∨ ∃ h ∈ rowAt' ll u.toNat, x = capV r v h
theorem step_mem {n : Nat} {r : Int} {a v : Nat} (hv : v < n) {ll : List (List Int)} (h : LLok n ll) {u : Int} (hu : 0 ≤ u ∧ u < n) (x : Int) : x ∈ rowAt' (stepU r a v ll u) v ↔ Src r a v ll u x ∨ x ∈ rowAt' ll v := by
  unfold stepU Src
  by_cases e : u = (a : Int)
  · rw [if_pos e, fold_mem hv _ (h.merge r hv (by omega)) (h.row u.toNat (by omega)).2, merge_mem h r hv]
    constructor
    · rintro (h1 | h1 | h1)
      · exact .inl (.inr h1)
      · exact .inl (.inl ⟨e, h1⟩)
      · exact .inr h1
    · rintro ((⟨_, h1⟩ | h1) | h1)
      · exact .inr (.inl h1)
      · exact .inl h1
      · exact .inr (.inr h1)
  · rw [if_neg e, fold_mem hv _ h (h.row u.toNat (by omega)).2]
    constructor
    · rintro (h1 | h1)
      · exact .inl (.inr h1)
      · exact .inr h1
    · rintro ((⟨h1, _⟩ | h1) | h1)
      · exact absurd h1 e
      · exact .inl h1
      · exact .inr h1
theorem step_other {r : Int} {a v : Nat} {ll : List (List Int)} {u : Int} {w : Nat} (hw : w ≠ v) : rowAt' (stepU r a v ll u) w = rowAt' ll w := by
  unfold stepU
  rw [fold_other hw]
  split
  · exact merge_other _ _ _ _ hw
  · rfl
theorem steps_mem {n : Nat} {r : Int} {a v : Nat} (hv : v < n) : ∀ (l : List Int) {ll : List (List Int)}, LLok n ll → (∀ u ∈ l, 0 ≤ u ∧ u < n ∧ u ≠ (v : Int)) → (∀ x, x ∈ rowAt' (l.foldl (stepU r a v) ll) v ↔ (∃ u ∈ l, Src r a v ll u x) ∨ x ∈ rowAt' ll v) ∧ ∀ w, w ≠ v → rowAt' (l.foldl (stepU r a v) ll) w = rowAt' ll w
  | [], _, _, _ => ⟨fun x => by simp, fun w _ => rfl⟩
  | y :: l, ll, h, hl => by
    have hy := hl y (by simp)
    obtain ⟨i1, i2⟩ := steps_mem (r := r) (a := a) hv l (h.step r hv (u := y) (a := a) (by omega)) (fun z hz => hl z (by simp [hz]))
    refine ⟨fun x => ?_, fun w hw => (i2 w hw).trans (step_other hw)⟩
    have hs : ∀ u ∈ l, ∀ x, Src r a v (stepU r a v ll y) u x ↔ Src r a v ll u x := fun u hu x => by
      unfold Src
      rw [step_other (by have := hl u (by simp [hu]); omega)]
    rw [List.foldl_cons, i1, step_mem hv h (by omega)]
    constructor
    · rintro (⟨z, hz, e⟩ | e | e)
      · exact .inl ⟨z, by simp [hz], (hs z hz x).1 e⟩
      · exact .inl ⟨y, by simp, e⟩
      · exact .inr e
    · rintro (⟨z, hz, e⟩ | e)
      · rcases List.mem_cons.1 hz with rfl | hz
        · exact .inr (.inl e)
        · exact .inl ⟨z, hz, (hs z hz x).2 e⟩
      · exact .inr (.inr e)
structure HopInv (r : Int) (a n : Nat) (up : List (List Int)) (done : List Nat) (ll : List (List Int)) : Prop where
  ok : LLok n ll
  off : ∀ v, v < n → v ∉ done → rowAt' ll v = []
  on : ∀ v ∈ done, ∀ x, x ∈ rowAt' ll v ↔ ∃ u ∈ rowAt' up v, Src r a v ll u x
theorem hops_inv {r : Int} {a n : Nat} {up : List (List Int)} (hup : UpOk n up) : ∀ (l done : List Nat) {ll : List (List Int)}, HopInv r a n up done ll → (∀ v ∈ done, ∀ u ∈ rowAt' up v, u = (a : Int) ∨ u.toNat ∈ done) → a ∉ done → a ∉ l → (∀ v ∈ l, v < n) → (done ++ l).Nodup →
    (∀ p v q, l = p ++ v :: q → ∀ u ∈ rowAt' up v, u = (a : Int) ∨ u.toNat ∈ done ++ p) → HopInv r a n up (done ++ l) (l.foldl (hopsV r a up) ll)
  | [], done, ll, h, _, _, _, _, _, _ => by simpa using h
  | v :: l, done, ll, h, hcl, had, hal, hlt, hnd, htop => by
    have hv := hlt v (by simp)
    have hvd : v ∉ done := fun e => (List.nodup_append.1 hnd).2.2 v e v (by simp) rfl
    have hva : a ≠ v := fun e => hal (by rw [e]; simp)
    obtain ⟨q1, q2⟩ := steps_mem (r := r) (a := a) hv (rowAt' up v) h.ok (fun u hu => (hup.row v hv).2 u hu)
    have hok : LLok n (hopsV r a up ll v) := LLok.steps hv _ h.ok fun x hx => by have := (hup.row v hv).2 x hx; omega
    have hnew : HopInv r a n up (done ++ [v]) (hopsV r a up ll v) := by
      refine ⟨hok, fun w hw hwd => ?_, fun w hw x => ?_⟩
      · have hne : w ≠ v := fun e => hwd (by simp [e])
        exact (q2 w hne).trans (h.off w hw fun e => hwd (by simp [e]))
      · rcases List.mem_append.1 hw with hw | hw
        · have hne : w ≠ v := fun e => hvd (by rw [← e]; exact hw)
          show x ∈ rowAt' (hopsV r a up ll v) w ↔ _
          rw [show rowAt' (hopsV r a up ll v) w = rowAt' ll w from q2 w hne, h.on w hw x]
          refine exists_congr fun u => and_congr_right fun hu => ?_
          unfold Src
          have hut : u.toNat ≠ v := by
            rcases hcl w hw u hu with e | e
            · omega
            · exact fun e2 => hvd (by rw [← e2]; exact e)
          rw [show rowAt' (hopsV r a up ll v) u.toNat = rowAt' ll u.toNat from q2 _ hut]
        · have : w = v := by simpa using hw
          subst this
          show x ∈ rowAt' ((rowAt' up w).foldl (stepU r a w) ll) w ↔ _
          rw [q1 x, h.off w hv hvd]
          simp only [List.not_mem_nil, or_false]
          refine exists_congr fun u => and_congr_right fun hu => ?_
          unfold Src
          have hut : u.toNat ≠ w := by have := (hup.row w hv).2 u hu; omega
          rw [show rowAt' (hopsV r a up ll w) u.toNat = rowAt' ll u.toNat from q2 _ hut]
    have := hops_inv hup l (done ++ [v]) hnew (fun w hw u hu => by
      rcases List.mem_append.1 hw with hw | hw
      · rcases hcl w hw u hu with e | e
        · exact .inl e
        · exact .inr (by simp [e])
      · have : w = v := by simpa using hw
        subst this
        rcases htop [] w l rfl u hu with e | e
        · exact .inl e
        · exact .inr (by simp at e; simp [e])) (by simp [had, hva]) (fun e => hal (by simp [e])) (fun w hw => hlt w (by simp [hw])) (by simpa using hnd) (fun p w q e u hu => by
        rcases htop (v :: p) w q (by rw [e]; rfl) u hu with e2 | e2
        · exact .inl e2
        · exact .inr (by simpa using e2))
    simpa using this
open Go Go.RT
abbrev Gr.m (g : Gr) : Nat := (g.r + g.n).toNat
theorem IsD.cases {es : List Edg} {r n a v : Nat} {d : Int} (vg : VG es r n) (h : IsD es a v d) : (d = -1 ∧ ∀ c, ¬ Wk es a v c) ∨ (0 ≤ d ∧ Wk es a v d ∧ ∀ c, Wk es a v c → d ≤ c) := by
  rcases h with h | h
  · exact .inl h
  · exact .inr ⟨h.1.nn vg, h⟩
open Go Go.RT
theorem RunOk.vg {g : Gr} {a : Nat} {t : Tr} (h : RunOk g a t) : VG g.es g.r.toNat g.m := (checkI_vg h.ok).1
theorem RunOk.am {g : Gr} {a : Nat} {t : Tr} (h : RunOk g a t) : a < g.m := by have := (checkI_vg h.ok).2; have := h.lt; unfold Gr.m; omega
theorem RunOk.parl {g : Gr} {a : Nat} {t : Tr} (h : RunOk g a t) : t.par.length = g.m := by rw [h.par, parL_len]
theorem RunOk.up {g : Gr} {a : Nat} {t : Tr} (h : RunOk g a t) : UpOk g.m t.par := by rw [h.par]; exact parL_ok h.vg _ _
theorem RunOk.edge {g : Gr} {a : Nat} {t : Tr} (h : RunOk g a t) {e : Edg} (he : e ∈ g.es) (h0 : 0 ≤ gt0 t.dist e.f.toNat) : 0 ≤ gt0 t.dist e.t.toNat ∧ gt0 t.dist e.t.toNat ≤ gt0 t.dist e.f.toNat + e.c := by
  have vg := h.vg
  have hf := vg.f e he; have ht := vg.t e he
  rcases (h.dist e.f.toNat (by show _ < g.m; omega)).cases vg with ⟨h1, _⟩ | ⟨_, h2, _⟩
  · omega
  · have w := Wk.snoc h2 he
    rcases (h.dist e.t.toNat (by show _ < g.m; omega)).cases vg with ⟨_, h4⟩ | ⟨h3, _, h5⟩
    · exact absurd w (h4 _)
    · exact ⟨h3, h5 _ w⟩
theorem RunOk.par_mem {g : Gr} {a : Nat} {t : Tr} (h : RunOk g a t) {v : Nat} (hv : v < g.m) (u : Int) : u ∈ rowAt' t.par v ↔ v ≠ a ∧ ∃ e ∈ g.es, e.f = u ∧ e.t = (v : Int) ∧ gt0 t.dist e.f.toNat ≠ -1 ∧ gt0 t.dist e.f.toNat + e.c = gt0 t.dist v := by
  have e0 : rowAt' t.par v = parE g.es a t.dist v := by rw [h.par]; exact parL_get _ _ _ hv
  rw [e0]
  unfold parE
  simp only [List.mem_map, List.mem_filter, Bool.and_eq_true, decide_eq_true_eq, parC]
  constructor
  · rintro ⟨e, ⟨he, ⟨⟨h1, h2⟩, h3⟩, h4⟩, h5⟩
    refine ⟨by omega, e, he, h5, h4, h2, ?_⟩
    rw [h4, Int.toNat_natCast] at h3; exact h3
  · rintro ⟨hne, e, he, h5, h4, h2, h3⟩
    refine ⟨e, ⟨he, ⟨⟨by omega, h2⟩, ?_⟩, h4⟩, h5⟩
    rw [h4, Int.toNat_natCast]; exact h3
theorem RunOk.dge {g : Gr} {a : Nat} {t : Tr} (h : RunOk g a t) {v : Nat} (hv : v < g.m) : -1 ≤ gt0 t.dist v := (h.dist v hv).ge h.vg
theorem RunOk.par_ex {g : Gr} {a : Nat} {t : Tr} (h : RunOk g a t) {v : Nat} (hv : v < g.m) (hne : v ≠ a) (h0 : 0 ≤ gt0 t.dist v) : ∃ u, u ∈ rowAt' t.par v := by
  have vg := h.vg
  rcases (h.dist v hv).cases vg with ⟨h1, _⟩ | ⟨_, w, hm⟩
  · omega
  · generalize hd : gt0 t.dist v = d at w hm
    have key : ∀ {v' : Nat} {d' : Int}, Wk g.es a v' d' → v' = v → d' = d → ∃ u, u ∈ rowAt' t.par v := fun {v' d'} w' hv' hd' => by
      cases w' with
      | nil => exact absurd hv'.symm hne
      | @snoc e c w2 he =>
        have hf := vg.f e he; have ht := vg.t e he
        rcases (h.dist e.f.toNat (by show _ < g.m; omega)).cases vg with ⟨_, h4⟩ | ⟨h3, _, h5⟩
        · exact absurd w2 (h4 _)
        · have h6 := h5 _ w2
          have h7 := (h.edge he h3).2
          rw [hv'] at h7
          exact ⟨e.f, (h.par_mem hv _).2 ⟨hne, e, he, rfl, by omega, by omega, by omega⟩⟩
    exact key w rfl rfl
theorem split_before {d : List Int} {l p q : List Nat} {v u : Nat} (hs : l.Pairwise (ltHd d)) (e : l = p ++ v :: q) (hu : u ∈ l) (hlt : ltHd d u v) : u ∈ p := by
  subst e
  rcases List.mem_append.1 hu with h | h
  · exact h
  · exfalso
    have h2 := (List.pairwise_append.1 hs).2.1
    rcases List.mem_cons.1 h with rfl | h
    · unfold ltHd at hlt; omega
    · have := (List.pairwise_cons.1 h2).1 u h
      unfold ltHd at *; omega
theorem ordA_mem {d : List Int} {a i v : Nat} : v ∈ ordA d a i ↔ v < i ∧ gt0 d v ≠ -1 ∧ v ≠ a := by
  unfold ordA ordP
  simp only [List.mem_filter, List.mem_range, Bool.and_eq_true, decide_eq_true_eq]
  omega
theorem RunOk.hopInv {g : Gr} {a : Nat} {t : Tr} (h : RunOk g a t) : HopInv g.r a g.m t.par (ordA t.dist a g.m) t.hops := by
  have vg := h.vg
  obtain ⟨l2, p, q, hh⟩ := h.hops
  have hmem : ∀ v, v ∈ l2 ↔ v < g.m ∧ gt0 t.dist v ≠ -1 ∧ v ≠ a := fun v => p.mem_iff.trans ordA_mem
  have hnd : l2.Nodup := p.nodup_iff.2 (List.nodup_range.filter _)
  have hbase : HopInv g.r a g.m t.par [] (List.replicate g.m []) := ⟨LLok.nil _, fun v hv _ => getD_rep _ _ _ _ hv, fun v hv => by cases hv⟩
  have := hops_inv (r := g.r) h.up l2 [] hbase (fun v hv => by cases hv) (by simp) (fun e => ((hmem a).1 e).2.2 rfl) (fun v hv => ((hmem v).1 hv).1) (by simpa using hnd) (fun pre v suf e u hu => by
    have hv : v ∈ l2 := by rw [e]; simp
    obtain ⟨hv1, hv2, hv3⟩ := (hmem v).1 hv
    obtain ⟨_, ed, he, hf, ht, h1, h2⟩ := (h.par_mem hv1 u).1 hu
    have hfn := vg.f ed he
    have hc := vg.c ed he
    by_cases hua : u = (a : Int)
    · exact .inl hua
    · refine .inr ?_
      rw [hf] at h1 h2 hfn
      simp only [List.nil_append]
      refine split_before q e ((hmem u.toNat).2 ⟨by omega, h1, by omega⟩) ?_
      unfold ltHd
      by_cases hc0 : ed.c = 0
      · refine .inr ⟨by omega, ?_⟩
        have hr : (g.r.toNat : Int) ≤ ed.f := by
          by_cases hlt : ed.f < (g.r.toNat : Int)
          · have := vg.rt ed he hlt; omega
          · omega
        have := (vg.net ed he hr).1
        omega
      · left; omega)
  rw [hh]
  refine ⟨this.ok, fun v hv hn => this.off v hv (fun e => hn (p.mem_iff.1 (by simpa using e))), fun v hv => this.on v (by simpa using p.mem_iff.2 hv)⟩
theorem RunOk.hop_ex {g : Gr} {a : Nat} {t : Tr} (h : RunOk g a t) {v : Nat} (hv : v < g.m) (hne : v ≠ a) (h0 : 0 ≤ gt0 t.dist v) : ∃ x, x ∈ rowAt' t.hops v := by
  have hi := h.hopInv
  obtain ⟨l2, p, q, hh⟩ := h.hops
  have vg := h.vg
  -- by the order
  have key : ∀ (k : Nat) (v : Nat), v < g.m → v ≠ a → 0 ≤ gt0 t.dist v → (gt0 t.dist v).toNat * 129 + (g.m - v) ≤ k → ∃ x, x ∈ rowAt' t.hops v := by
    intro k
    induction k with
    | zero => intro v hv _ _ hk; omega
    | succ k ih =>
      intro v hv hne h0 hk
      obtain ⟨u, hu⟩ := h.par_ex hv hne h0
      obtain ⟨_, ed, he, hf, ht, h1, h2⟩ := (h.par_mem hv u).1 hu
      have hfn := vg.f ed he
      have hc := vg.c ed he
      have hon := hi.on v (ordA_mem.2 ⟨hv, by omega, hne⟩)
      by_cases hua : u = (a : Int)
      · exact ⟨_, (hon _).2 ⟨u, hu, .inl ⟨hua, rfl⟩⟩⟩
      · rw [hf] at h1 h2 hfn
        have hdu := h.dge (v := u.toNat) (by omega)
        have hm := vg.n128
        obtain ⟨x, hx⟩ := ih u.toNat (by omega) (by omega) (by omega) (by
          by_cases hc0 : ed.c = 0
          · have hr : (g.r.toNat : Int) ≤ ed.f := by
              by_cases hlt : ed.f < (g.r.toNat : Int)
              · have := vg.rt ed he hlt; omega
              · omega
            have := (vg.net ed he hr).1
            have e1 : gt0 t.dist u.toNat = gt0 t.dist v := by omega
            rw [e1]; omega
          · have e1 : (gt0 t.dist u.toNat).toNat + 1 ≤ (gt0 t.dist v).toNat := by omega
            have e2 := Nat.mul_le_mul_right 129 e1
            omega)
        exact ⟨_, (hon _).2 ⟨u, hu, .inr ⟨x, hx, rfl⟩⟩⟩
  exact key _ v hv hne h0 (Nat.le_refl _)
theorem RunOk.par_len {g : Gr} {a : Nat} {t : Tr} (h : RunOk g a t) {v : Nat} (hv : v < g.m) : 0 < (rowAt' t.par v).length ↔ v ≠ a ∧ 0 ≤ gt0 t.dist v := by
  constructor
  · intro hl
    obtain ⟨u, hu⟩ := List.exists_mem_of_length_pos hl
    obtain ⟨h1, ed, he, hf, ht, h2, h3⟩ := (h.par_mem hv u).1 hu
    have := h.vg.f ed he; have := h.vg.c ed he
    have := h.dge (v := ed.f.toNat) (by omega)
    exact ⟨h1, by omega⟩
  · rintro ⟨h1, h2⟩
    obtain ⟨u, hu⟩ := h.par_ex hv h1 h2
    exact List.length_pos_of_mem hu
theorem RunOk.hop_len {g : Gr} {a : Nat} {t : Tr} (h : RunOk g a t) {v : Nat} (hv : v < g.m) : 0 < (rowAt' t.hops v).length ↔ v ≠ a ∧ 0 ≤ gt0 t.dist v := by
  have hd := h.dge hv
  constructor
  · intro hl
    refine Classical.byContradiction fun hn => ?_
    have := h.hopInv.off v hv (fun e => by have := ordA_mem.1 e; exact hn ⟨this.2.2, by omega⟩)
    rw [this] at hl; simp at hl
  · rintro ⟨h1, h2⟩
    obtain ⟨u, hu⟩ := h.hop_ex hv h1 h2
    exact List.length_pos_of_mem hu
open Go Go.RT
/- the nodes that lead to an end -/
theorem push_mem (l : List Int) (u x : Int) : x ∈ push l u ↔ x ∈ l ∨ x = u := by
  unfold push
  split
  · next h => constructor
              · exact .inl
              · rintro (h1 | rfl)
                · exact h1
                · exact h
  · simp
theorem pushs_mem : ∀ (k l : List Int) (x : Int), x ∈ k.foldl push l ↔ x ∈ l ∨ x ∈ k
  | [], l, x => by simp
  | u :: k, l, x => by rw [List.foldl_cons, pushs_mem k, push_mem, List.mem_cons, or_assoc]
theorem pushs_pre : ∀ (k l : List Int), ∃ r, k.foldl push l = l ++ r
  | [], l => ⟨[], by simp⟩
  | u :: k, l => by
    obtain ⟨r, hr⟩ := pushs_pre k (push l u)
    rw [List.foldl_cons, hr]
    unfold push
    split
    · exact ⟨r, rfl⟩
    · exact ⟨[u] ++ r, by rw [List.append_assoc]⟩
inductive Anc2 (par : List (List Int)) (to : Int) : Int → Prop where
  | here : Anc2 par to to
  | up {x u : Int} : Anc2 par to x → u ∈ aboveL par x → Anc2 par to u
theorem bfs_spec {n : Nat} {par : List (List Int)} (hup : UpOk n par) {to : Int} : ∀ (f i : Nat) (l : List Int), NdL n l → n + 1 ≤ f + i → i ≤ l.length → (∀ x ∈ l, Anc2 par to x) → (∀ k (h : k < l.length), k < i → ∀ u ∈ aboveL par l[k], u ∈ l) →
    (∀ x ∈ l, x ∈ bfsGo (aboveL par) f i l) ∧ (∀ x ∈ bfsGo (aboveL par) f i l, Anc2 par to x ∧ ∀ u ∈ aboveL par x, u ∈ bfsGo (aboveL par) f i l) ∧ NdL n (bfsGo (aboveL par) f i l)
  | 0, i, l, h, hf, hi, ha, hc => by have := h.len; omega
  | f + 1, i, l, h, hf, hi, ha, hc => by
    simp only [bfsGo]
    by_cases hlt : i < l.length
    · rw [List.getElem?_eq_getElem hlt]
      obtain ⟨r, hr⟩ := pushs_pre (aboveL par l[i]) l
      have hm := pushs_mem (aboveL par l[i]) l
      have hnd : NdL n ((aboveL par l[i]).foldl push l) := NdL.pushs _ h (aboveL_ok hup _).2
      obtain ⟨q1, q2, q3⟩ := bfs_spec hup f (i + 1) ((aboveL par l[i]).foldl push l) hnd (by omega) (by have := push_le (aboveL par l[i]) l; omega) (fun x hx => by
        rcases (hm x).1 hx with h1 | h1
        · exact ha x h1
        · exact .up (ha _ (List.getElem_mem hlt)) h1) (fun k hk hki u hu => by
        have hkl : k < l.length := by omega
        have e : ((aboveL par l[i]).foldl push l)[k] = l[k] := by
          simp only [hr]; rw [List.getElem_append_left hkl]
        rw [e] at hu
        by_cases hki2 : k = i
        · subst hki2; exact (hm u).2 (.inr hu)
        · exact (hm u).2 (.inl (hc k hkl (by omega) u hu)))
      exact ⟨fun x hx => q1 x ((hm x).2 (.inl hx)), q2, q3⟩
    · rw [List.getElem?_eq_none (by omega)]
      dsimp only
      refine ⟨fun x hx => hx, fun x hx => ⟨ha x hx, fun u hu => ?_⟩, h⟩
      obtain ⟨k, hk, rfl⟩ := List.mem_iff_getElem.1 hx
      exact hc k hk (by omega) u hu
theorem need_spec {n : Nat} {par : List (List Int)} (hup : UpOk n par) {to : Int} (ht : 0 ≤ to ∧ to < n) : (∀ x, x ∈ needL par n to ↔ Anc2 par to x) ∧ NdL n (needL par n to) := by
  obtain ⟨q1, q2, q3⟩ := bfs_spec hup (to := to) (n + 1) 0 [to] ⟨by simp, by simp; exact ht⟩ (by omega) (by simp) (fun x hx => by
    have : x = to := by simpa using hx
    rw [this]; exact .here) (fun k _ hk => by omega)
  refine ⟨fun x => ⟨fun h => (q2 x h).1, fun h => ?_⟩, q3⟩
  induction h with
  | here => exact q1 to (by simp)
  | up h hu ih => exact (q2 _ ih).2 _ hu
theorem next_spec (par : List (List Int)) (nd : List Int) (at_ : Int) (n : Nat) : ∀ (f v : Nat), n ≤ f + v → v ≤ n →
    (nextG par nd at_ n f v = -1 ∧ ∀ w, v ≤ w → w < n → nextAt par nd at_ w = false) ∨ ∃ w, v ≤ w ∧ w < n ∧ nextG par nd at_ n f v = (w : Int) ∧ nextAt par nd at_ w = true ∧ ∀ w', v ≤ w' → w' < w → nextAt par nd at_ w' = false
  | 0, v, h, hv => .inl ⟨rfl, fun w h1 h2 => by omega⟩
  | f + 1, v, h, hv => by
    simp only [nextG]
    by_cases hvn : v < n
    · rw [if_pos hvn]
      by_cases hx : nextAt par nd at_ v = true
      · rw [if_pos hx]; exact .inr ⟨v, Nat.le_refl _, hvn, rfl, hx, fun w' h1 h2 => by omega⟩
      · rw [if_neg hx]
        have hx' : nextAt par nd at_ v = false := by simpa using hx
        rcases next_spec par nd at_ n f (v + 1) (by omega) hvn with ⟨h1, h2⟩ | ⟨w, h1, h2, h3, h4, h5⟩
        · refine .inl ⟨h1, fun w h3 h4 => ?_⟩
          by_cases e : w = v
          · rw [e]; exact hx'
          · exact h2 w (by omega) h4
        · refine .inr ⟨w, by omega, h2, h3, h4, fun w' h6 h7 => ?_⟩
          by_cases e : w' = v
          · rw [e]; exact hx'
          · exact h5 w' (by omega) h7
    · rw [if_neg hvn]; exact .inl ⟨rfl, fun w h1 h2 => by omega⟩
theorem anc_next {par : List (List Int)} {to x : Int} (h : Anc2 par to x) (hne : x ≠ to) : ∃ v, Anc2 par to v ∧ x ∈ aboveL par v := by
  cases h with
  | here => exact absurd rfl hne
  | up h hu => exact ⟨_, h, hu⟩
open Go Go.RT
theorem cost_of {es : List Edg} (ha : AscK es) {e : Edg} (he : e ∈ es) : costL e.f e.t es = (e.c, true) := by
  induction es with
  | nil => cases he
  | cons x l ih =>
    obtain ⟨a1, a2⟩ := List.pairwise_cons.1 ha
    simp only [costL]
    rcases List.mem_cons.1 he with rfl | he
    · rw [if_pos (by simp [isB])]
    · rw [if_neg ?_]
      · exact ih a2 he
      · have := a1 e he
        simp only [isB, Bool.and_eq_true, decide_eq_true_eq]
        unfold ltK at this; omega
theorem RunOk.above {g : Gr} {a : Nat} {t : Tr} (h : RunOk g a t) {v : Nat} (hv : v < g.m) : aboveL t.par v = rowAt' t.par v := by
  unfold aboveL
  rw [if_neg (by rw [h.parl]; omega), Int.toNat_natCast]
/-- a step of a path -/
theorem RunOk.stp {g : Gr} {a : Nat} {t : Tr} (h : RunOk g a t) {v : Nat} (hv : v < g.m) {u : Int} (hu : u ∈ rowAt' t.par v) :
    v ≠ a ∧ 0 ≤ u ∧ u < g.m ∧ 0 ≤ gt0 t.dist u.toNat ∧ (∃ c, costL u v g.es = (c, true) ∧ gt0 t.dist u.toNat + c = gt0 t.dist v ∧ 0 ≤ c ∧ c ≤ 65535) ∧ ltHd t.dist u.toNat v ∧ (g.r ≤ u → (v : Int) < g.r) := by
  have vg := h.vg
  obtain ⟨h1, e, he, hf, ht, h2, h3⟩ := (h.par_mem hv u).1 hu
  have hfn := vg.f e he
  have hc := vg.c e he
  have hg0 := (checkI_vg h.ok).2.1
  rw [hf] at hfn h2 h3
  have hd := h.dge (v := u.toNat) (by omega)
  refine ⟨h1, hfn.1, hfn.2, by omega, ⟨e.c, by rw [← hf, ← ht]; exact cost_of vg.asc he, h3, hc.1, hc.2⟩, ?_, fun hr => by have := (vg.net e he (by omega)).1; omega⟩
  unfold ltHd
  by_cases hc0 : e.c = 0
  · refine .inr ⟨by omega, ?_⟩
    have hr : (g.r.toNat : Int) ≤ e.f := by
      by_cases hlt : e.f < (g.r.toNat : Int)
      · have := vg.rt e he hlt; omega
      · omega
    have := (vg.net e he hr).1
    omega
  · left; omega
/-- the first router on the way -/
def Fst (g : Gr) (a : Nat) (t : Tr) (v : Nat) (first : Int) : Prop :=
  (first = -1 ∧ (v = a ∨ (g.r ≤ (v : Int) ∧ (v : Int) ∈ rowAt' t.hops v))) ∨ (0 ≤ first ∧ first < g.r ∧ first ∈ rowAt' t.hops v)
theorem RunOk.fst {g : Gr} {a : Nat} {t : Tr} (h : RunOk g a t) {v : Nat} (hv : v < g.m) {u : Int} (hu : u ∈ rowAt' t.par v) {first : Int} (hF : Fst g a t u.toNat first) :
    Fst g a t v (if first < 0 ∧ (v : Int) < g.r then (v : Int) else first) := by
  obtain ⟨hva, hu0, hum, hdu, ⟨c, hc1, hc2, hc3, hc4⟩, hlt, hnet⟩ := h.stp hv hu
  have hon := h.hopInv.on v (ordA_mem.2 ⟨hv, by omega, hva⟩)
  have hlr := h.lt
  rcases hF with ⟨h1, h2⟩ | ⟨h1, h2, h3⟩
  · subst h1
    have hin : capV g.r v (v : Int) ∈ rowAt' t.hops v ∨ True := .inr trivial
    have hv2 : (v : Int) ∈ rowAt' t.hops v := by
      rcases h2 with h2 | ⟨h2, h3⟩
      · refine (hon _).2 ⟨u, hu, .inl ⟨by omega, ?_⟩⟩
        unfold capV; split <;> rfl
      · refine (hon _).2 ⟨u, hu, .inr ⟨u, ?_, ?_⟩⟩
        · have e : ((u.toNat : Nat) : Int) = u := by omega
          rw [e] at h3; exact h3
        · unfold capV; rw [if_pos (by omega)]
    by_cases hr : (v : Int) < g.r
    · rw [if_pos ⟨by omega, hr⟩]; exact .inr ⟨by omega, hr, hv2⟩
    · rw [if_neg (fun e => hr e.2)]; exact .inl ⟨rfl, .inr ⟨by omega, hv2⟩⟩
  · rw [if_neg (fun e => by omega)]
    refine .inr ⟨h1, h2, (hon _).2 ⟨u, hu, .inr ⟨first, h3, ?_⟩⟩⟩
    unfold capV; rw [if_neg (by omega)]
open Go Go.RT
structure GoodP (g : Gr) (a to : Nat) (t : Tr) (nd : List Int) (p : List Int) : Prop where
  pos : 0 < p.length
  head : p[0]? = some (a : Int)
  last : p[p.length - 1]? = some (to : Int)
  stp : ∀ i x y, p[i]? = some x → p[i + 1]? = some y → ∃ v : Nat, y = (v : Int) ∧ v < g.m ∧ x ∈ rowAt' t.par v ∧ ∀ w : Nat, w < v → ¬ ((w : Int) ∈ nd ∧ x ∈ aboveL t.par w)
  no : NdL g.m p
structure PInv (g : Gr) (a : Nat) (t : Tr) (nd : List Int) (at_ : Nat) (pre : List Int) : Prop where
  head : (pre ++ [(at_ : Int)])[0]? = some (a : Int)
  stp : ∀ i x y, (pre ++ [(at_ : Int)])[i]? = some x → (pre ++ [(at_ : Int)])[i + 1]? = some y → ∃ v : Nat, y = (v : Int) ∧ v < g.m ∧ x ∈ rowAt' t.par v ∧ ∀ w : Nat, w < v → ¬ ((w : Int) ∈ nd ∧ x ∈ aboveL t.par w)
  no : NdL g.m (pre ++ [(at_ : Int)])
  lt : ∀ x ∈ pre, ltHd t.dist x.toNat at_
  mem : (at_ : Int) ∈ nd
theorem path_go {g : Gr} {a to : Nat} {t : Tr} (h : RunOk g a t) (hto : to < g.m) : ∀ (f : Nat) (at_ : Nat) (pre : List Int), g.m + 2 ≤ f + (pre.length + 1) → PInv g a t (needL t.par g.m to) at_ pre → GoodP g a to t (needL t.par g.m to) (pathG t.par (needL t.par g.m to) g.m to f at_ (pre ++ [(at_ : Int)]))
  | 0, at_, pre, hf, hi => by have := hi.no.len; simp at this; omega
  | f + 1, at_, pre, hf, hi => by
    have hlen := hi.no.len
    simp only [pathG]
    by_cases he : (at_ : Int) = (to : Int)
    · rw [if_pos he]
      refine ⟨by simp, hi.head, ?_, hi.stp, hi.no⟩
      rw [← he]; simp
    · rw [if_neg he]
      obtain ⟨ns1, ns2⟩ := need_spec h.up (to := (to : Int)) (by omega)
      obtain ⟨v0, hv0, hx0⟩ := anc_next ((ns1 _).1 hi.mem) he
      have hv0n := ns2.2 _ ((ns1 _).2 hv0)
      rcases next_spec t.par (needL t.par g.m to) at_ g.m g.m 0 (by omega) (Nat.zero_le _) with ⟨_, h2⟩ | ⟨w, _, hw, h3, h4, h5⟩
      · exfalso
        have := h2 v0.toNat (Nat.zero_le _) (by omega)
        have e : ((v0.toNat : Nat) : Int) = v0 := by omega
        unfold nextAt at this
        rw [e] at this
        simp [(ns1 v0).2 hv0, hx0] at this
      · rw [h3, if_neg (by omega)]
        have h4' : (w : Int) ∈ needL t.par g.m to ∧ (at_ : Int) ∈ aboveL t.par w := by simpa [nextAt] using h4
        have hat : (at_ : Int) ∈ rowAt' t.par w := by rw [← h.above hw]; exact h4'.2
        have hs := h.stp hw hat
        have hlt : ltHd t.dist at_ w := by have := hs.2.2.2.2.2.1; rwa [Int.toNat_natCast] at this
        have hlts : ∀ x ∈ pre ++ [(at_ : Int)], ltHd t.dist x.toNat w := fun x hx => by
          rcases List.mem_append.1 hx with h6 | h6
          · have := hi.lt x h6; unfold ltHd at *; omega
          · have : x = (at_ : Int) := by simpa using h6
            rw [this, Int.toNat_natCast]; exact hlt
        refine path_go h hto f w (pre ++ [(at_ : Int)]) (by simp; omega) ⟨?_, fun i x y hx hy => ?_, ⟨?_, fun x hx => ?_⟩, hlts, h4'.1⟩
        · rw [List.getElem?_append_left (by simp)]; exact hi.head
        · by_cases hil : i + 1 < (pre ++ [(at_ : Int)]).length
          · rw [List.getElem?_append_left (by omega)] at hx
            rw [List.getElem?_append_left hil] at hy
            exact hi.stp i x y hx hy
          · have hle := (List.getElem?_eq_some_iff.1 hy).1
            have hie : i = pre.length := by simp at hil hle; omega
            subst hie
            have ey : y = (w : Int) := by simpa [List.getElem?_append] using hy.symm
            have ex : x = (at_ : Int) := by
              rw [List.getElem?_append_left (by simp)] at hx
              simpa using hx.symm
            subst ey; subst ex
            refine ⟨w, rfl, hw, hat, fun w' hw' hc => ?_⟩
            have := h5 w' (Nat.zero_le _) hw'
            simp [nextAt, hc.1, hc.2] at this
        · refine List.nodup_append.2 ⟨hi.no.1, by simp, fun x hx y hy e => ?_⟩
          have : y = (w : Int) := by simpa using hy
          have h7 := hlts x hx
          rw [e, this, Int.toNat_natCast] at h7
          unfold ltHd at h7; omega
        · rcases List.mem_append.1 hx with h6 | h6
          · exact hi.no.2 x h6
          · have : x = (w : Int) := by simpa using h6
            rw [this]; omega
/-- every node that is reached leads back to the root -/
theorem RunOk.anc {g : Gr} {a to : Nat} {t : Tr} (h : RunOk g a t) (hto : to < g.m) (h0 : 0 ≤ gt0 t.dist to) : Anc2 t.par to (a : Int) := by
  have key : ∀ (k : Nat) (v : Nat), v < g.m → 0 ≤ gt0 t.dist v → (gt0 t.dist v).toNat * 129 + (g.m - v) ≤ k → Anc2 t.par to (v : Int) → Anc2 t.par to (a : Int) := by
    intro k
    induction k with
    | zero => intro v hv _ hk _; omega
    | succ k ih =>
      intro v hv h0 hk han
      by_cases hva : v = a
      · rw [← hva]; exact han
      · obtain ⟨u, hu⟩ := h.par_ex hv hva h0
        obtain ⟨_, hu0, hum, hdu, _, hlt, _⟩ := h.stp hv hu
        have hm := h.vg.n128
        change g.m ≤ 128 at hm
        have e : ((u.toNat : Nat) : Int) = u := by omega
        refine ih u.toNat (by omega) hdu ?_ (by rw [e]; exact .up han (by rw [h.above hv]; exact hu))
        unfold ltHd at hlt
        rcases hlt with h1 | ⟨h1, h2⟩
        · have e1 : (gt0 t.dist u.toNat).toNat + 1 ≤ (gt0 t.dist v).toNat := by omega
          have e2 := Nat.mul_le_mul_right 129 e1
          omega
        · rw [h1]; omega
  exact key _ to hto h0 (Nat.le_refl _) .here
theorem RunOk.path {g : Gr} {a to : Nat} {t : Tr} (h : RunOk g a t) (hto : to < g.m) (h0 : 0 ≤ gt0 t.dist to) : GoodP g a to t (needL t.par g.m to) (pathL t to) := by
  have hdl : t.dist.length = g.m := h.dl
  unfold pathL
  have hc : ¬ ((to : Int) < 0 ∨ (g.m : Int) ≤ (to : Int) ∨ gt0 t.dist (to : Int).toNat < 0) := by
    rw [Int.toNat_natCast]
    rintro (h1 | h1 | h1)
    · omega
    · exact absurd hto (Nat.not_lt.2 (Int.ofNat_le.1 h1))
    · exact absurd h0 (Int.not_le.2 h1)
  rw [hdl, if_neg hc, h.root]
  have hmem := (need_spec h.up (to := (to : Int)) (by omega)).1 (a : Int) |>.2 (h.anc hto h0)
  have ham := h.am
  exact path_go h hto (g.m + 2) a [] (by simp) ⟨rfl, fun i x y hx hy => by simp at hy, ⟨by simp, fun x hx => by
    have e : x = (a : Int) := by simpa using hx
    rw [e]; exact ⟨Int.natCast_nonneg _, Int.ofNat_lt.2 ham⟩⟩, by simp, hmem⟩
end Go.Pl
/- The reference's table of distances: passes over all nodes. -/
namespace Go.Pl
open Go Go.RT
set_option linter.all false
def fwE (es : List Edg) (i M : Nat) : List Edg := es.filter fun e => decide (e.f = (i : Int)) || decide (e.f < (M : Int))
theorem fwE_mem {es : List Edg} {i M : Nat} {e : Edg} : e ∈ fwE es i M ↔ e ∈ es ∧ (e.f = (i : Int) ∨ e.f < (M : Int)) := by
  simp [fwE]
theorem VG.sub {es es' : List Edg} {r n : Nat} (vg : VG es r n) (h : es'.Sublist es) : VG es' r n :=
  have hs : ∀ e ∈ es', e ∈ es := fun e he => h.subset he
  ⟨fun e he => vg.f e (hs e he), fun e he => vg.t e (hs e he), fun e he => vg.c e (hs e he), fun e he => vg.net e (hs e he), fun e he => vg.rt e (hs e he), fun e he => vg.ne e (hs e he),
    List.Pairwise.sublist h vg.asc, vg.le, vg.n128, Nat.le_trans h.length_le vg.e1024⟩
theorem VG.fw {es : List Edg} {r n : Nat} (vg : VG es r n) (i M : Nat) : VG (fwE es i M) r n := vg.sub List.filter_sublist
theorem wk_split {es : List Edg} {r n : Nat} (vg : VG es r n) {i M k : Nat} {c : Int} (h : Wk (fwE es i (M + 1)) i k c) :
    (∃ c', c' ≤ c ∧ Wk (fwE es i M) i k c') ∨ ∃ c1 c2, c1 + c2 ≤ c ∧ Wk (fwE es i M) i M c1 ∧ Wk (fwE es M M) M k c2 := by
  induction h with
  | nil => exact .inl ⟨0, Int.le_refl _, .nil⟩
  | @snoc e c h he ih =>
    have hc := h.nn (vg.fw _ _)
    obtain ⟨h1, h2⟩ := fwE_mem.1 he
    have hf := vg.f e h1
    by_cases hm : e.f = (i : Int) ∨ e.f < (M : Int)
    · have he' : e ∈ fwE es i M := fwE_mem.2 ⟨h1, hm⟩
      rcases ih with ⟨c', k1, k2⟩ | ⟨c1, c2, k1, k2, k3⟩
      · exact .inl ⟨c' + e.c, by omega, k2.snoc he'⟩
      · by_cases hl : e.f < (M : Int)
        · exact .inr ⟨c1, c2 + e.c, by omega, k2, k3.snoc (fwE_mem.2 ⟨h1, .inr hl⟩)⟩
        · have hi : e.f.toNat = i := by omega
          refine .inl ⟨0 + e.c, by omega, Wk.snoc ?_ he'⟩
          rw [hi]; exact .nil
    · have hM : e.f.toNat = M := by omega
      have he' : e ∈ fwE es M M := fwE_mem.2 ⟨h1, .inl (by omega)⟩
      have hw : Wk (fwE es M M) M e.t.toNat (0 + e.c) := Wk.snoc (by rw [hM]; exact .nil) he'
      rcases ih with ⟨c', k1, k2⟩ | ⟨c1, c2, k1, k2, k3⟩
      · rw [hM] at k2
        exact .inr ⟨c', 0 + e.c, by omega, k2, hw⟩
      · have := k3.nn (vg.fw _ _)
        exact .inr ⟨c1, 0 + e.c, by omega, k2, hw⟩
theorem wk_join {es : List Edg} {i M k : Nat} {c1 c2 : Int} (h : Wk (fwE es i M) i M c1) (g : Wk (fwE es M M) M k c2) : Wk (fwE es i (M + 1)) i k (c1 + c2) :=
  (h.mono fun e he => by rw [fwE_mem] at *; exact ⟨he.1, he.2.imp id fun h => by omega⟩).app (g.mono fun e he => by rw [fwE_mem] at *; exact ⟨he.1, .inr (by omega)⟩)
theorem wk_up {es : List Edg} {i M k : Nat} {c : Int} (h : Wk (fwE es i M) i k c) : Wk (fwE es i (M + 1)) i k c :=
  h.mono fun e he => by rw [fwE_mem] at *; exact ⟨he.1, he.2.imp id fun h => by omega⟩
def FwI (es : List Edg) (n M : Nat) (D : Nat → Nat → Int) : Prop := ∀ i k, i < n → k < n → IsD (fwE es i M) i k (D i k)
def fwP (m : Nat) (D : Nat → Nat → Int) : Nat → Nat → Int := fun i k => if 0 ≤ D i m ∧ 0 ≤ D m k ∧ (D i k < 0 ∨ D i m + D m k < D i k) then D i m + D m k else D i k
theorem FwI.pass {es : List Edg} {r n M : Nat} {D : Nat → Nat → Int} (vg : VG es r n) (hM : M < n) (h : FwI es n M D) : FwI es n (M + 1) (fwP M D) := by
  intro i k hi hk
  have hik := (h i k hi hk).cases (vg.fw _ _)
  have him := (h i M hi hM).cases (vg.fw _ _)
  have hmk := (h M k hM hk).cases (vg.fw _ _)
  unfold fwP
  split
  · rename_i hc
    obtain ⟨h1, h2, h3⟩ := hc
    obtain ⟨_, b1, b2⟩ := him.resolve_left (fun e => by omega)
    obtain ⟨_, c1, c2⟩ := hmk.resolve_left (fun e => by omega)
    refine .inr ⟨wk_join b1 c1, fun c w => ?_⟩
    rcases wk_split vg w with ⟨c', k1, k2⟩ | ⟨d1, d2, k1, k2, k3⟩
    · rcases hik with ⟨_, a2⟩ | ⟨a1, a2, a3⟩
      · exact absurd k2 (a2 _)
      · have := a3 _ k2; omega
    · have := b2 _ k2; have := c2 _ k3; omega
  · rename_i hc
    rcases hik with ⟨a1, a2⟩ | ⟨a1, a2, a3⟩
    · refine .inl ⟨a1, fun c w => ?_⟩
      rcases wk_split vg w with ⟨c', k1, k2⟩ | ⟨d1, d2, k1, k2, k3⟩
      · exact a2 _ k2
      · rcases him with ⟨_, b2⟩ | ⟨b0, _⟩
        · exact b2 _ k2
        · rcases hmk with ⟨_, c2⟩ | ⟨c0, _⟩
          · exact c2 _ k3
          · exact hc ⟨b0, c0, .inl (by omega)⟩
    · refine .inr ⟨wk_up a2, fun c w => ?_⟩
      rcases wk_split vg w with ⟨c', k1, k2⟩ | ⟨d1, d2, k1, k2, k3⟩
      · have := a3 _ k2; omega
      · obtain ⟨b0, _, b2⟩ := him.resolve_left (fun e => e.2 _ k2)
        obtain ⟨c0, _, c2⟩ := hmk.resolve_left (fun e => e.2 _ k3)
        have := b2 _ k2; have := c2 _ k3
        by_cases hx : D i M + D M k < D i k
        · exact absurd ⟨b0, c0, .inr hx⟩ hc
        · omega
theorem FwI.diag {es : List Edg} {r n M : Nat} {D : Nat → Nat → Int} (vg : VG es r n) (h : FwI es n M D) {i : Nat} (hi : i < n) : D i i = 0 := by
  rcases (h i i hi hi).cases (vg.fw _ _) with ⟨_, h2⟩ | ⟨h1, _, h3⟩
  · exact absurd .nil (h2 0)
  · have := h3 0 .nil; omega
theorem FwI.bnd {es : List Edg} {r n M : Nat} {D : Nat → Nat → Int} (vg : VG es r n) (h : FwI es n M D) {i k : Nat} (hi : i < n) (hk : k < n) : -1 ≤ D i k ∧ D i k ≤ 8388480 :=
  (h i k hi hk).small (vg.fw i M) hi hk
theorem FwI.done {es : List Edg} {r n : Nat} {D : Nat → Nat → Int} (vg : VG es r n) (h : FwI es n n D) {i k : Nat} (hi : i < n) (hk : k < n) : IsD es i k (D i k) := by
  have := h i k hi hk
  rwa [show fwE es i n = es by
    unfold fwE
    rw [List.filter_eq_self]
    intro e he
    have := (vg.f e he).2
    simp [this]] at this
/- the beginning -/
def iniD (es : List Edg) (i k : Nat) : Int := if i = k then 0 else if (costL i k es).2 = true then (costL i k es).1 else -1
theorem cost_mem {f t c : Int} : ∀ {es : List Edg}, costL f t es = (c, true) → ∃ e ∈ es, e.f = f ∧ e.t = t ∧ e.c = c
  | [], h => by simp [costL] at h
  | e :: l, h => by
    simp only [costL] at h
    split at h
    · rename_i hb
      simp [isB] at hb
      exact ⟨e, by simp, hb.1, hb.2, by simpa using h⟩
    · obtain ⟨x, h1, h2⟩ := cost_mem h
      exact ⟨x, by simp [h1], h2⟩
theorem cost_yes {f t : Int} {es : List Edg} (ha : AscK es) : (costL f t es).2 = true ↔ ∃ e ∈ es, e.f = f ∧ e.t = t ∧ e.c = (costL f t es).1 := by
  constructor
  · intro h
    exact cost_mem (c := (costL f t es).1) (by rw [← h])
  · rintro ⟨e, he, h1, h2, _⟩
    have := cost_of ha he
    rw [h1, h2] at this
    rw [this]
theorem wk_0 {es : List Edg} {r n : Nat} (vg : VG es r n) {i k : Nat} {c : Int} (h : Wk (fwE es i 0) i k c) : k = i ∨ ∃ e ∈ es, e.f = (i : Int) ∧ e.t = (k : Int) ∧ e.c ≤ c := by
  cases h with
  | nil => exact .inl rfl
  | @snoc e c h he =>
    obtain ⟨h1, h2⟩ := fwE_mem.1 he
    have := vg.f e h1; have := vg.t e h1
    have := h.nn (vg.fw _ _)
    exact .inr ⟨e, h1, by omega, by omega, by omega⟩
theorem FwI.ini {es : List Edg} {r n : Nat} (vg : VG es r n) : FwI es n 0 (iniD es) := by
  intro i k hi hk
  unfold iniD
  by_cases hik : i = k
  · subst hik
    rw [if_pos rfl]
    exact .inr ⟨.nil, fun c w => w.nn (vg.fw _ _)⟩
  · rw [if_neg hik]
    by_cases hc : (costL (i : Int) (k : Int) es).2 = true
    · rw [if_pos hc]
      obtain ⟨e, he, h1, h2, h3⟩ := (cost_yes vg.asc).1 hc
      have hw : Wk (fwE es i 0) i e.t.toNat (0 + e.c) := Wk.snoc (by rw [h1, Int.toNat_natCast]; exact .nil) (fwE_mem.2 ⟨he, .inl h1⟩)
      rw [h2, Int.toNat_natCast, h3, Int.zero_add] at hw
      refine .inr ⟨hw, fun c w => ?_⟩
      rcases wk_0 vg w with h | ⟨e', he', g1, g2, g3⟩
      · exact absurd h.symm hik
      · have := cost_of vg.asc he'
        rw [g1, g2] at this
        rw [this]; exact g3
    · rw [if_neg hc]
      refine .inl ⟨rfl, fun c w => ?_⟩
      rcases wk_0 vg w with h | ⟨e', he', g1, g2, g3⟩
      · exact absurd h.symm hik
      · exact hc (by rw [← g1, ← g2, cost_of vg.asc he'])
def fwN (es : List Edg) : Nat → Nat → Nat → Int
  | 0 => iniD es
  | M + 1 => fwP M (fwN es M)
theorem fwN_ok {es : List Edg} {r n : Nat} (vg : VG es r n) : ∀ M, M ≤ n → FwI es n M (fwN es M)
  | 0, _ => FwI.ini vg
  | M + 1, h => (fwN_ok vg M (by omega)).pass vg h
/- rows of numbers by functions -/
abbrev rowF (n : Nat) (f : Nat → Int) : List Int := (List.range n).map f
theorem rowF_get (n : Nat) (f : Nat → Int) {k : Nat} (h : k < n) : gt0 (rowF n f) k = f k := by
  simp [gt0, rowF, List.getD_eq_getElem?_getD, h]
abbrev disF (es : List Edg) (n : Nat) : Nat → Nat → Int := fwN es n
theorem disF_ok {es : List Edg} {r n : Nat} (vg : VG es r n) {i k : Nat} (hi : i < n) (hk : k < n) : IsD es i k (disF es n i k) := (fwN_ok vg n (Nat.le_refl _)).done vg hi hk
end Go.Pl
/- Rows of the table of distances while it is filled. -/
namespace Go.Pl
open Go Go.RT
set_option linter.all false
theorem rowF_len (n : Nat) (f : Nat → Int) : (rowF n f).length = n := rng_len n _
theorem row_row (n : Nat) (f : Nat → Int) {k : Nat} (h : k < n) : ((rowF n f).map encN)[k]? = some [If .i64 (f k)] := by simp [h, encN]
end Go.Pl
namespace Go.Pl
end Go.Pl
/- The reference's trees are those of Run. -/
namespace Go.Pl
open Go Go.RT
set_option linter.all false
def fil (p : Nat → Bool) (k : Nat) : List Int := ((List.range k).filter p).map fun v : Nat => (v : Int)
theorem fil_mem {p : Nat → Bool} {k : Nat} {x : Int} : x ∈ fil p k ↔ ∃ v : Nat, x = v ∧ v < k ∧ p v = true := by
  unfold fil
  simp only [List.mem_map, List.mem_filter, List.mem_range]
  constructor
  · rintro ⟨v, ⟨h1, h2⟩, rfl⟩; exact ⟨v, rfl, h1, h2⟩
  · rintro ⟨v, rfl, h1, h2⟩; exact ⟨v, ⟨h1, h2⟩, rfl⟩
theorem fil_len (p : Nat → Bool) (k : Nat) : (fil p k).length ≤ k := by
  unfold fil; rw [List.length_map]
  have := List.length_filter_le p (List.range k)
  rwa [List.length_range] at this
theorem fil_asc (p : Nat → Bool) (k : Nat) : Asc (fil p k) := by
  unfold fil
  refine List.Pairwise.map _ (R := fun a b : Nat => a < b) (fun a b h => Int.ofNat_lt.2 h) (List.Pairwise.filter _ List.pairwise_lt_range)
theorem asc_ext : ∀ {l l' : List Int}, Asc l → Asc l' → (∀ x, x ∈ l ↔ x ∈ l') → l = l'
  | [], l', _, _, h => by
    cases l' with
    | nil => rfl
    | cons y l' => have := (h y).2 (by simp); cases this
  | x :: l, [], _, _, h => by have := (h x).1 (by simp); cases this
  | x :: l, y :: l', h1, h2, h => by
    obtain ⟨a1, a2⟩ := List.pairwise_cons.1 h1
    obtain ⟨b1, b2⟩ := List.pairwise_cons.1 h2
    have e : x = y := by
      rcases List.mem_cons.1 ((h x).1 (by simp)) with e | e
      · exact e
      · rcases List.mem_cons.1 ((h y).2 (by simp)) with f | f
        · exact f.symm
        · have := b1 x e; have := a1 y f; omega
    subst e
    rw [asc_ext a2 b2 fun z => ?_]
    constructor
    · intro hz
      rcases List.mem_cons.1 ((h z).1 (by simp [hz])) with e | e
      · have := a1 z hz; omega
      · exact e
    · intro hz
      rcases List.mem_cons.1 ((h z).2 (by simp [hz])) with e | e
      · have := b1 z hz; omega
      · exact e
theorem rows_ext {n : Nat} {ll ll' : List (List Int)} (h : ll.length = n) (h' : ll'.length = n) (hr : ∀ v, v < n → rowAt' ll v = rowAt' ll' v) : ll = ll' := by
  apply List.ext_getElem (by omega)
  intro v h1 h2
  have := hr v (by omega)
  simpa [rowAt', List.getD_eq_getElem?_getD, h1, h2] using this
/- a table of distances -/
structure Dst (g : Gr) (D : Nat → Nat → Int) : Prop where
  vg : VG g.es g.r.toNat g.m
  r0 : 0 ≤ g.r
  ok : ∀ i k, i < g.m → k < g.m → IsD g.es i k (D i k)
theorem dst_of {g : Gr} (h : checkI g = 0) : Dst g (disF g.es g.m) := ⟨(checkI_vg h).1, (checkI_vg h).2.1, fun i k hi hk => disF_ok (checkI_vg h).1 hi hk⟩
variable {g : Gr} {D : Nat → Nat → Int} {a : Nat} {t : Tr}
theorem Dst.zero (d : Dst g D) {i : Nat} (hi : i < g.m) : D i i = 0 := by
  rcases (d.ok i i hi hi).cases d.vg with ⟨_, h2⟩ | ⟨h1, _, h3⟩
  · exact absurd .nil (h2 0)
  · have := h3 0 .nil; omega
theorem Dst.tri (d : Dst g D) {i j k : Nat} (hi : i < g.m) (hj : j < g.m) (hk : k < g.m) (h1 : 0 ≤ D i j) (h2 : 0 ≤ D j k) : 0 ≤ D i k ∧ D i k ≤ D i j + D j k := by
  obtain ⟨_, a1, _⟩ := ((d.ok i j hi hj).cases d.vg).resolve_left (fun e => by omega)
  obtain ⟨_, b1, _⟩ := ((d.ok j k hj hk).cases d.vg).resolve_left (fun e => by omega)
  rcases (d.ok i k hi hk).cases d.vg with ⟨_, h⟩ | ⟨h1, _, h3⟩
  · exact absurd (a1.app b1) (h _)
  · exact ⟨h1, h3 _ (a1.app b1)⟩
theorem Dst.edge (d : Dst g D) {i : Nat} {e : Edg} (hi : i < g.m) (he : e ∈ g.es) (h : 0 ≤ D i e.f.toNat) : 0 ≤ D i e.t.toNat ∧ D i e.t.toNat ≤ D i e.f.toNat + e.c := by
  have hf := d.vg.f e he; have ht := d.vg.t e he
  obtain ⟨_, a1, _⟩ := ((d.ok i e.f.toNat hi (by omega)).cases d.vg).resolve_left (fun e => by omega)
  rcases (d.ok i e.t.toNat hi (by omega)).cases d.vg with ⟨_, h⟩ | ⟨h1, _, h3⟩
  · exact absurd (a1.snoc he) (h _)
  · exact ⟨h1, h3 _ (a1.snoc he)⟩
theorem Dst.ge (d : Dst g D) {i k : Nat} (hi : i < g.m) (hk : k < g.m) : -1 ≤ D i k := (d.ok i k hi hk).ge d.vg
theorem Dst.bnd (d : Dst g D) {i k : Nat} (hi : i < g.m) (hk : k < g.m) : -1 ≤ D i k ∧ D i k ≤ 8388480 := (d.ok i k hi hk).small d.vg hi hk
theorem Dst.last (d : Dst g D) {i k : Nat} (hi : i < g.m) (hk : k < g.m) (hne : i ≠ k) (h : 0 ≤ D i k) : ∃ e ∈ g.es, e.t = (k : Int) ∧ 0 ≤ D i e.f.toNat ∧ D i e.f.toNat + e.c = D i k := by
  obtain ⟨_, a1, a2⟩ := ((d.ok i k hi hk).cases d.vg).resolve_left (fun e => by omega)
  generalize hc : D i k = c at a1 a2
  cases a1 with
  | nil => exact absurd rfl hne
  | @snoc e c' w he =>
    have hf := d.vg.f e he; have ht := d.vg.t e he
    rcases (d.ok i e.f.toNat hi (by omega)).cases d.vg with ⟨_, h3⟩ | ⟨h3, h4, h5⟩
    · exact absurd w (h3 _)
    · refine ⟨e, he, by omega, h3, ?_⟩
      have := h5 _ w
      have := a2 _ (h4.snoc he)
      omega
theorem Dst.pos (d : Dst g D) {x : Nat} (ha : (a : Int) < g.r) (ham : a < g.m) (hx : x < g.m) (h : D a x = 0) : x = a := by
  by_cases hne : a = x
  · exact hne.symm
  · obtain ⟨e, he, h1, h2, h3⟩ := d.last ham hx hne (by omega)
    have hc := d.vg.c e he; have hf := d.vg.f e he
    have hr0 := d.r0
    have hfr : ¬ e.f < (g.r.toNat : Int) := fun hl => by have := d.vg.rt e he hl; omega
    have hne2 : a ≠ e.f.toNat := by omega
    obtain ⟨e', he', k1, k2, k3⟩ := d.last ham (k := e.f.toNat) (by omega) hne2 h2
    have hc' := d.vg.c e' he'
    have : e'.f < (g.r.toNat : Int) := by
      rcases Int.lt_or_le e'.f (g.r.toNat : Int) with h | h
      · exact h
      · have := (d.vg.net e' he' h).1; omega
    have := d.vg.rt e' he' this
    omega
theorem RunOk.dD (h : RunOk g a t) (d : Dst g D) {v : Nat} (hv : v < g.m) : gt0 t.dist v = D a v := (h.dist v hv).uniq (d.ok a v h.am hv)
/- parents -/
def parB (g : Gr) (D : Nat → Nat → Int) (a v u : Nat) : Bool := (costL u v g.es).2 && decide (0 ≤ D a u) && decide (D a u + (costL u v g.es).1 = D a v)
def offB (D : Nat → Nat → Int) (a v : Nat) : Bool := decide (v = a) || decide (D a v < 0)
def parR (g : Gr) (D : Nat → Nat → Int) (a v : Nat) : List Int := if offB D a v = true then [] else fil (parB g D a v) g.m
theorem parE_asc {es : List Edg} (ha : AscK es) (a : Nat) (d : List Int) (v : Nat) : Asc (parE es a d v) := by
  unfold parE
  have h1 := List.Pairwise.filter (fun e => parC a d e && decide (e.t = (v : Int))) ha
  refine List.pairwise_map.2 (List.Pairwise.imp_of_mem (fun {x y} hx hy hxy => ?_) h1)
  have hx2 := (List.mem_filter.1 hx).2
  have hy2 := (List.mem_filter.1 hy).2
  simp only [Bool.and_eq_true, decide_eq_true_eq] at hx2 hy2
  unfold ltK at hxy; omega
theorem RunOk.parR (h : RunOk g a t) (d : Dst g D) {v : Nat} (hv : v < g.m) : rowAt' t.par v = Pl.parR g D a v := by
  unfold Pl.parR
  have hda := h.dD d hv
  by_cases hc : offB D a v = true
  · rw [if_pos hc]
    have hl := h.par_len hv
    have : ¬ 0 < (rowAt' t.par v).length := fun hp => by
      have := hl.1 hp
      simp [offB] at hc
      rw [hda] at this
      omega
    exact List.length_eq_zero_iff.1 (by omega)
  · rw [if_neg hc]
    simp [offB] at hc
    refine asc_ext ?_ (fil_asc _ _) fun x => ?_
    · have := h.par
      rw [this]
      have : rowAt' (parL g.es a t.dist (g.r + g.n).toNat) v = parE g.es a t.dist v := parL_get _ _ _ hv
      rw [this]
      exact parE_asc h.vg.asc _ _ _
    · rw [h.par_mem hv, fil_mem]
      constructor
      · rintro ⟨h1, e, he, hf, ht, h2, h3⟩
        have hfn := h.vg.f e he
        have hdu := h.dD d (v := e.f.toNat) (by omega)
        have hge := d.ge h.am (k := e.f.toNat) (by omega)
        have hco := cost_of h.vg.asc he
        rw [show e.f = ((e.f.toNat : Nat) : Int) by omega, ht] at hco
        refine ⟨e.f.toNat, by omega, by omega, ?_⟩
        unfold parB
        rw [hco]
        simp
        omega
      · rintro ⟨u, rfl, hu, hp⟩
        unfold parB at hp
        simp only [Bool.and_eq_true, decide_eq_true_eq] at hp
        obtain ⟨e, he, h1, h2, h3⟩ := (cost_yes h.vg.asc).1 hp.1.1
        have hdu := h.dD d hu
        refine ⟨hc.1, e, he, h1, h2, ?_, ?_⟩
        · rw [h1, Int.toNat_natCast]; omega
        · rw [h1, Int.toNat_natCast]; omega
/- first hops -/
def dirB (g : Gr) (D : Nat → Nat → Int) (a v : Nat) : Bool := ((costL a v g.es).2 && decide ((costL a v g.es).1 = D a v)) || (decide ((v : Int) < g.r) && (List.range g.m).any fun w => decide (g.r ≤ (w : Int)) && ((costL a w g.es).2 && (costL w v g.es).2 && decide ((costL a w g.es).1 = D a w) && decide ((costL a w g.es).1 = D a v)))
def fstB (g : Gr) (D : Nat → Nat → Int) (a v : Nat) : Bool := decide (v ≠ a) && decide (0 ≤ D a v) && dirB g D a v
def hopB (g : Gr) (D : Nat → Nat → Int) (a v y : Nat) : Bool := decide (y = v) || (decide ((y : Int) < g.r) && decide (0 ≤ D y v) && decide (D a y + D y v = D a v))
def hopR (g : Gr) (D : Nat → Nat → Int) (a v : Nat) : List Int := if offB D a v = true then [] else (fil (fstB g D a) g.m).filter fun y => hopB g D a v y.toNat
theorem dir_iff (d : Dst g D) {v : Nat} : dirB g D a v = true ↔ (∃ e ∈ g.es, e.f = (a : Int) ∧ e.t = (v : Int) ∧ e.c = D a v) ∨
    ((v : Int) < g.r ∧ ∃ e ∈ g.es, ∃ e' ∈ g.es, e.f = (a : Int) ∧ g.r ≤ e.t ∧ e'.f = e.t ∧ e'.t = (v : Int) ∧ e.c = D a e.t.toNat ∧ e.c = D a v) := by
  unfold dirB
  simp only [Bool.or_eq_true, Bool.and_eq_true, decide_eq_true_eq, List.any_eq_true, List.mem_range]
  refine or_congr ?_ (and_congr Iff.rfl ?_)
  · constructor
    · rintro ⟨h1, h2⟩
      obtain ⟨e, he, k1, k2, k3⟩ := (cost_yes d.vg.asc).1 h1
      exact ⟨e, he, k1, k2, k3.trans h2⟩
    · rintro ⟨e, he, k1, k2, k3⟩
      have := cost_of d.vg.asc he
      rw [k1, k2] at this
      rw [this]; exact ⟨rfl, k3⟩
  · constructor
    · rintro ⟨w, hw, h0, ⟨⟨h1, h2⟩, h3⟩, h4⟩
      obtain ⟨e, he, k1, k2, k3⟩ := (cost_yes d.vg.asc).1 h1
      obtain ⟨e', he', l1, l2, l3⟩ := (cost_yes d.vg.asc).1 h2
      refine ⟨e, he, e', he', k1, by omega, by omega, l2, ?_, k3.trans h4⟩
      rw [k2, Int.toNat_natCast, k3, h3]
    · rintro ⟨e, he, e', he', h1, h2, h3, h4, h5, h6⟩
      have ht := d.vg.t e he
      have hr0 := d.r0
      have c1 := cost_of d.vg.asc he
      have c2 := cost_of d.vg.asc he'
      rw [h1, show e.t = ((e.t.toNat : Nat) : Int) by omega] at c1
      rw [h3, h4, show e.t = ((e.t.toNat : Nat) : Int) by omega] at c2
      refine ⟨e.t.toNat, by omega, by omega, ?_⟩
      rw [c1, c2]
      exact ⟨⟨⟨rfl, rfl⟩, h5⟩, h6⟩
def muD (g : Gr) (D : Nat → Nat → Int) (a v : Nat) : Nat := (2 * D a v).toNat + if (v : Int) < g.r then 1 else 0
theorem mu_edge (d : Dst g D) {e : Edg} {v : Nat} (he : e ∈ g.es) (ht : e.t = (v : Int)) (h0 : 0 ≤ D a e.f.toNat) (h : D a e.f.toNat + e.c = D a v) : muD g D a e.f.toNat < muD g D a v := by
  have hf := d.vg.f e he; have hc := d.vg.c e he; have hr0 := d.r0
  unfold muD
  by_cases hr : e.f < (g.r.toNat : Int)
  · have := d.vg.rt e he hr
    have h1 : ((e.f.toNat : Nat) : Int) < g.r := by omega
    rw [if_pos h1]
    split <;> omega
  · have := d.vg.net e he (by omega)
    have h1 : ¬ ((e.f.toNat : Nat) : Int) < g.r := by omega
    have h2 : (v : Int) < g.r := by omega
    rw [if_neg h1, if_pos h2]
    omega
theorem hop_iff (h : RunOk g a t) (d : Dst g D) : ∀ (k v : Nat), muD g D a v < k → v < g.m → v ≠ a → 0 ≤ D a v → ∀ x : Int, x ∈ rowAt' t.hops v ↔ ∃ y : Nat, x = y ∧ y < g.m ∧ fstB g D a y = true ∧ hopB g D a v y = true
  | 0, v, hk, _, _, _, _ => by omega
  | k + 1, v, hk, hv, hva, hv0, x => by
    have ham := h.am
    have hlr := h.lt
    have hr0 := d.r0
    have hda := fun {w : Nat} (hw : w < g.m) => h.dD d hw
    have d00 := d.zero ham
    have hon := h.hopInv.on
    have onv : ∀ {w : Nat}, w < g.m → w ≠ a → 0 ≤ D a w → ∀ x, x ∈ rowAt' t.hops w ↔ ∃ u ∈ rowAt' t.par w, Src g.r a w t.hops u x := fun {w} hw h1 h2 => hon w (ordA_mem.2 ⟨hw, by rw [hda hw]; omega, h1⟩)
    have hoff : rowAt' t.hops a = [] := h.hopInv.off a ham (fun hm => (ordA_mem.1 hm).2.2 rfl)
    have hcap : ∀ w : Nat, capV g.r w (w : Int) = w := fun w => by unfold capV; split <;> rfl
    have parI : ∀ {e : Edg} {w : Nat}, e ∈ g.es → e.t = (w : Int) → w < g.m → w ≠ a → 0 ≤ D a e.f.toNat → D a e.f.toNat + e.c = D a w → e.f ∈ rowAt' t.par w := fun {e w} he ht hw hwa h1 h2 => by
      have hf := d.vg.f e he
      refine (h.par_mem hw _).2 ⟨hwa, e, he, rfl, ht, ?_, ?_⟩
      · rw [hda (by omega)]; omega
      · rw [hda (by omega), hda hw]; exact h2
    rw [onv hv hva hv0]
    constructor
    · rintro ⟨u, hu, hsrc⟩
      obtain ⟨_, e, he, hf, ht, h2, h3⟩ := (h.par_mem hv u).1 hu
      have hfn := d.vg.f e he
      have hcn := d.vg.c e he
      rw [hda (by omega)] at h2 h3
      rw [hda hv] at h3
      have hge := d.ge ham (k := e.f.toNat) (by omega)
      rcases hsrc with ⟨e1, e2⟩ | ⟨hh, hm, e2⟩
      · rw [hcap] at e2
        refine ⟨v, e2, hv, ?_, by simp [hopB]⟩
        have : dirB g D a v = true := (dir_iff d).2 (.inl ⟨e, he, by omega, ht, by
          rw [hf, e1, Int.toNat_natCast, d00] at h3; omega⟩)
        simp [fstB, hva, hv0, this]
      · rw [← hf] at hm
        have hua : e.f.toNat ≠ a := fun e3 => by rw [e3, hoff] at hm; cases hm
        have hmu := mu_edge (a := a) d he ht (by omega) h3
        obtain ⟨y, rfl, hy, hy1, hy2⟩ := (hop_iff h d k e.f.toNat (by omega) (by omega) hua (by omega) hh).1 hm
        simp only [hopB, Bool.or_eq_true, Bool.and_eq_true, decide_eq_true_eq] at hy2
        unfold capV at e2
        by_cases hyr : g.r ≤ (y : Int)
        · rw [if_pos hyr] at e2
          have hyu : y = e.f.toNat := by
            rcases hy2 with h | h
            · exact h
            · omega
          refine ⟨v, e2, hv, ?_, by simp [hopB]⟩
          have hnet := d.vg.net e he (by omega)
          simp only [fstB, Bool.and_eq_true, decide_eq_true_eq] at hy1
          have hdir := (dir_iff d).1 hy1.2
          have : dirB g D a v = true := by
            rcases hdir with ⟨e1, he1, k1, k2, k3⟩ | ⟨k1, _⟩
            · refine (dir_iff d).2 (.inr ⟨by omega, e1, he1, e, he, k1, by omega, by omega, ht, ?_, ?_⟩)
              · rw [k2, Int.toNat_natCast]; exact k3
              · rw [k3, hyu]; omega
            · omega
          simp [fstB, hva, hv0, this]
        · rw [if_neg hyr] at e2
          refine ⟨y, e2, hy, hy1, ?_⟩
          simp only [fstB, Bool.and_eq_true, decide_eq_true_eq] at hy1
          have hyb : 0 ≤ D y e.f.toNat ∧ D a y + D y e.f.toNat = D a e.f.toNat := by
            rcases hy2 with h | h
            · rw [h, d.zero (by omega)]; omega
            · exact ⟨h.1.2, h.2⟩
          have e4 := d.edge hy he hyb.1
          rw [ht, Int.toNat_natCast] at e4
          have e5 := d.tri ham hy hv hy1.1.2 e4.1
          simp only [hopB, Bool.or_eq_true, Bool.and_eq_true, decide_eq_true_eq]
          exact .inr ⟨⟨by omega, e4.1⟩, by omega⟩
    · rintro ⟨y, rfl, hy, hy1, hy2⟩
      simp only [fstB, Bool.and_eq_true, decide_eq_true_eq] at hy1
      simp only [hopB, Bool.or_eq_true, Bool.and_eq_true, decide_eq_true_eq] at hy2
      by_cases hyv : y = v
      · subst hyv
        rcases (dir_iff d).1 hy1.2 with ⟨e, he, k1, k2, k3⟩ | ⟨k0, e, he, e', he', k1, k2, k3, k4, k5, k6⟩
        · refine ⟨e.f, parI he k2 hv hva (by rw [k1, Int.toNat_natCast]; omega) (by rw [k1, Int.toNat_natCast]; omega), .inl ⟨k1, (hcap _).symm⟩⟩
        · have htn := d.vg.t e he
          have hcn := d.vg.c e he
          have hnet := d.vg.net e' he' (by omega)
          have hw0 : 0 ≤ D a e'.f.toNat := by rw [k3, ← k5]; exact hcn.1
          refine ⟨e'.f, parI he' k4 hv hva hw0 (by rw [k3, ← k5, hnet.2]; omega), .inr ⟨e'.f, ?_, ?_⟩⟩
          · rw [k3]
            refine (onv (w := e.t.toNat) (by omega) (by omega) (by omega) _).2 ⟨e.f, parI he (by omega) (by omega) (by omega) (by rw [k1, Int.toNat_natCast]; omega) (by rw [k1, Int.toNat_natCast]; omega), .inl ⟨k1, ?_⟩⟩
            rw [hcap]; omega
          · unfold capV; rw [if_pos (by omega)]
      · obtain ⟨⟨hyr, hyv0⟩, hsum⟩ := hy2.resolve_left hyv
        obtain ⟨e, he, k1, k2, k3⟩ := d.last hy hv hyv hyv0
        have hfn := d.vg.f e he
        have e1 := d.tri ham hy (k := e.f.toNat) (by omega) hy1.1.2 k2
        have e2 := d.edge ham he e1.1
        rw [k1, Int.toNat_natCast] at e2
        have heq : D a e.f.toNat + e.c = D a v := by omega
        have hua : e.f.toNat ≠ a := fun e3 => by
          rw [e3, d00] at heq
          rw [e3] at e1 k2 k3
          have : D a y = 0 := by omega
          exact hy1.1.1 (d.pos hlr ham hy this)
        have hmu := mu_edge (a := a) d he k1 e1.1 heq
        refine ⟨e.f, parI he k1 hv hva e1.1 heq, .inr ⟨y, ?_, ?_⟩⟩
        · refine (hop_iff h d k e.f.toNat (by omega) (by omega) hua e1.1 _).2 ⟨y, rfl, hy, by simp [fstB, hy1], ?_⟩
          simp only [hopB, Bool.or_eq_true, Bool.and_eq_true, decide_eq_true_eq]
          exact .inr ⟨⟨hyr, k2⟩, by omega⟩
        · unfold capV; rw [if_neg (by omega)]
theorem RunOk.hopR (h : RunOk g a t) (d : Dst g D) {v : Nat} (hv : v < g.m) : rowAt' t.hops v = Pl.hopR g D a v := by
  unfold Pl.hopR
  have hda := h.dD d hv
  by_cases hc : offB D a v = true
  · rw [if_pos hc]
    have hl := h.hop_len hv
    have : ¬ 0 < (rowAt' t.hops v).length := fun hp => by
      have := hl.1 hp
      simp [offB] at hc
      rw [hda] at this
      omega
    exact List.length_eq_zero_iff.1 (by omega)
  · rw [if_neg hc]
    simp [offB] at hc
    refine asc_ext (h.hopInv.ok.row v hv).1 ((fil_asc _ _).filter _) fun x => ?_
    rw [hop_iff h d _ v (Nat.lt_succ_self _) hv hc.1 hc.2, List.mem_filter, fil_mem]
    constructor
    · rintro ⟨y, rfl, h1, h2, h3⟩
      exact ⟨⟨y, rfl, h1, h2⟩, by rw [Int.toNat_natCast]; exact h3⟩
    · rintro ⟨⟨y, rfl, h1, h2⟩, h3⟩
      rw [Int.toNat_natCast] at h3
      exact ⟨y, rfl, h1, h2, h3⟩
def refT (g : Gr) (D : Nat → Nat → Int) (a : Nat) : Tr := ⟨a, rowF g.m (D a), (List.range g.m).map (hopR g D a), (List.range g.m).map (parR g D a)⟩
theorem RunOk.refT (h : RunOk g a t) (d : Dst g D) : t = Pl.refT g D a := by
  have h1 : t.root = a := h.root
  have h2 : t.dist = rowF g.m (D a) := by
    have hl := h.dl
    change t.dist.length = g.m at hl
    apply List.ext_getElem (by rw [rowF_len]; exact hl)
    intro v k1 k2
    have e1 := h.dD d (v := v) (by omega)
    have e2 := rowF_get g.m (D a) (k := v) (by omega)
    rw [gt0, List.getD_eq_getElem?_getD, List.getElem?_eq_getElem k1] at e1
    rw [gt0, List.getD_eq_getElem?_getD, List.getElem?_eq_getElem k2] at e2
    exact e1.trans e2.symm
  have h3 : t.hops = (List.range g.m).map (Pl.hopR g D a) := rows_ext h.hopInv.ok.len (rng_len _ _) fun v hv => by
    rw [h.hopR d hv]; simp [rowAt', List.getD_eq_getElem?_getD, hv]
  have h4 : t.par = (List.range g.m).map (Pl.parR g D a) := rows_ext h.parl (rng_len _ _) fun v hv => by
    rw [h.parR d hv]; simp [rowAt', List.getD_eq_getElem?_getD, hv]
  cases t
  simp only at h1 h2 h3 h4
  subst h1; subst h2; subst h3; subst h4
  rfl
end Go.Pl
/- The reference's paths are those of Path. -/
namespace Go.Pl
open Go Go.RT
set_option linter.all false
variable {g : Gr} {D : Nat → Nat → Int} {a to : Nat} {t : Tr}
open Go Go.RT
theorem checkI_sz {g : Gr} (h : checkI g = 0) : g.r + g.n ≤ 128 ∧ 0 ≤ g.r ∧ 0 ≤ g.n := by
  obtain ⟨⟨h1, h2, h3⟩, _⟩ := checkI_ok h
  exact ⟨h3, h1, h2⟩
/-- the rows of distances of the routers -/
structure AllOk (g : Gr) (D : Nat → List Int) : Prop where
  len : ∀ i, i < g.r.toNat → (D i).length = g.m
  dist : ∀ i, i < g.r.toNat → ∀ v, v < g.m → IsD g.es i v (gt0 (D i) v)
def allL (g : Gr) (D : Nat → List Int) : List (List Int) := (List.range g.r.toNat).map fun i => (D i).take g.r.toNat
def allP (g : Gr) (D : Nat → List Int) (k : Nat) : List (List FV) := (List.range g.r.toNat).map fun i => if i < k then encL ((D i).take g.r.toNat) else [.lit (.slice none 0 0)]
theorem allP_0 (g : Gr) (D : Nat → List Int) : allP g D 0 = List.replicate g.r.toNat [.lit (.slice none 0 0)] := by
  rw [rng_const]; unfold allP; simp
theorem allP_set (g : Gr) (D : Nat → List Int) (k : Nat) : (allP g D k).set k (encL ((D k).take g.r.toNat)) = allP g D (k + 1) := by
  refine rng_set _ _ _ _ _ (by rw [if_pos (by omega)]) fun w hw => ?_
  by_cases h : w < k
  · rw [if_pos h, if_pos (by omega)]
  · rw [if_neg h, if_neg (by omega)]
theorem allP_n (g : Gr) (D : Nat → List Int) : allP g D g.r.toNat = (allL g D).map encL := by
  unfold allP allL
  rw [List.map_map]
  refine List.map_congr_left fun i hi => ?_
  rw [if_pos (by simpa using hi)]; rfl
theorem allP_len (g : Gr) (D : Nat → List Int) (k : Nat) : (allP g D k).length = g.r.toNat := rng_len _ _
open Go Go.RT
theorem allL_len (g : Gr) (D : Nat → List Int) : (allL g D).length = g.r.toNat := rng_len _ _
theorem allL_row (g : Gr) (D : Nat → List Int) {i : Nat} (h : i < g.r.toNat) : rowAt' (allL g D) i = (D i).take g.r.toNat := by
  show (allL g D).getD i [] = _
  rw [List.getD_eq_getElem?_getD]; unfold allL; rw [rng_get _ _ _ h]; rfl
structure MatOk (R : Nat) (ll : List (List Int)) : Prop where
  len : ll.length = R
  row : ∀ i, i < R → (rowAt' ll i).length = R
  diag : ∀ i, i < R → gt0 (rowAt' ll i) i = 0
  bnd : ∀ i j, i < R → j < R → -1 ≤ gt0 (rowAt' ll i) j ∧ gt0 (rowAt' ll i) j ≤ 8388480
  tri : ∀ i j k, i < R → j < R → k < R → 0 ≤ gt0 (rowAt' ll i) j → 0 ≤ gt0 (rowAt' ll j) k → 0 ≤ gt0 (rowAt' ll i) k ∧ gt0 (rowAt' ll i) k ≤ gt0 (rowAt' ll i) j + gt0 (rowAt' ll j) k
end Go.Pl
/- Loop-free alternates: what the functions compute. -/
namespace Go.Pl
open Go Go.RT
set_option linter.all false
def inT (ll : List (List Int)) (x y : Int) : Prop := ¬ (x < 0 ∨ (ll.length : Int) ≤ x) ∧ ¬ (y < 0 ∨ ((rowAt' ll x.toNat).length : Int) ≤ y)
instance (ll : List (List Int)) (x y : Int) : Decidable (inT ll x y) := by unfold inT; infer_instance
def getL (ll : List (List Int)) (x y : Int) : Int × Bool := if inT ll x y then (gt0 (rowAt' ll x.toNat) y.toNat, true) else (0, false)
def avdL (ll : List (List Int)) (n x d : Int) : Bool := (getL ll n d).2 && (getL ll n x).2 && (getL ll x d).2 && decide (0 ≤ (getL ll n d).1) && (decide ((getL ll n x).1 < 0) || decide ((getL ll x d).1 < 0) || decide ((getL ll n d).1 - (getL ll n x).1 < (getL ll x d).1))
def dwnL (ll : List (List Int)) (s n d : Int) : Bool := (getL ll n d).2 && (getL ll s d).2 && decide (0 ≤ (getL ll n d).1) && (decide ((getL ll s d).1 < 0) || decide ((getL ll n d).1 < (getL ll s d).1))
def okT (ll : List (List Int)) : Prop := ∀ l ∈ ll, ∀ x ∈ l, inr .i64 x
theorem getL_rng {ll : List (List Int)} (h : okT ll) (x y : Int) : inr .i64 (getL ll x y).1 := by
  unfold getL
  split
  · rename_i hc
    unfold inT at hc
    have h1 : x.toNat < ll.length := by omega
    have e1 : rowAt' ll x.toNat = ll[x.toNat] := by simp [rowAt', List.getD_eq_getElem?_getD, h1]
    rw [e1] at hc ⊢
    have h2 : y.toNat < ll[x.toNat].length := by omega
    have e2 : gt0 ll[x.toNat] y.toNat = ll[x.toNat][y.toNat] := by simp [gt0, List.getD_eq_getElem?_getD, h2]
    show inr .i64 (gt0 ll[x.toNat] y.toNat)
    rw [e2]
    exact h _ (List.getElem_mem h1) _ (List.getElem_mem h2)
  · simp [inr]
structure Alt where
  dest : Int
  prim : Int
  via : Int
  kind : Int
  down : Bool
  deriving DecidableEq
def encAl (a : Alt) : List FV := [If .i64 a.dest, If .i64 a.prim, If .i64 a.via, If .i64 a.kind, Bf a.down]
abbrev VAl (l : List Alt) : FV := .vals 5 (l.map encAl)
def zeroA : Alt := ⟨0, 0, 0, 0, false⟩
structure BSt where
  found : Bool
  best : Alt
  least : Int
def skipA (ll : List (List Int)) (a d p n : Int) : Bool := decide (n = p) || !avdL ll n a d
def newA (ll : List (List Int)) (a d p n : Int) : Alt := ⟨d, p, n, if (decide (p ≠ d) && avdL ll n p d) = true then 2 else 1, dwnL ll a n d⟩
def cstA (g : Gr) (ll : List (List Int)) (a d n : Int) : Int := (costL a n g.es).1 + gt0 (rowAt' ll n.toNat) d.toNat
def betA (x : Alt) (c : Int) (s : BSt) : Bool := !s.found || (decide (s.best.kind < x.kind) || (decide (x.kind = s.best.kind) && decide (c < s.least)))
def stepA (g : Gr) (ll : List (List Int)) (a d p : Int) (s : BSt) (n : Int) : BSt :=
  if skipA ll a d p n = true then s else if betA (newA ll a d p n) (cstA g ll a d n) s = true then ⟨true, newA ll a d p n, cstA g ll a d n⟩ else s
def foldA (g : Gr) (ll : List (List Int)) (a d p : Int) (ns : List Int) : BSt := ns.foldl (stepA g ll a d p) ⟨false, zeroA, 0⟩
def oneA (g : Gr) (ll : List (List Int)) (a d : Int) (ns : List Int) (p : Int) : List Alt := if (foldA g ll a d p ns).found = true then [(foldA g ll a d p ns).best] else []
def rowA (g : Gr) (ll : List (List Int)) (a : Int) (ns : List Int) (hops : List (List Int)) (d : Nat) : List Alt := (rowAt' hops d).flatMap (oneA g ll a d ns)
def allA (g : Gr) (ll : List (List Int)) (a : Int) (ns : List Int) (hops : List (List Int)) (k : Nat) : List Alt := (List.range k).flatMap (rowA g ll a ns hops)
theorem allA_succ (g : Gr) (ll : List (List Int)) (a : Int) (ns : List Int) (hops : List (List Int)) (k : Nat) : allA g ll a ns hops (k + 1) = allA g ll a ns hops k ++ rowA g ll a ns hops k := by
  unfold allA; rw [List.range_succ, List.flatMap_append]; simp
theorem flat_succ {α β : Type} (f : α → List β) (l : List α) (i : Nat) (h : i < l.length) : (l.take (i + 1)).flatMap f = (l.take i).flatMap f ++ f l[i] := by
  rw [List.take_succ_eq_append_getElem h, List.flatMap_append]; simp
theorem foldA_succ (g : Gr) (ll : List (List Int)) (a d p : Int) (ns : List Int) (i : Nat) (h : i < ns.length) : foldA g ll a d p (ns.take (i + 1)) = stepA g ll a d p (foldA g ll a d p (ns.take i)) ns[i] := foldl_take_succ _ _ _ _ h
/-- what holds of the state -/
def StA (ns : List Int) (s : BSt) : Prop := (s.found = false ∧ s.best = zeroA ∧ s.least = 0) ∨ (s.found = true ∧ (s.best.kind = 1 ∨ s.best.kind = 2) ∧ s.best.via ∈ ns)
theorem newA_kind (ll : List (List Int)) (a d p n : Int) : (newA ll a d p n).kind = 1 ∨ (newA ll a d p n).kind = 2 := by
  unfold newA; dsimp only; split <;> simp
theorem StA.step {g : Gr} {ll : List (List Int)} {a d p : Int} {ns : List Int} {s : BSt} (h : StA ns s) (n : Int) : StA (ns ++ [n]) (stepA g ll a d p s n) := by
  have h' : StA (ns ++ [n]) s := by
    rcases h with h | ⟨h1, h2, h3⟩
    · exact .inl h
    · exact .inr ⟨h1, h2, by simp [h3]⟩
  unfold stepA
  split
  · exact h'
  · split
    · exact .inr ⟨rfl, newA_kind _ _ _ _ _, by simp [newA]⟩
    · exact h'
theorem StA.fold (g : Gr) (ll : List (List Int)) (a d p : Int) (ns : List Int) : ∀ i, i ≤ ns.length → StA (ns.take i) (foldA g ll a d p (ns.take i))
  | 0, _ => .inl ⟨rfl, rfl, rfl⟩
  | i + 1, h => by
    rw [foldA_succ _ _ _ _ _ _ _ (by omega), List.take_succ_eq_append_getElem (by omega)]
    exact (StA.fold g ll a d p ns i (by omega)).step _
open Go.RT
open Go Go.RT
end Go.Pl
/- Loop-free alternates: why packets that are sent to one arrive. -/
namespace Go.Pl
open Go Go.RT
set_option linter.all false
variable {g : Gr} {D : Nat → Nat → Int}
/- lists of what can be reached, by steps -/
inductive RchA (ab : Int → List Int) (s : Int) : Int → Prop where
  | here : RchA ab s s
  | up {x u : Int} : RchA ab s x → u ∈ ab x → RchA ab s u
theorem bfsA_spec {n : Nat} {ab : Int → List Int} (hab : ∀ v, ∀ u ∈ ab v, 0 ≤ u ∧ u < n) {s : Int} : ∀ (f i : Nat) (l : List Int), NdL n l → n + 1 ≤ f + i → i ≤ l.length → (∀ x ∈ l, RchA ab s x) → (∀ k (h : k < l.length), k < i → ∀ u ∈ ab l[k], u ∈ l) →
    (∀ x ∈ l, x ∈ bfsGo ab f i l) ∧ (∀ x ∈ bfsGo ab f i l, RchA ab s x ∧ ∀ u ∈ ab x, u ∈ bfsGo ab f i l) ∧ NdL n (bfsGo ab f i l)
  | 0, i, l, h, hf, hi, ha, hc => by have := h.len; omega
  | f + 1, i, l, h, hf, hi, ha, hc => by
    simp only [bfsGo]
    by_cases hlt : i < l.length
    · rw [List.getElem?_eq_getElem hlt]
      obtain ⟨r, hr⟩ := pushs_pre (ab l[i]) l
      have hm := pushs_mem (ab l[i]) l
      have hnd : NdL n ((ab l[i]).foldl push l) := NdL.pushs _ h (hab _)
      obtain ⟨q1, q2, q3⟩ := bfsA_spec hab f (i + 1) ((ab l[i]).foldl push l) hnd (by omega) (by have := push_le (ab l[i]) l; omega) (fun x hx => by
        rcases (hm x).1 hx with h1 | h1
        · exact ha x h1
        · exact .up (ha _ (List.getElem_mem hlt)) h1) (fun k hk hki u hu => by
        have hkl : k < l.length := by omega
        have e : ((ab l[i]).foldl push l)[k] = l[k] := by
          simp only [hr]; rw [List.getElem_append_left hkl]
        rw [e] at hu
        by_cases hki2 : k = i
        · subst hki2; exact (hm u).2 (.inr hu)
        · exact (hm u).2 (.inl (hc k hkl (by omega) u hu)))
      exact ⟨fun x hx => q1 x ((hm x).2 (.inl hx)), q2, q3⟩
    · rw [List.getElem?_eq_none (by omega)]
      dsimp only
      refine ⟨fun x hx => hx, fun x hx => ⟨ha x hx, fun u hu => ?_⟩, h⟩
      obtain ⟨k, hk, rfl⟩ := List.mem_iff_getElem.1 hx
      exact hc k hk (by omega) u hu
def waysL (ab : Int → List Int) (n : Nat) (s : Int) : List Int := bfsGo ab (n + 1) 0 [s]
theorem ways_spec {n : Nat} {ab : Int → List Int} (hab : ∀ v, ∀ u ∈ ab v, 0 ≤ u ∧ u < n) {s : Int} (ht : 0 ≤ s ∧ s < n) : (∀ x, x ∈ waysL ab n s ↔ RchA ab s x) ∧ NdL n (waysL ab n s) := by
  obtain ⟨q1, q2, q3⟩ := bfsA_spec hab (s := s) (n + 1) 0 [s] ⟨by simp, by simp; exact ht⟩ (by omega) (by simp) (fun x hx => by
    have : x = s := by simpa using hx
    rw [this]; exact .here) (fun k _ hk => by omega)
  refine ⟨fun x => ⟨fun h => (q2 x h).1, fun h => ?_⟩, q3⟩
  induction h with
  | here => exact q1 s (by simp)
  | up h hu ih => exact (q2 _ ih).2 _ hu
/- graphs without networks -/
theorem plain_m (hN : g.n = 0) : g.m = g.r.toNat := by unfold Gr.m; rw [hN]; simp
theorem hop_spec (d : Dst g D) (hN : g.n = 0) {x z : Nat} (hx : x < g.m) (hz : z < g.m) {h : Int} (hh : h ∈ hopR g D x z) :
    ∃ y : Nat, h = y ∧ y < g.m ∧ 1 ≤ D x y ∧ 0 ≤ D y z ∧ D x y + D y z = D x z ∧ x ≠ z ∧ ∃ e ∈ g.es, e.f = (x : Int) ∧ e.t = (y : Int) := by
  have hm := plain_m hN
  have hr0 := d.r0
  unfold hopR at hh
  split at hh
  · cases hh
  · rename_i hoff
    simp [offB] at hoff
    obtain ⟨h1, h2⟩ := List.mem_filter.1 hh
    obtain ⟨y, rfl, hy, hf⟩ := fil_mem.1 h1
    rw [Int.toNat_natCast] at h2
    simp only [fstB, Bool.and_eq_true, decide_eq_true_eq] at hf
    simp only [hopB, Bool.or_eq_true, Bool.and_eq_true, decide_eq_true_eq] at h2
    rcases (dir_iff d).1 hf.2 with ⟨e, he, k1, k2, k3⟩ | ⟨_, e, he, _, _, _, k2, _⟩
    · have hrt := d.vg.rt e he (by omega)
      refine ⟨y, rfl, hy, by omega, ?_, ?_, by omega, e, he, k1, k2⟩
      · rcases h2 with h2 | h2
        · rw [h2, d.zero hz]; omega
        · exact h2.1.2
      · rcases h2 with h2 | h2
        · rw [h2, d.zero hz]; omega
        · exact h2.2
    · have := d.vg.t e he; omega
theorem hop_ne (hg : checkI g = 0) (d : Dst g D) {x z : Nat} (hx : (x : Int) < g.r) (hz : z < g.m) (hne : x ≠ z) (h0 : 0 ≤ D x z) : 0 < (hopR g D x z).length := by
  obtain ⟨t, ht⟩ := run_exists hg hx
  rw [← ht.hopR d hz]
  exact (ht.hop_len hz).2 ⟨fun e => hne e.symm, by rw [ht.dD d hz]; exact h0⟩
/-- the nodes on shortest paths from n to z -/
def OnW (g : Gr) (D : Nat → Nat → Int) (n z x : Nat) : Prop := x < g.m ∧ 0 ≤ D n x ∧ 0 ≤ D x z ∧ D n x + D x z = D n z
theorem OnW.hop (d : Dst g D) (hN : g.n = 0) {n z x : Nat} (hn : n < g.m) (hz : z < g.m) (h : OnW g D n z x) {u : Int} (hu : u ∈ hopR g D x z) : ∃ y : Nat, u = y ∧ OnW g D n z y ∧ D y z < D x z ∧ x ≠ z := by
  obtain ⟨h1, h2, h3, h4⟩ := h
  obtain ⟨y, rfl, hy, k1, k2, k3, k4, _⟩ := hop_spec d hN h1 hz hu
  have e1 := d.tri hn h1 hy h2 (by omega)
  have e2 := d.tri hn hy hz e1.1 k2
  exact ⟨y, rfl, ⟨hy, e1.1, k2, by omega⟩, by omega, k4⟩
def hopsF (g : Gr) (D : Nat → Nat → Int) (z : Nat) (x : Int) : List Int := if 0 ≤ x ∧ x < (g.m : Int) then hopR g D x.toNat z else []
theorem hopsF_rng (d : Dst g D) (hN : g.n = 0) {z : Nat} (hz : z < g.m) : ∀ v, ∀ u ∈ hopsF g D z v, 0 ≤ u ∧ u < (g.m : Int) := fun v u hu => by
  unfold hopsF at hu
  split at hu
  · obtain ⟨y, rfl, hy, _⟩ := hop_spec d hN (by omega) hz hu
    omega
  · cases hu
theorem rch_on (d : Dst g D) (hN : g.n = 0) {n z : Nat} (hn : n < g.m) (hz : z < g.m) (h0 : 0 ≤ D n z) {x : Int} (h : RchA (hopsF g D z) n x) : ∃ y : Nat, x = y ∧ OnW g D n z y := by
  induction h with
  | here => exact ⟨n, rfl, hn, by rw [d.zero hn]; omega, h0, by rw [d.zero hn]; omega⟩
  | up h1 h2 ih =>
    obtain ⟨y, rfl, hy⟩ := ih
    unfold hopsF at h2
    split at h2
    · rw [Int.toNat_natCast] at h2
      obtain ⟨w, e, hw, _⟩ := hy.hop d hN hn hz h2
      exact ⟨w, e, hw⟩
    · cases h2
theorem rch_end (hg : checkI g = 0) (d : Dst g D) (hN : g.n = 0) {n z : Nat} (hn : n < g.m) (hz : z < g.m) : ∀ (k x : Nat), (D x z).toNat < k → OnW g D n z x → RchA (hopsF g D z) n (x : Int) → RchA (hopsF g D z) n (z : Int)
  | 0, x, hk, _, _ => by omega
  | k + 1, x, hk, hW, hr => by
    by_cases hxz : x = z
    · subst hxz; exact hr
    · have hm := plain_m hN
      have hr0 := d.r0
      have := hop_ne hg d (x := x) (z := z) (by have := hW.1; omega) hz hxz hW.2.2.1
      obtain ⟨u, hu⟩ : ∃ u, u ∈ hopR g D x z := by
        cases h : hopR g D x z with
        | nil => rw [h] at this; simp at this
        | cons u l => exact ⟨u, by simp⟩
      obtain ⟨y, rfl, hy, hlt, _⟩ := hW.hop d hN hn hz hu
      refine rch_end hg d hN hn hz k y (by have := hy.2.2.1; omega) hy (hr.up ?_)
      unfold hopsF
      rw [if_pos (by have := hW.1; omega), Int.toNat_natCast]; exact hu
/- the walk -/
def walkL (hp : Nat → List Int) (z : Nat) (a b : Int) : Nat → Nat → List Int → List Int × Bool
  | 0, _, out => (out, false)
  | f + 1, x, out => if x = z then (out, true) else match hp x with
    | [] => (out, false)
    | h :: _ => if ((x : Int) = a ∧ h = b) ∨ ((x : Int) = b ∧ h = a) then (out, false) else walkL hp z a b f h.toNat (out ++ [h])
theorem walk_ok (hg : checkI g = 0) (d : Dst g D) (hN : g.n = 0) {n z a : Nat} (hn : n < g.m) (hz : z < g.m) (b : Int) (ha : ¬ OnW g D n z a) : ∀ (f x : Nat) (out : List Int), (D x z).toNat < f → OnW g D n z x →
    ∃ q, walkL (fun x => hopR g D x z) z a b f x out = (out ++ q, true) ∧ (∀ y ∈ q, ∃ w : Nat, y = w ∧ OnW g D n z w) ∧ ((x : Int) :: q).getLast? = some (z : Int)
  | 0, x, out, hk, _ => by omega
  | f + 1, x, out, hk, hW => by
    simp only [walkL]
    by_cases hxz : x = z
    · rw [if_pos hxz]
      exact ⟨[], by simp, by simp, by simp [hxz]⟩
    · rw [if_neg hxz]
      have hm := plain_m hN
      have hr0 := d.r0
      have hne := hop_ne hg d (x := x) (z := z) (by have := hW.1; omega) hz hxz hW.2.2.1
      cases hh : hopR g D x z with
      | nil => rw [hh] at hne; simp at hne
      | cons u l =>
        obtain ⟨y, rfl, hy, hlt, _⟩ := hW.hop d hN hn hz (u := u) (by rw [hh]; simp)
        dsimp only
        rw [if_neg (by
          rintro (⟨e1, _⟩ | ⟨_, e2⟩)
          · have : x = a := by omega
            exact ha (this ▸ hW)
          · have : y = a := by omega
            exact ha (this ▸ hy)), Int.toNat_natCast]
        obtain ⟨q, h1, h2, h3⟩ := walk_ok hg d hN hn hz b ha f y (out ++ [(y : Int)]) (by have := hy.2.2.1; omega) hy
        refine ⟨(y : Int) :: q, by rw [h1]; simp, fun w hw => ?_, ?_⟩
        · rcases List.mem_cons.1 hw with rfl | hw
          · exact ⟨y, rfl, hy⟩
          · exact h2 w hw
        · rw [List.getLast?_cons_cons]; exact h3
theorem foldA_best (g : Gr) (ll : List (List Int)) (a d p : Int) (ns : List Int) : ∀ i, i ≤ ns.length → (foldA g ll a d p (ns.take i)).found = true → ∃ n ∈ ns, skipA ll a d p n = false ∧ (foldA g ll a d p (ns.take i)).best = newA ll a d p n
  | 0, _, h => by simp [foldA] at h
  | i + 1, hi, h => by
    have ih := foldA_best g ll a d p ns i (by omega)
    rw [foldA_succ _ _ _ _ _ _ _ (by omega)] at h ⊢
    generalize foldA g ll a d p (ns.take i) = s at *
    unfold stepA at h ⊢
    by_cases h1 : skipA ll a d p ns[i] = true
    · rw [if_pos h1] at h ⊢; exact ih h
    · rw [if_neg h1] at h ⊢
      by_cases h2 : betA (newA ll a d p ns[i]) (cstA g ll a d ns[i]) s = true
      · rw [if_pos h2]
        exact ⟨ns[i], List.getElem_mem _, by simpa using h1, rfl⟩
      · rw [if_neg h2] at h ⊢; exact ih h
theorem allA_mem {g : Gr} {ll : List (List Int)} {a : Int} {ns : List Int} {hops : List (List Int)} {k : Nat} {x : Alt} (h : x ∈ allA g ll a ns hops k) : ∃ d : Nat, d < k ∧ ∃ p ∈ rowAt' hops d, ∃ n ∈ ns, skipA ll a d p n = false ∧ x = newA ll a d p n := by
  unfold allA at h
  obtain ⟨d, hd, h⟩ := List.mem_flatMap.1 h
  unfold rowA at h
  obtain ⟨p, hp, h⟩ := List.mem_flatMap.1 h
  unfold oneA at h
  split at h
  · rename_i hf
    obtain ⟨n, hn, h1, h2⟩ := foldA_best g ll a d p ns ns.length (Nat.le_refl _) (by rw [List.take_length]; exact hf)
    rw [List.take_length] at h2
    rw [List.mem_singleton] at h
    exact ⟨d, List.mem_range.1 hd, p, hp, n, hn, h1, h.trans h2⟩
  · cases h
/- the table -/
abbrev tabL (g : Gr) (D : Nat → Nat → Int) : List (List Int) := allL g (fun i => rowF g.m (D i))
theorem tab_len (g : Gr) (D : Nat → Nat → Int) : (tabL g D).length = g.r.toNat := allL_len _ _
theorem tab_row {x : Nat} (hN : g.n = 0) (hx : x < g.m) : rowAt' (tabL g D) x = rowF g.m (D x) := by
  have := plain_m hN
  rw [allL_row _ _ (by omega), ← this, List.take_of_length_le (by rw [rowF_len]; exact Nat.le_refl _)]
theorem tab_get {x y : Nat} (hN : g.n = 0) (hx : x < g.m) (hy : y < g.m) : gt0 (rowAt' (tabL g D) x) y = D x y := by
  rw [tab_row hN hx, rowF_get _ _ hy]
theorem tab_getL {x y : Nat} (hN : g.n = 0) (hx : x < g.m) (hy : y < g.m) : getL (tabL g D) x y = (D x y, true) := by
  have hm := plain_m hN
  have hl := tab_len g D
  unfold getL
  rw [if_pos (by unfold inT; rw [Int.toNat_natCast, tab_row hN hx, rowF_len, hl]; omega), Int.toNat_natCast, Int.toNat_natCast, tab_get hN hx hy]
theorem tab_avd {n x z : Nat} (hN : g.n = 0) (hn : n < g.m) (hx : x < g.m) (hz : z < g.m) (h : avdL (tabL g D) n x z = true) : 0 ≤ D n z ∧ ¬ OnW g D n z x := by
  unfold avdL at h
  rw [tab_getL hN hn hz, tab_getL hN hn hx, tab_getL hN hx hz] at h
  simp only [Bool.and_eq_true, Bool.or_eq_true, decide_eq_true_eq, true_and] at h
  refine ⟨h.1, fun ⟨_, h1, h2, h3⟩ => ?_⟩
  omega
/-- what an alternate of the list is -/
structure GoodA (g : Gr) (D : Nat → Nat → Int) (a : Nat) (x : Alt) : Prop where
  ex : ∃ d p n : Nat, x.dest = d ∧ x.prim = p ∧ x.via = n ∧ d < g.m ∧ p < g.m ∧ n < g.m ∧ (p : Int) ∈ hopR g D a d ∧ n ≠ p ∧ (∃ e ∈ g.es, e.f = (a : Int) ∧ e.t = (n : Int)) ∧ 0 ≤ D n d ∧ ¬ OnW g D n d a ∧ (x.kind = 2 → ¬ OnW g D n d p) ∧ x.down = decide (D n d < D a d) ∧ 0 ≤ D a d
theorem allA_good (d : Dst g D) (hN : g.n = 0) {a : Nat} (ha : a < g.m) {hops : List (List Int)} (hh : ∀ z, z < g.m → rowAt' hops z = hopR g D a z) {x : Alt} (h : x ∈ allA g (tabL g D) a (nextI a g.es) hops g.r.toNat) : GoodA g D a x := by
  have hm := plain_m hN
  obtain ⟨z, hz, p, hp, n, hn, hs, rfl⟩ := allA_mem h
  rw [← hm] at hz
  rw [hh z hz] at hp
  obtain ⟨p', rfl, hpm, k1, k2, k3, k4, _⟩ := hop_spec d hN ha hz hp
  obtain ⟨e, he, e1, e2⟩ := ((nextI_spec (a : Int) g.es).2 n).1 hn
  have ht := d.vg.t e he
  obtain ⟨n', rfl⟩ : ∃ n' : Nat, n = n' := ⟨n.toNat, by omega⟩
  have hnm : n' < g.m := by omega
  simp only [skipA, Bool.or_eq_false_iff, decide_eq_false_iff_not, Bool.not_eq_false'] at hs
  obtain ⟨h0, hW⟩ := tab_avd hN hnm ha hz hs.2
  have e3 := d.tri ha hpm hz (by omega) k2
  refine ⟨⟨z, p', n', rfl, rfl, rfl, hz, hpm, hnm, hp, by omega, ⟨e, he, e1, e2⟩, h0, hW, fun hk => ?_, ?_, e3.1⟩⟩
  · have : (decide ((p' : Int) ≠ (z : Int)) && avdL (tabL g D) n' p' z) = true := by
      cases hc : (decide ((p' : Int) ≠ (z : Int)) && avdL (tabL g D) n' p' z) with
      | true => rfl
      | false =>
        have h1 : (newA (tabL g D) a z p' n').kind = 1 := by unfold newA; dsimp only; rw [hc]; rfl
        rw [h1] at hk; omega
    exact (tab_avd hN hnm hpm hz (Bool.and_eq_true_iff.1 this).2).2
  · show dwnL (tabL g D) a n' z = _
    unfold dwnL
    rw [tab_getL hN hnm hz, tab_getL hN ha hz]
    simp only [Bool.true_and]
    rw [decide_eq_true h0, decide_eq_false (by omega : ¬ D a z < 0)]
    simp
end Go.Pl
/- Tunnel ends: distances that a cut leaves as they are. -/
namespace Go.Pl
open Go Go.RT
set_option linter.all false
variable {g : Gr} {D : Nat → Nat → Int}
end Go.Pl
namespace Go.Proofs.YtmapchjcnifeiaaGreat
open Go Go.RT Go.Proofs Go.Pl
set_option linter.all false
set_option maxRecDepth 20000
set_option maxHeartbeats 4000000
theorem wHZ40a {α : Prop} (h : α := by repeat (first | exact trivial | refine ⟨⟨_, rfl, .inl ⟨rfl, rfl⟩⟩, ?_⟩)) : α := h
theorem wHZ40b {α : Prop} (h : α := by repeat (first | exact trivial | refine ⟨wS, ?_⟩ | refine ⟨ent_same rfl rfl (rfEq rfl tU) tL, ?_⟩ | refine ⟨ent_same rfl rfl (flEq rfl (by first | (simp; done) | (simp; omega) | (simp [encE, encN, encB, encT, encL]; done) | simp [maxC, minC])) trivial, ?_⟩)) : α := h
theorem wHZ40c {α : Prop} (h : α := by repeat (first | exact trivial | refine ⟨⟨rfl, rfl, rfl, tL⟩, ?_⟩)) : α := h
theorem cost_c (g : Gr) (f t : Int) (hn : g.es.length ≤ 2000000) : Pure Tryz.prog 20 [.agg (encG g), If .i64 f, If .i64 t] (.tup [If .i64 (costL f t g.es).1, Bf (costL f t g.es).2]) := by
 refine Meets.intro Tryz.func20 rfl (Nat.le_of_ble_eq_true rfl) fun C hC => ?_
 simp only [List.map, argEnv, Nat.reduceAdd]
 refine nK ?_
 refine zb ?_
 refine zq ?_
 refine ze ?_
 refine ze ?_
 refine zc ?_
 refine nK ?_
 refine zb ?_
 refine zg ?_
 refine zh ?_
 refine zo ?_
 refine zbb ?_
 refine zc ?_
 refine nK ?_
 refine n_loop (ι := Nat) (fun i => ([(1, IV .i64 f), (2, IV .i64 t), (11, .fz (VE g.es)), (12, IV .i64 g.es.length), (13, IV .i64 i)], [], 0)) (fun i => i ≤ g.es.length ∧ costL f t (g.es.drop i) = costL f t g.es) (fun i => g.es.length - i) 0 ⟨Nat.zero_le _, rfl⟩ ?_ ?_
 ·refine Next.weak [] [] (by rfl) (keeps0 hC _) wHZ40a wHZ40b wN rel_intro
 intro i ⟨hi, ho⟩ K hK
 refine nK ?_
 refine zb ?_
 refine zp ?_
 refine zc ?_
 refine nK ?_
 refine n_cond _ rfl (fun hb => ?_) (fun hb => ?_)
 ·have hlt : i < g.es.length := by simp at hb; omega
  have hr1 := row_at' encE g.es i hlt
  rw [List.drop_eq_getElem_cons hlt] at ho
  simp only [costL] at ho
  have hK1 := fun h => hK (i + 1) ⟨by omega, h⟩ (by omega)
  generalize g.es[i] = e at *
  refine nK ?_
  refine zb ?_
  refine zz ?_
  refine zbf ?_
  refine zu ?_
  refine zr ?_
  refine zc ?_
  refine nK ?_
  refine zb ?_
  refine zg ?_
  refine zh ?_
  refine za ?_
  refine zbr ?_
  refine za ?_
  refine zn ?_
  refine zm ?_
  refine zf ?_
  refine zbo ?_
  refine zt ?_
  refine zc ?_
  refine nK ?_
  refine n_cond _ rfl (fun hb => ?_) (fun hb => ?_)
  ·rw [if_pos (by simpa [isB] using hb)] at ho
   rw [← ho]
   refine nK ?_
   refine zb ?_
   refine zg ?_
   refine zh ?_
   refine zd ?_
   refine ze ?_
   refine zc ?_
   refine nK ?_
   exact wO hC
  rw [if_neg (by simpa [isB] using hb)] at ho
  refine nK ?_
  refine zb ?_
  refine zl ?_
  refine za ?_
  refine zc ?_
  refine nK ?_
  refine Next.weak [] [] (by rfl) (keeps0 hC _) wHZ40a wHZ40b wN (hK1 ho)
 have hie : i = g.es.length := by simp at hb; omega
 rw [hie, List.drop_length] at ho
 rw [← ho]
 refine nK ?_
 refine zb ?_
 refine ze ?_
 refine ze ?_
 refine zc ?_
 refine nK ?_
 exact wO hC
theorem kept_row {α β : Type} (f : α → β) (c l : List α) (j : Nat) (h : c.length ≤ j) (hj : j < l.length) : ((c ++ l.drop c.length).map f)[j]? = some (f l[j]) := by
 rw [List.getElem?_map, kept_get c l j h, List.getElem?_eq_getElem hj]; rfl
theorem compact_c (l : List Int) (hn : l.length ≤ 2000000) : Meets Tryz.prog 34 [.sl 0 1 0 l.length] 1 [(0, OI l)] (.fz (VI (compL eqI l))) [] 1 := by
 refine Meets.intro Tryz.func34 rfl (Nat.le_of_ble_eq_true rfl) fun C hC => ?_
 simp only [List.map, argEnv, Nat.reduceAdd]
 refine nK ?_
 refine zb ?_
 refine ze ?_
 refine zc ?_
 refine nK ?_
 refine zb ?_
 refine za ?_
 refine zbi ?_
 refine zbn ?_
 refine zc ?_
 refine nK ?_
 refine n_cond _ rfl (fun hb => ?_) (fun hb => ?_)
 ·have h2 : l.length < 2 := by simp at hb; omega
  have e : compL eqI l = l := by
   match l, h2 with
   | [], _ => rfl
   | [x], _ => rfl
  rw [e]
  refine nK ?_
  refine zb ?_
  refine za ?_
  refine zd ?_
  refine zc ?_
  refine nK ?_
  refine Next.weakS [2] [2] (by rfl) (keepsN hC _ rfl) (G' := [(2, .fz (VI l))]) (H' := []) wF trivial rfl ?_
  exact n_out1 rfl (by rfl) rfl rfl
 have h2 : 2 ≤ l.length := by simp at hb; omega
 refine nK ?_
 refine zb ?_
 refine ze ?_
 refine zc ?_
 refine nK ?_
 refine n_loop (ι := Nat) (fun k => ([(0, .sl 0 1 0 l.length), (3, IV .i64 k)], [(0, OI l)], 1)) (fun k => 1 ≤ k ∧ k ≤ l.length ∧ compL eqI (l.take k) = l.take k) (fun k => l.length - k) 1 ⟨Nat.le_refl _, by omega, compL_one eqI l (by omega)⟩ ?_ ?_
 ·refine Next.weakS [0] [] (by rfl) (wK hC) wG wHZ40b rfl (rel_intro)
 intro k ⟨hk1, hk2, hc⟩ K hK
 refine nK ?_
 refine zb ?_
 refine za ?_
 refine za ?_
 refine zbi ?_
 refine zp ?_
 refine zc ?_
 refine nK ?_
 refine n_cond _ rfl (fun hb => ?_) (fun hb => ?_)
 ·have hlt : k < l.length := by simp at hb; omega
  have hr1 := row_at' encN l k hlt
  have hr2 := row_at' encN l (k - 1) (by omega)
  have hst := compL_take eqI l k (by omega) hlt
  refine nK ?_
  refine s_draw mixed ?_
  refine za ?_
  refine za ?_
  refine rpZ 18 rfl (op_idx_sl0 k rfl (oT rfl) (oT rfl) (by intro _; constructor <;> omega)) ?_
  refine zh ?_
  refine za ?_
  refine za ?_
  refine zbx ?_
  refine rpZ 23 rfl (op_idx_sl0 (k - 1) rfl (oT rfl) (oT rfl) (by intro _; constructor <;> omega)) ?_
  refine zh ?_
  refine zbr ?_
  refine zs ?_
  refine nK ?_
  refine n_cond _ rfl (fun hb => ?_) (fun hb => ?_)
  ·have he : eqI l[k] l[k - 1] = true := hb
   rw [he, cond_true, List.append_nil, hc] at hst
   refine nK ?_
   refine zb ?_
   refine za ?_
   refine za ?_
   refine rlZ 28 rfl (op_slice_view rfl (oT rfl) (Bnd.yes _ _ _ _ _ (oT rfl) tQ) (Bnd.no _) tT) ?_
   refine zd ?_
   refine zc ?_
   refine nK ?_
   refine zb ?_
   refine ze ?_
   refine zc ?_
   refine nK ?_
   refine n_loop (ι := Nat × List Int) (fun g => ([(0, .sl 0 1 0 l.length), (3, IV .i64 g.2.length), (4, .sl 0 1 k (l.length - k)), (5, IV .i64 g.1)], [(0, OI (g.2 ++ l.drop g.2.length))], 1)) (fun g => 1 ≤ g.1 ∧ k + g.1 ≤ l.length ∧ g.2 = compL eqI (l.take (k + g.1))) (fun g => l.length - (k + g.1)) (1, l.take k) ⟨Nat.le_refl _, by dsimp only; omega, hst.symm⟩ ?_ ?_
   ·have e1 : (l.take k).length = k := by simp; omega
    simp only [e1, List.take_append_drop, Nat.zero_add]
    refine Next.weakS [0] [] (by rfl) (wK hC) wG wHZ40b rfl (rel_intro)
   intro ⟨j, c⟩ ⟨hj1, hj2, hcd⟩ K2 hK2
   simp only at hj1 hj2 hcd
   dsimp only
   have hcl := compL_len_lt eqI l k (by omega) hlt he (k + j) (by omega) hj2
   rw [← hcd] at hcl
   have hkl := kept_len c l (by omega)
   refine nK ?_
   refine zb ?_
   refine za ?_
   refine za ?_
   refine zbi ?_
   refine zp ?_
   refine zc ?_
   refine nK ?_
   refine n_cond _ rfl (fun hb => ?_) (fun hb => ?_)
   ·have hjl : k + j < l.length := by simp at hb; omega
    have hst2 := compL_take eqI l (k + j) (by omega) hjl
    rw [← hcd] at hst2
    have hK3 := fun c' h => hK2 (j + 1, c') ⟨by dsimp only; omega, by dsimp only; omega, h⟩ (by dsimp only; omega)
    have g1 := kept_row encN c l (k + j) (by omega) hjl
    have g2 := kept_row encN c l (k + j - 1) (by omega) (by omega)
    have g3 := kept_row encN c l c.length (Nat.le_refl _) (by omega)
    have hset := set_kept c l l[k + j] (by omega)
    refine nK ?_
    refine s_draw mixed ?_
    refine za ?_
    refine za ?_
    refine rpZ 37 rfl (op_idx_sl j rfl (oT rfl) (oT rfl) (by intro _; constructor <;> omega)) ?_
    refine rlZ 38 rfl (op_load1_flat rfl (oT rfl) (by intro _; exact ⟨rfl, g1⟩) rfl) ?_
    refine za ?_
    refine za ?_
    refine zbx ?_
    refine rpZ 42 rfl (op_idx_sl (j - 1) rfl (oT rfl) (oT rfl) (by intro _; constructor <;> omega)) ?_
    refine rlZ 43 rfl (op_load1_flat rfl (oT rfl) (by intro _; exact ⟨rfl, by rw [← Nat.add_sub_assoc hj1]; exact g2⟩) rfl) ?_
    refine zbg ?_
    refine zs ?_
    refine nK ?_
    refine n_cond _ rfl (fun hb => ?_) (fun hb => ?_)
    ·have hne : eqI l[k + j] l[k + j - 1] = false := by simpa using hb
     rw [hne, cond_false] at hst2
     have hK4 := hK3 (c ++ [l[k + j]]) hst2.symm
     have e4 : (c ++ [l[k + j]]).length = c.length + 1 := by simp
     rw [← hset, e4] at hK4
     refine nK ?_
     refine zb ?_
     refine za ?_
     refine za ?_
     refine za ?_
     refine za ?_
     refine rpZ 49 rfl (op_idx_sl j rfl (oT rfl) (oT rfl) (by intro _; constructor <;> omega)) ?_
     refine rlZ 50 rfl (op_load1_flat rfl (oT rfl) (by intro _; exact ⟨rfl, g1⟩) rfl) ?_
     refine rpZ 51 rfl (op_idx_sl0 c.length rfl (oT rfl) (oT rfl) (by intro _; constructor <;> omega)) ?_
     refine Run.eff (dd := none) rfl rfl (op_store_flat rfl (oT rfl) (oT rfl) tC rfl rfl g3 tS) ?_
     refine zc ?_
     refine nK ?_
     refine zb ?_
     refine za ?_
     refine zl ?_
     refine zd ?_
     refine zc ?_
     refine nK ?_
     refine zb ?_
     refine za ?_
     refine zl ?_
     refine zd ?_
     refine zc ?_
     refine nK ?_
     refine Next.weakS [0] [] (by rfl) (wK hC) wG wHZ40b rfl (hK4)
    have hne : eqI l[k + j] l[k + j - 1] = true := by simpa using hb
    rw [hne, cond_true, List.append_nil] at hst2
    refine nK ?_
    refine zb ?_
    refine za ?_
    refine zl ?_
    refine zd ?_
    refine zc ?_
    refine nK ?_
    refine Next.weakS [0] [] (by rfl) (wK hC) wG wHZ40b rfl ((hK3 c hst2.symm))
   have hje : k + j = l.length := by simp at hb; omega
   rw [hje, List.take_length] at hcd
   rw [← hcd]
   refine nK ?_
   refine zb ?_
   refine za ?_
   refine za ?_
   refine rlZ 56 rfl (op_slice_view rfl (oT rfl) (Bnd.yes _ _ _ _ _ (oT rfl) tQ) (Bnd.no _) (by intro _; refine ⟨rfl, ?_⟩; rw [List.length_map, hkl]; omega)) ?_
   refine Run.eff (dd := none) rfl rfl (op_clear rfl (oT rfl) rfl rfl rfl rfl (by rw [List.length_map, hkl] <;> omega)) ?_
   refine zc ?_
   refine nK ?_
   refine zb ?_
   refine za ?_
   refine za ?_
   refine rlZ 59 rfl (op_slice_view rfl (oT rfl) (Bnd.no _) (Bnd.yes _ _ _ _ _ (oT rfl) tQ) (by intro _; refine ⟨rfl, ?_⟩; simp; try omega)) ?_
   refine zd ?_
   refine zc ?_
   refine nK ?_
   refine Next.weakS [2] [2] (by rfl) (keepsN hC _ rfl) (G' := [(2, .fz (VI c))]) (H' := []) ⟨⟨_, rfl, .inr ⟨_, rfl, .sl _ _ _ _ _ _ rfl rfl (by simp) (by simp)⟩⟩, trivial⟩ trivial rfl ?_
   exact n_out1 rfl (by rfl) rfl rfl
  have he : eqI l[k] l[k - 1] = false := hb
  rw [he, cond_false, hc, ← List.take_succ_eq_append_getElem hlt] at hst
  refine nK ?_
  refine zb ?_
  refine za ?_
  refine zl ?_
  refine zd ?_
  refine zc ?_
  refine nK ?_
  refine Next.weakS [0] [] (by rfl) (wK hC) wG wHZ40b rfl ((hK (k + 1) ⟨by omega, by omega, hst⟩ (by omega)))
 have hie : k = l.length := by simp at hb; omega
 rw [take_len_eq' hie] at hc
 rw [hc]
 refine nK ?_
 refine zb ?_
 refine za ?_
 refine zd ?_
 refine zc ?_
 refine nK ?_
 refine Next.weakS [2] [2] (by rfl) (keepsN hC _ rfl) (G' := [(2, .fz (VI l))]) (H' := []) wF trivial rfl ?_
 exact n_out1 rfl (by rfl) rfl rfl
theorem sorti_c (l : List Int) (hn : l.length ≤ 2000000) : Meets Tryz.prog 33 [.sl 0 1 0 l.length] 1 [(0, OI l)] (.fz (.tup [])) [(0, OI (srtI l))] 1 := sortI_meets (ρ := Tryz.sortInt_ren) Tryz.sortInt (l := l) (by omega)
theorem tos_succ (n : Int) (l : List Edg) (i : Nat) (h : i < l.length) : tosL n (l.take (i + 1)) = tosL n (l.take i) ++ if l[i].f = n then [l[i].t] else [] := by
 unfold tosL
 rw [List.take_succ_eq_append_getElem h, List.filter_append, List.map_append]
 congr 1
 by_cases e : l[i].f = n <;> simp [e]
theorem tos_len (n : Int) (l : List Edg) : (tosL n l).length ≤ l.length := by simp [tosL]; exact List.length_filter_le _ _
theorem next_c (g : Gr) (n : Int) (hn : g.es.length ≤ 2000000) : Pure Tryz.prog 15 [.agg (encG g), If .i64 n] (VI (nextI n g.es)) := by
 refine Meets.intro Tryz.func15 rfl (Nat.le_of_ble_eq_true rfl) fun C hC => ?_
 simp only [List.map, argEnv, Nat.reduceAdd]
 refine nK ?_
 refine zb ?_
 refine zq ?_
 refine ze ?_
 refine zc ?_
 refine nK ?_
 refine zb ?_
 refine ze ?_
 refine zc ?_
 refine nK ?_
 refine zb ?_
 refine zg ?_
 refine zh ?_
 refine zo ?_
 refine zbb ?_
 refine zc ?_
 refine nK ?_
 refine Next.adopt 5 1 rfl ?_
 refine n_loop (ι := Nat) (fun i => ([(1, IV .i64 n), (5, .sl 0 1 0 (tosL n (g.es.take i)).length), (9, .fz (VE g.es)), (10, IV .i64 g.es.length), (11, IV .i64 i)], [(0, OI (tosL n (g.es.take i)))], 1)) (fun i => i ≤ g.es.length) (fun i => g.es.length - i) 0 (Nat.zero_le _) ?_ ?_
 ·refine Next.weakS [5] [] (by rfl) (wK hC) wG wHZ40b rfl (rel_intro)
 intro i hi K hK
 have htl := tos_len n (g.es.take i)
 have htl2 : (g.es.take i).length ≤ g.es.length := List.length_take_le' _ _
 refine nK ?_
 refine zb ?_
 refine zp ?_
 refine zc ?_
 refine nK ?_
 refine n_cond _ rfl (fun hb => ?_) (fun hb => ?_)
 ·have hlt : i < g.es.length := by simp at hb; omega
  have hst := tos_succ n g.es i hlt
  have hr1 := row_at' encE g.es i hlt
  have hK1 := hK (i + 1) (by omega) (by omega)
  rw [hst] at hK1
  generalize g.es[i] = e at *
  refine nK ?_
  refine zb ?_
  refine zz ?_
  refine zbf ?_
  refine zu ?_
  refine zr ?_
  refine zc ?_
  refine nK ?_
  refine zb ?_
  refine zg ?_
  refine zh ?_
  refine za ?_
  refine zbr ?_
  refine zc ?_
  refine nK ?_
  refine n_cond _ rfl (fun hb => ?_) (fun hb => ?_)
  ·rw [if_pos (by simpa using hb)] at hK1
   refine nK ?_
   refine zb ?_
   refine za ?_
   refine zg ?_
   refine zh ?_
   refine zbh ?_
   refine zbu ?_
   refine zd ?_
   refine zc ?_
   refine nK ?_
   refine zb ?_
   refine zl ?_
   refine za ?_
   refine zc ?_
   refine nK ?_
   refine Next.weakS [5] [] (by rfl) (wK hC) wG wHZ40b rfl (hK1)
  rw [if_neg (by simpa using hb), List.append_nil] at hK1
  refine nK ?_
  refine zb ?_
  refine zl ?_
  refine za ?_
  refine zc ?_
  refine nK ?_
  refine Next.weakS [5] [] (by rfl) (wK hC) wG wHZ40b rfl (hK1)
 have hie : i = g.es.length := by simp at hb; omega
 rw [take_len_eq' hie]
 rw [take_len_eq' hie] at htl
 have hso := sorti_c (tosL n g.es) (by omega)
 have hsl := srtI_len (tosL n g.es)
 have hco := compact_c (srtI (tosL n g.es)) (by omega)
 rw [hsl] at hco
 refine nK ?_
 refine zb ?_
 refine za ?_
 refine Run.eff (dd := some 26) rfl rfl (op_call (n := 1) (n' := 1) [0] (fun _ => hso) rfl (Opd.func _) (oS (oT rfl) Opds.nil) rfl rfl (Lent.of rfl rfl wHZ40c rfl) rfl rfl rfl rfl rfl) ?_
 refine zc ?_
 refine nK ?_
 refine zb ?_
 refine za ?_
 refine Run.eff (dd := some 28) rfl rfl (op_call (n := 1) (n' := 1) [0] (fun _ => hco) rfl (Opd.func _) (oS (oT rfl) Opds.nil) rfl rfl (Lent.of rfl rfl wHZ40c rfl) rfl rfl rfl rfl rfl) ?_
 refine zd ?_
 refine zc ?_
 refine nK ?_
 exact wO hC
open Go Go.RT Go.Proofs Go.Pl
set_option maxRecDepth 20000
set_option maxHeartbeats 4000000
theorem lat_c (ll : List (List Int)) (x y : Int) : Pure Tryz.prog 36 [VLL ll, If .i64 x, If .i64 y] (.tup [If .i64 (getL ll x y).1, Bf (getL ll x y).2]) := by
 have hr1 : ¬ (x < 0 ∨ (ll.length : Int) ≤ x) → (ll.map encL)[x.toNat]? = some [VI (rowAt' ll x.toNat)] := fun h => row_of encL ll x.toNat [] (by omega)
 refine Meets.intro Tryz.func36 rfl (Nat.le_of_ble_eq_true rfl) fun C hC => ?_
 simp only [List.map, argEnv, Nat.reduceAdd]
 refine nK ?_
 refine zb ?_
 refine ze ?_
 refine ze ?_
 refine zc ?_
 refine nK ?_
 refine zb ?_
 refine za ?_
 refine zbn ?_
 refine za ?_
 refine zf ?_
 refine zf ?_
 refine zbt ?_
 refine zbz ?_
 refine zv ?_
 refine za ?_
 refine zf ?_
 refine zcc ?_
 refine zv ?_
 refine za ?_
 refine zf ?_
 refine zf ?_
 refine zf ?_
 refine rgZ 24 rfl rfl tG (op_idx_fz x.toNat rfl (oO rfl tO) (oO rfl tO) (by intro hg; have h2 : ¬ (x < 0 ∨ (ll.length : Int) ≤ x) := (by simp at hg; omega); exact ⟨by omega, hr1 h2⟩)) ?_
 refine zw ?_
 refine zbt ?_
 refine zbz ?_
 refine zv ?_
 refine zc ?_
 refine nK ?_
 refine n_cond _ rfl (fun hb => ?_) (fun hb => ?_)
 ·have hc : ¬ inT ll x y := fun h => by unfold inT at h; simp only [Bool.or_eq_true, decide_eq_true_eq] at hb; omega
  rw [show getL ll x y = (0, false) from if_neg hc]
  dsimp only
  refine nK ?_
  refine zb ?_
  refine ze ?_
  refine ze ?_
  refine zc ?_
  refine nK ?_
  exact wO hC
 have hc : inT ll x y := by unfold inT; simp only [Bool.or_eq_false_iff, decide_eq_false_iff_not] at hb; omega
 rw [show getL ll x y = (gt0 (rowAt' ll x.toNat) y.toNat, true) from if_pos hc]
 dsimp only
 unfold inT at hc
 have hr0 := hr1 hc.1
 have hr2 : ((rowAt' ll x.toNat).map encN)[y.toNat]? = some [If .i64 (gt0 (rowAt' ll x.toNat) y.toNat)] := row_of encN _ y.toNat 0 (by omega)
 refine nK ?_
 refine zb ?_
 refine za ?_
 refine za ?_
 refine rpZ 31 rfl (op_idx_fz x.toNat rfl (oT rfl) (oT rfl) (by intro _; exact ⟨by omega, hr0⟩)) ?_
 refine zj ?_
 refine za ?_
 refine rpZ 34 rfl (op_idx_fz y.toNat rfl (oT rfl) (oT rfl) (by intro _; exact ⟨by omega, hr2⟩)) ?_
 refine zj ?_
 refine zd ?_
 refine ze ?_
 refine zc ?_
 refine nK ?_
 exact wO hC
theorem lavoids_c (ll : List (List Int)) (n x d : Int) (hok : okT ll) : Pure Tryz.prog 35 [VLL ll, If .i64 n, If .i64 x, If .i64 d] (Bf (avdL ll n x d)) := by
 have h1 := getL_rng hok n d
 have h2 := getL_rng hok n x
 have h3 := getL_rng hok x d
 unfold avdL
 refine Meets.intro Tryz.func35 rfl (Nat.le_of_ble_eq_true rfl) fun C hC => ?_
 simp only [List.map, argEnv, Nat.reduceAdd]
 refine nK ?_
 refine zb ?_
 refine ze ?_
 refine zc ?_
 refine nK ?_
 refine zb ?_
 refine za ?_
 refine za ?_
 refine za ?_
 refine rpZ 19 rfl (op_call_pure (fun _ => lat_c _ _ _) rfl (Opd.func _) (oS (oT rfl) (oS (oT rfl) (oS (oT rfl) Opds.nil)))) ?_
 refine za ?_
 refine zi ?_
 refine zi ?_
 refine zd ?_
 refine zd ?_
 refine zc ?_
 refine nK ?_
 refine zb ?_
 refine za ?_
 refine za ?_
 refine za ?_
 refine rpZ 26 rfl (op_call_pure (fun _ => lat_c _ _ _) rfl (Opd.func _) (oS (oT rfl) (oS (oT rfl) (oS (oT rfl) Opds.nil)))) ?_
 refine za ?_
 refine zi ?_
 refine zi ?_
 refine zd ?_
 refine zd ?_
 refine zc ?_
 refine nK ?_
 refine zb ?_
 refine za ?_
 refine za ?_
 refine za ?_
 refine rpZ 33 rfl (op_call_pure (fun _ => lat_c _ _ _) rfl (Opd.func _) (oS (oT rfl) (oS (oT rfl) (oS (oT rfl) Opds.nil)))) ?_
 refine za ?_
 refine zi ?_
 refine zi ?_
 refine zd ?_
 refine zd ?_
 refine zc ?_
 refine nK ?_
 refine zb ?_
 refine za ?_
 refine zbj ?_
 refine za ?_
 refine zf ?_
 refine zbl ?_
 refine zv ?_
 refine za ?_
 refine zf ?_
 refine zbl ?_
 refine zv ?_
 refine za ?_
 refine zf ?_
 refine zcc ?_
 refine zv ?_
 refine zc ?_
 refine nK ?_
 refine n_cond _ rfl (fun hb => ?_) (fun hb => ?_)
 ·generalize getL ll n d = A at *
  generalize getL ll n x = B at *
  generalize getL ll x d = C' at *
  obtain ⟨a, a2⟩ := A
  obtain ⟨b, b2⟩ := B
  obtain ⟨c, c2⟩ := C'
  dsimp only at *
  rw [show (a2 && b2 && c2 && decide (0 ≤ a) && (decide (b < 0) || decide (c < 0) || decide (a - b < c))) = false by
   simp only [inr] at *
   cases a2 <;> cases b2 <;> cases c2 <;> simp at hb ⊢
   omega]
  refine nK ?_
  refine zb ?_
  refine ze ?_
  refine zc ?_
  refine nK ?_
  exact wO hC
 generalize getL ll n d = A at *
 generalize getL ll n x = B at *
 generalize getL ll x d = C' at *
 obtain ⟨a, a2⟩ := A
 obtain ⟨b, b2⟩ := B
 obtain ⟨c, c2⟩ := C'
 dsimp only at *
 have hb' : a2 = true ∧ b2 = true ∧ c2 = true ∧ 0 ≤ a := by
  cases a2 <;> cases b2 <;> cases c2 <;> simp at hb ⊢
  exact hb
 obtain ⟨rfl, rfl, rfl, ha⟩ := hb'
 clear hb
 simp only [inr] at h1 h2 h3
 rw [show (true && true && true && decide (0 ≤ a) && (decide (b < 0) || decide (c < 0) || decide (a - b < c))) = (decide (b < 0) || decide (c < 0) || decide (a - b < c)) by simp [ha]]
 refine nK ?_
 refine zb ?_
 refine za ?_
 refine zbn ?_
 refine za ?_
 refine zf ?_
 refine zcc ?_
 refine zv ?_
 refine za ?_
 refine zf ?_
 refine zf ?_
 refine rgZ 59 rfl rfl tG (op_sub rfl (oO rfl tO) (oO rfl tO) (by intro hg; simp at hg; simp only [inr]; omega)) ?_
 refine zf ?_
 refine zbk ?_
 refine zv ?_
 refine zd ?_
 refine zc ?_
 refine nK ?_
 exact wO hC
theorem lloop_c (ll : List (List Int)) (s n d : Int) (hok : okT ll) : Pure Tryz.prog 17 [VLL ll, If .i64 s, If .i64 n, If .i64 d] (Bf (avdL ll n s d)) := by
 refine Meets.intro Tryz.func17 rfl (Nat.le_of_ble_eq_true rfl) fun C hC => ?_
 simp only [List.map, argEnv, Nat.reduceAdd]
 refine nK ?_
 refine zb ?_
 refine ze ?_
 refine zc ?_
 refine nK ?_
 refine zb ?_
 refine za ?_
 refine za ?_
 refine za ?_
 refine za ?_
 refine rpZ 13 rfl (op_call_pure (fun _ => lavoids_c _ _ _ _ (by assumption)) rfl (Opd.func _) (oS (oT rfl) (oS (oT rfl) (oS (oT rfl) (oS (oT rfl) Opds.nil))))) ?_
 refine zd ?_
 refine zc ?_
 refine nK ?_
 exact wO hC
theorem lprot_c (ll : List (List Int)) (n e d : Int) (hok : okT ll) : Pure Tryz.prog 19 [VLL ll, If .i64 n, If .i64 e, If .i64 d] (Bf (avdL ll n e d)) := by
 refine Meets.intro Tryz.func19 rfl (Nat.le_of_ble_eq_true rfl) fun C hC => ?_
 simp only [List.map, argEnv, Nat.reduceAdd]
 refine nK ?_
 refine zb ?_
 refine ze ?_
 refine zc ?_
 refine nK ?_
 refine zb ?_
 refine za ?_
 refine za ?_
 refine za ?_
 refine za ?_
 refine rpZ 13 rfl (op_call_pure (fun _ => lavoids_c _ _ _ _ (by assumption)) rfl (Opd.func _) (oS (oT rfl) (oS (oT rfl) (oS (oT rfl) (oS (oT rfl) Opds.nil))))) ?_
 refine zd ?_
 refine zc ?_
 refine nK ?_
 exact wO hC
theorem ldown_c (ll : List (List Int)) (s n d : Int) : Pure Tryz.prog 18 [VLL ll, If .i64 s, If .i64 n, If .i64 d] (Bf (dwnL ll s n d)) := by
 unfold dwnL
 refine Meets.intro Tryz.func18 rfl (Nat.le_of_ble_eq_true rfl) fun C hC => ?_
 simp only [List.map, argEnv, Nat.reduceAdd]
 refine nK ?_
 refine zb ?_
 refine ze ?_
 refine zc ?_
 refine nK ?_
 refine zb ?_
 refine za ?_
 refine za ?_
 refine za ?_
 refine rpZ 17 rfl (op_call_pure (fun _ => lat_c _ _ _) rfl (Opd.func _) (oS (oT rfl) (oS (oT rfl) (oS (oT rfl) Opds.nil)))) ?_
 refine za ?_
 refine zi ?_
 refine zi ?_
 refine zd ?_
 refine zd ?_
 refine zc ?_
 refine nK ?_
 refine zb ?_
 refine za ?_
 refine za ?_
 refine za ?_
 refine rpZ 24 rfl (op_call_pure (fun _ => lat_c _ _ _) rfl (Opd.func _) (oS (oT rfl) (oS (oT rfl) (oS (oT rfl) Opds.nil)))) ?_
 refine za ?_
 refine zi ?_
 refine zi ?_
 refine zd ?_
 refine zd ?_
 refine zc ?_
 refine nK ?_
 refine zb ?_
 refine za ?_
 refine za ?_
 refine zf ?_
 refine zt ?_
 refine za ?_
 refine zf ?_
 refine zck ?_
 refine zt ?_
 refine za ?_
 refine zf ?_
 refine zcc ?_
 refine zbp ?_
 refine zf ?_
 refine zf ?_
 refine zbk ?_
 refine zcd ?_
 refine zt ?_
 refine zd ?_
 refine zc ?_
 refine nK ?_
 exact wO hC
open Go Go.RT Go.Proofs Go.Pl
set_option maxRecDepth 20000
set_option maxHeartbeats 2000000
abbrev HD (h : Hq) : Hp := [(1, some (.refs 3 [[.sl 2 1 0 h.it.length, .sl 3 1 0 h.pl.length, .sl 4 1 0 h.ky.length]])), (2, OT h.it), (3, OI h.pl), (4, OI h.ky)]
abbrev HDS (d : List Int) (h : Hq) : Hp := (0, OI d) :: HD h
theorem set_i (h : Hq) (o : HI h) (b : Int) (v : Nat) (k : Int) (e : b = v) (hv : v < h.pl.length) (hm : h.it.length ≤ 1999999) : Meets Tryz.prog 38 [.ptr 0 3 0 0, IV .i64 b, IV .i64 k] 4 (HH h) (BV true) (HX (setH h v k)) 5 := by subst e; exact set_c h o v k hv hm
theorem key_i (h : Hq) (o : h.Ok) (b : Int) (v : Nat) (e : b = v) (hv : v < h.pl.length) : Meets Tryz.prog 40 [.ptr 0 3 0 0, IV .i64 b] 4 (HH h) (.fz (.tup [If .i64 (if 0 ≤ h.place v then h.key v else 0), Bf (decide (0 ≤ h.place v))])) (HH h) 4 := by subst e; exact key_c h o v hv
theorem dist_c (g : Gr) (a : Nat) (d : List Int) (hg : checkI g = 0) (hok : okG g) (ha : a < (g.r + g.n).toNat) (hd : d.length = (g.r + g.n).toNat) (hD : ∀ v, v < (g.r + g.n).toNat → IsD g.es a v (gt0 d v)) : Pure Tryz.prog 21 [.agg (encG g), If .i64 a] (VI d) := by
 obtain ⟨vg, hr0, hn0⟩ := checkI_vg hg
 have hn := vg.n128
 have hel := vg.e1024
 have hrn : g.r + g.n = ((g.r + g.n).toNat : Int) := by omega
 generalize hN : (g.r + g.n).toNat = n at *
 refine Meets.intro Tryz.func21 rfl (Nat.le_of_ble_eq_true rfl) fun C hC => ?_
 simp only [List.map, argEnv, Nat.reduceAdd]
 refine nK2 ?_
 refine zb ?_
 refine zq ?_
 refine ze ?_
 refine zc ?_
 refine nK2 ?_
 refine zb ?_
 refine zg ?_
 refine zh ?_
 refine zg ?_
 refine zh ?_
 refine zbc ?_
 refine Run.eff (dd := some 23) rfl rfl (op_make (l := n) (c := n) rfl (oT rfl) (oT rfl) rfl rfl rfl rfl (by intro _; refine ⟨hrn, hrn, ?_⟩; omega)) ?_
 refine zd ?_
 refine zc ?_
 refine nK2 ?_
 refine Next.weak [0, 1] [] (by rfl) (keepsN hC _ rfl) (G' := [(1, IV .i64 a), (2, .ptr 0 3 0 0), (5, .sl 1 1 0 n)]) (H' := [(0, OG g), (1, OI (fillN n 0))]) wG (by exact ⟨wS, ⟨ent_same rfl rfl (flEq rfl (by rw [fillN_0, List.map_replicate]; rfl)) trivial, trivial⟩⟩) wN ?_
 refine nK2 ?_
 refine zb ?_
 refine za ?_
 refine zbi ?_
 refine zbb ?_
 refine zc ?_
 refine nK2 ?_
 refine n_loop (ι := Nat) (fun k => ([(1, IV .i64 a), (2, .ptr 0 3 0 0), (5, .sl 1 1 0 n), (25, IV .i64 n), (26, IV .i64 k)], [(0, OG g), (1, OI (fillN n k))], 2)) (fun k => k ≤ n) (fun k => n - k) 0 (Nat.zero_le _) ?_ ?_
 ·refine Next.weak [0, 1] [] (by rfl) (keepsN hC _ rfl) wG wR wN rel_intro
 intro k hk K hK
 try dsimp only at hk ⊢
 refine nK2 ?_
 refine zb ?_
 refine zp ?_
 refine zc ?_
 refine nK2 ?_
 refine n_cond _ rfl (fun hb => ?_) (fun hb => ?_)
 ·have hlt : k < n := by simpa using hb
  have hrow := row_of encN (fillN n k) k 0 (by rw [fillN_len _ _ hk]; exact hlt)
  refine nK2 ?_
  refine zb ?_
  refine za ?_
  refine zd ?_
  refine zc ?_
  refine nK2 ?_
  refine zb ?_
  refine za ?_
  refine za ?_
  refine rpZ 31 rfl (op_idx_sl0 k rfl (oT rfl) (oT rfl) (by intro _; exact ⟨rfl, hlt⟩)) ?_
  refine Run.eff (dd := none) rfl rfl (op_store_flat rfl (oT rfl) oC tC rfl rfl hrow tS) ?_
  refine zc ?_
  refine nK2 ?_
  refine zb ?_
  refine zl ?_
  refine za ?_
  refine zc ?_
  refine nK2 ?_
  refine Next.weak [0, 1] [] (by rfl) (keepsN hC _ rfl) wG (by exact ⟨wS, ⟨ent_same rfl rfl (flEq rfl (by rw [← fillN_set n k hlt, List.map_set]; rfl)) trivial, trivial⟩⟩) wN (hK (k + 1) hlt (by omega))
 have hge : k = n := by simp at hb; omega
 subst hge
 rw [fillN_n]
 refine nK2 ?_
 refine zb ?_
 refine za ?_
 refine zbi ?_
 refine Run.eff (dd := some 35) rfl rfl (op_make (l := k) (c := k) rfl (oT rfl) (oT rfl) rfl rfl rfl rfl (by intro _; refine ⟨rfl, rfl, ?_⟩; omega)) ?_
 refine zd ?_
 refine zc ?_
 refine nK2 ?_
 refine Next.toOwn 2 3 k rfl ?_
 refine Next.weak [0, 1, 2] [] (by rfl) (keepsN hC _ rfl) (G' := [(1, IV .i64 a), (2, .ptr 0 3 0 0), (5, .sl 1 1 0 k), (7, .sl 2 1 0 k)]) (H' := [(0, OG g), (1, OI (List.replicate k (-1))), (2, some (.refs 1 (ownL 3 (rowsE [] k))))]) wG (by exact ⟨wS, ⟨wS, ⟨ent_own rfl rfl (by rw [rowsE_nil, ← ownL_rep]; rfl), trivial⟩⟩⟩) wN ?_
 refine nK2 ?_
 refine zb ?_
 refine zg ?_
 refine zh ?_
 refine zo ?_
 refine zbb ?_
 refine zc ?_
 refine nK2 ?_
 refine n_loop (ι := Nat) (fun i => ([(1, IV .i64 a), (5, .sl 1 1 0 k), (7, .sl 2 1 0 k), (37, .fz (VE g.es)), (38, IV .i64 g.es.length), (39, IV .i64 i)], [(0, OG g), (1, OI (List.replicate k (-1))), (2, some (.refs 1 (ownL 3 (rowsE (g.es.take i) k))))], 3)) (fun i => i ≤ g.es.length) (fun i => g.es.length - i) 0 (Nat.zero_le _) ?_ ?_
 ·refine Next.weak [0, 1, 2] [] (by rfl) (keepsN hC _ rfl) wG (by exact ⟨wS, ⟨wS, ⟨ent_own rfl rfl rfl, trivial⟩⟩⟩) wN rel_intro
 intro i hi K hK
 try dsimp only at hi ⊢
 refine nK2 ?_
 refine zb ?_
 refine zp ?_
 refine zc ?_
 refine nK2 ?_
 refine n_cond _ rfl (fun hb => ?_) (fun hb => ?_)
 ·have hlt : i < g.es.length := by simp at hb; omega
  have hr1 := row_at' encE g.es i hlt
  have hef := vg.f _ (List.getElem_mem hlt)
  have hst := rowsE_succ (n := k) hlt hef.1
  have hrg := rowsE_get (g.es.take i) (n := k) (v := g.es[i].f.toNat) (by omega)
  have hlen : (outE (g.es.take i) g.es[i].f.toNat).length ≤ 1024 := by
   have h1 : (outE (g.es.take i) g.es[i].f.toNat).length ≤ (g.es.take i).length := List.length_filter_le _ _
   have h2 : (g.es.take i).length ≤ g.es.length := List.length_take_le' _ _
   omega
  have hK1 := hK (i + 1) (by omega) (by omega)
  rw [← hst] at hK1
  have hrl := rowsE_len (g.es.take i) k
  generalize rowsE (g.es.take i) k = irs at *
  generalize outE (g.es.take i) g.es[i].f.toNat = row at *
  generalize g.es[i] = e at *
  refine nK2 ?_
  refine zb ?_
  refine zz ?_
  refine zbf ?_
  refine zu ?_
  refine zr ?_
  refine zc ?_
  refine nK2 ?_
  refine Next.take 2 e.f.toNat 0 rfl (ownL_get hrg) rfl rfl ?_
  have hs1 := set_get (ownL 3 irs) e.f.toNat [.sl 4 3 0 (row.map encE).length] (by rw [ownL_len, hrl]; omega)
  refine nK2 ?_
  refine s_draw mixed ?_
  refine za ?_
  refine zg ?_
  refine zh ?_
  refine za ?_
  refine zg ?_
  refine zh ?_
  refine rpZ 49 rfl (op_idx_sl0 e.f.toNat rfl (oT rfl) (oT rfl) (by intro _; omega)) ?_
  refine rlZ 50 rfl (op_load1_refs rfl (oT rfl) (by intro _; exact ⟨rfl, hs1⟩) rfl) ?_
  refine zk ?_
  refine zbh ?_
  refine zco ?_
  refine rpZ 54 rfl (op_idx_sl0 e.f.toNat rfl (oT rfl) (oT rfl) (by intro _; omega)) ?_
  refine Run.effW (dd := none) rfl rfl (op_store_refs rfl (oT rfl) (oT rfl) tP rfl rfl hs1 tS) (by first | exact ext_call | exact tE) ?_
  refine zs ?_
  refine nK2 ?_
  refine zb ?_
  refine zl ?_
  refine za ?_
  refine zc ?_
  refine nK2 ?_
  refine Next.untake 2 e.f.toNat 0 rfl (set_get _ _ _ (by rw [List.length_set, ownL_len, hrl]; omega)) rfl rfl (by simp) rfl ?_
  refine Next.weak [0, 1, 2] [] (by rfl) (keepsN hC _ rfl) wG (by exact ⟨wS, ⟨wS, ⟨ent_own rfl rfl (congrArg (fun r => some (Ob.refs 1 r)) own_back), trivial⟩⟩⟩) wN hK1
 have hge : i = g.es.length := by simp at hb; omega
 subst hge
 rw [List.take_length]
 refine Next.freezeOwn 2 rfl rfl ?_
 have hFl : (fzL 3 (rowsE g.es k)).length = k := by rw [fzL_len, rowsE_len]
 refine Next.weakS [5] [7] (by rfl) (keepsN hC _ rfl) (G' := [(1, IV .i64 a), (5, .sl 0 1 0 k), (7, .fz (.vals 1 (fzL 3 (rowsE g.es k))))]) (H' := [(0, OI (List.replicate k (-1)))]) (by exact ⟨⟨_, rfl, .inl ⟨rfl, rfl⟩⟩, ⟨_, rfl, .inl ⟨rfl, rfl⟩⟩, ⟨_, rfl, .inr ⟨_, rfl, .sl _ _ _ _ _ _ rfl rfl (take_all0 hFl) (by rw [hFl])⟩⟩, trivial⟩) wR rfl ?_
 have hSet := set_c (newH k) (HG.new k).hi a 0 (by simpa [newH] using ha) (by simp [newH])
 obtain ⟨hDJ, hcnt0⟩ := DJ.start vg ha
 refine nK2 ?_
 refine zb ?_
 refine za ?_
 refine zbi ?_
 refine Run.eff (dd := some 58) rfl rfl (op_call (n := 0) (n' := 4) [] (fun _ => new_c k (by omega)) rfl (Opd.func _) (oS (oT rfl) Opds.nil) rfl rfl (Lent.of rfl rfl trivial rfl) rfl rfl rfl rfl rfl) ?_
 refine zd ?_
 refine zc ?_
 refine nK2 ?_
 refine zb ?_
 refine za ?_
 refine za ?_
 refine Run.eff (dd := some 61) rfl rfl (op_call (n := 4) (n' := 5) [1, 2, 3, 4] (fun _ => hSet) rfl (Opd.func _) (oS (oT rfl) (oS (oT rfl) (oS oC Opds.nil))) rfl rfl (Lent.of rfl rfl (by exact ⟨⟨rfl, rfl, rfl, tL⟩, ⟨rfl, rfl, rfl, trivial⟩, ⟨rfl, rfl, rfl, trivial⟩, ⟨rfl, rfl, rfl, trivial⟩, trivial⟩) rfl) rfl rfl rfl rfl rfl) ?_
 refine zc ?_
 refine nK2 ?_
 refine n_loop (ι := List Int × Hq) (fun s => ([(5, .sl 0 1 0 k), (7, .fz (.vals 1 (fzL 3 (rowsE g.es k)))), (10, .ptr 1 3 0 0)], HDS s.1 s.2, 5)) (fun s => DJ g.es k a s.1 s.2 []) (fun s => k - cntP s.1) (List.replicate k (-1), setH (newH k) a 0) hDJ ?_ ?_
 ·refine Next.weak [0, 1, 5, 3, 4] [] (by rfl) (keepsN hC _ rfl) wG wR wN rel_intro
 intro ⟨dist, h⟩ hI K hK
 try dsimp only at hI hK ⊢
 have hok' := hI.hg.hi
 have hdl := hI.dl
 have hpl := hI.hl
 have hsm := hok'.small
 by_cases hit : h.it = []
 ·have hpn := pop_none h hok' hit
  refine nK2 ?_
  refine zb ?_
  refine za ?_
  refine rlZ 64 rfl (op_call_read (n := 4) [1, 2, 3, 4] (fun _ => hpn) rfl (Opd.func _) (oS (oT rfl) Opds.nil) rfl rfl (Lent.of rfl rfl (by exact ⟨⟨rfl, rfl, rfl, tL⟩, ⟨rfl, rfl, rfl, trivial⟩, ⟨rfl, rfl, rfl, trivial⟩, ⟨rfl, rfl, rfl, trivial⟩, trivial⟩) rfl) rfl) ?_
  refine za ?_
  refine zi ?_
  refine zi ?_
  refine zi ?_
  refine zd ?_
  refine zd ?_
  refine zd ?_
  refine zc ?_
  refine nK2 ?_
  refine zb ?_
  refine za ?_
  refine zbj ?_
  refine zc ?_
  refine nK2 ?_
  refine n_cond _ rfl (fun hb => ?_) (fun hb => ?_)
  ·have hde : dist = d := by
    apply List.ext_getElem (by omega)
    intro v h1 h2
    have := (hI.done vg ha hit (v := v) (by omega)).uniq (hD v (by omega))
    simpa [gt0, List.getD_eq_getElem?_getD, h1, h2] using this
   subst hde
   refine nK2 ?_
   refine zb ?_
   refine za ?_
   refine zd ?_
   refine zc ?_
   refine nK2 ?_
   refine Next.weakS [] [4] (by rfl) (keeps0 hC _) (G' := [(4, .fz (VI dist))]) (H' := []) ⟨⟨_, rfl, .inr ⟨_, rfl, .sl _ _ _ _ _ _ rfl rfl (take_all0 (by rw [List.length_map]; exact hdl)) (by rw [List.length_map]; omega)⟩⟩, trivial⟩ trivial rfl ?_
   exact n_out1 rfl (by rfl) rfl rfl
  simp at hb
 have hne : 0 < h.it.length := Nat.pos_of_ne_zero fun e => hit (List.length_eq_zero_iff.1 e)
 have hps := pop_some h hok' hne (by omega)
 obtain ⟨x1, x2, x3, x4, x5, x6⟩ := hI.pop vg ha hne
 have hrx := row_of encN dist (h.item 0) 0 (by omega)
 have hcl := cntP_le (dist.set (h.item 0) (h.key (h.item 0)))
 rw [List.length_set] at hcl
 have hrE := fzL_get (sz := 3) (rowsE_get g.es x1)
 have hLsub : ∀ e ∈ outE g.es (h.item 0), e ∈ g.es ∧ e.f = (h.item 0 : Nat) := fun e he => by simpa [outE] using he
 have hLl : (outE g.es (h.item 0)).length ≤ 1024 := by
  have : (outE g.es (h.item 0)).length ≤ g.es.length := List.length_filter_le _ _
  omega
 have hdx : gt0 (dist.set (h.item 0) (h.key (h.item 0))) (h.item 0) = h.key (h.item 0) := by rw [gt0, getD_set _ _ _ _ _ (by omega), if_pos rfl]
 change DJ g.es k a (dist.set (h.item 0) (h.key (h.item 0))) (dropH h (h.item 0)) (outE g.es (h.item 0)) at x6
 generalize h.item 0 = x at *
 generalize h.key x = kx at *
 generalize dropH h x = h1 at *
 generalize outE g.es x = L at *
 refine nK2 ?_
 refine zb ?_
 refine za ?_
 refine Run.eff (dd := some 64) rfl rfl (op_call (n := 4) (n' := 5) [1, 2, 3, 4] (fun _ => hps) rfl (Opd.func _) (oS (oT rfl) Opds.nil) rfl rfl (Lent.of rfl rfl (by exact ⟨⟨rfl, rfl, rfl, tL⟩, ⟨rfl, rfl, rfl, trivial⟩, ⟨rfl, rfl, rfl, trivial⟩, ⟨rfl, rfl, rfl, trivial⟩, trivial⟩) rfl) rfl rfl rfl rfl rfl) ?_
 refine za ?_
 refine zi ?_
 refine zi ?_
 refine zi ?_
 refine zd ?_
 refine zd ?_
 refine zd ?_
 refine zc ?_
 refine nK2 ?_
 refine zb ?_
 refine za ?_
 refine zbj ?_
 refine zc ?_
 refine nK2 ?_
 refine n_cond _ rfl (fun hb => ?_) (fun hb => ?_)
 ·simp at hb
 refine nK2 ?_
 refine zb ?_
 refine za ?_
 refine za ?_
 refine za ?_
 refine rpZ 73 rfl (op_idx_sl0 x rfl (oT rfl) (oT rfl) (by intro _; exact ⟨rfl, x1⟩)) ?_
 refine Run.eff (dd := none) rfl rfl (op_store_flat rfl (oT rfl) (oT rfl) tC rfl rfl hrx tS) ?_
 refine zc ?_
 refine nK2 ?_
 refine zb ?_
 refine za ?_
 refine za ?_
 refine rpZ 76 rfl (op_idx_fz x rfl (oT rfl) (oT rfl) (by intro _; exact ⟨rfl, hrE⟩)) ?_
 refine zj ?_
 refine zo ?_
 refine zbb ?_
 refine zc ?_
 refine nK2 ?_
 refine n_loop (ι := Nat × Hq) (fun s => ([(5, .sl 0 1 0 k), (7, .fz (.vals 1 (fzL 3 (rowsE g.es k)))), (10, .ptr 1 3 0 0), (12, IV .i64 kx), (77, .fz (VE L)), (78, IV .i64 L.length), (79, IV .i64 s.1)], HDS (dist.set x kx) s.2, 5)) (fun s => s.1 ≤ L.length ∧ DJ g.es k a (dist.set x kx) s.2 (L.drop s.1)) (fun s => L.length - s.1) (0, h1) ⟨Nat.zero_le _, x6⟩ ?_ ?_
 ·refine Next.weak [0, 1, 5, 3, 4] [] (by rfl) (keepsN hC _ rfl) wG (by exact ⟨ent_same rfl rfl (flEq rfl (by rw [List.map_set]; rfl)) trivial, ⟨wS, ⟨wS, ⟨wS, ⟨wS, trivial⟩⟩⟩⟩⟩) wN rel_intro
 intro ⟨j, h2⟩ ⟨hj, hJ⟩ K2 hK2
 try dsimp only at hj hJ hK2 ⊢
 refine nK2 ?_
 refine zb ?_
 refine zp ?_
 refine zc ?_
 refine nK2 ?_
 refine n_cond _ rfl (fun hb => ?_) (fun hb => ?_)
 ·have hlt : j < L.length := by simp at hb; omega
  have hr1 := row_at' encE L j hlt
  obtain ⟨he, hef⟩ := hLsub _ (List.getElem_mem hlt)
  rw [List.drop_eq_getElem_cons hlt] at hJ
  have hK3 := fun h3 hh => hK2 (j + 1, h3) ⟨by dsimp only; omega, hh⟩ (by dsimp only; omega)
  dsimp only at hK3
  generalize L[j] = e at *
  have het := vg.t e he
  have hec := vg.c e he
  have hJo := hJ.hg.hi
  have hJl := hJ.hl
  have hJs := hJo.small
  have hJd := hJ.dl
  have hket := key_i h2 hJo.ok e.t e.t.toNat (by omega) (by omega)
  have hrt := row_of encN (dist.set x kx) e.t.toNat 0 (by omega)
  have hput := fun hc => hJ.put vg he (by rw [hef, Int.toNat_natCast, hdx]; exact x3) (by rw [hef, Int.toNat_natCast, hdx, x5]; omega) hc
  have hskip := fun hc => hJ.skip vg hc
  have hset := set_i h2 hJo e.t e.t.toNat (kx + e.c) (by omega) (by omega) (by omega)
  have hfx : gt0 (dist.set x kx) e.f.toNat = kx := by rw [hef, Int.toNat_natCast]; exact hdx
  rw [hfx] at hput hskip
  have hgt : (dist.set x kx).getD e.t.toNat 0 = gt0 (dist.set x kx) e.t.toNat := rfl
  rw [hgt] at hrt
  have hqb := hJ.q e.t.toNat (by omega)
  refine nK2 ?_
  refine zb ?_
  refine zz ?_
  refine zbf ?_
  refine zu ?_
  refine zr ?_
  refine zc ?_
  refine nK2 ?_
  refine zb ?_
  refine za ?_
  refine zg ?_
  refine zh ?_
  refine rlZ 87 rfl (op_call_read (n := 4) [1, 2, 3, 4] (fun _ => hket) rfl (Opd.func _) (oS (oT rfl) (oS (oT rfl) Opds.nil)) rfl rfl (Lent.of rfl rfl (by exact ⟨⟨rfl, rfl, rfl, tL⟩, ⟨rfl, rfl, rfl, trivial⟩, ⟨rfl, rfl, rfl, trivial⟩, ⟨rfl, rfl, rfl, trivial⟩, trivial⟩) rfl) rfl) ?_
  refine za ?_
  refine zi ?_
  refine zi ?_
  refine zd ?_
  refine zd ?_
  refine zc ?_
  refine nK2 ?_
  refine zb ?_
  refine za ?_
  refine zg ?_
  refine zh ?_
  refine rpZ 93 rfl (op_idx_sl0 e.t.toNat rfl (oT rfl) (oT rfl) (by intro _; omega)) ?_
  refine rlZ 94 rfl (op_load1_flat rfl (oT rfl) (by intro _; exact ⟨rfl, hrt⟩) rfl) ?_
  refine zbn ?_
  refine za ?_
  refine zf ?_
  refine zbl ?_
  refine zbp ?_
  refine zf ?_
  refine zn ?_
  refine zm ?_
  refine zbs ?_
  refine zf ?_
  refine zbk ?_
  refine zcd ?_
  refine zt ?_
  refine zc ?_
  refine nK2 ?_
  refine n_cond _ rfl (fun hb => ?_) (fun hb => ?_)
  ·have hc : gt0 (dist.set x kx) e.t.toNat < 0 ∧ (h2.place e.t.toNat < 0 ∨ kx + e.c < h2.key e.t.toNat) := by
    simp only [Bool.and_eq_true, Bool.or_eq_true, Bool.not_eq_true', decide_eq_true_eq, decide_eq_false_iff_not] at hb
    refine ⟨hb.1, ?_⟩
    rcases hb.2 with h5 | h5
    ·exact .inl (by omega)
    by_cases h6 : 0 ≤ h2.place e.t.toNat
    ·rw [if_pos h6] at h5; exact .inr h5
    exact .inl (by omega)
   refine nK2 ?_
   refine zb ?_
   refine za ?_
   refine zg ?_
   refine zh ?_
   refine za ?_
   refine zg ?_
   refine zh ?_
   refine zbc ?_
   refine Run.eff (dd := some 115) rfl rfl (op_call (n := 4) (n' := 5) [1, 2, 3, 4] (fun _ => hset) rfl (Opd.func _) (oS (oT rfl) (oS (oT rfl) (oS (oT rfl) Opds.nil))) rfl rfl (Lent.of rfl rfl (by exact ⟨⟨rfl, rfl, rfl, tL⟩, ⟨rfl, rfl, rfl, trivial⟩, ⟨rfl, rfl, rfl, trivial⟩, ⟨rfl, rfl, rfl, trivial⟩, trivial⟩) rfl) rfl rfl rfl rfl rfl) ?_
   refine zc ?_
   refine nK2 ?_
   refine zb ?_
   refine zl ?_
   refine za ?_
   refine zc ?_
   refine nK2 ?_
   refine Next.weak [0, 1, 6, 3, 4] [] (by rfl) (keepsN hC _ rfl) wG wR wN (hK3 _ (hput hc))
  have hc : ¬ (gt0 (dist.set x kx) e.t.toNat < 0 ∧ (h2.place e.t.toNat < 0 ∨ kx + e.c < h2.key e.t.toNat)) := fun hc => by
   rw [Bool.eq_false_iff] at hb
   apply hb
   simp only [Bool.and_eq_true, Bool.or_eq_true, Bool.not_eq_true', decide_eq_true_eq, decide_eq_false_iff_not]
   refine ⟨hc.1, ?_⟩
   by_cases h6 : 0 ≤ h2.place e.t.toNat
   ·rw [if_pos h6]
    rcases hc.2 with h5 | h5
    ·omega
    exact .inr h5
   exact .inl (by omega)
  refine nK2 ?_
  refine zb ?_
  refine zl ?_
  refine za ?_
  refine zc ?_
  refine nK2 ?_
  refine Next.weak [0, 1, 2, 3, 4] [] (by rfl) (keepsN hC _ rfl) wG wR wN (hK3 _ (hskip hc))
 have hje : j = L.length := by simp at hb; omega
 subst hje
 rw [List.drop_length] at hJ
 refine nK2 ?_
 refine Next.weak [0, 1, 2, 3, 4] [] (by rfl) (keepsN hC _ rfl) wG wR wN (hK (dist.set x kx, h2) hJ (by dsimp only; omega))
open Go Go.RT Go.Proofs Go.Pl
set_option maxRecDepth 20000
set_option maxHeartbeats 2000000
theorem parents_c (g : Gr) (a : Nat) (d : List Int) (hg : checkI g = 0) (hd : d.length = (g.r + g.n).toNat) (hD : ∀ v, v < (g.r + g.n).toNat → -1 ≤ gt0 d v ∧ gt0 d v ≤ 10000000) : Pure Tryz.prog 22 [.agg (encG g), If .i64 a, VI d] (VLL (parL g.es a d (g.r + g.n).toNat)) := by
 obtain ⟨vg, hr0, hn0⟩ := checkI_vg hg
 have hn := vg.n128
 have hel := vg.e1024
 generalize hN : (g.r + g.n).toNat = n at *
 refine Meets.intro Tryz.func22 rfl (Nat.le_of_ble_eq_true rfl) fun C hC => ?_
 simp only [List.map, argEnv, Nat.reduceAdd]
 refine nK2 ?_
 refine zb ?_
 refine zq ?_
 refine ze ?_
 refine zc ?_
 refine nK2 ?_
 refine zb ?_
 refine za ?_
 refine zo ?_
 refine Run.eff (dd := some 12) rfl rfl (op_make (l := n) (c := n) rfl (oT rfl) (oT rfl) rfl rfl rfl rfl (by intro _; rw [hd]; refine ⟨rfl, rfl, ?_⟩; omega)) ?_
 refine zd ?_
 refine zc ?_
 refine nK2 ?_
 refine Next.toOwn 1 1 n rfl ?_
 refine Next.weak [0, 1] [] (by rfl) (keepsN hC _ rfl) (G' := [(1, IV .i64 a), (2, .fz (VI d)), (3, .ptr 0 3 0 0), (7, .sl 1 1 0 n)]) (H' := [(0, OG g), (1, some (.refs 1 (ownL 1 (rowsI (parL [] a d n)))))]) wG (by exact ⟨wS, ⟨ent_own rfl rfl (by rw [parL_nil, rowsI_nil, ← ownL_rep]; rfl), trivial⟩⟩) wN ?_
 refine nK2 ?_
 refine zb ?_
 refine zg ?_
 refine zh ?_
 refine zo ?_
 refine zbb ?_
 refine zc ?_
 refine nK2 ?_
 refine n_loop (ι := Nat) (fun i => ([(1, IV .i64 a), (2, .fz (VI d)), (7, .sl 0 1 0 n), (14, .fz (VE g.es)), (15, IV .i64 g.es.length), (16, IV .i64 i)], [(0, some (.refs 1 (ownL 1 (rowsI (parL (g.es.take i) a d n)))))], 1)) (fun i => i ≤ g.es.length) (fun i => g.es.length - i) 0 (Nat.zero_le _) ?_ ?_
 ·refine Next.weak [1] [] (by rfl) (keepsN hC _ rfl) wG (by exact ⟨ent_own rfl rfl rfl, trivial⟩) wN rel_intro
 intro i hi K hK
 try dsimp only at hi ⊢
 refine nK2 ?_
 refine zb ?_
 refine zp ?_
 refine zc ?_
 refine nK2 ?_
 refine n_cond _ rfl (fun hb => ?_) (fun hb => ?_)
 ·have hlt : i < g.es.length := by simp at hb; omega
  have hr1 := row_at' encE g.es i hlt
  have hef := vg.f _ (List.getElem_mem hlt)
  have het := vg.t _ (List.getElem_mem hlt)
  have hec := vg.c _ (List.getElem_mem hlt)
  have hyes := parL_yes (n := n) (a := a) (d := d) hlt het.1
  have hno := parL_no (n := n) (a := a) (d := d) hlt
  have hgt := parL_get (g.es.take i) a d (n := n) (v := g.es[i].t.toNat) (by omega)
  have hpl := parL_len (g.es.take i) a d n
  have hlen : (parE (g.es.take i) a d g.es[i].t.toNat).length ≤ 1024 := by
   have h1 : (parE (g.es.take i) a d g.es[i].t.toNat).length ≤ (g.es.take i).length := by unfold parE; rw [List.length_map]; exact List.length_filter_le _ _
   have h2 : (g.es.take i).length ≤ g.es.length := List.length_take_le' _ _
   omega
  have hK1 := hK (i + 1) (by omega) (by omega)
  generalize parL (g.es.take (i + 1)) a d n = ll2 at *
  generalize parL (g.es.take i) a d n = ll at *
  have hrg := rowsI_get (ll := ll) (v := g.es[i].t.toNat) (by omega)
  rw [hgt] at hrg
  generalize parE (g.es.take i) a d g.es[i].t.toNat = row at *
  generalize g.es[i] = e at *
  have hrf := row_of encN d e.f.toNat 0 (by omega)
  have hrt := row_of encN d e.t.toNat 0 (by omega)
  have hDf := hD e.f.toNat (by omega)
  have hgf : d.getD e.f.toNat 0 = gt0 d e.f.toNat := rfl
  have hgt2 : d.getD e.t.toNat 0 = gt0 d e.t.toNat := rfl
  rw [hgf] at hrf; rw [hgt2] at hrt
  refine nK2 ?_
  refine zb ?_
  refine zz ?_
  refine zbf ?_
  refine zu ?_
  refine zr ?_
  refine zc ?_
  refine nK2 ?_
  refine s_draw mixed ?_
  refine zg ?_
  refine zh ?_
  refine za ?_
  refine zbg ?_
  refine za ?_
  refine zf ?_
  refine zn ?_
  refine zm ?_
  refine rgZ 28 rfl rfl tG (op_idx_fz e.f.toNat rfl (oO rfl tO) (oO rfl tO) (by intro _; exact ⟨by omega, hrf⟩)) ?_
  refine zw ?_
  refine zcw ?_
  refine zt ?_
  refine za ?_
  refine zf ?_
  refine zn ?_
  refine zm ?_
  refine rgZ 36 rfl rfl tG (op_idx_fz e.f.toNat rfl (oO rfl tO) (oO rfl tO) (by intro _; exact ⟨by omega, hrf⟩)) ?_
  refine zw ?_
  refine zn ?_
  refine zm ?_
  refine zbs ?_
  refine zf ?_
  refine zn ?_
  refine zm ?_
  refine rgZ 44 rfl rfl tG (op_idx_fz e.t.toNat rfl (oO rfl tO) (oO rfl tO) (by intro _; exact ⟨by omega, hrt⟩)) ?_
  refine zw ?_
  refine zbo ?_
  refine zt ?_
  refine zs ?_
  refine nK2 ?_
  refine n_cond _ rfl (fun hb => ?_) (fun hb => ?_)
  ·rw [← hyes hb] at hK1
   refine nK2 ?_
   refine Next.take 0 e.t.toNat 0 rfl (ownL_get hrg) rfl rfl ?_
   have hs1 := set_get (ownL 1 (rowsI ll)) e.t.toNat [.sl 2 1 0 (row.map encN).length] (by rw [ownL_len, rowsI_len, hpl]; omega)
   refine nK2 ?_
   refine s_draw mixed ?_
   refine za ?_
   refine zg ?_
   refine zh ?_
   refine za ?_
   refine zg ?_
   refine zh ?_
   refine rpZ 54 rfl (op_idx_sl0 e.t.toNat rfl (oT rfl) (oT rfl) (by intro _; omega)) ?_
   refine rlZ 55 rfl (op_load1_refs rfl (oT rfl) (by intro _; exact ⟨rfl, hs1⟩) rfl) ?_
   refine zg ?_
   refine zh ?_
   refine zbh ?_
   refine zco ?_
   refine rpZ 60 rfl (op_idx_sl0 e.t.toNat rfl (oT rfl) (oT rfl) (by intro _; omega)) ?_
   refine Run.effW (dd := none) rfl rfl (op_store_refs rfl (oT rfl) (oT rfl) tP rfl rfl hs1 tS) (by first | exact ext_call | exact tE) ?_
   refine zs ?_
   refine nK2 ?_
   refine zb ?_
   refine zl ?_
   refine za ?_
   refine zc ?_
   refine nK2 ?_
   refine Next.untake 0 e.t.toNat 0 rfl (set_get _ _ _ (by rw [List.length_set, ownL_len, rowsI_len, hpl]; omega)) rfl rfl (by simp) rfl ?_
   refine Next.weak [0] [] (by rfl) (keepsN hC _ rfl) wG (by exact ⟨ent_own rfl rfl (congrArg (fun r => some (Ob.refs 1 r)) (own_back.trans (congrArg _ (by rw [← rowsI_set, List.map_append]; rfl)))), trivial⟩) wN hK1
  rw [← hno (by rw [Bool.not_eq_true]; exact hb)] at hK1
  refine nK2 ?_
  refine zb ?_
  refine zl ?_
  refine za ?_
  refine zc ?_
  refine nK2 ?_
  refine Next.weak [0] [] (by rfl) (keepsN hC _ rfl) wG (by exact ⟨ent_own rfl rfl rfl, trivial⟩) wN hK1
 have hge : i = g.es.length := by simp at hb; omega
 subst hge
 rw [List.take_length]
 refine Next.freezeOwn 0 rfl rfl ?_
 refine nK2 ?_
 refine zb ?_
 refine za ?_
 refine zd ?_
 refine zc ?_
 refine nK2 ?_
 have hFl : (fzL 1 (rowsI (parL g.es a d n))).length = n := by rw [fzL_len, rowsI_len, parL_len]
 refine Next.weakS [] [6] (by rfl) (keeps0 hC _) (G' := [(6, .fz (VLL (parL g.es a d n)))]) (H' := []) ⟨⟨_, rfl, .inr ⟨_, rfl, .sl _ _ _ _ _ _ rfl rfl ((take_all0 hFl).trans (fz_rowsI _)) (by rw [← fz_rowsI, hFl])⟩⟩, trivial⟩ trivial rfl ?_
 exact n_out1 rfl (by rfl) rfl rfl
end Go.Proofs.YtmapchjcnifeiaaGreat
/- The kit's contract of slices.SortFunc at elements of one cell, with a closure over frozen data. -/
namespace Go.RT
open Go Go.Proofs Go.Sort Go.Shelf
set_option linter.all false
variable {P : Program} {ρ : Ren}
theorem cmp_lays1 {g : Nat} {β : Type} [Inhabited β] {ev : β → Value} {cf : β → β → Int} {caps : List FV} (hc : ∀ x y, Pure P g ([.lit (ev x), .lit (ev y)] ++ caps) (If .i64 (cf x y))) {blk off size : Nat} {w : World} {S : Nat → Prop} {cb : Array Value} (hblk : ¬ S blk) (hS : ∀ b, S b → b < w.heap.size)
    (hcl : cb.size = caps.length) (hcr : ∀ (i : Nat) (v : Value) (f : FV), cb[i]? = some v → caps[i]? = some f → FRep w S v f) {c : Array Value} {e : TypeId} (hb : w.heap[blk]? = some (.cells c e (0, 0))) : CmpLays1 P g cb ev cf blk off size w := by
  intro m os dk _ x y
  have hsame : ∀ b, S b → (sortWorld ev w blk off m dk os).heap[b]? = w.heap[b]? := fun b hs => by
    have hbl := hS b hs
    have hne : b ≠ blk := fun e => hblk (e ▸ hs)
    unfold sortWorld putRow
    rw [mapBlock_setRow (w := Go.Sort.ahead w m) (b := blk) (c := c) (e := e) (fr := (0, 0)) _ hb]
    have : (grow ((Go.Sort.ahead w m).setRow blk (putCells ev off dk c)) os) = grown (w.setRow blk (putCells ev off dk c)) os m := rfl
    rw [this, grown_old _ _ _ (by simpa using hbl), setRow_other w blk b _ hne]
  have hsz : w.heap.size ≤ (sortWorld ev w blk off m dk os).heap.size := by
    unfold sortWorld putRow
    rw [mapBlock_setRow (w := Go.Sort.ahead w m) (b := blk) (c := c) (e := e) (fr := (0, 0)) _ hb]
    have : (grow ((Go.Sort.ahead w m).setRow blk (putCells ev off dk c)) os) = grown (w.setRow blk (putCells ev off dk c)) os m := rfl
    rw [this]; simp [grown]
  generalize sortWorld ev w blk off m dk os = W at hsame hsz
  let C : Cx := ⟨W, fun _ => False, S, fun _ => none, 0⟩
  have hm : Mem C [] 0 C.S0 C.m0 C.w0 := ⟨⟨rfl, Nat.le_refl _⟩, rfl, rfl, fun _ _ => rfl, Nat.le_refl _, fun _ _ _ => rfl, Le.refl _ _ _, fun b h => .inl h, fun i x hx => (by cases hx), fun i o h => (by cases h), fun i o b h => (by cases h), fun i j o1 o2 b h => (by cases h), fun b hb => Nat.lt_of_lt_of_le (hS b hb) hsz, fun _ _ => rfl, nst_nil⟩
  have := (hc x y).run C ([ev x, ev y] ++ cb.toList) rfl hm (by simp [hcl]) (fun i v p hi hp => by
    rw [List.getElem?_map] at hp
    obtain ⟨f, hf, rfl⟩ := Option.map_eq_some_iff.1 hp
    match i with
    | 0 => simp at hi hf; subst hi; subst hf; exact .fz _ _ (.lit _)
    | 1 => simp at hi hf; subst hi; subst hf; exact .fz _ _ (.lit _)
    | i + 2 =>
      simp at hi hf
      exact .fz _ _ ((hcr i v f hi hf).mono (fun _ h => h) hsame))
  have h2 : Calls P g (#[ev x, ev y] ++ cb) W (fun e w' => ∃ v S' m', e = .returned v ∧ Mem C [] 0 S' m' w' ∧ Rep w' S' m' v (.fz (If .i64 (cf x y)))) := by
    have e1 : ([ev x, ev y] ++ cb.toList).toArray = #[ev x, ev y] ++ cb := by simp
    rw [e1] at this; exact this
  refine h2.mono fun e w' ⟨v, S', m', he, hm', hr⟩ => ?_
  obtain ⟨q, os', hw⟩ := hm'.is_grown (fun b h => h)
  refine ⟨by rw [he]; cases hr with | fz _ _ h => cases h; rfl, q, os', hw⟩
theorem sort1_meets (L : SlLaysF.n6 P ρ) {β : Type} [Inhabited β] {ev : β → Value} (h1 : OneCell ev) {cf : β → β → Int} (hO : SWO (ltOf cf)) {g : Nat} [FnB P g] {caps : List FV}
    (hc : ∀ x y, Pure P g ([.lit (ev x), .lit (ev y)] ++ caps) (If .i64 (cf x y))) {l : List β} (hl : l.length < 4611686018427387904) :
    Meets P (ρ.f 6) [.sl 0 1 0 l.length, .fz (.clo g caps)] 1 [(0, some (.flat 1 (l.map fun x => [.lit (ev x)])))] (.fz (.tup [])) [(0, some (.flat 1 ((sortBy cf l).map fun x => [.lit (ev x)])))] 1 := by
  refine ⟨fun C vs hn hm hlv hr => ?_⟩
  have hg : ∀ args w, (callFunc g args).run P w = .ok (.enter g args) w := fun args w => by
    obtain ⟨fn, q1, q2, q3⟩ := (inferInstance : FnB P g).h
    have h4 : ¬ (fn.body = none) := by intro e; rw [e] at q3; cases q3
    have h5 : ¬ (fn.name = "runtime.NumGoroutine") := by simpa using q2
    simp [callFunc, q1, h4, h5]
  have tupR : ∀ w' S' m', Rep w' S' m' (.tuple #[]) (.fz (.tup [])) := fun w' S' m' => .fz _ _ (.tup #[] [] rfl (fun i c f hc => by simp at hc))
  match vs, hlv, hr with
  | [v0, v1], _, hr =>
  have r0 := hr 0 v0 _ rfl rfl
  have r1 := (hr 1 v1 _ rfl rfl).frz
  have ho := hm.objs 0 _ rfl
  obtain ⟨hs1, hs2, _⟩ := sortBy_spec cf hO l
  cases r1 with
  | clo _ cb _ hcl hcr =>
  generalize hll : l.length = n at r0 hl
  cases r0 with
  | sl0 =>
    have : l = [] := List.length_eq_zero_iff.1 hll
    subst this
    have e : sortBy cf ([] : List β) = [] := List.length_eq_zero_iff.1 hs2
    rw [e]
    refine (AnyF.slices_SortFunc_none (P := P) (ρ := ρ) { L with } none 0 (.func (.func g) #[] cb) C.w0).mono fun e w' ⟨he, hw⟩ => ?_
    subst hw
    exact ⟨_, _, _, he, hm, tupR _ _ _⟩
  | sl _ _ _ _ b cap h hroom hcap hmx =>
    rcases ho with ⟨h2, _⟩ | ⟨b', c, e, h2, h3, h4⟩
    · rw [h] at h2; cases h2
    · rw [h] at h2; cases h2
      obtain ⟨hsz, _, hR⟩ := h4
      obtain ⟨hb1, hb2, hb3⟩ := hm.blk 0 _ b rfl h
      have hcells : ∀ j (hj : j < l.length), c[j]? = some (ev l[j]) := fun j hj => by
        obtain ⟨u, hu, _, hf⟩ := hR j 0 [.lit (ev l[j])] (.lit (ev l[j])) (by simp [hj]) rfl
        cases hf
        simpa using hu
      have hH : Holds ev C.w0 b (0 * 1) l.toArray := by
        intro j hj
        simp at hj
        refine ⟨?_, ?_⟩
        · simp only [World.cell?, h3, Nat.zero_mul, Nat.zero_add]
          rw [getElem!_pos _ j (by simpa using hj)]
          simpa using hcells j hj
        · simp [World.frozen?, h3]
      have hcall := Any.slices_SortFunc_eq L ev h1 cf hO g cb b (0 * 1) cap l.toArray C.w0 hg (cmp_lays1 hc hb1 hm.stab hcl hcr h3) hH hb2 (by simpa [hll] using hl)
      rw [show l.toArray.size = n by simpa using hll] at hcall
      refine hcall.mono fun ex w' ⟨he, q, os, hw⟩ => ?_
      subst hw
      have hd : pdq (ltOf cf) l.toArray 0 n (Lib.bitLen n) true true = (sortBy cf l).toArray := by rw [← hll]; simp [sortBy]
      rw [hd]
      have hset : sortWorld ev C.w0 b (0 * 1) q (sortBy cf l).toArray os = grown (C.w0.setRow b (putCells ev 0 (sortBy cf l).toArray c)) os q := by
        unfold sortWorld putRow
        rw [mapBlock_setRow (w := Go.Sort.ahead C.w0 q) (b := b) (c := c) (e := e) (fr := (0, 0)) _ h3, Nat.zero_mul]
        rfl
      rw [hset]
      have hps : (putCells ev 0 (sortBy cf l).toArray c).size = c.size := by simp [putCells]
      have hrr : ∀ w' : World, RowsRep (FRep w' C.S0) (putCells ev 0 (sortBy cf l).toArray c) 1 ((sortBy cf l).map fun x => [FV.lit (ev x)]) := fun w' => by
        refine ⟨by rw [hps]; simpa [hs2] using hsz, fun r hr => ?_, fun i j r p hi hj => ?_⟩
        · obtain ⟨x, _, rfl⟩ := List.mem_map.1 hr
          rfl
        · rw [List.getElem?_map] at hi
          obtain ⟨x, hx, rfl⟩ := Option.map_eq_some_iff.1 hi
          have hin : i < (sortBy cf l).length := (List.getElem?_eq_some_iff.1 hx).1
          match j, hj with
          | 0, hj =>
            cases hj
            have hlt2 : i < c.size := by simp at hsz; omega
            refine ⟨ev x, ?_, h1 x, .lit _⟩
            unfold putCells
            rw [Nat.mul_one, Nat.add_zero, Array.getElem?_mapIdx, Array.getElem?_eq_getElem hlt2]
            simp only [Option.map_some, Nat.zero_le, true_and, Nat.zero_add, List.size_toArray, Nat.sub_zero]
            rw [if_pos hin, getElem!_pos _ i (by simpa using hin)]
            rw [List.getElem?_eq_getElem hin] at hx
            cases hx; simp
          | j + 1, hj => simp at hj
      obtain ⟨m1, hle1⟩ := hm.write (id := 0) (o' := .flat 1 ((sortBy cf l).map fun x => [.lit (ev x)])) rfl h h3 hps (plain_hown (by exact trivial)) (fun w' hle hb => .inr ⟨b, _, e, h, hb, hrr w'⟩)
      refine ⟨_, _, _, he, ((m1.reheap (H' := [(0, some (.flat 1 ((sortBy cf l).map fun x => [.lit (ev x)])))]) (fun id => ?_)).grow os q).1, tupR _ _ _⟩
      simp only [hlook]
      cases Nat.beq 0 id <;> rfl
end Go.RT
namespace Go.Proofs.YtmapchjcnifeiaaGreat
open Go Go.RT Go.Proofs Go.Pl
set_option linter.all false
set_option maxRecDepth 20000
set_option maxHeartbeats 2000000
instance : FnOv Tryz.prog 59 31   := ⟨_, 4, Tryz.func59, by decide +kernel, rfl, by kernel_rfl, by kernel_rfl⟩
theorem inserti_c (l : List Int) (x : Int) (i : Nat) (hn : l.length ≤ 2000000) (hi : i ≤ l.length) : Meets Tryz.prog 45 [.sl 0 1 0 l.length, IV .i64 i, .sl 1 1 0 1] 2 [(0, OI l), (1, OI [x])] (.sl 2 1 0 (l.length + 1)) [(2, OI (insL l i x))] 3 := by
 have hil := insL_len l i x hi
 have e0 : ∀ xs ys : List Int, List.map encN (xs ++ ys) = xs.map encN ++ ys.map encN := fun xs ys => List.map_append
 refine Meets.intro Tryz.func45 rfl (Nat.le_of_ble_eq_true rfl) fun C hC => ?_
 simp only [List.map, argEnv, Nat.reduceAdd]
 by_cases hie : i = l.length
 ·refine nK ?_
  refine zb ?_
  refine ze ?_
  refine zc ?_
  refine nK ?_
  refine zb ?_
  refine za ?_
  refine za ?_
  refine rlZ 12 rfl (op_slice_end (l := i) (h := l.length) rfl (oT rfl) (Bnd.yes _ _ _ _ _ (oT rfl) tQ) (Bnd.no _) (by intro _; refine ⟨rfl, ?_⟩; rw [List.length_map]; omega)) ?_
  refine zc ?_
  refine nK ?_
  refine zb ?_
  refine za ?_
  refine zbi ?_
  refine zd ?_
  refine zc ?_
  refine nK ?_
  refine zb ?_
  refine za ?_
  refine zci ?_
  refine zc ?_
  refine nK ?_
  refine n_cond _ rfl (fun hb => ?_) (fun hb => ?_)
  ·simp at hb
  refine nK ?_
  refine zb ?_
  refine za ?_
  refine zbi ?_
  refine zd ?_
  refine zc ?_
  refine nK ?_
  refine zb ?_
  refine za ?_
  refine za ?_
  refine zbr ?_
  refine zc ?_
  refine nK ?_
  refine n_cond _ rfl (fun hb => ?_) (fun hb => ?_)
  ·have e4 : insL l i x = l ++ [x] := by rw [hie]; simp [insL]
   refine nK ?_
   refine zb ?_
   refine za ?_
   refine za ?_
   refine zdi ?_
   refine zd ?_
   refine zc ?_
   refine nK ?_
   refine Next.weakS [0, 2, 6] [] (by rfl) (keepsN hC _ rfl) (G' := [(6, .sl 2 1 0 (l.length + 1))]) (H' := [(2, OI (insL l i x))]) (by exact ⟨⟨_, rfl, .inl ⟨rfl, rfl⟩⟩, trivial⟩) (by exact ⟨ent_same rfl rfl (by rw [e4, e0]; rfl) trivial, trivial⟩) rfl ?_
   exact n_out1 rfl (by rfl) rfl rfl
  exfalso; simp at hb; omega
 refine nK ?_
 refine zb ?_
 refine ze ?_
 refine zc ?_
 refine nK ?_
 refine zb ?_
 refine za ?_
 refine za ?_
 refine rlZ 12 rfl (op_slice_view (l := i) (h := l.length) rfl (oT rfl) (Bnd.yes _ _ _ _ _ (oT rfl) tQ) (Bnd.no _) (by intro _; refine ⟨rfl, ?_⟩; rw [List.length_map]; omega)) ?_
 refine zc ?_
 refine nK ?_
 refine zb ?_
 refine za ?_
 refine zbi ?_
 refine zd ?_
 refine zc ?_
 refine nK ?_
 refine zb ?_
 refine za ?_
 refine zci ?_
 refine zc ?_
 refine nK ?_
 refine n_cond _ rfl (fun hb => ?_) (fun hb => ?_)
 ·simp at hb
 refine nK ?_
 refine zb ?_
 refine za ?_
 refine zbi ?_
 refine zd ?_
 refine zc ?_
 refine nK ?_
 refine zb ?_
 refine za ?_
 refine za ?_
 refine zbr ?_
 refine zc ?_
 refine nK ?_
 refine n_cond _ rfl (fun hb => ?_) (fun hb => ?_)
 ·exfalso; simp at hb; omega
 refine Next.capE 0 rfl rfl rfl (Nat.zero_le _) fun cap hc1 hc2 hc3 => ?_
 unfold maxLen at hc3
 refine nK ?_
 refine zb ?_
 refine za ?_
 refine za ?_
 refine zbc ?_
 refine za ?_
 refine rpZ 30 rfl (op_cap rfl (oT rfl)) ?_
 refine zcn ?_
 refine zc ?_
 refine nK ?_
 refine n_cond _ rfl (fun hb => ?_) (fun hb => ?_)
 ·have hc4 : cap < l.length + 1 := by simp at hb; omega
  have hlen2 : ((l.map encN).take i ++ List.replicate (l.length + 1 - i) (encN 0)).length = l.length + 1 := by simp; omega
  refine nK ?_
  refine zb ?_
  refine za ?_
  refine za ?_
  refine rpZ 34 rfl (op_slice_room (h := i) rfl (oT rfl) (Bnd.yes _ _ _ _ _ (oT rfl) tQ) (by intro _; omega)) ?_
  refine za ?_
  refine za ?_
  refine zbc ?_
  refine za ?_
  refine zbw ?_
  refine Run.eff (dd := some 40) rfl rfl (op_append_zg (k := l.length + 1 - i) (zs := encN 0) rfl (oT rfl) (opdI (oT rfl) (by omega)) rfl rfl rfl rfl rfl (by rw [List.length_map]; omega) (by omega) (by omega) (by omega) (by omega)) ?_
  refine zd ?_
  refine zc ?_
  refine nK ?_
  have hz : ∀ k : Nat, (some (Ob.flat 1 ((l.map encN).take i ++ List.replicate k [If .i64 0]))) = some (.flat 1 ((l.map encN).take i ++ List.replicate k (encN 0))) := fun _ => rfl
  refine nK ?_
  refine zb ?_
  refine za ?_
  refine za ?_
  refine rlZ 43 rfl (op_slice_view (l := i) (h := i + (l.length + 1 - i)) rfl (oT rfl) (Bnd.yes _ _ _ _ _ (oT rfl) tQ) (Bnd.no _) (by intro _; refine ⟨rfl, ?_⟩; rw [hlen2]; omega)) ?_
  refine za ?_
  refine Run.eff (dd := some 45) rfl rfl (op_copy (n := 1) (rs := [x].map encN) rfl (oT rfl) (oT rfl) rfl rfl (by show min _ _ = _; omega) rfl rfl (by rw [hlen2]; omega)) ?_
  refine zc ?_
  refine nK ?_
  have hlen3 : (((l.map encN).take i ++ List.replicate (l.length + 1 - i) (encN 0)).take (0 + i) ++ [x].map encN ++ ((l.map encN).take i ++ List.replicate (l.length + 1 - i) (encN 0)).drop (0 + i + 1)).length = l.length + 1 := by simp; omega
  refine nK ?_
  refine s_draw mixed ?_
  refine za ?_
  refine za ?_
  refine za ?_
  refine zbc ?_
  refine rlZ 50 rfl (op_slice_view (l := i + 1) (h := i + (l.length + 1 - i)) rfl (oT rfl) (Bnd.yes _ _ _ _ _ (oT rfl) tQ) (Bnd.no _) (by intro _; refine ⟨rfl, ?_⟩; rw [hlen3]; omega)) ?_
  refine za ?_
  refine za ?_
  refine rlZ 53 rfl (op_slice_view (l := i) (h := l.length) rfl (Opd.wc _ _ _ (oT rfl)) (Bnd.yes _ _ _ _ _ (oT rfl) tQ) (Bnd.no _) (by intro _; refine ⟨rfl, ?_⟩; rw [List.length_map]; omega)) ?_
  refine Run.effW (dd := some 54) rfl rfl (op_copy (n := l.length - i) (rs := (l.map encN).drop i) rfl (oT rfl) (oT rfl) rfl rfl (by show min _ _ = _; omega) (by rw [Nat.zero_add, List.take_of_length_le (by simp)]) (by simp) (by rw [hlen3]; omega)) tE ?_
  refine zs ?_
  refine nK ?_
  have hgr := ins_grow (l.map encN) i (encN x) (encN 0) (by rw [List.length_map]; omega)
  rw [List.length_map, ← insL_map] at hgr
  refine nK ?_
  refine zb ?_
  refine za ?_
  refine zd ?_
  refine zc ?_
  refine nK ?_
  refine Next.weakS [0, 2, 6] [] (by rfl) (keepsN hC _ rfl) (G' := [(6, .sl 2 1 0 (l.length + 1))]) (H' := [(2, OI (insL l i x))]) (by exact ⟨⟨_, rfl, .inl ⟨slEq rfl (by omega), rfl⟩⟩, trivial⟩) (by exact ⟨ent_same rfl rfl (by rw [← hgr]; simp only [Nat.zero_add]; rfl) trivial, trivial⟩) rfl ?_
  exact n_out1 rfl (by rfl) rfl rfl
 have hc4 : l.length + 1 ≤ cap := by simp at hb; omega
 refine nK ?_
 refine zb ?_
 refine za ?_
 refine za ?_
 refine za ?_
 refine zbc ?_
 refine rpZ 60 rfl (op_slice_room (h := l.length + 1) rfl (oT rfl) (Bnd.yes _ _ _ _ _ (oT rfl) (by intro _; simp)) (by intro _; omega)) ?_
 refine zd ?_
 refine zc ?_
 refine nK ?_
 refine nK ?_
 refine zb ?_
 refine za ?_
 refine za ?_
 refine za ?_
 refine za ?_
 refine zbc ?_
 refine rpZ 66 rfl (op_slice_fromR (l := i + 1) rfl (oT rfl) (Bnd.yes _ _ _ _ _ (oT rfl) tQ) (by intro _; omega)) ?_
 refine rlZ 67 rfl (op_overlaps rfl (oT rfl) (oT rfl) rfl rfl rfl (by rw [List.length_map]; omega) rfl) ?_
 refine zbj ?_
 refine zc ?_
 refine nK ?_
 refine n_cond _ rfl (fun hb => ?_) (fun hb => ?_)
 ·refine nK ?_
  refine s_draw mixed ?_
  refine za ?_
  refine za ?_
  refine za ?_
  refine zbc ?_
  refine rpZ 73 rfl (op_slice_fromR (l := i + 1) rfl (oT rfl) (Bnd.yes _ _ _ _ _ (oT rfl) tQ) (by intro _; omega)) ?_
  refine za ?_
  refine za ?_
  refine rpZ 76 rfl (op_slice_fromR (l := i) rfl (oT rfl) (Bnd.yes _ _ _ _ _ (oT rfl) tQ) (by intro _; omega)) ?_
  refine Run.effW (dd := some 77) rfl rfl (op_copy (n := l.length - i) (rs := (l.map encN).drop i) rfl (oT rfl) (oT rfl) rfl rfl (by show min _ _ = _; omega) (by rw [Nat.zero_add, List.take_of_length_le (by simp)]) (by simp) (by rw [List.length_map]; omega)) tE ?_
  refine zs ?_
  refine nK ?_
  have hl5 : ((l.map encN).take (0 + (i + 1)) ++ (l.map encN).drop i ++ (l.map encN).drop (0 + (i + 1) + (l.length - i))).length = l.length + 1 := by simp; omega
  have hgr := ins_room (l.map encN) i (encN x) (by rw [List.length_map]; omega)
  rw [List.length_map, ← insL_map] at hgr
  refine nK ?_
  refine zb ?_
  refine za ?_
  refine za ?_
  refine rlZ 80 rfl (op_slice_view (l := i) (h := l.length + 1) rfl (Opd.wc _ _ _ (oT rfl)) (Bnd.yes _ _ _ _ _ (oT rfl) tQ) (Bnd.no _) (by intro _; refine ⟨rfl, ?_⟩; rw [hl5]; omega)) ?_
  refine za ?_
  refine Run.eff (dd := some 82) rfl rfl (op_copy (n := 1) (rs := [x].map encN) rfl (oT rfl) (oT rfl) rfl rfl (by show min _ _ = _; omega) rfl rfl (by rw [hl5]; omega)) ?_
  refine zc ?_
  refine nK ?_
  refine zb ?_
  refine za ?_
  refine zd ?_
  refine zc ?_
  refine nK ?_
  refine Next.unwc 6 rfl ?_
  refine Next.retag 6 rfl rfl ?_
  refine Next.weakS [0, 2, 6] [] (by rfl) (keepsN hC _ rfl) (G' := [(6, .sl 2 1 0 (l.length + 1))]) (H' := [(2, OI (insL l i x))]) (by exact ⟨⟨_, rfl, .inl ⟨rfl, rfl⟩⟩, trivial⟩) (by exact ⟨ent_same rfl rfl (by rw [← hgr]; simp only [Nat.zero_add]; rfl) trivial, trivial⟩) rfl ?_
  exact n_out1 rfl (by rfl) rfl rfl
 exfalso; simp at hb
open Go Go.RT Go.Proofs Go.Pl
set_option maxRecDepth 20000
set_option maxHeartbeats 2000000
theorem wHZ14a {α : Prop} (h : α := by repeat (first | exact trivial | refine ⟨⟨_, rfl, .inl ⟨rfl, rfl⟩⟩, ?_⟩)) : α := h
theorem wHZ14b {α : Prop} (h : α := by repeat (first | exact trivial | refine ⟨wS, ?_⟩ | refine ⟨ent_same rfl rfl (rfEq rfl tU) tL, ?_⟩ | refine ⟨ent_same rfl rfl (flEq rfl (by first | (simp; done) | (simp; omega) | (simp [encE, encN, encB, encT, encL]; done) | simp [maxC, minC])) trivial, ?_⟩)) : α := h
theorem snan_c (a : Int) : Pure Tryz.prog 58 [If .i64 a] (Bf false) := by
 refine Meets.intro Tryz.func58 rfl (Nat.le_of_ble_eq_true rfl) fun C hC => ?_
 simp only [List.map, argEnv, Nat.reduceAdd]
 refine nK ?_
 refine zb ?_
 refine ze ?_
 refine zc ?_
 refine nK ?_
 refine zb ?_
 refine za ?_
 refine za ?_
 refine zbg ?_
 refine zd ?_
 refine zc ?_
 refine nK ?_
 refine Next.weakS [] [] (by rfl) (keeps0 hC _) (G' := [(2, BV false)]) (H' := []) ⟨⟨_, rfl, .inl ⟨by simp [renP], rfl⟩⟩, trivial⟩ trivial rfl ?_
 exact wO hC
theorem cless_c (a b : Int) : Pure Tryz.prog 57 [If .i64 a, If .i64 b] (Bf (decide (a < b))) := by
 refine Meets.intro Tryz.func57 rfl (Nat.le_of_ble_eq_true rfl) fun C hC => ?_
 simp only [List.map, argEnv, Nat.reduceAdd]
 refine nK ?_
 refine zb ?_
 refine ze ?_
 refine zc ?_
 refine nK ?_
 refine zb ?_
 refine za ?_
 refine rpZ 6 rfl (op_call_pure (fun _ => nan_c _) rfl (Opd.func _) (oS (oT rfl) Opds.nil)) ?_
 refine za ?_
 refine zf ?_
 refine rgZ 9 rfl rfl tG (op_call_pure (fun _ => nan_c _) rfl (Opd.func _) (oS (oO rfl tO) Opds.nil)) ?_
 refine zbl ?_
 refine zt ?_
 refine za ?_
 refine zf ?_
 refine zf ?_
 refine zbk ?_
 refine zv ?_
 refine zd ?_
 refine zc ?_
 refine nK ?_
 exact wO hC
theorem bsearchi_c (l : List Int) (x : Int) (hn : l.length ≤ 2000000) : Pure Tryz.prog 44 [VI l, If .i64 x] (.tup [If .i64 (bsGo (fun e => decide (e < x)) l 0 l.length : Nat), Bf (hitAt (fun e => decide (e = x)) l (bsGo (fun e => decide (e < x)) l 0 l.length))]) := by
 refine Meets.intro Tryz.func44 rfl (Nat.le_of_ble_eq_true rfl) fun C hC => ?_
 simp only [List.map, argEnv, Nat.reduceAdd]
 refine nK ?_
 refine zb ?_
 refine ze ?_
 refine ze ?_
 refine zc ?_
 refine nK ?_
 refine zb ?_
 refine za ?_
 refine zo ?_
 refine zd ?_
 refine zc ?_
 refine nK ?_
 refine zb ?_
 refine za ?_
 refine ze ?_
 refine zd ?_
 refine zc ?_
 refine nK ?_
 refine n_loop (ι := Nat × Nat) (fun g => ([(0, .fz (VI l)), (1, IV .i64 x), (6, IV .i64 l.length), (7, IV .i64 g.1), (8, IV .i64 g.2)], [], 0)) (fun g => g.1 ≤ g.2 ∧ g.2 ≤ l.length ∧ bsGo (fun e => decide (e < x)) l g.1 g.2 = bsGo (fun e => decide (e < x)) l 0 l.length) (fun g => g.2 - g.1) (0, l.length) ⟨Nat.zero_le _, Nat.le_refl _, rfl⟩ ?_ ?_
 ·refine Next.weak [] [] (by rfl) (keeps0 hC _) wHZ14a wHZ14b wN rel_intro
 intro ⟨i, j⟩ ⟨hi, hj, ho⟩ K hK
 dsimp only at hi hj ho ⊢
 refine nK ?_
 refine zb ?_
 refine za ?_
 refine za ?_
 refine zp ?_
 refine zc ?_
 refine nK ?_
 refine n_cond _ rfl (fun hb => ?_) (fun hb => ?_)
 ·have hlt : i < j := by simp at hb; omega
  have hm : (i + j) / 2 < l.length := by omega
  have hr1 := row_at' encN l ((i + j) / 2) hm
  have hst := bsGo_step (fun e => decide (e < x)) l i j hlt hj
  rw [ho] at hst
  have hKl := fun h => hK (((i + j) / 2) + 1, j) ⟨by dsimp only; omega, by dsimp only; omega, h⟩ (by dsimp only; omega)
  have hKr := fun h => hK (i, (i + j) / 2) ⟨by dsimp only; omega, by dsimp only; omega, h⟩ (by dsimp only; omega)
  generalize l[(i + j) / 2] = e at *
  refine nK ?_
  refine zb ?_
  refine za ?_
  refine za ?_
  refine zbc ?_
  refine zca ?_
  refine rpZ 20 rfl (op_shr (n := 1) rfl (oT rfl) oC (by intro _; simp only [IntKind.bits]; omega)) ?_
  refine zca ?_
  refine zd ?_
  refine zc ?_
  refine nK ?_
  refine zb ?_
  refine za ?_
  refine za ?_
  refine rpZ 24 rfl (op_idx_fz ((i + j) / 2) rfl (oT rfl) (oT rfl) (by intro _; exact ⟨by omega, hr1⟩)) ?_
  refine zj ?_
  refine za ?_
  refine rpZ 27 rfl (op_call_pure (fun _ => cless_c _ _) rfl (Opd.func _) (oS (oT rfl) (oS (oT rfl) Opds.nil))) ?_
  refine zc ?_
  refine nK ?_
  refine n_cond _ rfl (fun hb => ?_) (fun hb => ?_)
  ·simp only [hb, cond_true] at hst
   refine nK ?_
   refine zb ?_
   refine za ?_
   refine zl ?_
   refine zd ?_
   refine zc ?_
   refine nK ?_
   refine Next.weak [] [] (by rfl) (keeps0 hC _) wHZ14a wHZ14b wN (hKl hst.symm)
  simp only [hb, cond_false] at hst
  refine nK ?_
  refine zb ?_
  refine za ?_
  refine zd ?_
  refine zc ?_
  refine nK ?_
  refine Next.weak [] [] (by rfl) (keeps0 hC _) wHZ14a wHZ14b wN (hKr hst.symm)
 have hie : i = j := by simp at hb; omega
 rw [hie, bsGo_end] at ho
 rw [← ho]
 rw [hie] at hi ⊢
 obtain ⟨q, hq, hh⟩ := hitAt_eq l j (fun e => decide (e = x))
 rw [hh]
 have hr : j < l.length → (l.map encN)[j]? = some (encN q) := fun h => by rw [List.getElem?_map, hq h]; rfl
 refine nK ?_
 refine zb ?_
 refine za ?_
 refine za ?_
 refine za ?_
 refine zp ?_
 refine za ?_
 refine zf ?_
 refine zf ?_
 refine rgZ 38 rfl rfl tG (op_idx_fz j rfl (oO rfl tO) (oO rfl tO) (by intro hg; exact ⟨rfl, hr (by simp at hg; omega)⟩)) ?_
 refine zw ?_
 refine zf ?_
 refine zbo ?_
 refine zbp ?_
 refine zf ?_
 refine zf ?_
 refine rgZ 45 rfl rfl tG (op_idx_fz j rfl (oO rfl tO) (oO rfl tO) (by intro hg; exact ⟨rfl, hr (by simp at hg; omega)⟩)) ?_
 refine zw ?_
 refine rgZ 47 rfl rfl tG (op_call_pure (fun _ => snan_c _) rfl (Opd.func _) (oS (oO rfl tO) Opds.nil)) ?_
 refine zbp ?_
 refine zf ?_
 refine rgZ 50 rfl rfl tG (op_call_pure (fun _ => snan_c _) rfl (Opd.func _) (oS (oO rfl tO) Opds.nil)) ?_
 refine zcf ?_
 refine zcd ?_
 refine zt ?_
 refine zd ?_
 refine zd ?_
 refine zc ?_
 refine nK ?_
 refine Next.weakS [] [] (by rfl) (keeps0 hC _) (G' := [(4, IV .i64 j), (5, BV (decide ((j : Int) < (l.length : Int)) && decide (q = x)))]) (H' := []) ⟨⟨_, rfl, .inl ⟨rfl, rfl⟩⟩, ⟨_, rfl, .inl ⟨by simp [renP], rfl⟩⟩, trivial⟩ trivial rfl ?_
 exact wO hC
open Go Go.RT Go.Proofs Go.Pl
set_option maxRecDepth 20000
set_option maxHeartbeats 2000000
theorem hcmp_c (d : List Int) (x y : Nat) (hx : x < d.length) (hy : y < d.length) : Pure Tryz.prog 42 [If .i64 x, If .i64 y, .cellp [VI d]] (If .i64 (ordH d x y)) := by
 have rx := row_of encN d x 0 hx
 have ry := row_of encN d y 0 hy
 have hgx : d.getD x 0 = gt0 d x := rfl
 have hgy : d.getD y 0 = gt0 d y := rfl
 rw [hgx] at rx; rw [hgy] at ry
 unfold ordH
 refine Meets.intro Tryz.func42 rfl (Nat.le_of_ble_eq_true rfl) fun C hC => ?_
 simp only [List.map, argEnv, Nat.reduceAdd]
 refine nK ?_
 refine zb ?_
 refine ze ?_
 refine zc ?_
 refine nK ?_
 refine s_draw mixed ?_
 refine zj ?_
 refine za ?_
 refine rpZ 8 rfl (op_idx_fz x rfl (oT rfl) (oT rfl) (by intro _; exact ⟨rfl, rx⟩)) ?_
 refine zj ?_
 refine zj ?_
 refine za ?_
 refine rpZ 12 rfl (op_idx_fz y rfl (oT rfl) (oT rfl) (by intro _; exact ⟨rfl, ry⟩)) ?_
 refine zj ?_
 refine rpZ 14 rfl (op_call_pure (fun _ => cmp_c _ _) rfl (Opd.func _) (oS (oT rfl) (oS (oT rfl) Opds.nil))) ?_
 refine za ?_
 refine za ?_
 refine rpZ 17 rfl (op_call_pure (fun _ => cmp_c _ _) rfl (Opd.func _) (oS (oT rfl) (oS (oT rfl) Opds.nil))) ?_
 refine zcs ?_
 refine rpZ 19 rfl (op_call_pure (fun _ => or_c [_, _] (by simp)) rfl (Opd.func _) (oS (oT rfl) Opds.nil)) ?_
 refine zd ?_
 refine zs ?_
 refine nK ?_
 exact wO hC
theorem swo_h (d : List Int) (n : Nat) : Go.Sort.SWO (ltOf fun x y : Fin n => ordH d x y) := by
 have e : ∀ x y : Fin n, ltOf (fun x y : Fin n => ordH d x y) x y = decide (gt0 d x < gt0 d y ∨ gt0 d x = gt0 d y ∧ y.val < x.val) := fun x y => by
  unfold ltOf; rw [Bool.eq_iff_iff]; simp [ordH_neg]
 refine ⟨fun x => ?_, fun x y z h1 h2 => ?_, fun x y z h1 h2 => ?_⟩
 ·rw [e]; simp
 ·rw [e] at *; simp only [decide_eq_true_eq] at *; omega
 rw [e] at *; simp only [decide_eq_false_iff_not] at *; omega
theorem sorth_c (d : List Int) (l l2 : List Nat) (hd : 0 < d.length) (hl : ∀ v ∈ l, v < d.length) (hm : l.length ≤ 2000000) (hp : l2.Perm l) (hs : l2.Pairwise (ltHd d)) : Meets Tryz.prog 41 [.sl 0 1 0 l.length, .fz (.clo 42 [.cellp [VI d]])] 1 [(0, OT l)] (.fz (.tup [])) [(0, OT l2)] 1 := by
 haveI : Inhabited (Fin d.length) := ⟨⟨0, hd⟩⟩
 have hl' : ∀ v ∈ l, v < d.length := hl
 let lf : List (Fin d.length) := l.pmap (fun v h => ⟨v, h⟩) hl'
 have hlf : lf.map (fun x => x.val) = l := by simp [lf, List.map_pmap]
 have hll : lf.length = l.length := by simp [lf]
 obtain ⟨s1, s2, s3⟩ := sortBy_spec (fun x y : Fin d.length => ordH d x y) (swo_h d d.length) lf
 have hr : (sortBy (fun x y : Fin d.length => ordH d x y) lf).map (fun x => x.val) = l2 := by
  refine perm_sorted_eq (le := fun x y => ¬ ltHd d y x) (fun a b h1 h2 => by unfold ltHd at *; omega) _ _ ?_ ?_ ?_
  ·exact ((s1.map _).trans (by rw [hlf])).trans hp.symm
  ·rw [List.pairwise_map, List.pairwise_iff_getElem]
   intro i j hi hj hij h
   exact s3 i j _ _ hij (List.getElem?_eq_getElem hi) (List.getElem?_eq_getElem hj) ((ordH_neg _ _ _).2 h)
  exact hs.imp fun h1 h2 => by unfold ltHd at *; omega
 have := sort1_meets (ρ := Tryz.sortFI_ren) Tryz.sortFI (ev := fun x : Fin d.length => .int .i64 (x.val : Int)) (fun x => rfl) (swo_h d d.length) (g := 42) (caps := [.cellp [VI d]]) (fun x y => hcmp_c d x y x.isLt y.isLt) (l := lf) (by omega)
 rw [hll] at this
 have e1 : ∀ q : List (Fin d.length), q.map (fun x => [FV.lit (.int .i64 (x.val : Int))]) = (q.map (fun x => x.val)).map encT := fun q => by rw [List.map_map]; rfl
 rw [e1, e1, hlf, hr] at this
 exact this
end Go.Proofs.YtmapchjcnifeiaaGreat
