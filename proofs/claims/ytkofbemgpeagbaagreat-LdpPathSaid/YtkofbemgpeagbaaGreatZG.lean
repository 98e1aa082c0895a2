/- A part of the proof: DP26, DP27, DP19, DP28, DP20, DP29, DP30, DP31, DP32, E36, LE, E37. -/
import Derived.Test.YtkofbemgpeagbaaGreatZF
set_option linter.all false
/- The graph of the network: distances and first hops. No program in sight. -/
namespace Go.Pl
open Go Go.RT
set_option linter.all false
theorem allG_mem {l : List Jnt} {k : Nat} {e : Edg} : ∀ {i : Nat}, e ∈ allG l k i ↔ ∃ a b : Nat, a < i ∧ b < k ∧ edgB l a b = true ∧ e = mkE a b := by
  intro i
  unfold allG rowG
  simp only [List.mem_flatMap, List.mem_range, List.mem_map, List.mem_filter]
  constructor
  · rintro ⟨a, ha, b, ⟨h1, h2⟩, rfl⟩; exact ⟨a, b, ha, h1, h2, rfl⟩
  · rintro ⟨a, b, ha, h1, h2, rfl⟩; exact ⟨a, ha, b, ⟨h1, h2⟩, rfl⟩
theorem rowG_asc (l : List Jnt) (a : Nat) : ∀ j, AscK (rowG l a j)
  | 0 => by simp [rowG, AscK]
  | j + 1 => by
    rw [rowG_succ]
    split
    · refine List.pairwise_append.2 ⟨rowG_asc l a j, by simp, fun x hx y hy => ?_⟩
      unfold rowG at hx
      simp at hx hy
      obtain ⟨b, ⟨h1, h2⟩, rfl⟩ := hx
      subst hy
      right; exact ⟨rfl, by simp [mkE]; omega⟩
    · simpa using rowG_asc l a j
theorem allG_asc (l : List Jnt) (k : Nat) : ∀ i, AscK (allG l k i)
  | 0 => by simp [allG, AscK]
  | i + 1 => by
    rw [allG_succ]
    refine List.pairwise_append.2 ⟨allG_asc l k i, rowG_asc l i k, fun x hx y hy => ?_⟩
    obtain ⟨a, b, h1, h2, h3, rfl⟩ := allG_mem.1 hx
    unfold rowG at hy
    simp at hy
    obtain ⟨c, _, rfl⟩ := hy
    left; simp [mkE]; omega
theorem edgB_ne {l : List Jnt} {a b : Nat} (h : edgB l a b = true) : a ≠ b := by
  unfold edgB at h
  simp at h
  omega
theorem edgB_symm (l : List Jnt) (a b : Nat) : edgB l a b = edgB l b a := by
  unfold edgB
  rw [Bool.or_comm]
  congr 1
  rw [Bool.eq_iff_iff]; simp; omega
theorem grF_check {k : Nat} {l : List Jnt} (h1 : 1 ≤ k) (h2 : k ≤ 10) : checkI (grF k l) = 0 := by
  have hlen := allG_len l k k
  have hkk : k * k ≤ 10 * 10 := Nat.mul_le_mul h2 h2
  have hs : sizeI (grF k l) = 0 := by
    unfold sizeI grF
    dsimp only
    rw [if_neg (by omega), if_neg (by omega)]
  unfold checkI
  rw [if_neg (by rw [hs]; decide)]
  refine chkL_of _ _ (fun e he => ?_) (allG_asc l k k) (by simp)
  obtain ⟨a, b, ha, hb, hab, rfl⟩ := allG_mem.1 he
  have hne := edgB_ne hab
  unfold alwI nodeB grF mkE
  dsimp only
  rw [if_neg (by simp; omega), if_neg (by omega)]
theorem adj_eq {k : Nat} {l : List Jnt} {a b : Nat} (ha : a < k) (hb : b < k) : adjB (grF k l) a b = edgB l a b := by
  rw [Bool.eq_iff_iff]
  unfold adjB
  rw [List.any_eq_true]
  constructor
  · rintro ⟨e, he, h⟩
    obtain ⟨a', b', _, _, h3, rfl⟩ := allG_mem.1 he
    unfold isE mkE at h
    simp at h
    obtain ⟨h4, h5⟩ := h
    have : a' = a := by omega
    have : b' = b := by omega
    subst_vars; exact h3
  · intro h
    exact ⟨mkE a b, allG_mem.2 ⟨a, b, ha, hb, h, rfl⟩, by simp [isE, mkE]⟩
/-- what is used of the distances -/
structure NetD (k : Nat) (l : List Jnt) (D : Nat → Nat → Int) : Prop where
  k1 : 1 ≤ k
  k2 : k ≤ 10
  d : Dst (grF k l) D
theorem grF_m (k : Nat) (l : List Jnt) : (grF k l).m = k := by unfold Gr.m grF; simp
variable {k : Nat} {l : List Jnt} {D : Nat → Nat → Int}
theorem NetD.edge (h : NetD k l D) {a b : Nat} (ha : a < k) (hb : b < k) (he : edgB l a b = true) {i : Nat} (hi : i < k) (h0 : 0 ≤ D i a) : 0 ≤ D i b ∧ D i b ≤ D i a + 1 := by
  have := h.d.edge (i := i) (e := mkE a b) (by rw [grF_m]; exact hi) (allG_mem.2 ⟨a, b, ha, hb, he, rfl⟩) (by simpa [mkE] using h0)
  simpa [mkE] using this
theorem NetD.last (h : NetD k l D) {i v : Nat} (hi : i < k) (hv : v < k) (hne : i ≠ v) (h0 : 0 ≤ D i v) : ∃ u, u < k ∧ edgB l u v = true ∧ 0 ≤ D i u ∧ D i u + 1 = D i v := by
  obtain ⟨e, he, h1, h2, h3⟩ := h.d.last (by rw [grF_m]; exact hi) (by rw [grF_m]; exact hv) hne h0
  obtain ⟨a, b, ha, hb, hab, rfl⟩ := allG_mem.1 he
  have : b = v := by simp [mkE] at h1; omega
  subst this
  exact ⟨a, ha, hab, by simpa [mkE] using h2, by simpa [mkE] using h3⟩
theorem NetD.zero (h : NetD k l D) {i : Nat} (hi : i < k) : D i i = 0 := h.d.zero (by rw [grF_m]; exact hi)
theorem NetD.tri (h : NetD k l D) {i j v : Nat} (hi : i < k) (hj : j < k) (hv : v < k) (h1 : 0 ≤ D i j) (h2 : 0 ≤ D j v) : 0 ≤ D i v ∧ D i v ≤ D i j + D j v :=
  h.d.tri (by rw [grF_m]; exact hi) (by rw [grF_m]; exact hj) (by rw [grF_m]; exact hv) h1 h2
theorem NetD.step (h : NetD k l D) {a b : Nat} (ha : a < k) (hb : b < k) (he : edgB l a b = true) : 0 ≤ D a b ∧ D a b ≤ 1 := by
  have := h.edge ha hb he ha (by rw [h.zero ha]; omega)
  rw [h.zero ha] at this
  simpa using this
theorem NetD.pos (h : NetD k l D) {a v : Nat} (ha : a < k) (hv : v < k) (h0 : D a v = 0) : v = a := by
  by_cases e : a = v
  · exact e.symm
  · obtain ⟨u, _, _, h1, h2⟩ := h.last ha hv e (by omega)
    omega
theorem NetD.one (h : NetD k l D) {a b : Nat} (ha : a < k) (hb : b < k) (he : edgB l a b = true) : D a b = 1 := by
  obtain ⟨h1, h2⟩ := h.step ha hb he
  have : D a b ≠ 0 := fun e => edgB_ne he (h.pos ha hb e).symm
  omega
/-- a first hop -/
theorem NetD.first (h : NetD k l D) {a : Nat} (ha : a < k) : ∀ (n v : Nat), v < k → v ≠ a → D a v = n → ∃ y, y < k ∧ edgB l a y = true ∧ 0 ≤ D y v ∧ D a v = 1 + D y v
  | n, v, hv, hne, hn => by
    obtain ⟨u, hu, hu1, hu2, hu3⟩ := h.last ha hv (Ne.symm hne) (by omega)
    by_cases e : u = a
    · subst e
      exact ⟨v, hv, hu1, by rw [h.zero hv]; omega, by rw [h.zero hv, h.one ha hv hu1]; rfl⟩
    · have h1 : n ≠ 0 := by omega
      obtain ⟨y, hy, hy1, hy2, hy3⟩ := h.first ha (n - 1) u hu e (by omega)
      obtain ⟨q1, q2⟩ := h.edge hu hv hu1 hy hy2
      obtain ⟨q3, q4⟩ := h.tri ha hy hv (by rw [h.one ha hy hy1]; omega) q1
      rw [h.one ha hy hy1] at q4
      exact ⟨y, hy, hy1, q1, by omega⟩
  termination_by n => n
theorem NetD.cnt (h : NetD k l D) {a v : Nat} (ha : a < k) (hv : v < k) : ∀ (n : Nat), (n : Int) ≤ D a v → n ≤ ((List.range k).filter fun u => decide (0 ≤ D a u ∧ D a u < n)).length
  | 0, _ => Nat.zero_le _
  | n + 1, hn => by
    have ih := h.cnt ha hv n (by omega)
    -- a node at distance n
    have hex : ∀ m w, w < k → D a w = m → (n : Int) ≤ m → ∃ u, u < k ∧ D a u = n := by
      intro m
      induction m with
      | ofNat m =>
        induction m with
        | zero => intro w hw hd hle; exact ⟨w, hw, by simp at hle hd ⊢; omega⟩
        | succ m ihm =>
          intro w hw hd hle
          by_cases e : (n : Int) = D a w
          · exact ⟨w, hw, e.symm⟩
          · have hd' : D a w = (m : Int) + 1 := by rw [hd]; rfl
            have hle' : (n : Int) ≤ (m : Int) + 1 := hle
            obtain ⟨u, hu, _, q1, q2⟩ := h.last ha hw (fun e2 => by subst e2; rw [h.zero ha] at hd'; omega) (by omega)
            exact ihm u hu (show D a u = (m : Int) by omega) (show (n : Int) ≤ (m : Int) by omega)
      | negSucc m => intro w hw hd hle; omega
    obtain ⟨u, hu, hun⟩ := hex (D a v) v hv rfl (by omega)
    have hsplit : ((List.range k).filter fun u => decide (0 ≤ D a u ∧ D a u < n)).length + 1 ≤ ((List.range k).filter fun u => decide (0 ≤ D a u ∧ D a u < (n + 1 : Nat))).length := by
      have hsub : (u :: (List.range k).filter fun u => decide (0 ≤ D a u ∧ D a u < n)).Nodup := by
        refine List.nodup_cons.2 ⟨fun hc => ?_, List.Pairwise.filter _ List.nodup_range⟩
        have := (List.mem_filter.1 hc).2
        simp at this; omega
      have := List.Nodup.length_le_of_subset hsub (l₂ := (List.range k).filter fun u => decide (0 ≤ D a u ∧ D a u < (n + 1 : Nat))) (fun x hx => by
        rcases List.mem_cons.1 hx with rfl | hx
        · exact List.mem_filter.2 ⟨List.mem_range.2 hu, by simp; omega⟩
        · obtain ⟨h1, h2⟩ := List.mem_filter.1 hx
          exact List.mem_filter.2 ⟨h1, by simp at h2 ⊢; omega⟩)
      simpa using this
    omega
theorem NetD.small (h : NetD k l D) {a v : Nat} (ha : a < k) (hv : v < k) : D a v ≤ 10 := by
  by_cases h0 : 0 ≤ D a v
  · have := h.cnt ha hv (D a v).toNat (by omega)
    have hle := List.length_filter_le (fun u => decide (0 ≤ D a u ∧ D a u < (D a v).toNat)) (List.range k)
    simp only [List.length_range] at hle
    have := h.k2
    omega
  · omega
end Go.Pl
/- First hops and routes of the network. No program in sight. -/
namespace Go.Pl
open Go Go.RT
set_option linter.all false
variable {k : Nat} {l : List Jnt} {D : Nat → Nat → Int}
theorem hop_mem (h : NetD k l D) {a v : Nat} (ha : a < k) (hv : v < k) {x : Int} : x ∈ hopR (grF k l) D a v ↔ ∃ y : Nat, x = y ∧ y < k ∧ v ≠ a ∧ 0 ≤ D a v ∧ edgB l a y = true ∧ 0 ≤ D y v ∧ D a v = 1 + D y v := by
  unfold hopR
  by_cases ho : offB D a v = true
  · rw [if_pos ho]
    simp only [List.not_mem_nil, false_iff]
    rintro ⟨y, _, _, h1, h2, _⟩
    unfold offB at ho
    simp at ho
    omega
  · rw [if_neg ho]
    have ho' : v ≠ a ∧ 0 ≤ D a v := by unfold offB at ho; simp at ho; omega
    rw [List.mem_filter, fil_mem, grF_m]
    have hgr : (grF k l).r = k := rfl
    constructor
    · rintro ⟨⟨y, rfl, hy, hf⟩, hh⟩
      unfold fstB at hf
      simp only [Bool.and_eq_true, decide_eq_true_eq] at hf
      obtain ⟨⟨f1, f2⟩, f3⟩ := hf
      have hay : edgB l a y = true := by
        rcases (dir_iff h.d).1 f3 with ⟨e, he, e1, e2, _⟩ | ⟨_, e, he, _, _, _, e2, _⟩
        · obtain ⟨a', b', _, _, hab, rfl⟩ := allG_mem.1 he
          have : a' = a := by simp [mkE] at e1; omega
          have : b' = y := by simp [mkE] at e2; omega
          subst_vars; exact hab
        · obtain ⟨a', b', _, hb, _, rfl⟩ := allG_mem.1 he
          rw [hgr] at e2; simp [mkE] at e2; omega
      have h1 := h.one ha hy hay
      unfold hopB at hh
      simp only [Int.toNat_natCast, Bool.or_eq_true, Bool.and_eq_true, decide_eq_true_eq] at hh
      rcases hh with hh | ⟨⟨_, q1⟩, q2⟩
      · subst hh; exact ⟨y, rfl, hy, ho'.1, ho'.2, hay, by rw [h.zero hy]; omega, by rw [h.zero hy, h1]; rfl⟩
      · exact ⟨y, rfl, hy, ho'.1, ho'.2, hay, q1, by omega⟩
    · rintro ⟨y, rfl, hy, _, _, hay, h0, h1⟩
      have h2 := h.one ha hy hay
      refine ⟨⟨y, rfl, hy, ?_⟩, ?_⟩
      · unfold fstB
        simp only [Bool.and_eq_true, decide_eq_true_eq]
        exact ⟨⟨(edgB_ne hay).symm, by omega⟩, (dir_iff h.d).2 (.inl ⟨mkE a y, allG_mem.2 ⟨a, y, ha, hy, hay, rfl⟩, rfl, rfl, by rw [h2]; rfl⟩)⟩
      · unfold hopB
        simp only [Int.toNat_natCast, Bool.or_eq_true, Bool.and_eq_true, decide_eq_true_eq]
        exact .inr ⟨⟨by rw [hgr]; omega, h0⟩, by omega⟩
theorem hop_asc (a v : Nat) : (hopR (grF k l) D a v).Pairwise fun x y => x < y := by
  unfold hopR
  split
  · simp
  · exact List.Pairwise.filter _ (fil_asc _ _)
theorem hop_len (h : NetD k l D) (a v : Nat) : (hopR (grF k l) D a v).length ≤ k := by
  unfold hopR
  split
  · simp
  · refine Nat.le_trans (List.length_filter_le _ _) ?_
    have := fil_len (fstB (grF k l) D a) (grF k l).m
    rw [grF_m] at this ⊢
    exact this
/-! routes -/
def rtF (k : Nat) (l : List Jnt) (D : Nat → Nat → Int) (i d : Nat) : Fec := ⟨ePx (d + 1), decide (d = i), (hopR (grF k l) D i d).map (· + 1)⟩
def rtsF (k : Nat) (l : List Jnt) (D : Nat → Nat → Int) (i j : Nat) : List Fec := ((List.range j).filter fun d => decide (0 ≤ D i d)).map (rtF k l D i)
theorem rtsF_succ (i j : Nat) : rtsF k l D i (j + 1) = rtsF k l D i j ++ if 0 ≤ D i j then [rtF k l D i j] else [] := by
  unfold rtsF
  rw [List.range_succ, List.filter_append, List.map_append]
  by_cases h : 0 ≤ D i j
  · rw [if_pos h]; simp [h]
  · rw [if_neg h]; simp [h]
theorem rtsF_mem {i j : Nat} {x : Fec} : x ∈ rtsF k l D i j ↔ ∃ d, d < j ∧ 0 ≤ D i d ∧ x = rtF k l D i d := by
  unfold rtsF
  simp only [List.mem_map, List.mem_filter, List.mem_range, decide_eq_true_eq]
  constructor
  · rintro ⟨d, ⟨h1, h2⟩, rfl⟩; exact ⟨d, h1, h2, rfl⟩
  · rintro ⟨d, h1, h2, rfl⟩; exact ⟨d, ⟨h1, h2⟩, rfl⟩
theorem rtsF_len (i j : Nat) : (rtsF k l D i j).length ≤ j := by
  unfold rtsF
  rw [List.length_map]
  have := List.length_filter_le (fun d => decide (0 ≤ D i d)) (List.range j)
  simpa using this
theorem ePx_inj {a b : Nat} (h : ePx a = ePx b) : a = b := by
  unfold ePx at h
  have := (Pfx.mk.inj h).1
  omega
theorem ePx_lt {a b : Nat} (h : a < b) : ltPf (ePx a) (ePx b) := by
  rw [← cmpP_neg]
  unfold cmpP ePx
  simp; omega
theorem ePx_valid {n : Nat} (h : n < 256) : validB (ePx n) = true := by
  have hc : clampN 8 = 8 := by decide
  unfold validB keepN
  dsimp only
  rw [hc]
  simp
theorem ascI_of : ∀ (l : List Int) (p : Option Int), l.Pairwise (fun x y => x < y) → (∀ q, p = some q → ∀ x ∈ l, q < x) → ascI p l = 0
  | [], _, _, _ => rfl
  | x :: t, p, h, hp => by
    obtain ⟨h1, h2⟩ := List.pairwise_cons.1 h
    simp only [ascI]
    rw [if_neg]
    · exact ascI_of t (some x) h2 fun q hq y hy => by cases hq; exact h1 y hy
    · cases p with
      | none => simp [leI]
      | some q => have := hp q rfl x (List.mem_cons_self ..); simp [leI]; omega
theorem hopsE_of {r : Int} {l : List Int} (h1 : l.length ≤ 64) (h2 : ∀ h ∈ l, h ≠ 0 ∧ h ≠ r) (h3 : l.Pairwise fun x y => x < y) : hopsE r l = 0 := by
  unfold hopsE
  rw [if_neg (by omega), if_neg]
  · exact ascI_of _ _ h3 (by simp)
  · rw [Bool.not_eq_true, List.any_eq_false]
    intro x hx
    obtain ⟨a, b⟩ := h2 x hx
    simp [hopX, a, b]
theorem rtsE_of {r : Int} : ∀ (l : List Fec) (p : Option Fec), (∀ x ∈ l, validB x.px = true ∧ hopsE r x.hs = 0) → ascX l → (∀ q, p = some q → ∀ x ∈ l, ltPf q.px x.px) → rtsE r p l = 0
  | [], _, _, _, _ => rfl
  | x :: t, p, h, ha, hp => by
    obtain ⟨h1, h2⟩ := List.pairwise_cons.1 ha
    obtain ⟨v1, v2⟩ := h x (List.mem_cons_self ..)
    simp only [rtsE]
    rw [if_neg (by rw [v1]; decide), if_neg, if_neg (by rw [v2]; decide)]
    · exact rtsE_of t (some x) (fun y hy => h y (List.mem_cons_of_mem _ hy)) h2 fun q hq y hy => by cases hq; exact h1 y hy
    · cases p with
      | none => simp [badX]
      | some q =>
        have := (cmpP_neg _ _).2 (hp q rfl x (List.mem_cons_self ..))
        simp [badX]; omega
theorem rtsF_asc (i : Nat) : ∀ j, ascX (rtsF k l D i j)
  | 0 => by simp [rtsF]
  | j + 1 => by
    rw [rtsF_succ]
    refine List.pairwise_append.2 ⟨rtsF_asc i j, by split <;> simp, fun x hx y hy => ?_⟩
    obtain ⟨d, hd, _, rfl⟩ := rtsF_mem.1 hx
    split at hy
    · simp at hy; subst hy
      exact ePx_lt (by omega)
    · simp at hy
theorem rts_check (h : NetD k l D) {i : Nat} (hi : i < k) : routesE ((i : Int) + 1) (rtsF k l D i k) = 0 := by
  have hk := h.k2
  have hl := rtsF_len (k := k) (l := l) (D := D) i k
  unfold routesE
  rw [if_neg (by omega)]
  refine rtsE_of _ _ (fun x hx => ?_) (rtsF_asc i k) (by simp)
  obtain ⟨d, hd, h0, rfl⟩ := rtsF_mem.1 hx
  refine ⟨ePx_valid (by omega), ?_⟩
  unfold rtF
  dsimp only
  have hln := hop_len h i d
  refine hopsE_of (by rw [List.length_map]; omega) (fun y hy => ?_) ?_
  · obtain ⟨x, hx2, rfl⟩ := List.mem_map.1 hy
    obtain ⟨z, rfl, hz, _, _, hiz, _⟩ := (hop_mem h hi hd).1 hx2
    have := edgB_ne hiz
    omega
  · rw [List.pairwise_map]
    exact (hop_asc i d).imp fun hab => by omega
theorem rts_small (h : NetD k l D) (i : Nat) : (∀ x ∈ rtsF k l D i k, okFe x) := fun x hx => by
  obtain ⟨d, hd, _, rfl⟩ := rtsF_mem.1 hx
  have hk := h.k2
  have hln := hop_len h i d
  exact ⟨ePx_ok (by omega), by unfold rtF; dsimp only; rw [List.length_map]; omega⟩
end Go.Pl
/- Two peers: each knows the other's labels when all messages have arrived. No program in sight. -/
namespace Go.Pl
open Go Go.RT
set_option linter.all false
/-- what a message makes of the labels of the peer n -/
def apM (n : Int) (R : List Bnd) (m : Mal) : List Bnd :=
  let x := (decodeF m.da).1
  if x.k = 1 then bindL R ⟨x.px, n, x.la⟩ else if x.k = 2 then (if findB R x.px n = some x.la then unbL R x.px n else R) else R
def wtM (m : Mal) : Nat := if (decodeF m.da).1.k = 2 then 2 else 1
def wtQ (q : List Mal) : Nat := (q.map wtM).sum
theorem wtQ_app (a b : List Mal) : wtQ (a ++ b) = wtQ a + wtQ b := by simp [wtQ]
theorem wtM_pos (m : Mal) : 1 ≤ wtM m := by unfold wtM; split <;> omega
theorem wtQ_len (q : List Mal) : q.length ≤ wtQ q := by
  induction q with
  | nil => simp [wtQ]
  | cons m q ih => have := wtM_pos m; simp [wtQ] at ih ⊢; omega
def subQ (i : Nat) (q : List Mal) : List Mal := q.filter fun m => decide (m.fr = i)
theorem subQ_app (i : Nat) (a b : List Mal) : subQ i (a ++ b) = subQ i a ++ subQ i b := List.filter_append ..
/-- a message on its way, well formed, no request -/
structure mlOk (m : Mal) : Prop where
  e : ∃ x : Msg, okM x ∧ goodM x ∧ x.k ≤ 3 ∧ m.da = (encodeF x).1 ∧ decodeF m.da = (x, 0)
theorem mlOk.mk' {i : Nat} {n : Int} {x : Msg} (h : okM x) (hg : goodM x) (h3 : x.k ≤ 3) : mlOk (mkMl i ⟨n, (encodeF x).1⟩) := by
  refine ⟨x, h, hg, h3, rfl, ?_⟩
  show decodeF (encodeF x).1 = _
  have h0 := (msgE_iff x).2 hg
  have : (encodeF x).1 = encMb x := by unfold encodeF; rw [if_neg (by simpa using h0)]
  rw [this]; exact enc_dec h h0
theorem dec_of {x : Msg} (h : okM x) (hg : goodM x) : decodeF (encodeF x).1 = (x, 0) := by
  have h0 := (msgE_iff x).2 hg
  have : (encodeF x).1 = encMb x := by unfold encodeF; rw [if_neg (by simpa using h0)]
  rw [this]; exact enc_dec h h0
/-- what bindings are sent of -/
structure gB (b : Bnd) : Prop where
  px : b.px.ok
  v : validB b.px = true
  la : b.la = 3 ∨ (16 ≤ b.la ∧ b.la ≤ 1048575)
theorem gB.msg {b : Bnd} (h : gB b) {k : Int} (h1 : 1 ≤ k) (h3 : k ≤ 3) : okM ⟨k, b.px, b.la⟩ ∧ goodM ⟨k, b.px, b.la⟩ := by
  have := h.la
  exact ⟨⟨by simp only [inr]; omega, h.px, by simp only [inr]; omega⟩, ⟨h1, by show k ≤ 4; omega, h.v, fun e => by have : k = 4 := e; omega, fun _ => h.la⟩⟩
/-! what one peer is told -/
/-- a list of messages of the router n, given to one peer only, that turns its labels from A to B -/
structure told (i : Nat) (n pe : Int) (A B : List Bnd) (o : List Snd) : Prop where
  ap : (pushQ i o).foldl (apM n) A = B
  ok : ∀ m ∈ pushQ i o, mlOk m ∧ m.to = (pe - 1).toNat ∧ m.fr = i
  pe : ∀ m ∈ o, m.pe = pe
theorem told.nil (i : Nat) (n pe : Int) (A : List Bnd) : told i n pe A A [] := ⟨rfl, by simp [pushQ], by simp⟩
theorem told.app {i : Nat} {n pe : Int} {A B D : List Bnd} {o p : List Snd} (h : told i n pe A B o) (k : told i n pe B D p) : told i n pe A D (o ++ p) := by
  refine ⟨?_, fun m hm => ?_, fun m hm => ?_⟩
  · unfold pushQ; rw [List.map_append, List.foldl_append]
    have := h.ap; unfold pushQ at this; rw [this]; exact k.ap
  · unfold pushQ at hm; rw [List.map_append] at hm
    rcases List.mem_append.1 hm with hm | hm
    · exact h.ok m hm
    · exact k.ok m hm
  · rcases List.mem_append.1 hm with hm | hm
    · exact h.pe m hm
    · exact k.pe m hm
theorem told.map {i : Nat} {n pe : Int} {A : List Bnd} {b : Bnd} (hb : gB b) (hn : b.pe = n) : told i n pe A (bindL A b) [msgS pe 1 b.px b.la] := by
  obtain ⟨h1, h2⟩ := hb.msg (k := 1) (by omega) (by omega)
  refine ⟨?_, fun m hm => ?_, fun m hm => ?_⟩
  · simp only [pushQ, List.map_cons, List.map_nil, List.foldl_cons, List.foldl_nil]
    unfold apM mkMl msgS
    dsimp only
    rw [dec_of h1 h2]
    dsimp only
    rw [if_pos rfl]
    subst hn; rfl
  · simp only [pushQ, List.map_cons, List.map_nil, List.mem_singleton] at hm
    subst hm
    exact ⟨mlOk.mk' h1 h2 (by show (1 : Int) ≤ 3; omega), rfl, rfl⟩
  · simp only [List.mem_singleton] at hm; subst hm; rfl
theorem told.rel {i : Nat} {n pe : Int} {A : List Bnd} {x : Msg} (h1 : okM x) (h2 : goodM x) (hk : x.k = 2) : told i n pe A A [msgS pe 3 x.px x.la] := by
  have g1 : okM ⟨3, x.px, x.la⟩ := ⟨by simp [inr], h1.px, h1.la⟩
  have g2 : goodM ⟨3, x.px, x.la⟩ := ⟨by show (1 : Int) ≤ 3; omega, by show (3 : Int) ≤ 4; omega, h2.px, fun e => by have : (3 : Int) = 4 := e; omega, fun _ => h2.ln (by omega)⟩
  refine ⟨?_, fun m hm => ?_, fun m hm => ?_⟩
  · simp only [pushQ, List.map_cons, List.map_nil, List.foldl_cons, List.foldl_nil]
    unfold apM mkMl msgS
    dsimp only
    rw [dec_of g1 g2]
    dsimp only
    rw [if_neg (by omega), if_neg (by omega)]
  · simp only [pushQ, List.map_cons, List.map_nil, List.mem_singleton] at hm
    subst hm
    exact ⟨mlOk.mk' g1 g2 (by show (3 : Int) ≤ 3; omega), rfl, rfl⟩
  · simp only [List.mem_singleton] at hm; subst hm; rfl
end Go.Pl
/- The bindings and messages after an event of routes. No program in sight. -/
namespace Go.Pl
open Go Go.RT
set_option linter.all false
theorem findB_mem {lc : List Bnd} {p : Pfx} {n : Int} {b : Bnd} (hb : b ∈ lc) (h1 : b.px = p) (h2 : b.pe = n) (hu : ∀ x ∈ lc, x.px = p → x.pe = n → x.la = b.la) : findB lc p n = some b.la := by
  unfold findB
  cases hf : lc.find? (isBn p n) with
  | none =>
    have := List.find?_eq_none.1 hf b hb
    simp [isBn, h1, h2] at this
  | some x =>
    have hx := List.mem_of_find?_eq_some hf
    have hx2 := List.find?_some hf
    simp [isBn] at hx2
    show some x.la = some b.la
    rw [hu x hx hx2.1 hx2.2]
theorem find_insB (q : Bnd → Bool) (b : Bnd) : ∀ l : List Bnd, (q b = false → (insB b l).find? q = l.find? q) ∧ (q b = true → (∀ x ∈ l, q x = false) → (insB b l).find? q = some b)
  | [] => ⟨fun h => by simp [insB, h], fun h _ => by simp [insB, h]⟩
  | x :: t => by
    obtain ⟨i1, i2⟩ := find_insB q b t
    simp only [insB]
    split
    · exact ⟨fun h => by rw [List.find?_cons, h], fun h _ => by rw [List.find?_cons, h]⟩
    · refine ⟨fun h => ?_, fun h ha => ?_⟩
      · rw [List.find?_cons, List.find?_cons, i1 h]
      · rw [List.find?_cons, ha x (List.mem_cons_self ..), i2 h fun y hy => ha y (List.mem_cons_of_mem _ hy)]
theorem findB_bind (l : List Bnd) (b : Bnd) (p : Pfx) (n : Int) : findB (bindL l b) p n = if b.px = p ∧ b.pe = n then some b.la else findB l p n := by
  unfold findB bindL
  obtain ⟨h1, h2⟩ := find_insB (isBn p n) b (unbL l b.px b.pe)
  by_cases h : b.px = p ∧ b.pe = n
  · rw [if_pos h, h2 (by simp [isBn, h.1, h.2]) fun x hx => ?_]
    · rfl
    · have := (List.mem_filter.1 hx).2
      rw [h.1, h.2] at this
      simpa using this
  · rw [if_neg h, h1 (by simp only [isBn, Bool.and_eq_false_iff, decide_eq_false_iff_not]; exact (Decidable.not_and_iff_or_not).1 h)]
    congr 1
    unfold unbL
    rw [List.find?_filter]
    congr 1
    funext x
    by_cases hx : isBn p n x = true
    · have hx2 : isBn b.px b.pe x = false := by
        simp only [isBn, Bool.and_eq_true, decide_eq_true_eq] at hx
        obtain ⟨a1, a2⟩ := hx
        rw [Bool.eq_false_iff]
        intro hc
        simp only [isBn, Bool.and_eq_true, decide_eq_true_eq] at hc
        exact h ⟨hc.1.symm.trans a1, hc.2.symm.trans a2⟩
      rw [hx, hx2]; rfl
    · rw [Bool.not_eq_true] at hx
      rw [hx]; simp
/-- bindings and messages of the routes that were gone through -/
structure BI (ro : Int) (ps : List Int) (f0 : List Rg) (P : List Fec) (d : DSt) : Prop where
  v : vD ro d.1 d.2.1
  c : cD f0 d.1 d.2.1
  a : ∀ b ∈ d.2.1, ∃ x ∈ P, b.px = x.px ∧ (b.la = 3 ↔ x.lo = true)
  e : ∀ x ∈ P, ∃ b ∈ d.2.1, b.px = x.px
  m : ∀ b ∈ d.2.1, ∀ p ∈ ps, msgS p 1 b.px b.la ∈ d.2.2
  o : ∀ m ∈ d.2.2, ∃ p ∈ ps, ∃ b ∈ d.2.1, m = msgS p 1 b.px b.la
  n : d.2.1.length ≤ P.length
  w : d.2.2.length ≤ P.length * ps.length
theorem bindL_new {lc : List Bnd} {b : Bnd} (h : ∀ x ∈ lc, x.px ≠ b.px) {x : Bnd} : x ∈ bindL lc b ↔ x = b ∨ x ∈ lc := by
  unfold bindL
  rw [unb_id h, insB_mem]
theorem BI.step {ro : Int} {ps : List Int} {f0 : List Rg} {P : List Fec} {d : DSt} (h : BI ro ps f0 P d) {x : Fec} (hx : ∀ y ∈ P, y.px ≠ x.px) (hf : 100 ≤ cntG f0 + 40) (hP : P.length ≤ 40) : BI ro ps f0 (P ++ [x]) (bindS ro ps d x) := by
  obtain ⟨k1, k2⟩ := bindS_ok (ps := ps) (x := x) h.v
  have k3 := k2 f0 h.c
  have hno : ∀ b ∈ d.2.1, b.px ≠ x.px := fun b hb e => by
    obtain ⟨y, hy, h1, _⟩ := h.a b hb
    exact hx y hy (h1.symm.trans e)
  have hnone : (findB d.2.1 x.px ro).isSome = false := (findB_none h.v.pe).2 hno
  -- the label that is given
  have key : ∃ la fr2, bindS ro ps d x = (fr2, bindL d.2.1 ⟨x.px, ro, la⟩, d.2.2 ++ ps.map fun n => msgS n 1 x.px la) ∧ (la = 3 ↔ x.lo = true) := by
    unfold bindS
    rw [if_neg (by rw [hnone]; decide)]
    by_cases hl : x.lo = true
    · rw [if_pos hl]; exact ⟨3, d.1, rfl, by simp [hl]⟩
    · rw [if_neg hl]
      have hlb := (lblE_iff d.1).2 h.v.hf
      have hcnt := h.c.c
      have hfl := List.length_filter_le (fun b : Bnd => decide (b.la ≠ 3)) d.2.1
      have hn := h.n
      have hpos : 0 < cntG d.1 := by omega
      cases hd : d.1 with
      | nil => rw [hd] at hpos; simp [cntG] at hpos
      | cons r t =>
        have ht : takeF (r :: t) = (r.f, takeL (r :: t), 0) := by
          unfold takeF
          rw [if_neg (by rw [← hd]; simpa using hlb)]
        rw [ht]
        dsimp only
        rw [if_neg (by decide)]
        have hr := h.v.hf
        rw [hd] at hr
        have := hr.hd.1.lo
        exact ⟨r.f, takeL (r :: t), rfl, ⟨fun e => by omega, fun e => absurd e hl⟩⟩
  obtain ⟨la, fr2, he, hla⟩ := key
  rw [he] at k1 k3 ⊢
  have hm := fun y => bindL_new (lc := d.2.1) (b := ⟨x.px, ro, la⟩) hno (x := y)
  have hmn : (⟨x.px, ro, la⟩ : Bnd) ∈ bindL d.2.1 ⟨x.px, ro, la⟩ := (hm _).2 (.inl rfl)
  refine ⟨k1, k3, fun b hb => ?_, fun y hy => ?_, fun b hb p hp => ?_, fun m hm2 => ?_, ?_, ?_⟩
  · rcases (hm b).1 hb with rfl | hb
    · exact ⟨x, by simp, rfl, hla⟩
    · obtain ⟨y, hy, h1⟩ := h.a b hb
      exact ⟨y, List.mem_append_left _ hy, h1⟩
  · rcases List.mem_append.1 hy with hy | hy
    · obtain ⟨b, hb, h1⟩ := h.e y hy
      exact ⟨b, (hm b).2 (.inr hb), h1⟩
    · simp at hy; subst hy
      exact ⟨_, hmn, rfl⟩
  · rcases (hm b).1 hb with rfl | hb
    · exact List.mem_append_right _ (List.mem_map.2 ⟨p, hp, rfl⟩)
    · exact List.mem_append_left _ (h.m b hb p hp)
  · rcases List.mem_append.1 hm2 with hm2 | hm2
    · obtain ⟨p, hp, b, hb, e⟩ := h.o m hm2
      exact ⟨p, hp, b, (hm b).2 (.inr hb), e⟩
    · obtain ⟨p, hp, rfl⟩ := List.mem_map.1 hm2
      exact ⟨p, hp, _, hmn, rfl⟩
  · have := bindL_len d.2.1 ⟨x.px, ro, la⟩
    have := h.n
    simp; omega
  · have := h.w
    simp [Nat.succ_mul]; omega
theorem BI.all {ro : Int} {ps : List Int} {f0 : List Rg} (hf : 100 ≤ cntG f0 + 40) : ∀ (l P : List Fec) (d : DSt), BI ro ps f0 P d → ascX (P ++ l) → (P ++ l).length ≤ 40 → BI ro ps f0 (P ++ l) (l.foldl (bindS ro ps) d)
  | [], P, d, h, _, _ => by simpa using h
  | x :: t, P, d, h, ha, hn => by
    rw [List.foldl_cons]
    have hx : ∀ y ∈ P, y.px ≠ x.px := fun y hy e => by
      have := (List.pairwise_append.1 ha).2.2 y hy x (List.mem_cons_self ..)
      rw [e] at this
      have h2 := (cmpP_neg _ _).2 this
      rw [(cmpP_zero _ _).2 rfl] at h2
      omega
    have h1 := h.step hx hf (by simp at hn; omega)
    have := BI.all hf t (P ++ [x]) _ h1 (by simpa using ha) (by simpa using hn)
    simpa using this
end Go.Pl
/- Two peers, event by event. No program in sight. -/
namespace Go.Pl
open Go Go.RT
set_option linter.all false
structure AG (t : Nat) (a b : Lst) (q : List Mal) : Prop where
  va : okV a
  vb : okV b
  ra : a.ro = 1
  rb : b.ro = 2
  pa : a.ps = [2]
  pb : b.ps = [1]
  ga : ∀ x ∈ a.lc, gB x
  gb : ∀ x ∈ b.lc, gB x
  la : a.lc.length ≤ 40
  lb : b.lc.length ≤ 40
  fa : a.fr.length ≤ 1 + 40 * t
  fb : b.fr.length ≤ 1 + 40 * t
  n : a.rm.length + b.rm.length + wtQ q ≤ 160 * t
  mq : ∀ m ∈ q, mlOk m ∧ (m.fr = 0 ∧ m.to = 1 ∨ m.fr = 1 ∧ m.to = 0)
  ab : (subQ 0 q).foldl (apM 1) b.rm = a.lc
  ba : (subQ 1 q).foldl (apM 2) a.rm = b.lc
theorem AG.mono {t : Nat} {a b : Lst} {q : List Mal} (h : AG t a b q) : AG (t + 1) a b q := { h with fa := by have := h.fa; omega, fb := by have := h.fb; omega, n := by have := h.n; omega }
theorem AG.oka {t : Nat} {a b : Lst} {q : List Mal} (h : AG t a b q) (ht : t ≤ 20) : okLs a := h.va.all (by have := h.fa; omega) (by have := h.la; omega) (by have := h.n; omega) (by rw [h.pa]; simp)
theorem AG.okb {t : Nat} {a b : Lst} {q : List Mal} (h : AG t a b q) (ht : t ≤ 20) : okLs b := h.vb.all (by have := h.fb; omega) (by have := h.lb; omega) (by have := h.n; omega) (by rw [h.pb]; simp)
theorem apM_len (n : Int) (R : List Bnd) (m : Mal) : (apM n R m).length ≤ R.length + 1 := by
  unfold apM
  dsimp only
  split
  · exact bindL_len _ _
  · split
    · split
      · exact Nat.le_trans (unbL_len _ _ _) (by omega)
      · omega
    · omega
/-- a message that arrives -/
theorem dl_step {s : Lst} {n : Int} {m : Mal} (hm : mlOk m) (hp : s.ps.contains n = true) : ∃ o, dataF s n m.da = ({ s with rm := apM n s.rm m }, o, 0) ∧ (o = [] ∨ ∃ x : Msg, o = [msgS n 3 x.px x.la] ∧ okM x ∧ goodM x ∧ x.k = 2) ∧ ∀ i, wtQ (pushQ i o) + 1 ≤ wtM m := by
  obtain ⟨x, h1, h2, h3, h4, h5⟩ := hm.e
  have hz : ∀ i, wtQ (pushQ i []) + 1 ≤ wtM m := fun i => by have := wtM_pos m; simp [wtQ, pushQ]; omega
  have hr : (s.rm = s.rm) := rfl
  unfold dataF apM
  rw [if_neg (by rw [hp]; decide), h5]
  dsimp only
  rw [if_neg (by simp)]
  by_cases k1 : x.k = 1
  · rw [if_pos k1, if_pos k1]
    exact ⟨[], rfl, .inl rfl, hz⟩
  · rw [if_neg k1, if_neg k1]
    by_cases k2 : x.k = 2
    · rw [if_pos k2, if_pos k2]
      by_cases f : findB s.rm x.px n = some x.la
      · rw [if_pos f, if_pos f]
        refine ⟨_, rfl, .inr ⟨x, rfl, h1, h2, k2⟩, fun i => ?_⟩
        have g1 : okM ⟨3, x.px, x.la⟩ := ⟨by simp [inr], h1.px, h1.la⟩
        have g2 : goodM ⟨3, x.px, x.la⟩ := ⟨by show (1 : Int) ≤ 3; omega, by show (3 : Int) ≤ 4; omega, h2.px, fun e => by have : (3 : Int) = 4 := e; omega, fun _ => h2.ln (by omega)⟩
        have e1 : wtM (mkMl i (msgS n 3 x.px x.la)) = 1 := by
          unfold wtM mkMl msgS
          dsimp only
          rw [dec_of g1 g2]
          dsimp only
          rw [if_neg (by omega)]
        have e2 : wtM m = 2 := by unfold wtM; rw [h5]; dsimp only; rw [if_pos k2]
        simp [wtQ, pushQ, e1, e2]
      · rw [if_neg f, if_neg f]
        exact ⟨[], rfl, .inl rfl, hz⟩
    · rw [if_neg k2, if_neg k2, if_neg (by omega)]
      exact ⟨[], rfl, .inl rfl, hz⟩
theorem dlv_eq (s : Lst) (m : Mal) : handleF s (dlvE m) = dataF s (m.fr + 1) m.da := by
  unfold handleF dlvE
  dsimp only
  rw [if_neg (by omega), if_neg (by omega), if_pos rfl]
theorem dlv_ok {m : Mal} (h : mlOk m) : okLe (dlvE m) := by
  obtain ⟨x, h1, h2, h3, h4, h5⟩ := h.e
  have := encodeF_len x
  refine ⟨by simp [dlvE, inr], ?_, ?_, by simp [dlvE], by simp [dlvE]⟩
  · show ∀ y ∈ m.da, _
    rw [h4]; exact encodeF_byte
  · show m.da.length ≤ _
    rw [h4]; omega
/-- what is sent back changes nothing at the other side -/
theorem rel_told {n : Int} {o : List Snd} (h : o = [] ∨ ∃ x : Msg, o = [msgS n 3 x.px x.la] ∧ okM x ∧ goodM x ∧ x.k = 2) (i : Nat) (r : Int) (A : List Bnd) : told i r n A A o := by
  rcases h with rfl | ⟨x, rfl, h1, h2, h3⟩
  · exact told.nil _ _ _ _
  · exact told.rel h1 h2 h3
theorem subQ_push {i j : Nat} {r n : Int} {A B : List Bnd} {o : List Snd} (h : told i r n A B o) : subQ j (pushQ i o) = if i = j then pushQ i o else [] := by
  split
  · next e => subst e; exact List.filter_eq_self.2 fun m hm => by simp [(h.ok m hm).2.2]
  · next e => exact List.filter_eq_nil_iff.2 fun m hm => by simp [(h.ok m hm).2.2, e]
theorem AG.dl01 {t : Nat} {a b : Lst} {m : Mal} {q : List Mal} (h : AG t a b (m :: q)) (ht : t ≤ 20) (hf : m.fr = 0) (hto : m.to = 1) : ∃ o, handleF b (dlvE m) = ({ b with rm := apM 1 b.rm m }, o, 0) ∧ evOk [a, b] m.to (dlvE m) ∧ AG t (a) ({ b with rm := apM 1 b.rm m }) (q ++ pushQ 1 o) ∧ wtQ (q ++ pushQ 1 o) < wtQ (m :: q) := by
  obtain ⟨hm, _⟩ := h.mq m (List.mem_cons_self ..)
  have hn := h.n
  have hw : wtQ (m :: q) = wtM m + wtQ q := by simp [wtQ]
  rw [hw] at hn
  obtain ⟨o, k1, k2, k3⟩ := dl_step (s := b) (n := 1) hm (by rw [h.pb]; decide)
  have e : handleF b (dlvE m) = ({ b with rm := apM 1 b.rm m }, o, 0) := by rw [dlv_eq, hf]; exact k1
  have ht2 := rel_told k2 1 2
  have hl := apM_len 1 b.rm m
  have k4 := k3 1
  have e1 := h.ab
  have e2 := h.ba
  have s1 : subQ 0 (m :: q) = m :: subQ 0 q := by simp [subQ, hf]
  have s2 : subQ 1 (m :: q) = subQ 1 q := by simp [subQ, hf]
  rw [s1, List.foldl_cons] at e1
  rw [s2] at e2
  have hv : okV ({ b with rm := apM 1 b.rm m }) := by have := handle_okV h.vb (dlv_ok hm); rwa [e] at this
  have hq : ∀ m' ∈ q ++ pushQ 1 o, mlOk m' ∧ (m'.fr = 0 ∧ m'.to = 1 ∨ m'.fr = 1 ∧ m'.to = 0) := fun m' hm' => by
    rcases List.mem_append.1 hm' with hm' | hm'
    · exact h.mq m' (List.mem_cons_of_mem _ hm')
    · obtain ⟨p1, p2, p3⟩ := (ht2 []).ok m' hm'
      exact ⟨p1, .inr ⟨p3, p2⟩⟩
  have w1 : wtQ (q ++ pushQ 1 o) = wtQ q + wtQ (pushQ 1 o) := wtQ_app _ _
  refine ⟨o, e, ⟨by rw [hto]; simp, by rw [hto]; exact h.okb ht, dlv_ok hm, by rw [hto]; show (handleF b (dlvE m)).2.2 = 0; rw [e], fun z hz => ?_⟩, { h with vb := hv, n := ?_, mq := hq, ab := ?_, ba := ?_ }, by omega⟩
  · rw [hto] at hz
    change z ∈ (handleF b (dlvE m)).2.1 at hz
    rw [e] at hz
    have := (ht2 []).pe z hz
    rw [this]; simp
  · dsimp only; rw [w1]; omega
  · rw [subQ_app, subQ_push (ht2 []), if_neg (by omega), List.append_nil]; exact e1
  · rw [subQ_app, subQ_push (ht2 []), if_pos rfl, List.foldl_append]
    dsimp only
    rw [e2]; exact (ht2 _).ap
theorem AG.dl10 {t : Nat} {a b : Lst} {m : Mal} {q : List Mal} (h : AG t a b (m :: q)) (ht : t ≤ 20) (hf : m.fr = 1) (hto : m.to = 0) : ∃ o, handleF a (dlvE m) = ({ a with rm := apM 2 a.rm m }, o, 0) ∧ evOk [a, b] m.to (dlvE m) ∧ AG t ({ a with rm := apM 2 a.rm m }) (b) (q ++ pushQ 0 o) ∧ wtQ (q ++ pushQ 0 o) < wtQ (m :: q) := by
  obtain ⟨hm, _⟩ := h.mq m (List.mem_cons_self ..)
  have hn := h.n
  have hw : wtQ (m :: q) = wtM m + wtQ q := by simp [wtQ]
  rw [hw] at hn
  obtain ⟨o, k1, k2, k3⟩ := dl_step (s := a) (n := 2) hm (by rw [h.pa]; decide)
  have e : handleF a (dlvE m) = ({ a with rm := apM 2 a.rm m }, o, 0) := by rw [dlv_eq, hf]; exact k1
  have ht2 := rel_told k2 0 1
  have hl := apM_len 2 a.rm m
  have k4 := k3 0
  have e1 := h.ba
  have e2 := h.ab
  have s1 : subQ 1 (m :: q) = m :: subQ 1 q := by simp [subQ, hf]
  have s2 : subQ 0 (m :: q) = subQ 0 q := by simp [subQ, hf]
  rw [s1, List.foldl_cons] at e1
  rw [s2] at e2
  have hv : okV ({ a with rm := apM 2 a.rm m }) := by have := handle_okV h.va (dlv_ok hm); rwa [e] at this
  have hq : ∀ m' ∈ q ++ pushQ 0 o, mlOk m' ∧ (m'.fr = 0 ∧ m'.to = 1 ∨ m'.fr = 1 ∧ m'.to = 0) := fun m' hm' => by
    rcases List.mem_append.1 hm' with hm' | hm'
    · exact h.mq m' (List.mem_cons_of_mem _ hm')
    · obtain ⟨p1, p2, p3⟩ := (ht2 []).ok m' hm'
      exact ⟨p1, .inl ⟨p3, p2⟩⟩
  have w1 : wtQ (q ++ pushQ 0 o) = wtQ q + wtQ (pushQ 0 o) := wtQ_app _ _
  refine ⟨o, e, ⟨by rw [hto]; simp, by rw [hto]; exact h.oka ht, dlv_ok hm, by rw [hto]; show (handleF a (dlvE m)).2.2 = 0; rw [e], fun z hz => ?_⟩, { h with va := hv, n := ?_, mq := hq, ba := ?_, ab := ?_ }, by omega⟩
  · rw [hto] at hz
    change z ∈ (handleF a (dlvE m)).2.1 at hz
    rw [e] at hz
    have := (ht2 []).pe z hz
    rw [this]; simp
  · dsimp only; rw [w1]; omega
  · rw [subQ_app, subQ_push (ht2 []), if_pos rfl, List.foldl_append]
    dsimp only
    rw [e2]; exact (ht2 _).ap
  · rw [subQ_app, subQ_push (ht2 []), if_neg (by omega), List.append_nil]; exact e1
/-- all messages arrive -/
theorem AG.dlv {t : Nat} {a b : Lst} {q : List Mal} (h : AG t a b q) (ht : t ≤ 20) : okQ 20001 [a, b] q ∧ ∃ a' b', runQ 20001 [a, b] q = [a', b'] ∧ AG t a' b' [] := by
  obtain ⟨k1, a', b', k2, k3⟩ := okQ_of (fun ss q => ∃ a b, ss = [a, b] ∧ AG t a b q) (fun _ q => wtQ q) (fun ss m q ⟨a, b, e, hJ⟩ => by
    subst e
    have hnn := hJ.n
    have hql := wtQ_len q
    have hw : wtQ (m :: q) = wtM m + wtQ q := by simp [wtQ]
    rcases (hJ.mq m (List.mem_cons_self ..)).2 with ⟨h1, h2⟩ | ⟨h1, h2⟩
    · obtain ⟨o, k1, k2, k3, k4⟩ := hJ.dl01 ht h1 h2
      have e1 : setS [a, b] m.to (dlvE m) = [a, { b with rm := apM 1 b.rm m }] := by unfold setS; rw [h2]; show [a, (handleF b (dlvE m)).1] = _; rw [k1]
      have e2 : outS [a, b] m.to (dlvE m) = pushQ 1 o := by unfold outS; rw [h2]; show pushQ 1 (handleF b (dlvE m)).2.1 = _; rw [k1]
      have hl2 := wtQ_len (q ++ pushQ 1 o)
      rw [e1, e2]
      rw [List.length_append] at hl2
      exact ⟨⟨k2, by omega, by rw [e2]; omega⟩, ⟨_, _, rfl, k3⟩, k4⟩
    · obtain ⟨o, k1, k2, k3, k4⟩ := hJ.dl10 ht h1 h2
      have e1 : setS [a, b] m.to (dlvE m) = [{ a with rm := apM 2 a.rm m }, b] := by unfold setS; rw [h2]; show [(handleF a (dlvE m)).1, b] = _; rw [k1]
      have e2 : outS [a, b] m.to (dlvE m) = pushQ 0 o := by unfold outS; rw [h2]; show pushQ 0 (handleF a (dlvE m)).2.1 = _; rw [k1]
      have hl2 := wtQ_len (q ++ pushQ 0 o)
      rw [e1, e2]
      rw [List.length_append] at hl2
      exact ⟨⟨k2, by omega, by rw [e2]; omega⟩, ⟨_, _, rfl, k3⟩, k4⟩) 20001 [a, b] q ⟨a, b, rfl, h⟩ (by have := h.n; omega)
  exact ⟨k1, a', b', k2, k3⟩
theorem AG.done {t : Nat} {a b : Lst} (h : AG t a b []) : b.rm = a.lc ∧ a.rm = b.lc := ⟨h.ab, h.ba⟩
theorem init_okV (i : Nat) (h : i ≤ 100) : okV (initS i) := by
  have hv : vG [⟨16 + 100 * (i : Int), 90 + 100 * i⟩] := ⟨fun r hr => by simp at hr; subst hr; exact ⟨by dsimp only; omega, by dsimp only; omega, by dsimp only; omega⟩, List.pairwise_singleton ..⟩
  exact ⟨vD.nil hv, List.Pairwise.nil, by simp [initS], by simp [initS], List.Pairwise.nil, by simp [initS]⟩
structure Trn where
  sc : Bool
  rt : List Fec
  dl : Bool
structure okTr (t : Trn) : Prop where
  rt : ∀ x ∈ t.rt, okFe x
  n : t.rt.length ≤ 9223372036854775807
end Go.Pl
/- The network: events up and routes in any order, deliveries. No program in sight. -/
namespace Go.Pl
open Go Go.RT
set_option linter.all false
theorem getD_setL {α : Type} (l : List α) (i j : Nat) (x d : α) (h : i < l.length) : (l.set i x).getD j d = if i = j then x else l.getD j d := by
  rw [List.getD_eq_getElem?_getD, List.getElem?_set]
  by_cases e : i = j
  · subst e; simp [h]
  · simp [e]
abbrev gS (ss : List Lst) (i : Nat) : Lst := ss.getD i zLst
/-- a mapping on its way -/
def mpM (i j : Nat) (b : Bnd) : Mal := ⟨i, j, (encodeF ⟨1, b.px, b.la⟩).1⟩
theorem mkMl_msg (i j : Nat) (b : Bnd) : mkMl i (msgS ((j : Int) + 1) 1 b.px b.la) = mpM i j b := by
  unfold mkMl msgS mpM
  simp
structure NI (k : Nat) (l : List Jnt) (D : Nat → Nat → Int) (f : Nat → Nat → Bool) (g : Nat → Bool) (B : Nat) (ss : List Lst) (q : List Mal) : Prop where
  len : ss.length = k
  st : ∀ i, i < k → okV (gS ss i)
  ro : ∀ i, i < k → (gS ss i).ro = (i : Int) + 1
  fr : ∀ i, i < k → (gS ss i).fr.length ≤ 1
  nlc : ∀ i, i < k → (gS ss i).lc.length ≤ k
  ps : ∀ i, i < k → ∀ p ∈ (gS ss i).ps, ∃ j, j < k ∧ p = (j : Int) + 1 ∧ edgB l i j = true
  up : ∀ i j, i < k → j < k → (((j : Int) + 1) ∈ (gS ss i).ps ↔ f i j = true)
  lc0 : ∀ i, i < k → g i = false → (gS ss i).lc = [] ∧ (gS ss i).fr = [⟨16 + 100 * i, 90 + 100 * i⟩]
  lc1 : ∀ i, i < k → g i = true → (gS ss i).rt = rtsF k l D i k ∧ (∀ b ∈ (gS ss i).lc, ∃ x ∈ rtsF k l D i k, b.px = x.px ∧ (b.la = 3 ↔ x.lo = true)) ∧ ∀ x ∈ rtsF k l D i k, ∃ b ∈ (gS ss i).lc, b.px = x.px
  tell : ∀ i j, i < k → j < k → ((j : Int) + 1) ∈ (gS ss i).ps → ∀ b ∈ (gS ss i).lc, mpM i j b ∈ q ∨ findB (gS ss j).rm b.px ((i : Int) + 1) = some b.la
  mail : ∀ m ∈ q, ∃ i j, i < k ∧ j < k ∧ edgB l i j = true ∧ ∃ b ∈ (gS ss i).lc, m = mpM i j b
  cnt : ∀ i, i < k → (gS ss i).rm.length + q.length ≤ B
variable {k : Nat} {l : List Jnt} {D : Nat → Nat → Int} {f : Nat → Nat → Bool} {g : Nat → Bool} {B : Nat} {ss : List Lst} {q : List Mal}
theorem NI.congr (h : NI k l D f g B ss q) {f' : Nat → Nat → Bool} {g' : Nat → Bool} {B' : Nat} (hf : ∀ i j, i < k → j < k → f' i j = f i j) (hg : ∀ i, i < k → g' i = g i) (hB : B ≤ B') : NI k l D f' g' B' ss q :=
  ⟨h.len, h.st, h.ro, h.fr, h.nlc, h.ps, fun i j hi hj => by rw [hf i j hi hj]; exact h.up i j hi hj, fun i hi hg0 => h.lc0 i hi (by rw [← hg i hi]; exact hg0), fun i hi hg0 => h.lc1 i hi (by rw [← hg i hi]; exact hg0), h.tell, h.mail, fun i hi => Nat.le_trans (h.cnt i hi) hB⟩
theorem NI.nps (h : NI k l D f g B ss q) {i : Nat} (hi : i < k) : (gS ss i).ps.length ≤ k := by
  have hn : (gS ss i).ps.Nodup := (h.st i hi).ps.imp fun h => by omega
  have := List.Nodup.length_le_of_subset hn (l₂ := (List.range k).map fun j : Nat => (j : Int) + 1) fun p hp => by
    obtain ⟨j, hj, rfl, _⟩ := h.ps i hi p hp
    exact List.mem_map.2 ⟨j, List.mem_range.2 hj, rfl⟩
  simpa using this
theorem NI.all (h : NI k l D f g B ss q) (hk : k ≤ 10) (hB : B ≤ 50000) {i : Nat} (hi : i < k) : okLs (gS ss i) :=
  (h.st i hi).all (by have := h.fr i hi; omega) (by have := h.nlc i hi; omega) (by have := h.cnt i hi; omega) (by have := h.nps hi; omega)
theorem NI.zero (hk : k ≤ 10) : NI k l D (fun _ _ => false) (fun _ => false) 0 (initN k) [] := by
  have hg : ∀ i, i < k → gS (initN k) i = initS i := fun i hi => by simp [gS, initN, List.getD, hi]
  refine ⟨initN_len k, fun i hi => by rw [hg i hi]; exact init_okV i (by omega), fun i hi => by rw [hg i hi]; rfl, fun i hi => by rw [hg i hi]; simp [initS], fun i hi => by rw [hg i hi]; simp [initS], fun i hi => by rw [hg i hi]; simp [initS], fun i j hi hj => by rw [hg i hi]; simp [initS], fun i hi _ => by rw [hg i hi]; exact ⟨rfl, rfl⟩, fun i hi h => by simp at h, fun i j hi hj => by rw [hg i hi]; simp [initS], fun m hm => by simp at hm, fun i hi => by rw [hg i hi]; simp [initS]⟩
/-- a session comes up -/
theorem NI.evUp (h : NI k l D f g B ss q) (hk : k ≤ 10) (hB : B ≤ 50000) {i j : Nat} (hi : i < k) (hj : j < k) (he : edgB l i j = true) (hn : f i j = false) :
    evOk ss i ⟨1, (j : Int) + 1, [], []⟩ ∧ NI k l D (fun a b => if a = i ∧ b = j then true else f a b) g (B + k) (setS ss i ⟨1, (j : Int) + 1, [], []⟩) (q ++ outS ss i ⟨1, (j : Int) + 1, [], []⟩) := by
  have hne := edgB_ne he
  have hro := h.ro i hi
  have hnp : ((j : Int) + 1) ∉ (gS ss i).ps := fun hc => by rw [(h.up i j hi hj).1 hc] at hn; cases hn
  have hil : i < ss.length := by rw [h.len]; exact hi
  have hE : okLe ⟨1, (j : Int) + 1, [], []⟩ := ⟨by simp [inr], by simp, by simp, by simp, by simp⟩
  have hh : handleF (gS ss i) ⟨1, (j : Int) + 1, [], []⟩ = ({ gS ss i with ps := insI ((j : Int) + 1) (gS ss i).ps }, (gS ss i).lc.map fun b => msgS ((j : Int) + 1) 1 b.px b.la, 0) := by
    unfold handleF upF
    rw [if_pos rfl, if_neg (by rw [hro]; simp; omega), if_neg (by simpa using hnp)]
  have hv := handle_okV (h.st i hi) hE
  rw [hh] at hv
  have ho : outS ss i ⟨1, (j : Int) + 1, [], []⟩ = (gS ss i).lc.map fun b => mpM i j b := by
    unfold outS pushQ
    rw [hh]
    dsimp only
    rw [List.map_map]
    exact List.map_congr_left fun b _ => mkMl_msg i j b
  have hg : ∀ a, gS (setS ss i ⟨1, (j : Int) + 1, [], []⟩) a = if i = a then { gS ss i with ps := insI ((j : Int) + 1) (gS ss i).ps } else gS ss a := fun a => by
    unfold setS gS
    rw [getD_setL _ _ _ _ _ hil, hh]
  rw [ho]
  refine ⟨⟨hil, h.all hk hB hi, hE, by rw [show ss.getD i zLst = gS ss i from rfl, hh], fun m hm => ?_⟩, ?_⟩
  · rw [show ss.getD i zLst = gS ss i from rfl, hh] at hm
    obtain ⟨b, _, rfl⟩ := List.mem_map.1 hm
    rw [h.len]; unfold msgS; dsimp only; omega
  refine ⟨by unfold setS; rw [List.length_set, h.len], fun a ha => ?_, fun a ha => ?_, fun a ha => ?_, fun a ha => ?_, fun a ha => ?_, fun a b ha hb => ?_, fun a ha hga => ?_, fun a ha hga => ?_, fun a b ha hb => ?_, fun m hm => ?_, fun a ha => ?_⟩
  · rw [hg]; split
    · exact hv
    · exact h.st a ha
  · rw [hg]; split
    · next e => subst e; exact hro
    · exact h.ro a ha
  · rw [hg]; split
    · exact h.fr i hi
    · exact h.fr a ha
  · rw [hg]; split
    · exact h.nlc i hi
    · exact h.nlc a ha
  · rw [hg]; split
    · next e =>
      subst e
      intro p hp
      rcases insI_mem.1 hp with rfl | hp
      · exact ⟨j, hj, rfl, he⟩
      · exact h.ps i hi p hp
    · exact h.ps a ha
  · rw [hg]
    by_cases e : i = a
    · subst e
      rw [if_pos rfl]
      dsimp only
      rw [insI_mem]
      by_cases e2 : b = j
      · subst e2; simp
      · rw [if_neg (by simp [e2]), ← h.up i b hi hb]
        constructor
        · rintro (h1 | h1)
          · omega
          · exact h1
        · exact .inr
    · rw [if_neg e, if_neg (fun c => e c.1.symm)]
      exact h.up a b ha hb
  · rw [hg]; split
    · next e => subst e; exact h.lc0 i hi hga
    · exact h.lc0 a ha hga
  · rw [hg]; split
    · next e => subst e; exact h.lc1 i hi hga
    · exact h.lc1 a ha hga
  · have hrm : (gS (setS ss i ⟨1, (j : Int) + 1, [], []⟩) b).rm = (gS ss b).rm := by
      rw [hg]; split
      · next e => subst e; rfl
      · rfl
    rw [hrm, hg]
    split
    · next e =>
      subst e
      intro hp b2 hb2
      dsimp only at hp hb2
      rcases insI_mem.1 hp with e2 | hp
      · have : b = j := by omega
        subst this
        exact .inl (List.mem_append_right _ (List.mem_map.2 ⟨b2, hb2, rfl⟩))
      · rcases h.tell i b hi hb hp b2 hb2 with h1 | h1
        · exact .inl (List.mem_append_left _ h1)
        · exact .inr h1
    · intro hp b2 hb2
      rcases h.tell a b ha hb hp b2 hb2 with h1 | h1
      · exact .inl (List.mem_append_left _ h1)
      · exact .inr h1
  · have hlc : ∀ a, (gS (setS ss i ⟨1, (j : Int) + 1, [], []⟩) a).lc = (gS ss a).lc := fun a => by
      rw [hg]; split
      · next e => subst e; rfl
      · rfl
    rcases List.mem_append.1 hm with hm | hm
    · obtain ⟨a, b, ha, hb, hab, b2, hb2, e⟩ := h.mail m hm
      exact ⟨a, b, ha, hb, hab, b2, by rw [hlc]; exact hb2, e⟩
    · obtain ⟨b2, hb2, rfl⟩ := List.mem_map.1 hm
      exact ⟨i, j, hi, hj, he, b2, by rw [hlc]; exact hb2, rfl⟩
  · have hrm : (gS (setS ss i ⟨1, (j : Int) + 1, [], []⟩) a).rm = (gS ss a).rm := by
      rw [hg]; split
      · next e => subst e; rfl
      · rfl
    rw [hrm]
    have := h.cnt a ha
    have := h.nlc i hi
    rw [List.length_append, List.length_map]; omega
/-- the routes come -/
theorem NI.evRt (nd : NetD k l D) (h : NI k l D f g B ss q) (hB : B ≤ 50000) {i : Nat} (hi : i < k) (hgi : g i = false) :
    evOk ss i ⟨4, 0, [], rtsF k l D i k⟩ ∧ NI k l D f (fun a => if a = i then true else g a) (B + k * k) (setS ss i ⟨4, 0, [], rtsF k l D i k⟩) (q ++ outS ss i ⟨4, 0, [], rtsF k l D i k⟩) := by
  have hk := nd.k2
  have hro := h.ro i hi
  have hil : i < ss.length := by rw [h.len]; exact hi
  have hrl := rtsF_len (k := k) (l := l) (D := D) i k
  have hE : okLe ⟨4, 0, [], rtsF k l D i k⟩ := ⟨by simp [inr], by simp, by simp, rts_small nd i, by dsimp only; omega⟩
  obtain ⟨hlc, hfr⟩ := h.lc0 i hi hgi
  have hchk := rts_check nd hi
  have hdrop : dropF (gS ss i) (rtsF k l D i k) = ((gS ss i).fr, [], []) := by unfold dropF; rw [hlc]; rfl
  have hbi : BI ((i : Int) + 1) (gS ss i).ps (gS ss i).fr [] ((gS ss i).fr, [], []) := by
    have hv := (h.st i hi).v
    rw [hro] at hv
    exact ⟨vD.nil hv.hf, cD.nil _, by simp, by simp, by simp, by simp, by simp, by simp⟩
  have hcnt : 100 ≤ cntG (gS ss i).fr + 40 := by rw [hfr]; simp [cntG]; omega
  have hall := BI.all hcnt (rtsF k l D i k) [] _ hbi (rtsF_asc i k) (by simp; omega)
  rw [List.nil_append] at hall
  have hlen := bdG_len ((i : Int) + 1) (gS ss i).ps (rtsF k l D i k) ((gS ss i).fr, [], []) (rtsF k l D i k).length (Nat.le_refl _)
  unfold bdG at hlen
  rw [List.take_length] at hlen
  have hh : handleF (gS ss i) ⟨4, 0, [], rtsF k l D i k⟩ = ({ gS ss i with fr := ((rtsF k l D i k).foldl (bindS ((i : Int) + 1) (gS ss i).ps) ((gS ss i).fr, [], [])).1, lc := ((rtsF k l D i k).foldl (bindS ((i : Int) + 1) (gS ss i).ps) ((gS ss i).fr, [], [])).2.1, rt := rtsF k l D i k }, ((rtsF k l D i k).foldl (bindS ((i : Int) + 1) (gS ss i).ps) ((gS ss i).fr, [], [])).2.2, 0) := by
    unfold handleF
    rw [if_neg (show ¬ (4 : Int) = 1 by decide), if_neg (show ¬ (4 : Int) = 2 by decide), if_neg (show ¬ (4 : Int) = 3 by decide), if_pos rfl]
    unfold routesF
    dsimp only
    rw [hro, if_neg (by rw [hchk]; decide), hdrop]
    unfold bindF
    rw [hro]
  generalize (rtsF k l D i k).foldl (bindS ((i : Int) + 1) (gS ss i).ps) ((gS ss i).fr, [], []) = d at *
  obtain ⟨fr, lc, out⟩ := d
  have hv := handle_okV (h.st i hi) hE
  rw [hh] at hv
  dsimp only at hh hlen hv
  have ho : outS ss i ⟨4, 0, [], rtsF k l D i k⟩ = out.map (mkMl i) := by
    unfold outS pushQ
    rw [hh]
  have hg : ∀ a, gS (setS ss i ⟨4, 0, [], rtsF k l D i k⟩) a = if i = a then { gS ss i with fr := fr, lc := lc, rt := rtsF k l D i k } else gS ss a := fun a => by
    unfold setS gS
    rw [getD_setL _ _ _ _ _ hil, hh]
  have hps := h.nps hi
  have hout : out.length ≤ k * k := Nat.le_trans hall.w (Nat.mul_le_mul hrl hps)
  rw [ho]
  refine ⟨⟨hil, h.all hk hB hi, hE, by rw [show ss.getD i zLst = gS ss i from rfl, hh], fun m hm => ?_⟩, ?_⟩
  · rw [show ss.getD i zLst = gS ss i from rfl, hh] at hm
    obtain ⟨p, hp, b, _, rfl⟩ := hall.o m hm
    obtain ⟨j, hj, rfl, _⟩ := h.ps i hi p hp
    rw [h.len]; unfold msgS; dsimp only; omega
  have hrm : ∀ a, (gS (setS ss i ⟨4, 0, [], rtsF k l D i k⟩) a).rm = (gS ss a).rm := fun a => by
    rw [hg]; split
    · next e => subst e; rfl
    · rfl
  have hpsa : ∀ a, (gS (setS ss i ⟨4, 0, [], rtsF k l D i k⟩) a).ps = (gS ss a).ps := fun a => by
    rw [hg]; split
    · next e => subst e; rfl
    · rfl
  refine ⟨by unfold setS; rw [List.length_set, h.len], fun a ha => ?_, fun a ha => ?_, fun a ha => ?_, fun a ha => ?_, fun a ha => ?_, fun a b ha hb => ?_, fun a ha hga => ?_, fun a ha hga => ?_, fun a b ha hb => ?_, fun m hm => ?_, fun a ha => ?_⟩
  · rw [hg]; split
    · exact hv
    · exact h.st a ha
  · rw [hg]; split
    · next e => subst e; exact hro
    · exact h.ro a ha
  · rw [hg]; split
    · have := h.fr i hi; dsimp only; omega
    · exact h.fr a ha
  · rw [hg]; split
    · have := hall.n; dsimp only at this ⊢; omega
    · exact h.nlc a ha
  · rw [hpsa]; exact h.ps a ha
  · rw [hpsa]; exact h.up a b ha hb
  · by_cases e : a = i
    · rw [if_pos e] at hga; cases hga
    · rw [if_neg e] at hga
      rw [hg, if_neg (Ne.symm e)]
      exact h.lc0 a ha hga
  · by_cases e : a = i
    · subst e
      rw [hg, if_pos rfl]
      exact ⟨rfl, hall.a, hall.e⟩
    · rw [if_neg e] at hga
      rw [hg, if_neg (Ne.symm e)]
      exact h.lc1 a ha hga
  · rw [hrm, hpsa]
    intro hp b2 hb2
    by_cases e : i = a
    · subst e
      rw [hg, if_pos rfl] at hb2
      have := hall.m b2 hb2 _ hp
      refine .inl (List.mem_append_right _ (List.mem_map.2 ⟨_, this, mkMl_msg i b b2⟩))
    · rw [hg, if_neg e] at hb2
      rcases h.tell a b ha hb hp b2 hb2 with h1 | h1
      · exact .inl (List.mem_append_left _ h1)
      · exact .inr h1
  · rcases List.mem_append.1 hm with hm | hm
    · obtain ⟨a, b, ha, hb, hab, b2, hb2, e⟩ := h.mail m hm
      have hai : i ≠ a := fun e2 => by subst e2; rw [hlc] at hb2; simp at hb2
      exact ⟨a, b, ha, hb, hab, b2, by rw [hg, if_neg hai]; exact hb2, e⟩
    · obtain ⟨m2, hm2, rfl⟩ := List.mem_map.1 hm
      obtain ⟨p, hp, b2, hb2, rfl⟩ := hall.o m2 hm2
      obtain ⟨j, hj, rfl, hij⟩ := h.ps i hi p hp
      exact ⟨i, j, hi, hj, hij, b2, by rw [hg, if_pos rfl]; exact hb2, mkMl_msg i j b2⟩
  · rw [hrm]
    have := h.cnt a ha
    rw [List.length_append, List.length_map]; omega
end Go.Pl
/- The network: deliveries, and what is known in the end. No program in sight. -/
namespace Go.Pl
open Go Go.RT
set_option linter.all false
variable {k : Nat} {l : List Jnt} {D : Nat → Nat → Int} {B : Nat} {ss : List Lst} {q : List Mal}
abbrev NJ (k : Nat) (l : List Jnt) (D : Nat → Nat → Int) (B : Nat) (ss : List Lst) (q : List Mal) : Prop := NI k l D (edgB l) (fun _ => true) B ss q
theorem NJ.good (nd : NetD k l D) (h : NJ k l D B ss q) {i : Nat} (hi : i < k) {b : Bnd} (hb : b ∈ (gS ss i).lc) : decodeF (encodeF ⟨1, b.px, b.la⟩).1 = (⟨1, b.px, b.la⟩, 0) := by
  have hk := nd.k2
  obtain ⟨_, h2, _⟩ := h.lc1 i hi rfl
  obtain ⟨x, hx, h3, _⟩ := h2 b hb
  obtain ⟨d, hd, _, rfl⟩ := rtsF_mem.1 hx
  have hv : validB b.px = true := by rw [h3]; exact ePx_valid (by omega)
  have ho := (h.st i hi).lc b hb
  have hl := (h.st i hi).v.la b hb
  refine dec_of (ho.msg 1 (by simp [inr])) ?_
  exact ⟨by simp, by simp, hv, by simp, fun _ => hl⟩
theorem NJ.inj (nd : NetD k l D) (h : NJ k l D B ss q) {i i' j j' : Nat} (hi : i < k) (hi' : i' < k) {b b' : Bnd} (hb : b ∈ (gS ss i).lc) (hb' : b' ∈ (gS ss i').lc) (e : mpM i j b = mpM i' j' b') : i = i' ∧ j = j' ∧ b.px = b'.px ∧ b.la = b'.la := by
  have h1 := NJ.good nd h hi hb
  have h2 := NJ.good nd h hi' hb'
  have e3 : (encodeF ⟨1, b.px, b.la⟩).1 = (encodeF ⟨1, b'.px, b'.la⟩).1 := (Mal.mk.inj e).2.2
  rw [e3, h2] at h1
  have := (Msg.mk.inj (Prod.mk.inj h1).1)
  exact ⟨(Mal.mk.inj e).1, (Mal.mk.inj e).2.1, this.2.1.symm, this.2.2.symm⟩
theorem lc_same (h : NJ k l D B ss q) {i : Nat} (hi : i < k) {b b' : Bnd} (hb : b ∈ (gS ss i).lc) (hb' : b' ∈ (gS ss i).lc) (e : b.px = b'.px) : b = b' := by
  have hl := (h.st i hi).v.hl
  obtain ⟨x, hx, rfl⟩ := List.mem_iff_getElem.1 hb
  obtain ⟨y, hy, rfl⟩ := List.mem_iff_getElem.1 hb'
  have key : ∀ u v (hu : u < (gS ss i).lc.length) (hv : v < (gS ss i).lc.length), u < v → (gS ss i).lc[u].px ≠ (gS ss i).lc[v].px := fun u v hu hv huv e2 => by
    have := List.pairwise_iff_getElem.1 hl u v hu hv huv
    rw [e2] at this
    have h2 := (cmpP_neg _ _).2 this
    rw [(cmpP_zero _ _).2 rfl] at h2
    omega
  rcases Nat.lt_trichotomy x y with h1 | h1 | h1
  · exact absurd e (key x y hx hy h1)
  · subst h1; rfl
  · exact absurd e.symm (key y x hy hx h1)
theorem NJ.dlv (nd : NetD k l D) (hB : B ≤ 50000) {m : Mal} (h : NJ k l D B ss (m :: q)) : dlOk ss m q ∧ NJ k l D B (setS ss m.to (dlvE m)) (q ++ outS ss m.to (dlvE m)) ∧ (q ++ outS ss m.to (dlvE m)).length < (m :: q).length := by
  have hk := nd.k2
  obtain ⟨i, j, hi, hj, hij, b, hb, rfl⟩ := h.mail _ (List.mem_cons_self ..)
  have hgd := NJ.good nd h hi hb
  have hjl : j < ss.length := by rw [h.len]; exact hj
  have hpi : ((i : Int) + 1) ∈ (gS ss j).ps := (h.up j i hj hi).2 (by rw [edgB_symm]; exact hij)
  have hE : okLe (dlvE (mpM i j b)) := ⟨by simp [dlvE, inr], by simpa [dlvE, mpM] using fun x hx => encodeF_byte (m := ⟨1, b.px, b.la⟩) x hx, by have := encodeF_len ⟨1, b.px, b.la⟩; simp only [dlvE, mpM]; omega, by simp [dlvE], by simp [dlvE]⟩
  have hh : handleF (gS ss j) (dlvE (mpM i j b)) = ({ gS ss j with rm := bindL (gS ss j).rm ⟨b.px, (i : Int) + 1, b.la⟩ }, [], 0) := by
    unfold handleF dlvE mpM
    dsimp only
    rw [if_neg (show ¬ (3 : Int) = 1 by decide), if_neg (show ¬ (3 : Int) = 2 by decide), if_pos rfl]
    unfold dataF
    rw [if_neg (by simpa using hpi), hgd, if_neg (show ¬ ((0 : Int) ≠ 0) by decide)]
    dsimp only
    rw [if_pos rfl]
  have hv := handle_okV (h.st j hj) hE
  rw [hh] at hv
  have ho : outS ss j (dlvE (mpM i j b)) = [] := by unfold outS; rw [show ss.getD j zLst = gS ss j from rfl, hh]; rfl
  have hg : ∀ a, gS (setS ss j (dlvE (mpM i j b))) a = if j = a then { gS ss j with rm := bindL (gS ss j).rm ⟨b.px, (i : Int) + 1, b.la⟩ } else gS ss a := fun a => by
    unfold setS gS
    rw [getD_setL _ _ _ _ _ hjl, show ss.getD j zLst = gS ss j from rfl, hh]
  have hto : (mpM i j b).to = j := rfl
  rw [hto, ho, List.append_nil]
  have hc := h.cnt j hj
  simp only [List.length_cons] at hc
  refine ⟨⟨⟨hjl, h.all hk hB hj, hE, by rw [hto, show ss.getD j zLst = gS ss j from rfl, hh], fun m hm => by rw [hto, show ss.getD j zLst = gS ss j from rfl, hh] at hm; simp at hm⟩, by show i ≤ 1000; omega, by rw [hto, ho]; simp; omega⟩, ?_, by simp⟩
  have fld : ∀ a, (gS (setS ss j (dlvE (mpM i j b))) a).lc = (gS ss a).lc ∧ (gS (setS ss j (dlvE (mpM i j b))) a).ps = (gS ss a).ps ∧ (gS (setS ss j (dlvE (mpM i j b))) a).ro = (gS ss a).ro ∧ (gS (setS ss j (dlvE (mpM i j b))) a).fr = (gS ss a).fr ∧ (gS (setS ss j (dlvE (mpM i j b))) a).rt = (gS ss a).rt := fun a => by
    rw [hg]; split
    · next e => subst e; exact ⟨rfl, rfl, rfl, rfl, rfl⟩
    · exact ⟨rfl, rfl, rfl, rfl, rfl⟩
  refine ⟨by unfold setS; rw [List.length_set, h.len], fun a ha => ?_, fun a ha => by rw [(fld a).2.2.1]; exact h.ro a ha, fun a ha => by rw [(fld a).2.2.2.1]; exact h.fr a ha, fun a ha => by rw [(fld a).1]; exact h.nlc a ha, fun a ha => by rw [(fld a).2.1]; exact h.ps a ha, fun a c ha hcc => by rw [(fld a).2.1]; exact h.up a c ha hcc, fun a ha hga => (by cases hga), fun a ha hga => by rw [(fld a).1, (fld a).2.2.2.2]; exact h.lc1 a ha rfl, fun a c ha hcc => ?_, fun m hm => ?_, fun a ha => ?_⟩
  · rw [hg]; split
    · exact hv
    · exact h.st a ha
  · rw [(fld a).2.1, (fld a).1]
    intro hp b2 hb2
    have hrm : j = c → findB (gS (setS ss j (dlvE (mpM i j b))) c).rm b2.px ((a : Int) + 1) = if b.px = b2.px ∧ (i : Int) + 1 = (a : Int) + 1 then some b.la else findB (gS ss c).rm b2.px ((a : Int) + 1) := fun e => by
      subst e
      rw [hg, if_pos rfl]
      exact findB_bind _ _ _ _
    rcases h.tell a c ha hcc hp b2 hb2 with h1 | h1
    · rcases List.mem_cons.1 h1 with h1 | h1
      · obtain ⟨e1, e2, e3, e4⟩ := NJ.inj nd h ha hi hb2 hb h1
        subst e1; subst e2
        right
        rw [hrm rfl, if_pos ⟨e3.symm, rfl⟩, e4]
      · exact .inl h1
    · right
      by_cases e : j = c
      · rw [hrm e]
        split
        · next hc2 =>
          obtain ⟨c1, c2⟩ := hc2
          have : i = a := by omega
          subst this
          rw [lc_same h hi hb hb2 c1]
        · exact h1
      · rw [hg, if_neg e]; exact h1
  · obtain ⟨a, c, ha, hcc, hac, b2, hb2, e⟩ := h.mail m (List.mem_cons_of_mem _ hm)
    exact ⟨a, c, ha, hcc, hac, b2, by rw [(fld a).1]; exact hb2, e⟩
  · have := h.cnt a ha
    simp only [List.length_cons] at this
    rw [hg]; split
    · next e =>
      have := bindL_len (gS ss j).rm ⟨b.px, (i : Int) + 1, b.la⟩
      dsimp only at this ⊢
      omega
    · omega
theorem NJ.run (nd : NetD k l D) (hB : B ≤ 50000) (n : Nat) (h : NJ k l D B ss q) (hn : q.length ≤ n) : okQ n ss q ∧ NJ k l D B (runQ n ss q) [] :=
  okQ_of (NJ k l D B) (fun _ q => q.length) (fun ss m q hJ => NJ.dlv nd hB hJ) n ss q h hn
end Go.Pl
/- What the routers forward in the end. No program in sight. -/
namespace Go.Pl
open Go Go.RT
set_option linter.all false
variable {k : Nat} {l : List Jnt} {D : Nat → Nat → Int} {B : Nat} {ss : List Lst}
def lbD (ss : List Lst) (d w : Nat) : Int := (findB (gS ss w).lc (ePx (d + 1)) ((w : Int) + 1)).getD 0
theorem NJ.lab (nd : NetD k l D) (h : NJ k l D B ss []) {w d : Nat} (hw : w < k) (hd : d < k) (h0 : 0 ≤ D w d) : ∃ b ∈ (gS ss w).lc, b.px = ePx (d + 1) ∧ b.la = lbD ss d w ∧ (lbD ss d w = 3 ↔ w = d) ∧ (lbD ss d w = 3 ∨ lbOk (lbD ss d w)) := by
  obtain ⟨_, h2, h3⟩ := h.lc1 w hw rfl
  obtain ⟨b, hb, hp⟩ := h3 (rtF k l D w d) (rtsF_mem.2 ⟨d, hd, h0, rfl⟩)
  have hp : b.px = ePx (d + 1) := hp
  have hv := (h.st w hw).v
  have hpe := hv.pe b hb
  rw [h.ro w hw] at hpe
  have hf : findB (gS ss w).lc (ePx (d + 1)) ((w : Int) + 1) = some b.la := findB_mem hb hp hpe fun x hx hxp _ => by rw [lc_same h hw hx hb (hxp.trans hp.symm)]
  have hl : lbD ss d w = b.la := by unfold lbD; rw [hf]; rfl
  obtain ⟨x, hx, e1, e2⟩ := h2 b hb
  obtain ⟨d', hd', _, rfl⟩ := rtsF_mem.1 hx
  have : d' = d := by
    have := ePx_inj (e1.symm.trans hp)
    omega
  subst this
  refine ⟨b, hb, hp, hl.symm, ?_, ?_⟩
  · rw [hl, e2]
    simp [rtF]; omega
  · rw [hl]; exact hv.la b hb
theorem rt_find {i d : Nat} (hd : d < k) (h0 : 0 ≤ D i d) : routeF (rtsF k l D i k) (ePx (d + 1)) = some (rtF k l D i d) := by
  unfold routeF
  cases hf : (rtsF k l D i k).find? (fun x => decide (x.px = ePx (d + 1))) with
  | none =>
    have := List.find?_eq_none.1 hf (rtF k l D i d) (rtsF_mem.2 ⟨d, hd, h0, rfl⟩)
    simp [rtF] at this
  | some x =>
    have hx := List.mem_of_find?_eq_some hf
    have hx2 := List.find?_some hf
    simp only [decide_eq_true_eq] at hx2
    obtain ⟨d', _, _, rfl⟩ := rtsF_mem.1 hx
    have : d' = d := by have := ePx_inj (show ePx (d' + 1) = ePx (d + 1) from hx2); omega
    rw [this]
theorem NJ.rem (nd : NetD k l D) (h : NJ k l D B ss []) {w y d : Nat} (hw : w < k) (hy : y < k) (hd : d < k) (he : edgB l w y = true) (h0 : 0 ≤ D y d) : findB (gS ss w).rm (ePx (d + 1)) ((y : Int) + 1) = some (lbD ss d y) := by
  obtain ⟨b, hb, hp, hl, _⟩ := NJ.lab nd h hy hd h0
  have hps : ((w : Int) + 1) ∈ (gS ss y).ps := (h.up y w hy hw).2 (by rw [edgB_symm]; exact he)
  rcases h.tell y w hy hw hps b hb with h1 | h1
  · simp at h1
  · rw [hp, hl] at h1; exact h1
theorem NJ.out (nd : NetD k l D) (h : NJ k l D B ss []) {w d : Nat} (hw : w < k) (hd : d < k) (h0 : 0 ≤ D w d) (hne : w ≠ d) {x : LHo} : x ∈ outF (gS ss w) (ePx (d + 1)) ↔ ∃ y, y < k ∧ edgB l w y = true ∧ 0 ≤ D y d ∧ D w d = 1 + D y d ∧ x = ⟨(y : Int) + 1, if lbD ss d y = 3 then -1 else lbD ss d y⟩ := by
  unfold outF
  rw [(h.lc1 w hw rfl).1, rt_find hd h0]
  unfold hopsF rtF
  simp only [List.mem_filterMap, List.mem_map]
  constructor
  · rintro ⟨_, ⟨z, hz, rfl⟩, hx⟩
    obtain ⟨y, rfl, h1, _, _, h2, h3, h4⟩ := (hop_mem nd hw hd).1 hz
    rw [NJ.rem nd h hw h1 hd h2 h3] at hx
    exact ⟨y, h1, h2, h3, h4, by simpa using hx.symm⟩
  · rintro ⟨y, h1, h2, h3, h4, rfl⟩
    exact ⟨(y : Int) + 1, ⟨(y : Int), (hop_mem nd hw hd).2 ⟨y, rfl, h1, Ne.symm hne, h0, h2, h3, h4⟩, rfl⟩, by rw [NJ.rem nd h hw h1 hd h2 h3]; rfl⟩
theorem NJ.out_ne (nd : NetD k l D) (h : NJ k l D B ss []) {w d : Nat} (hw : w < k) (hd : d < k) (h0 : 0 ≤ D w d) (hne : w ≠ d) : outF (gS ss w) (ePx (d + 1)) ≠ [] := by
  obtain ⟨y, h1, h2, h3, h4⟩ := nd.first hw (D w d).toNat d hd (Ne.symm hne) (by omega)
  intro hc
  have := (NJ.out nd h hw hd h0 hne).2 ⟨y, h1, h2, h3, h4, rfl⟩
  rw [hc] at this; simp at this
theorem hops_asc (s : Lst) (p : Pfx) {hs : List Int} (h : hs.Pairwise fun x y => x < y) : (hopsF s p hs).Pairwise fun x y => x.ro < y.ro := by
  unfold hopsF
  refine List.Pairwise.filterMap _ (fun a b hab x hx y hy => ?_) h
  obtain ⟨_, _, rfl⟩ := Option.map_eq_some_iff.1 hx
  obtain ⟨_, _, rfl⟩ := Option.map_eq_some_iff.1 hy
  exact hab
theorem NJ.okHs (nd : NetD k l D) (h : NJ k l D B ss []) {w d : Nat} (hw : w < k) (hd : d < k) (h0 : 0 ≤ D w d) (hne : w ≠ d) : okHs (outF (gS ss w) (ePx (d + 1))) := by
  refine ⟨outF_len (fun x hx => ((h.st w hw).rt x hx).hs) _, fun x hx => ?_, ?_⟩
  · obtain ⟨y, h1, h2, h3, h4, rfl⟩ := (NJ.out nd h hw hd h0 hne).1 hx
    obtain ⟨_, _, _, _, _, hl⟩ := NJ.lab nd h h1 hd h3
    refine ⟨by show (y : Int) + 1 ≠ 0; omega, ?_⟩
    dsimp only
    rcases hl with hl | hl
    · rw [if_pos hl]; exact .inl rfl
    · split
      · exact .inl rfl
      · exact .inr hl
  · unfold outF
    rw [(h.lc1 w hw rfl).1, rt_find hd h0]
    refine hops_asc _ _ ?_
    unfold rtF
    dsimp only
    rw [List.pairwise_map]
    exact (hop_asc w d).imp fun hab => by omega
theorem NJ.entr (nd : NetD k l D) (h : NJ k l D B ss []) {w : Nat} (hw : w < k) {e : LEn} : e ∈ entrF (gS ss w) ↔ ∃ d, d < k ∧ 0 ≤ D w d ∧ w ≠ d ∧ e = ⟨lbD ss d w, outF (gS ss w) (ePx (d + 1))⟩ := by
  have hv := (h.st w hw).v
  have key := (enS_ok (gS ss w) (gS ss w).lc [] List.Pairwise.nil (by simp) hv.labels).2 e
  rw [entr_eq, key]
  simp only [List.not_mem_nil, false_or]
  constructor
  · rintro ⟨b, hb, hb3, rfl⟩
    obtain ⟨_, h2, _⟩ := h.lc1 w hw rfl
    obtain ⟨x, hx, e1, e2⟩ := h2 b hb
    obtain ⟨d, hd, h0, rfl⟩ := rtsF_mem.1 hx
    obtain ⟨b', hb', hp', hl', h3, _⟩ := NJ.lab nd h hw hd h0
    have : b = b' := lc_same h hw hb hb' (e1.trans hp'.symm)
    subst this
    exact ⟨d, hd, h0, fun e => hb3 (by rw [hl']; exact h3.2 e), by rw [← hl', hp']⟩
  · rintro ⟨d, hd, h0, hne, rfl⟩
    obtain ⟨b, hb, hp, hl, h3, _⟩ := NJ.lab nd h hw hd h0
    exact ⟨b, hb, fun e => hne (h3.1 (by rw [← hl]; exact e)), by rw [hl, hp]⟩
theorem NJ.okTb (nd : NetD k l D) (h : NJ k l D B ss []) {w : Nat} (hw : w < k) : okTb (entrF (gS ss w)) := by
  have hv := (h.st w hw).v
  refine ⟨?_, fun e he => ?_, ?_⟩
  · rw [entr_len]
    have := rawE_len (gS ss w) (gS ss w).lc
    have := h.nlc w hw
    have := nd.k2
    omega
  · obtain ⟨d, hd, h0, hne, rfl⟩ := (NJ.entr nd h hw).1 he
    obtain ⟨_, _, _, _, h3, h4⟩ := NJ.lab nd h hw hd h0
    refine ⟨?_, NJ.okHs nd h hw hd h0 hne⟩
    rcases h4 with h4 | h4
    · exact absurd (h3.1 h4) hne
    · exact h4
  · rw [entr_eq]
    exact (enS_ok (gS ss w) (gS ss w).lc [] List.Pairwise.nil (by simp) hv.labels).1
theorem NJ.ls (nd : NetD k l D) (h : NJ k l D B ss []) {d y : Nat} (hd : d < k) (hy : y < k) (h0 : 0 ≤ D y d) : lsOf ⟨(y : Int) + 1, if lbD ss d y = 3 then -1 else lbD ss d y⟩ = lsW (lbD ss d) d y := by
  obtain ⟨_, _, _, _, h3, h4⟩ := NJ.lab nd h hy hd h0
  unfold lsOf lsW
  dsimp only
  by_cases e : y = d
  · rw [if_pos e, if_pos (h3.2 e), if_neg (by decide)]
  · have hn : lbD ss d y ≠ 3 := fun c => e (h3.1 c)
    rw [if_neg e, if_neg hn, if_pos]
    rcases h4 with h4 | h4
    · exact absurd h4 hn
    · unfold lbOk at h4; omega
def nxD (ss : List Lst) (fl : Int) (d w : Nat) : Nat := ((pikH fl (outF (gS ss w) (ePx (d + 1)))).ro - 1).toNat
def rcD (k : Nat) (D : Nat → Nat → Int) (d w : Nat) : Prop := w < k ∧ 0 ≤ D w d
theorem NJ.path (nd : NetD k l D) (h : NJ k l D B ss []) (fl : Int) {d : Nat} (hd : d < k) : PathOk (ss.map entrF) fl d (nxD ss fl d) (lbD ss d) (fun w => (D w d).toNat) (rcD k D d) := by
  have hk := nd.k2
  have hlen := h.len
  have hmem : ∀ t ∈ ss.map entrF, ∃ w, w < k ∧ t = entrF (gS ss w) := fun t ht => by
    obtain ⟨s, hs, rfl⟩ := List.mem_map.1 ht
    obtain ⟨w, hw, rfl⟩ := List.mem_iff_getElem.1 hs
    exact ⟨w, by omega, by unfold gS; rw [List.getD_eq_getElem?_getD, List.getElem?_eq_getElem hw]; rfl⟩
  refine ⟨fun t ht => ?_, by simp; omega, fun w hw => by simp; have := hw.1; omega, fun w hw hne => ?_, fun w hw => ?_, ?_⟩
  · obtain ⟨w, hw, rfl⟩ := hmem t ht
    exact NJ.okTb nd h hw
  · obtain ⟨hwk, h0⟩ := hw
    have hget : (ss.map entrF).getD w [] = entrF (gS ss w) := by
      rw [List.getD_eq_getElem?_getD, List.getElem?_map]
      unfold gS
      rw [List.getD_eq_getElem?_getD, List.getElem?_eq_getElem (by omega)]; rfl
    have hon := NJ.out_ne nd h hwk hd h0 hne
    obtain ⟨y, h1, h2, h3, h4, hx⟩ := (NJ.out nd h hwk hd h0 hne).1 (pikH_mem (fl := fl) hon)
    have hnx : nxD ss fl d w = y := by unfold nxD; rw [hx]; simp
    refine ⟨⟨lbD ss d w, outF (gS ss w) (ePx (d + 1))⟩, by rw [hget]; exact (NJ.entr nd h hwk).2 ⟨d, hd, h0, hne, rfl⟩, rfl, hon, ?_, ?_, ?_, ?_⟩
    · rw [hnx, hx]; simp
    · rw [hnx, hx]; exact NJ.ls nd h hd h1 h3
    · rw [hnx]; exact ⟨h1, h3⟩
    · rw [hnx]
      show (D w d).toNat = (D y d).toNat + 1
      omega
  · have := nd.small hw.1 hd
    show (D w d).toNat ≤ 50
    omega
  · show (D d d).toNat = 0
    rw [nd.zero hd]; rfl
theorem NJ.ho (nd : NetD k l D) (h : NJ k l D B ss []) {i d : Nat} (hi : i < k) (hd : d < k) (h0 : 0 ≤ D i d) (hne : i ≠ d) : ∀ x ∈ outF (gS ss i) (ePx (d + 1)), ∃ w : Nat, x.ro = ((w + 1 : Nat) : Int) ∧ rcD k D d w ∧ lsOf x = lsW (lbD ss d) d w ∧ inr .i64 x.la := fun x hx => by
  have hok := (NJ.okHs nd h hi hd h0 hne).ok x hx
  obtain ⟨y, h1, h2, h3, h4, rfl⟩ := (NJ.out nd h hi hd h0 hne).1 hx
  refine ⟨y, by simp, ⟨h1, h3⟩, NJ.ls nd h hd h1 h3, ?_⟩
  rcases hok.2 with e | e
  · rw [e]; simp [inr]
  · simp only [inr, lbOk] at e ⊢; omega
end Go.Pl
/- The two passes of events. No program in sight. -/
namespace Go.Pl
open Go Go.RT
set_option linter.all false
def upP (early : Bool) : Nat := if early = true then 1 else 0
def rtP (early : Bool) : Nat := if early = true then 0 else 1
def fP (l : List Jnt) (early : Bool) (p i d a b : Nat) : Bool := edgB l a b && (decide (upP early < p) || (decide (p = upP early) && (decide (a < i) || (decide (a = i) && decide (b < d)))))
def gP (early : Bool) (p i a : Nat) : Bool := decide (rtP early < p) || (decide (p = rtP early) && decide (a < i))
abbrev NP (k : Nat) (l : List Jnt) (D : Nat → Nat → Int) (early : Bool) (p i d : Nat) (ss : List Lst) (q : List Mal) : Prop := NI k l D (fP l early p i d) (gP early p i) ((p * 7 + i) * 98 + d * 7) ss q
def evC (k : Nat) (l : List Jnt) (early : Bool) (p i d : Nat) : Bool := (decide ((d : Int) ≠ i) && decide (decide ((p : Int) = 0) ≠ early)) && adjB (grF k l) i d
def rcC (early : Bool) (p : Nat) : Bool := decide (decide ((p : Int) = 0) = early)
theorem upP_iff {early : Bool} {p : Nat} (hp : p < 2) : decide (decide ((p : Int) = 0) ≠ early) = decide (p = upP early) := by
  unfold upP
  cases early <;> rcases (show p = 0 ∨ p = 1 by omega) with rfl | rfl <;> decide
theorem rtP_iff {early : Bool} {p : Nat} (hp : p < 2) : rcC early p = decide (p = rtP early) := by
  unfold rtP rcC
  cases early <;> rcases (show p = 0 ∨ p = 1 by omega) with rfl | rfl <;> decide
variable {k : Nat} {l : List Jnt} {D : Nat → Nat → Int} {early : Bool} {p i d : Nat} {ss : List Lst} {q : List Mal}
theorem NP.zero (hk : k ≤ 7) : NP k l D early 0 0 0 (initN k) [] :=
  (NI.zero (l := l) (D := D) (show k ≤ 10 by omega)).congr (fun a b _ _ => by unfold fP; simp) (fun a _ => by unfold gP; simp) (by omega)
theorem NP.skip (hk : k ≤ 7) (h : NP k l D early p i d ss q) (hp : p < 2) (hi : i < k) (hd : d < k) (hc : evC k l early p i d = false) : NP k l D early p i (d + 1) ss q := by
  refine NI.congr h (fun a b ha hb => ?_) (fun _ _ => rfl) (by omega)
  unfold evC at hc
  rw [upP_iff hp, adj_eq hi hd] at hc
  unfold fP
  by_cases e : a = i ∧ b = d
  · obtain ⟨rfl, rfl⟩ := e
    by_cases he : edgB l a b = true
    · have hne := edgB_ne he
      have : p ≠ upP early := fun e2 => by
        rw [he, e2] at hc
        simp at hc; omega
      simp [this]
    · rw [Bool.not_eq_true] at he
      simp [he]
  · congr 1
    congr 1
    congr 1
    by_cases e1 : a = i
    · have e2 : b ≠ d := fun c => e ⟨e1, c⟩
      have : (b < d + 1) = (b < d) := propext ⟨fun _ => by omega, fun _ => by omega⟩
      simp only [this]
    · simp [e1]
theorem NP.ev (nd : NetD k l D) (hk : k ≤ 7) (h : NP k l D early p i d ss q) (hp : p < 2) (hi : i < k) (hd : d < k) (hc : evC k l early p i d = true) :
    evOk ss i ⟨1, (d : Int) + 1, [], []⟩ ∧ NP k l D early p i (d + 1) (setS ss i ⟨1, (d : Int) + 1, [], []⟩) (q ++ outS ss i ⟨1, (d : Int) + 1, [], []⟩) := by
  unfold evC at hc
  rw [upP_iff hp, adj_eq hi hd] at hc
  simp only [Bool.and_eq_true, decide_eq_true_eq] at hc
  obtain ⟨⟨_, hpu⟩, he⟩ := hc
  obtain ⟨h1, h2⟩ := NI.evUp h (by omega) (by omega) hi hd he (by unfold fP; rw [he, hpu]; simp)
  refine ⟨h1, NI.congr h2 (fun a b ha hb => ?_) (fun _ _ => rfl) (by omega)⟩
  by_cases e : a = i ∧ b = d
  · rw [if_pos e]
    obtain ⟨rfl, rfl⟩ := e
    unfold fP; rw [he, hpu]; simp
  · rw [if_neg e]
    unfold fP
    congr 1
    congr 1
    congr 1
    by_cases e1 : a = i
    · have e2 : b ≠ d := fun c => e ⟨e1, c⟩
      have : (b < d + 1) = (b < d) := propext ⟨fun _ => by omega, fun _ => by omega⟩
      simp only [this]
    · simp [e1]
theorem fP_end {a b : Nat} (hb : b < k) : fP l early p i k a b = fP l early p (i + 1) 0 a b := by
  unfold fP
  congr 1
  congr 1
  congr 1
  rw [Bool.eq_iff_iff]; simp; omega
theorem NP.rtskip (hk : k ≤ 7) (h : NP k l D early p i k ss q) (hp : p < 2) (hi : i < k) (hc : rcC early p = false) : NP k l D early p (i + 1) 0 ss q := by
  rw [rtP_iff hp] at hc
  refine NI.congr h (fun a b ha hb => (fP_end hb).symm) (fun a ha => ?_) (by omega)
  unfold gP; rw [hc]; simp
theorem NP.rt (nd : NetD k l D) (hk : k ≤ 7) (h : NP k l D early p i k ss q) (hp : p < 2) (hi : i < k) (hc : rcC early p = true) :
    evOk ss i ⟨4, 0, [], rtsF k l D i k⟩ ∧ NP k l D early p (i + 1) 0 (setS ss i ⟨4, 0, [], rtsF k l D i k⟩) (q ++ outS ss i ⟨4, 0, [], rtsF k l D i k⟩) := by
  rw [rtP_iff hp] at hc
  have hpr : p = rtP early := by simpa using hc
  obtain ⟨h1, h2⟩ := NI.evRt nd h (by omega) hi (by unfold gP; rw [← hpr]; simp)
  have hkk : k * k ≤ 7 * 7 := Nat.mul_le_mul hk hk
  refine ⟨h1, NI.congr h2 (fun a b ha hb => (fP_end hb).symm) (fun a ha => ?_) (by omega)⟩
  unfold gP
  by_cases e : a = i
  · rw [if_pos e, ← hpr]; simp [e]
  · rw [if_neg e]
    congr 1
    congr 1
    rw [Bool.eq_iff_iff]; simp; omega
theorem NP.next (hk : k ≤ 7) (h : NP k l D early p k 0 ss q) : NP k l D early (p + 1) 0 0 ss q := by
  refine NI.congr h (fun a b ha hb => ?_) (fun a ha => ?_) (by omega)
  · unfold fP
    congr 1
    rw [Bool.eq_iff_iff]; simp; omega
  · unfold gP
    rw [Bool.eq_iff_iff]; simp; omega
theorem NP.done (h : NP k l D early 2 0 0 ss q) : NJ k l D 1372 ss q := by
  refine NI.congr h (fun a b ha hb => ?_) (fun a ha => ?_) (by omega)
  · unfold fP upP; cases early <;> simp
  · unfold gP rtP; cases early <;> simp
theorem grF_okG (k : Nat) (l : List Jnt) (hk : k ≤ 10) : okG (grF k l) := by
  refine ⟨by simp only [grF, inr]; omega, by simp [grF, inr], fun e he => ?_⟩
  obtain ⟨a, b, ha, hb, _, rfl⟩ := allG_mem.1 he
  refine ⟨by simp only [mkE, inr]; omega, by simp only [mkE, inr]; omega, by simp [mkE, inr]⟩
theorem grF_netD (k : Nat) (l : List Jnt) (h1 : 1 ≤ k) (h2 : k ≤ 10) : NetD k l (disF (grF k l).es (grF k l).m) := ⟨h1, h2, dst_of (grF_check h1 h2)⟩
end Go.Pl
namespace Go.Proofs.YtkofbemgpeagbaaGreat
open Go Go.RT Go.Proofs Go.Pl
set_option linter.all false
set_option maxRecDepth 20000
set_option maxHeartbeats 4000000
theorem wHE36a {α : Prop} (h : α := by repeat (first | exact trivial | refine ⟨wS, ?_⟩ | refine ⟨ent_same rfl rfl (rfEq rfl tU) tL, ?_⟩ | refine ⟨ent_same rfl rfl (flEq rfl (by first | (simp; done) | (simp; omega) | (simp [encP, encW, encY, encMs, encBn, encSn, encFe, encLh, encLe, encRg, encEv, encLs, encE, encN, encG, encJn, encTr, encL]; done) | simp [maxC, minC])) trivial, ?_⟩)) : α := h
theorem wHE36b {α : Prop} (h : α := by repeat (first | exact trivial | refine ⟨⟨rfl, rfl, rfl, tL⟩, ?_⟩)) : α := h
theorem path_law (n : Int) (l : List Jnt) (early : Bool) (fl : Int) (hn : 0 ≤ n ∧ n < 256) (hj : ∀ j ∈ l, okJn j) (hl : l.length ≤ 9223372036854775807) (hfl : 0 ≤ fl ∧ fl < 4294967296) : Pure Tryz.prog 4 [If .u8 n, VJn l, Bf early, If .u32 fl] (Bf true) := by
 obtain ⟨k, hk0, hk1, hk2⟩ : ∃ k : Nat, 2 + n % 6 = (k : Int) ∧ 2 ≤ k ∧ k ≤ 7 := ⟨(2 + n % 6).toNat, by omega, by omega, by omega⟩
 have kg := graph_c k l (by omega) hj hl
 have ks := start_m k (by omega)
 have nd := grF_netD k l (by omega) (by omega)
 have krun := fun (i : Nat) (hi : i < k) => Sp.rrun_c (grF k l) i (grF_okG k l (by omega)) (grF_check (by omega) (by omega)) (by show (i : Int) < (k : Int); omega)
 have hgl : (grF k l).es.length ≤ 100 := by have := allG_len l k k; have : k * k ≤ 7 * 7 := Nat.mul_le_mul hk2 hk2; show (allG l k k).length ≤ 100; omega
 generalize disF (grF k l).es (grF k l).m = D at *
 have hrowd : ∀ i d, d < k → ((rowF (grF k l).m (D i)).map encN)[d]? = some [If .i64 (D i d)] := fun i d hd => row_row _ _ (by rw [grF_m]; exact hd)
 have hrowh : ∀ i d, d < k → (((List.range (grF k l).m).map (hopR (grF k l) D i)).map encL)[d]? = some [VI (hopR (grF k l) D i d)] := fun i d hd => by rw [grF_m]; simp [hd, encL]
 refine Meets.intro Tryz.func4 rfl (Nat.le_of_ble_eq_true rfl) fun C hC => ?_
 simp only [List.map, argEnv, Nat.reduceAdd]
 refine nK ?_
 refine za ?_
 refine ze ?_
 refine zb ?_
 refine nK ?_
 refine za ?_
 refine zc ?_
 refine zbh ?_
 refine rpZ 28 rfl (op_rem rfl (oT rfl) oC (by intro _; constructor <;> omega)) ?_
 refine rpZ 29 rfl (castP (fun _ => congrArg (IV .i64) hk0) (op_add rfl oC (oT rfl) tI)) ?_
 refine zd ?_
 refine zb ?_
 refine nK ?_
 refine za ?_
 refine zc ?_
 refine zk ?_
 refine zbu ?_
 refine zb ?_
 refine nK ?_
 refine n_cond _ rfl (fun hb => ?_) (fun hb => ?_)
 ·refine nK ?_
  refine za ?_
  refine rpZ 33 rfl (op_call_pure (fun _ => awake_c) rfl (Opd.func _) Opds.nil) ?_
  refine zd ?_
  refine zb ?_
  refine nK ?_
  exact wO hC
 refine nK ?_
 refine za ?_
 refine zc ?_
 refine zc ?_
 refine rpZ 36 rfl (op_call_pure (fun _ => kg) rfl (Opd.func _) (oS (oT rfl) (oS (oT rfl) Opds.nil))) ?_
 refine zo ?_
 refine zg ?_
 refine zb ?_
 refine nK ?_
 refine za ?_
 refine zc ?_
 refine Run.eff (dd := some 39) rfl rfl (op_call (n := 0) (n' := 1) [] (fun _ => ks) rfl (Opd.func _) (oS (oT rfl) Opds.nil) rfl rfl (Lent.nil _) rfl rfl rfl rfl rfl) ?_
 refine zc ?_
 refine rpZ 40 rfl (op_extract rfl (oT rfl) rfl) ?_
 refine rpZ 41 rfl (op_extract rfl (oT rfl) rfl) ?_
 refine zd ?_
 refine zd ?_
 refine zb ?_
 refine nK ?_
 refine za ?_
 refine zc ?_
 refine zbj ?_
 refine zb ?_
 refine nK ?_
 refine n_cond _ rfl (fun hb => ?_) (fun hb => ?_)
 ·simp at hb
 refine nK ?_
 refine za ?_
 refine ze ?_
 refine zb ?_
 refine nK ?_
 refine n_loop (ι := Nat × List Lst × List Mal) (fun s => ([(2, BV early), (3, IV .u32 fl), (9, IV .i64 k), (10, .fz (.cellp (encG (grF k l)))), (11, .ptr 0 2 0 0), (13, IV .i64 s.1)], [(0, ONet s.2.1 s.2.2)], 1)) (fun s => s.1 ≤ 2 ∧ NP k l D early s.1 0 0 s.2.1 s.2.2) (fun s => 2 - s.1) (0, initN k, []) ⟨Nat.zero_le _, NP.zero hk2⟩ ?_ ?_
 ·refine Next.weakS [11] [10] (by rfl) (wK hC) wF wHE36a rfl (rel_intro)
 intro ⟨p, ss, q⟩ ⟨hp, hI⟩ K hK
 dsimp only at hp hI ⊢
 refine nK ?_
 refine za ?_
 refine zc ?_
 refine zbq ?_
 refine zb ?_
 refine nK ?_
 refine n_cond _ rfl (fun hb => ?_) (fun hb => ?_)
 ·have hp2 : p < 2 := by simp at hb; omega
  have hK1 := fun ss q h => hK (p + 1, ss, q) ⟨by dsimp only; omega, h⟩ (by dsimp only; omega)
  dsimp only at hK1
  clear hK
  refine nK ?_
  refine za ?_
  refine ze ?_
  refine zb ?_
  refine nK ?_
  refine n_loop (ι := Nat × List Lst × List Mal) (fun s => ([(2, BV early), (3, IV .u32 fl), (9, IV .i64 k), (10, .fz (.cellp (encG (grF k l)))), (11, .ptr 0 2 0 0), (13, IV .i64 p), (14, IV .i64 s.1)], [(0, ONet s.2.1 s.2.2)], 1)) (fun s => s.1 ≤ k ∧ NP k l D early p s.1 0 s.2.1 s.2.2) (fun s => k - s.1) (0, ss, q) ⟨Nat.zero_le _, hI⟩ ?_ ?_
  ·refine Next.weakS [11] [] (by rfl) (wK hC) wG wHE36a rfl (rel_intro)
  clear hI
  intro ⟨i, ss, q⟩ ⟨hi, hI⟩ K hKi
  dsimp only at hi hI ⊢
  refine nK ?_
  refine za ?_
  refine zc ?_
  refine zc ?_
  refine zn ?_
  refine zb ?_
  refine nK ?_
  refine n_cond _ rfl (fun hb => ?_) (fun hb => ?_)
  ·have hi2 : i < k := by simp at hb; omega
   have hKi1 := fun ss q h => hKi (i + 1, ss, q) ⟨by dsimp only; omega, h⟩ (by dsimp only; omega)
   dsimp only at hKi1
   clear hKi
   have kr := krun i hi2
   refine nK ?_
   refine za ?_
   refine zv ?_
   refine zc ?_
   refine rpZ 56 rfl (op_call_pure (fun _ => kr) rfl (Opd.func _) (oS (oT rfl) (oS (oT rfl) Opds.nil))) ?_
   refine zc ?_
   refine zi ?_
   refine zi ?_
   refine zo ?_
   refine zg ?_
   refine zd ?_
   refine zb ?_
   refine nK ?_
   refine za ?_
   refine ze ?_
   refine zb ?_
   refine nK ?_
   refine Next.adopt 17 4 rfl ?_
   refine nK ?_
   refine za ?_
   refine ze ?_
   refine zb ?_
   refine nK ?_
   refine n_loop (ι := Nat × List Lst × List Mal) (fun s => ([(2, BV early), (3, IV .u32 fl), (9, IV .i64 k), (10, .fz (.cellp (encG (grF k l)))), (11, .ptr 0 2 0 0), (13, IV .i64 p), (14, IV .i64 i), (15, .fz (.cellp (encTr (refT (grF k l) D i)))), (17, .sl 1 4 0 (rtsF k l D i s.1).length), (18, IV .i64 s.1)], [(0, ONet s.2.1 s.2.2), (1, some (.flat 4 ((rtsF k l D i s.1).map encFe)))], 2)) (fun s => s.1 ≤ k ∧ NP k l D early p i s.1 s.2.1 s.2.2) (fun s => k - s.1) (0, ss, q) ⟨Nat.zero_le _, hI⟩ ?_ ?_
   ·refine Next.weakS [11, 17] [15] (by rfl) (wK hC) wF wHE36a rfl (rel_intro)
   clear hI
   intro ⟨d, ss, q⟩ ⟨hd, hI⟩ K hKd
   dsimp only at hd hI ⊢
   have hrl := rtsF_len (k := k) (l := l) (D := D) i d
   have hsl := hI.len
   have hql : q.length ≤ 3000 := by have := hI.cnt i hi2; omega
   refine nK ?_
   refine za ?_
   refine zc ?_
   refine zc ?_
   refine zn ?_
   refine zb ?_
   refine nK ?_
   refine n_cond _ rfl (fun hb => ?_) (fun hb => ?_)
   ·have hd2 : d < k := by simp at hb; omega
    have hKd1 := fun ss q h => hKd (d + 1, ss, q) ⟨by dsimp only; omega, h⟩ (by dsimp only; omega)
    dsimp only at hKd1
    clear hKd
    have ke := eight_c (d + 1) (by omega)
    have hr1 := hrowh i d hd2
    have hr2 := hrowd i d hd2
    have hrs := rtsF_succ (k := k) (l := l) (D := D) i d
    have hhl := hop_len nd i d
    have hhm : ∀ x ∈ hopR (grF k l) D i d, 0 ≤ x ∧ x < 100 := fun x hx => by
     obtain ⟨y, rfl, hy, _⟩ := (hop_mem nd hi2 hd2).1 hx
     omega
    have hrt : rtF k l D i d = ⟨ePx (d + 1), decide (d = i), (hopR (grF k l) D i d).map (· + 1)⟩ := rfl
    have hdi : decide ((d : Int) = i) = decide (d = i) := by rw [Bool.eq_iff_iff]; simp; omega
    refine nK ?_
    refine za ?_
    refine zc ?_
    refine rpZ 65 rfl (castP (fun _ => congrArg (IV .i64) (show (d : Int) + 1 = ((d + 1 : Nat) : Int) by omega)) (op_add rfl (oT rfl) oC tI)) ?_
    refine rpZ 66 rfl (op_call_pure (fun _ => ke) rfl (Opd.func _) (oS (oT rfl) Opds.nil)) ?_
    refine zc ?_
    refine zc ?_
    refine zbx ?_
    refine zbn ?_
    refine zo ?_
    refine zg ?_
    refine zb ?_
    refine nK ?_
    refine Next.toRefs 2 rfl rfl ?_
    refine Next.adoptCell 2 0 3 1 rfl rfl rfl rfl ?_
    refine Next.untake 2 0 3 rfl rfl rfl rfl rfl rfl ?_
    refine nK ?_
    refine za ?_
    refine zbf ?_
    refine zt ?_
    refine zc ?_
    refine rpZ 74 rfl (op_idx_fz d rfl (oT rfl) (oT rfl) (by intro _; exact ⟨rfl, hr1⟩)) ?_
    refine zt ?_
    refine zk ?_
    refine zx ?_
    refine zb ?_
    refine nK ?_
    generalize hhs : hopR (grF k l) D i d = hs at *
    refine n_loop (ι := Nat) (fun j => ([(2, BV early), (3, IV .u32 fl), (9, IV .i64 k), (10, .fz (.cellp (encG (grF k l)))), (11, .ptr 0 2 0 0), (13, IV .i64 p), (14, IV .i64 i), (15, .fz (.cellp (encTr (refT (grF k l) D i)))), (17, .sl 1 4 0 (rtsF k l D i d).length), (18, IV .i64 d), (19, .ptr 2 4 0 0), (75, .fz (VI hs)), (76, IV .i64 hs.length), (77, IV .i64 j)], [(0, ONet ss q), (1, some (.flat 4 ((rtsF k l D i d).map encFe))), (2, some (.refs 4 [[IV .u32 (ePx (d + 1)).addr, IV .i64 (ePx (d + 1)).len, BV (decide ((d : Int) = i)), .own 1 (((hs.take j).map (· + 1)).map encW)]]))], 3)) (fun j => j ≤ hs.length) (fun j => hs.length - j) 0 (Nat.zero_le _) ?_ ?_
    ·refine Next.weakS [11, 17, 19] [] (by rfl) (wK hC) wG wHE36a rfl (rel_intro)
    intro j hj2 K hKj
    refine nK ?_
    refine za ?_
    refine zn ?_
    refine zb ?_
    refine nK ?_
    refine n_cond _ rfl (fun hb => ?_) (fun hb => ?_)
    ·have hjl : j < hs.length := by simp at hb; omega
     have hrj := row_at' encN hs j hjl
     have hKj1 := hKj (j + 1) (by omega) (by omega)
     rw [map_take_succ _ hjl] at hKj1
     obtain ⟨x1, x2⟩ := hhm _ (List.getElem_mem hjl)
     have hol : ((hs.take j).map (· + 1)).length ≤ 100 := by simp; omega
     generalize hs[j] = x at *
     generalize (hs.take j).map (· + 1) = o at *
     rw [apm] at hKj1
     refine Next.take 2 0 3 rfl rfl rfl rfl ?_
     refine nK ?_
     refine za ?_
     refine zr ?_
     refine zt ?_
     refine zd ?_
     refine zb ?_
     refine nK ?_
     refine za ?_
     refine zf ?_
     refine zbb ?_
     refine zc ?_
     refine zbh ?_
     refine zj ?_
     refine zqqz ?_
     refine zbi ?_
     refine zf ?_
     refine zcb ?_
     refine zb ?_
     refine nK ?_
     refine za ?_
     refine zj ?_
     refine zc ?_
     refine zb ?_
     refine nK ?_
     refine Next.untake 2 0 3 rfl rfl rfl rfl (by simp) rfl ?_
     refine Next.weakS [11, 17, 19] [] (by rfl) (wK hC) wG wHE36a rfl (hKj1)
    have hje : j = hs.length := by simp at hb; omega
    rw [hje, List.take_length]
    clear hKj
    have hol : (hs.map (· + 1)).length ≤ 100 := by simp; omega
    rw [hdi] at *
    generalize hs.map (· + 1) = hp1 at *
    refine Next.take 2 0 3 rfl rfl rfl rfl ?_
    refine Next.freezeCell 2 0 3 3 rfl rfl rfl rfl rfl rfl ?_
    refine Next.weakS [11, 17, 19] [] (by rfl) (keeps0 hC _) (G' := [(2, BV early), (3, IV .u32 fl), (9, IV .i64 k), (10, .fz (.cellp (encG (grF k l)))), (11, .ptr 0 2 0 0), (13, IV .i64 p), (14, IV .i64 i), (15, .fz (.cellp (encTr (refT (grF k l) D i)))), (17, .sl 1 4 0 (rtsF k l D i d).length), (18, IV .i64 d), (19, .ptr 2 4 0 0)]) (H' := [(0, ONet ss q), (1, some (.flat 4 ((rtsF k l D i d).map encFe))), (2, some (.flat 4 [encFe (rtF k l D i d)]))]) wG (by rw [hrt]; exact ⟨wS, ⟨wS, ⟨by first | exact ⟨rfl, rfl, .flat _ _ _ rfl tW⟩ | exact ⟨rfl, rfl, .fflat _ _ _ rfl tW⟩ | exact wS, trivial⟩⟩⟩) rfl ?_
    generalize rtF k l D i d = rt at *
    refine nK ?_
    refine za ?_
    refine zbf ?_
    refine zt ?_
    refine zc ?_
    refine rpZ 93 rfl (op_idx_fz d rfl (oT rfl) (oT rfl) (by intro _; exact ⟨rfl, hr2⟩)) ?_
    refine zt ?_
    refine zcg ?_
    refine zb ?_
    refine nK ?_
    refine n_join [(2, BV early), (3, IV .u32 fl), (9, IV .i64 k), (10, .fz (.cellp (encG (grF k l)))), (11, .ptr 0 2 0 0), (13, IV .i64 p), (14, IV .i64 i), (15, .fz (.cellp (encTr (refT (grF k l) D i)))), (17, .sl 1 4 0 (rtsF k l D i (d + 1)).length), (18, IV .i64 d)] [(0, ONet ss q), (1, some (.flat 4 ((rtsF k l D i (d + 1)).map encFe)))] 2 ?_ ?_
    ·refine nK ?_
     refine n_cond _ rfl (fun hb => ?_) (fun hb => ?_)
     ·rw [if_pos (by simpa using hb)] at hrs
      rw [hrs, apl, apm]
      refine nK ?_
      refine za ?_
      refine zc ?_
      refine zm ?_
      refine zqqz ?_
      refine zbi ?_
      refine zd ?_
      refine zb ?_
      refine nK ?_
      refine Next.weakS [11, 17] [] (by rfl) (wK hC) wG wHE36a rfl (rel_intro)
     rw [if_neg (by simpa using hb), List.append_nil] at hrs
     rw [hrs]
     refine nK ?_
     refine Next.weakS [11, 17] [] (by rfl) (wK hC) wG wHE36a rfl (rel_intro)
    have kad := adjacent_c (grF k l) i d (by omega)
    cases hc : evC k l early p i d
    ·refine nK ?_
     refine za ?_
     refine zc ?_
     refine zc ?_
     refine zbk ?_
     refine zc ?_
     refine zl ?_
     refine zbw ?_
     refine zl ?_
     refine zdn ?_
     refine zy ?_
     refine zc ?_
     refine zcm ?_
     refine zl ?_
     refine zl ?_
     refine rgZ 113 rfl rfl tG (op_call_pure (fun _ => kad) rfl (Opd.func _) (oS (oO rfl tO) (oS (oO rfl tO) (oS (oO rfl tO) Opds.nil)))) ?_
     refine rpZ 114 rfl (castP (fun _ => congrArg BV hc) (op_pick_and rfl (oT rfl) (oO rfl tO))) ?_
     refine zc ?_
     refine rgZ 116 rfl rfl tG (op_never (g := (false == true)) (p := BV true) rfl) ?_
     refine rgZ 117 rfl rfl tG (op_never (g := (false == true)) (p := BV true) rfl) ?_
     refine rgZ 118 rfl rfl tG (op_never (g := (false == true)) (p := BV true) rfl) ?_
     refine rgZ 119 rfl rfl tG (op_never (g := (false == true)) (p := BV true) rfl) ?_
     refine rgZ 120 rfl rfl tG (op_never (g := (false == true)) (p := BV true) rfl) ?_
     refine rgZ 121 rfl rfl tG (op_never (g := (false == true)) (p := BV true) rfl) ?_
     refine rgZ 122 rfl rfl tG (op_never (g := (false == true)) (p := BV true) rfl) ?_
     refine rgZ 123 rfl rfl tG (op_never (g := (false == true)) (p := BV true) rfl) ?_
     refine zy ?_
     refine zb ?_
     refine nK ?_
     refine n_cond _ rfl (fun hb => ?_) (fun hb => ?_)
     ·exfalso; simp at hb
     refine nK ?_
     refine za ?_
     refine zc ?_
     refine zj ?_
     refine zd ?_
     refine zb ?_
     refine nK ?_
     refine Next.weakS [11, 17] [] (by rfl) (wK hC) wG wHE36a rfl ((hKd1 ss q (NP.skip hk2 hI hp2 hi2 hd2 hc)))
    obtain ⟨v1, v2⟩ := NP.ev nd hk2 hI hp2 hi2 hd2 hc
    have hql2 : (q ++ outS ss i ⟨1, (d : Int) + 1, [], []⟩).length ≤ 3000 := by have := v2.cnt i hi2; omega
    have kev := event_ok ss q i ⟨1, (d : Int) + 1, [], []⟩ v1 (by omega) (by rw [List.length_append] at hql2; omega)
    have hKd2 := hKd1 _ _ v2
    refine nK ?_
    refine za ?_
    refine zc ?_
    refine zc ?_
    refine zbk ?_
    refine zc ?_
    refine zl ?_
    refine zbw ?_
    refine zl ?_
    refine zdn ?_
    refine zy ?_
    refine zc ?_
    refine zcm ?_
    refine zl ?_
    refine zl ?_
    refine rgZ 113 rfl rfl tG (op_call_pure (fun _ => kad) rfl (Opd.func _) (oS (oO rfl tO) (oS (oO rfl tO) (oS (oO rfl tO) Opds.nil)))) ?_
    refine rpZ 114 rfl (castP (fun _ => congrArg BV hc) (op_pick_and rfl (oT rfl) (oO rfl tO))) ?_
    refine zc ?_
    refine zl ?_
    refine zl ?_
    refine zl ?_
    refine zde ?_
    refine zdo ?_
    refine rgZ 121 rfl rfl tG (op_buildZ (encEv ⟨0, 0, [], []⟩) rfl rfl (by exact zkEv) (FillF.cons _ _ _ _ _ _ _ _ _ _ (by rfl) oC tC (by rfl) tR (FillF.cons _ _ _ _ _ _ _ _ _ _ (by rfl) (oO rfl tO) tC (by rfl) tR (FillF.nil _)))) ?_
    refine Run.effG (dd := some 122) rfl rfl rfl tG tGt (op_call (n := 1) (n' := 1) [0] (fun _ => kev) rfl (Opd.func _) (oS (oO rfl tO) (oS (oO rfl tO) (oS (oO rfl tO) Opds.nil))) rfl rfl (Lent.of rfl rfl wHE36b rfl) rfl rfl rfl rfl rfl) ?_
    refine zca ?_
    refine zy ?_
    refine zb ?_
    refine nK ?_
    refine n_cond _ rfl (fun hb => ?_) (fun hb => ?_)
    ·exfalso; simp at hb
    refine nK ?_
    refine za ?_
    refine zc ?_
    refine zj ?_
    refine zd ?_
    refine zb ?_
    refine nK ?_
    refine Next.weakS [11, 17] [] (by rfl) (wK hC) wG wHE36a rfl (hKd2)
   have hde : d = k := by simp at hb; omega
   subst hde
   clear hKd
   refine Next.weakS [11] [17] (by rfl) (keeps0 hC _) (G' := [(2, BV early), (3, IV .u32 fl), (9, IV .i64 d), (10, .fz (.cellp (encG (grF d l)))), (11, .ptr 0 2 0 0), (13, IV .i64 p), (14, IV .i64 i), (17, .fz (VFe (rtsF d l D i d)))]) (H' := [(0, ONet ss q)]) wF wHE36a rfl ?_
   cases hc : rcC early p
   ·refine nK ?_
    refine za ?_
    refine zc ?_
    refine zba ?_
    refine zc ?_
    refine rpZ 128 rfl (castP (fun _ => congrArg BV hc) (op_eqlB rfl (oT rfl) (oT rfl))) ?_
    refine zc ?_
    refine rgZ 130 rfl rfl tG (op_never (g := (false == true)) (p := BV true) rfl) ?_
    refine rgZ 131 rfl rfl tG (op_never (g := (false == true)) (p := BV true) rfl) ?_
    refine rgZ 132 rfl rfl tG (op_never (g := (false == true)) (p := BV true) rfl) ?_
    refine rgZ 133 rfl rfl tG (op_never (g := (false == true)) (p := BV true) rfl) ?_
    refine rgZ 134 rfl rfl tG (op_never (g := (false == true)) (p := BV true) rfl) ?_
    refine rgZ 135 rfl rfl tG (op_never (g := (false == true)) (p := BV true) rfl) ?_
    refine zy ?_
    refine zb ?_
    refine nK ?_
    refine n_cond _ rfl (fun hb => ?_) (fun hb => ?_)
    ·exfalso; simp at hb
    refine nK ?_
    refine za ?_
    refine zc ?_
    refine zj ?_
    refine zd ?_
    refine zb ?_
    refine nK ?_
    refine Next.weakS [11] [] (by rfl) (wK hC) wG wHE36a rfl ((hKi1 ss q (NP.rtskip hk2 hI hp2 hi2 hc)))
   obtain ⟨v1, v2⟩ := NP.rt nd hk2 hI hp2 hi2 hc
   have hql2 : (q ++ outS ss i ⟨4, 0, [], rtsF d l D i d⟩).length ≤ 3000 := by have := v2.cnt i hi2; omega
   have kev := event_ok ss q i ⟨4, 0, [], rtsF d l D i d⟩ v1 (by omega) (by rw [List.length_append] at hql2; omega)
   have hKi2 := hKi1 _ _ v2
   refine nK ?_
   refine za ?_
   refine zc ?_
   refine zba ?_
   refine zc ?_
   refine rpZ 128 rfl (castP (fun _ => congrArg BV hc) (op_eqlB rfl (oT rfl) (oT rfl))) ?_
   refine zc ?_
   refine zl ?_
   refine zl ?_
   refine zl ?_
   refine rgZ 133 rfl rfl tG (op_buildZ (encEv ⟨0, 0, [], []⟩) rfl rfl (by exact zkEv) (FillF.cons _ _ _ _ _ _ _ _ _ _ (by rfl) oC tC (by rfl) tR (FillF.cons _ _ _ _ _ _ _ _ _ _ (by rfl) (oO rfl tO) tC (by rfl) tR (FillF.nil _)))) ?_
   refine Run.effG (dd := some 134) rfl rfl rfl tG tGt (op_call (n := 1) (n' := 1) [0] (fun _ => kev) rfl (Opd.func _) (oS (oO rfl tO) (oS (oO rfl tO) (oS (oO rfl tO) Opds.nil))) rfl rfl (Lent.of rfl rfl wHE36b rfl) rfl rfl rfl rfl rfl) ?_
   refine zca ?_
   refine zy ?_
   refine zb ?_
   refine nK ?_
   refine n_cond _ rfl (fun hb => ?_) (fun hb => ?_)
   ·exfalso; simp at hb
   refine nK ?_
   refine za ?_
   refine zc ?_
   refine zj ?_
   refine zd ?_
   refine zb ?_
   refine nK ?_
   refine Next.weakS [11] [] (by rfl) (wK hC) wG wHE36a rfl (hKi2)
  have hie : i = k := by simp at hb; omega
  subst hie
  refine nK ?_
  refine za ?_
  refine zc ?_
  refine zj ?_
  refine zd ?_
  refine zb ?_
  refine nK ?_
  refine Next.weakS [11] [] (by rfl) (wK hC) wG wHE36a rfl ((hK1 ss q (NP.next hk2 hI)))
 have hpe : p = 2 := by simp at hb; omega
 subst hpe
 clear hK
 have hJ := NP.done hI
 have hlen := hJ.len
 have hql : q.length ≤ 1372 := by have := hJ.cnt 0 (by omega); omega
 obtain ⟨dq1, dq2⟩ := NJ.run nd (by omega) 20001 hJ (by omega)
 have kd := deliver_m 20001 (by omega) ss q dq1 (by omega) (by omega)
 generalize runQ 20001 ss q = zz at *
 have hzl := dq2.len
 have hzo : ∀ s ∈ zz, okLs s := fun s hs => by
  obtain ⟨w, hw, rfl⟩ := List.mem_iff_getElem.1 hs
  have := dq2.all (by omega) (by omega) (i := w) (by omega)
  unfold gS at this
  rwa [List.getD_eq_getElem?_getD, List.getElem?_eq_getElem hw] at this
 refine nK ?_
 refine za ?_
 refine zc ?_
 refine Run.eff (dd := some 138) rfl rfl (op_call (n := 1) (n' := 1) [0] (fun _ => kd) rfl (Opd.func _) (oS (oT rfl) Opds.nil) rfl rfl (Lent.of rfl rfl wHE36b rfl) rfl rfl rfl rfl rfl) ?_
 refine zbj ?_
 refine zb ?_
 refine nK ?_
 refine n_cond _ rfl (fun hb => ?_) (fun hb => ?_)
 ·exfalso; simp at hb
 refine nK ?_
 refine za ?_
 refine ze ?_
 refine zb ?_
 refine nK ?_
 refine n_loop (ι := Nat) (fun i => ([(3, IV .u32 fl), (9, IV .i64 k), (10, .fz (.cellp (encG (grF k l)))), (11, .ptr 0 2 0 0), (22, IV .i64 i)], [(0, ONet zz [])], 1)) (fun i => i ≤ k) (fun i => k - i) 0 (Nat.zero_le _) ?_ ?_
 ·refine Next.weakS [11] [] (by rfl) (wK hC) wG wHE36a rfl (rel_intro)
 intro i hi K hKi
 refine nK ?_
 refine za ?_
 refine zc ?_
 refine zc ?_
 refine zn ?_
 refine zb ?_
 refine nK ?_
 refine n_cond _ rfl (fun hb => ?_) (fun hb => ?_)
 ·have hi2 : i < k := by simp at hb; omega
  have hKi1 := hKi (i + 1) (by omega) (by omega)
  have kr := krun i hi2
  refine nK ?_
  refine za ?_
  refine zv ?_
  refine zc ?_
  refine rpZ 148 rfl (op_call_pure (fun _ => kr) rfl (Opd.func _) (oS (oT rfl) (oS (oT rfl) Opds.nil))) ?_
  refine zc ?_
  refine zi ?_
  refine zi ?_
  refine zo ?_
  refine zg ?_
  refine zd ?_
  refine zb ?_
  refine nK ?_
  refine za ?_
  refine ze ?_
  refine zb ?_
  refine nK ?_
  refine n_loop (ι := Nat) (fun d => ([(3, IV .u32 fl), (9, IV .i64 k), (10, .fz (.cellp (encG (grF k l)))), (11, .ptr 0 2 0 0), (22, IV .i64 i), (23, .fz (.cellp (encTr (refT (grF k l) D i)))), (25, IV .i64 d)], [(0, ONet zz [])], 1)) (fun d => d ≤ k) (fun d => k - d) 0 (Nat.zero_le _) ?_ ?_
  ·refine Next.weakS [11] [23] (by rfl) (wK hC) wF wHE36a rfl (rel_intro)
  intro d hd K hKd
  refine nK ?_
  refine za ?_
  refine zc ?_
  refine zc ?_
  refine zn ?_
  refine zb ?_
  refine nK ?_
  refine n_cond _ rfl (fun hb => ?_) (fun hb => ?_)
  ·have hd2 : d < k := by simp at hb; omega
   have hKd1 := hKd (d + 1) (by omega) (by omega)
   have hr2 := hrowd i d hd2
   cases hc : (decide ((d : Int) ≠ i) && decide (0 < D i d))
   ·refine nK ?_
    refine za ?_
    refine zc ?_
    refine zc ?_
    refine zbk ?_
    refine zc ?_
    refine rgZ 160 rfl rfl tG (op_fld_fz (by decide) rfl (oT rfl) tR) ?_
    refine zbt ?_
    refine zl ?_
    refine rgZ 163 rfl rfl tG (op_idx_fz d rfl (oO rfl tO) (oO rfl tO) (by intro _; exact ⟨rfl, hr2⟩)) ?_
    refine zbt ?_
    refine zbo ?_
    refine rpZ 166 rfl (castP (fun _ => congrArg BV hc) (op_pick_and rfl (oT rfl) (oO rfl tO))) ?_
    refine zc ?_
    refine rgZ 168 rfl rfl tG (op_never (g := (false == true)) (p := BV true) rfl) ?_
    refine rgZ 169 rfl rfl tG (op_never (g := (false == true)) (p := BV true) rfl) ?_
    refine rgZ 170 rfl rfl tG (op_never (g := (false == true)) (p := BV true) rfl) ?_
    refine rgZ 171 rfl rfl tG (op_never (g := (false == true)) (p := BV true) rfl) ?_
    refine rgZ 172 rfl rfl tG (op_never (g := (false == true)) (p := BV true) rfl) ?_
    refine rgZ 173 rfl rfl tG (op_never (g := (false == true)) (p := BV true) rfl) ?_
    refine zy ?_
    refine zb ?_
    refine nK ?_
    refine n_cond _ rfl (fun hb => ?_) (fun hb => ?_)
    ·exfalso; simp at hb
    refine nK ?_
    refine za ?_
    refine zc ?_
    refine zj ?_
    refine zd ?_
    refine zb ?_
    refine nK ?_
    refine Next.weakS [11] [] (by rfl) (wK hC) wG wHE36a rfl (hKd1)
   have hc2 : i ≠ d ∧ 0 < D i d := by simp at hc; omega
   have kf := netfollow_m zz [] i d fl (nxD zz fl d) (lbD zz d) (fun w => (D w d).toNat) (rcD k D d) hzo (NJ.path nd dq2 fl hd2) (by omega) (by omega) hfl (NJ.out_ne nd dq2 hi2 hd2 (by omega) hc2.1) (NJ.ho nd dq2 hi2 hd2 (by omega) hc2.1)
   refine nK ?_
   refine za ?_
   refine zc ?_
   refine zc ?_
   refine zbk ?_
   refine zc ?_
   refine rgZ 160 rfl rfl tG (op_fld_fz (by decide) rfl (oT rfl) tR) ?_
   refine zbt ?_
   refine zl ?_
   refine rgZ 163 rfl rfl tG (op_idx_fz d rfl (oO rfl tO) (oO rfl tO) (by intro _; exact ⟨rfl, hr2⟩)) ?_
   refine zbt ?_
   refine zbo ?_
   refine rpZ 166 rfl (castP (fun _ => congrArg BV hc) (op_pick_and rfl (oT rfl) (oO rfl tO))) ?_
   refine zc ?_
   refine zl ?_
   refine zl ?_
   refine zl ?_
   refine zl ?_
   refine Run.effG (dd := some 172) rfl rfl rfl tG tGt (op_call (n := 1) (n' := 1) [0] (fun _ => kf) rfl (Opd.func _) (oS (oO rfl tO) (oS (oO rfl tO) (oS (oO rfl tO) (oS (oO rfl tO) Opds.nil)))) rfl rfl (Lent.of rfl rfl wHE36b rfl) rfl rfl rfl rfl rfl) ?_
   refine zca ?_
   refine zy ?_
   refine zb ?_
   refine nK ?_
   refine n_cond _ rfl (fun hb => ?_) (fun hb => ?_)
   ·exfalso; simp at hb
   refine nK ?_
   refine za ?_
   refine zc ?_
   refine zj ?_
   refine zd ?_
   refine zb ?_
   refine nK ?_
   refine Next.weakS [11] [] (by rfl) (wK hC) wG wHE36a rfl (hKd1)
  refine nK ?_
  refine za ?_
  refine zc ?_
  refine zj ?_
  refine zd ?_
  refine zb ?_
  refine nK ?_
  refine Next.weakS [11] [] (by rfl) (wK hC) wG wHE36a rfl (hKi1)
 refine nK ?_
 refine za ?_
 refine rpZ 175 rfl (op_call_pure (fun _ => awake_c) rfl (Opd.func _) Opds.nil) ?_
 refine zd ?_
 refine zb ?_
 refine nK ?_
 exact wO hC
end Go.Proofs.YtkofbemgpeagbaaGreat
/- How the arguments of the rows read. -/
namespace Go.Proofs.YtkofbemgpeagbaaGreat
open Go Go.RT Go.Proofs Go.Pl
set_option linter.all false
variable {H : Type} {enc : TypeId × Value → H} {W : World} {ok : DataW H → Prop} {B : Nat}
theorem rdc_u : RdC ok enc Tryz.prog W 22 (fun fs => ∃ n, inr .u32 n ∧ fs = [If .u32 n]) := rdc_int (P := Tryz.prog) (t := 22) inferInstance
theorem rdc_y : RdC ok enc Tryz.prog W 5 (fun fs => ∃ n, inr .u8 n ∧ fs = [If .u8 n]) := rdc_int (P := Tryz.prog) (t := 5) inferInstance
theorem rdc_b : RdC ok enc Tryz.prog W 4 (fun fs => ∃ b, fs = [Bf b]) := rdc_bool (P := Tryz.prog) (t := 4) inferInstance
end Go.Proofs.YtkofbemgpeagbaaGreat
/- How the arguments of Path read. -/
namespace Go.Proofs.YtkofbemgpeagbaaGreat
open Go Go.RT Go.Proofs Go.Pl
set_option linter.all false
variable {H : Type} {enc : TypeId × Value → H} {W : World} {ok : DataW H → Prop} {B : Nat}
theorem rdc_u8 : RdC ok enc Tryz.prog W 5 (fun fs => ∃ n, (0 ≤ n ∧ n < 256) ∧ fs = [If .u8 n]) := rdc_y.imp fun fs ⟨n, h, e⟩ => ⟨n, by simp only [inr] at h; omega, e⟩
theorem rdc_u4 : RdC ok enc Tryz.prog W 22 (fun fs => ∃ n, (0 ≤ n ∧ n < 4294967296) ∧ fs = [If .u32 n]) := rdc_u.imp fun fs ⟨n, h, e⟩ => ⟨n, by simp only [inr] at h; omega, e⟩
theorem rdc_jn (dn : DnOk H ok B) : RdC ok enc Tryz.prog W 164 (fun fs => ∃ e : Jnt, okJn e ∧ fs = encJn e) :=
 (rdc_struct (P := Tryz.prog) (t := 164) dn Tryz.underlying164 (by kernel_rfl) (.cons _ _ _ _ rdc_u8 (.cons _ _ _ _ rdc_u8 .nil))).imp fun fs h => by
  obtain ⟨_, _, rfl, ⟨a1, h1, rfl⟩, _, _, rfl, ⟨a2, h2, rfl⟩, rfl⟩ := h
  exact ⟨⟨a1, a2⟩, ⟨h1, h2⟩, rfl⟩
theorem rdc_jns (dn : DnOk H ok B) (hB : B ≤ 9223372036854775807) : RdC ok enc Tryz.prog W 53 (fun fs => ∃ l : List Jnt, ((∀ e ∈ l, okJn e) ∧ l.length ≤ 9223372036854775807) ∧ fs = [VJn l]) :=
 (rdc_slice (P := Tryz.prog) (t := 53) (e := 164) dn inferInstance inferInstance (by decide) (rdc_jn dn)).imp fun fs h => by
  obtain ⟨rows, hr, hl, rfl⟩ := h
  obtain ⟨l, rfl, ho⟩ := rows_of (enc := encJn) (ok := okJn) (fun fs h => h) hr
  exact ⟨l, ⟨ho, Nat.le_trans (by simpa using hl) hB⟩, rfl⟩
end Go.Proofs.YtkofbemgpeagbaaGreat
